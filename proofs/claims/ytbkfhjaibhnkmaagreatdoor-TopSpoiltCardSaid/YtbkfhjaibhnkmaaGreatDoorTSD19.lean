import Derived.Test.YtbkfhjaibhnkmaaGreatDoorTSD17
namespace Go.Proofs.YtbkfhjaibhnkmaaGreatDoor
open Go.RowKit
set_option linter.unusedVariables false
theorem oA {l:List aj}{k:Nat}{x y:aj}(hx:l[k]? = some x)(h:eW l k=0)(hk:0<k)(hy:l[k-1]? = some y):y.ID<x.ID:=by
 have hw:=lV hx h
 have h0:bK x=0:=by rcases gq x with h1|h1;exact h1;rw [fC hx (by omega)] at h;omega
 rcases Int.lt_or_le y.ID x.ID with h1|h1
 ·exact h1
 ·rw [iK hx h0 hk hy (by omega)] at h;omega
theorem cj.rise {l:List aj}(h:cj l):∀ (j i:Nat) {x y:aj},i<j→l[j]? = some x→l[i]? = some y→y.ID<x.ID
 | 0,i,x,y,hij,hx,hy=>by omega
 | j+1,i,x,y,hij,hx,hy=>by
  have hlt:j+1<l.length:=(List.getElem?_eq_some_iff.1 hx).1
  have hz:l[j]? = some l[j]:=List.getElem?_eq_getElem (by omega)
  have h1:=oA hx (h.steps _ hlt) (by omega) hz
  by_cases hj:i=j
  ·subst hj;rw [hz] at hy;injection hy with hy;subst hy;exact h1
  ·have:=h.rise j i (by omega) hz hy;omega
theorem cj.inj {l:List aj}(h:cj l){x y:aj}(hx:x∈l)(hy:y∈l)(he:x.ID=y.ID):x=y:=by
 obtain ⟨i,hi⟩:=List.mem_iff_getElem?.1 hx
 obtain ⟨j,hj⟩:=List.mem_iff_getElem?.1 hy
 rcases Nat.lt_trichotomy i j with h1|h1|h1
 ·have:=h.rise j i h1 hj hi;omega
 ·subst h1;rw [hi] at hj;injection hj
 ·have:=h.rise i j h1 hi hj;omega
theorem oB {l:List aj}{k:Nat}{x:aj}(hx:l[k]? = some x)(h:eW l k=0)(h0:x.From≠0) :
 ∃j y,j<k∧l[j]? = some y∧y.ID=x.From∧(derived y x.ID x.Rights x.aG).2=0∧(derived y x.ID x.Rights x.aG).1=x:=by
 have hw:bK x=0:=by rcases gq x with h1|h1;exact h1;rw [fC hx (by omega)] at h;omega
 have hsh:¬ 0<k ∨ ∃y,l[k-1]? = some y∧y.ID<x.ID:=by
  by_cases hk:0<k
  ·
   have hlt:k<l.length:=(List.getElem?_eq_some_iff.1 hx).1
   exact .inr ⟨_,List.getElem?_eq_getElem (by omega),oA hx h hk (List.getElem?_eq_getElem (by omega))⟩
  ·exact .inl hk
 rcases dO (l.take k) x.From with ⟨h1,h2⟩ | ⟨j,hj,h1,h2,h3⟩
 ·rw [oz hx hw hsh h0 h1] at h;omega
 ·
  have hjk:j<k:=by rw [List.length_take] at hj;omega
  have hlt:k<l.length:=(List.getElem?_eq_some_iff.1 hx).1
  have hy:l[j]? = some l[j]:=List.getElem?_eq_getElem (by omega)
  rw [fD hx hw hsh h0 h1 hjk hy] at h
  have hid:(l[j]'(by omega)).ID=x.From:=by simpa [List.getElem_take] using h2
  by_cases hd:(derived l[j] x.ID x.Rights x.aG).2≠0
  ·rw [if_pos hd] at h;exact absurd h hd
  ·
   rw [if_neg hd] at h
   by_cases he:(derived l[j] x.ID x.Rights x.aG).1≠x
   ·rw [if_pos he] at h;omega
   ·exact ⟨j,_,hjk,hy,hid,by simpa using hd,by simpa using he⟩
theorem hM {l:List aj}{x:aj}(hx:x∈l):0≤bL l x.ID:=by
 rcases dO l x.ID with ⟨h1,h2⟩ | ⟨k,hk,h1,h2,_⟩
 ·exact absurd rfl (h2 x hx)
 ·omega
theorem jd {l:List aj}{f:Int}(h:0≤bL l f):∃y,l[(bL l f).toNat]? = some y∧y.ID=f∧y∈l∧dy l f=y.From:=by
 obtain ⟨y,h1,h2,h3⟩:=ra l f h
 exact ⟨y,h1,h2,h3,m5 (j:=(bL l f).toNat) (by omega) h1⟩
theorem oC {l:List aj}{f:Int}(h:bL l f<0):dy l f=0:=by
 rcases dO l f with ⟨h1,_⟩ | ⟨k,hk,h1,_⟩
 ·exact m6 h1
 ·omega
theorem cj.m7 {l:List aj}(h:cj l){f:Int}(hf:0≤bL l f):0<f∧f≤999∧0≤dy l f∧dy l f<f:=by
 obtain ⟨y,h1,h2,h3,h4⟩:=jd hf
 have w:=h.mem h3
 have:=w.id1;have:=w.Ct;have:=w.Bc;have:=w.Ah
 omega
def chain (l:List aj)(f:Int):List Int :=
  if h:0≤bL l f∧0<f∧dy l f<f then f::chain l (dy l f) else []
termination_by f.toNat
decreasing_by omega
def above (l:List aj)(id:Int):List Int:=chain l (dy l id)
theorem lq {l:List aj}(h:cj l){f:Int}(hf:0≤bL l f):chain l f=f::chain l (dy l f):=by
 have:=h.m7 hf
 rw [chain,dif_pos ⟨hf,by omega,by omega⟩]
theorem sD {l:List aj}{f:Int}(hf:bL l f<0):chain l f=[]:=by
 rw [chain,dif_neg (by omega)]
def sE (id:Int)(acc:List Int)(x:aj):List Int:=if (x.From=id∨x.From∈acc)∧0<x.From then acc++[x.ID] else acc
def dG (id:Int)(l:List aj):List Int:=l.foldl (sE id) []
theorem rj {id:Int}{l:List aj}{k:Nat}{x:aj}{S:List Int}(hx:l[k]? = some x)(hS:∀z,z∈S↔z=id∨z∈dG id (l.take k))(h:x.From∈S)(h0:0<x.From):dG id (l.take (k+1))=dG id (l.take k)++[x.ID]:=by
 unfold dG at *
 rw [List.take_add_one,hx,List.foldl_append]
 simp only [Option.toList,List.foldl_cons,List.foldl_nil]
 unfold sE at *
 rw [if_pos ⟨(hS _).1 h,h0⟩]
theorem mD {id:Int}{l:List aj}{k:Nat}{x:aj}{S:List Int}(hx:l[k]? = some x)(hS:∀z,z∈S↔z=id∨z∈dG id (l.take k))(h:¬ (x.From∈S∧0<x.From)):dG id (l.take (k+1))=dG id (l.take k):=by
 unfold dG at *
 rw [List.take_add_one,hx,List.foldl_append]
 simp only [Option.toList,List.foldl_cons,List.foldl_nil]
 unfold sE at *
 rw [if_neg (fun hc=>h ⟨(hS _).2 hc.1,hc.2⟩)]
theorem wv (id:Int)(l:List aj):(dG id l).length≤l.length:=by
 have:∀ (l:List aj) (acc:List Int),(l.foldl (sE id) acc).length≤acc.length+l.length:=by
  intro l
  induction l with
  | nil=>intro acc;simp
  | cons x l ih =>
   intro acc
   have:=ih (sE id acc x)
   have h2:(sE id acc x).length≤acc.length+1:=by unfold sE;split <;> simp
   simp only [List.foldl_cons,List.length_cons];omega
 simpa [dG] using this l []
def up (l:List aj)(id f:Int):Int :=
  if h:0<f∧f≠id∧0≤bL l f∧dy l f<f then up l id (dy l f) else f
termination_by f.toNat
decreasing_by omega
theorem tY {l:List aj}(h:cj l){id f:Int}(h1:f≠id)(h2:0≤bL l f):up l id f=up l id (dy l f):=by
 have:=h.m7 h2
 rw [up,dif_pos ⟨by omega,h1,h2,by omega⟩]
theorem qt {l:List aj}{id f:Int}(h:¬ 0<f∨f=id∨bL l f<0):up l id f=f:=by
 rw [up,dif_neg (by omega)]
def Bd (l:List aj)(id:Int)(x:aj):Bool:=decide (up l id x.From=id)&&decide (0<id)
def ny (l:List aj)(id:Int)(m:List aj):List Int:=(m.filter (Bd l id)).map aj.ID
theorem wA {l0:List aj}{id:Int}{l:List aj}{k:Nat}{x:aj}(hx:l[k]? = some x)(h:up l0 id x.From=id)(h0:0<id):ny l0 id (l.take (k+1))=ny l0 id (l.take k)++[x.ID]:=by
 unfold ny
 rw [List.take_add_one,hx,List.filter_append];simp [Bd,h,h0]
theorem uR {l0:List aj}{id:Int}{l:List aj}{k:Nat}{x:aj}(hx:l[k]? = some x)(h:¬ (up l0 id x.From=id∧0<id)):ny l0 id (l.take (k+1))=ny l0 id (l.take k):=by
 unfold ny
 rw [List.take_add_one,hx,List.filter_append]
 have:Bd l0 id x=false:=by unfold Bd;rw [Bool.and_eq_false_iff];by_cases h1:up l0 id x.From=id;right;simpa using (fun h2=>h ⟨h1,h2⟩);left;simpa using h1
 simp [this]
def beneath (l:List aj)(id:Int):List Int:=ny l id l
theorem wB {l:List aj}(h:cj l)(id:Int):∀k,k≤l.length→dG id (l.take k)=ny l id (l.take k)
 | 0,_=>by simp [dG,ny]
 | k+1,hk=>by
  have ih:=wB h id k (by omega)
  have hx:l[k]? = some l[k]:=List.getElem?_eq_getElem (by omega)
  have hS:∀z,z∈id::dG id (l.take k)↔z=id∨z∈dG id (l.take k):=fun z=>by simp
  have w:=lV hx (h.steps k (by omega))
  have key:((l[k]).From∈id::dG id (l.take k)∧0<(l[k]).From)↔(up l id (l[k]).From=id∧0<id):=by
   by_cases h0:(l[k]).From=0
   ·
    rw [h0,qt (.inl (by omega))]
    constructor
    ·intro h;omega
    ·intro h;omega
   ·
    have hpos:0<(l[k]).From:=by have:=w.Ct;omega
    by_cases he:(l[k]).From=id
    ·
     rw [qt (.inr (.inl he))]
     constructor
     ·intro _;exact ⟨he,by omega⟩
     ·intro _;exact ⟨by rw [he];simp,hpos⟩
    ·
     obtain ⟨j,y,hj,hy,hid,_,_⟩:=oB hx (h.steps k (by omega)) h0
     have hym:y∈l:=List.mem_of_getElem? hy
     have hfi:0≤bL l (l[k]).From:=by rw [← hid];exact hM hym
     rw [tY h he hfi]
     obtain ⟨y',_,hy2,hy3,hy4⟩:=jd hfi
     have:y'=y:=h.inj hy3 hym (by rw [hy2,hid])
     subst this
     rw [hy4,ih]
     have hmem:(l[k]).From∈ny l id (l.take k)↔(up l id y'.From=id∧0<id):=by
      unfold ny
      simp only [List.mem_map,List.mem_filter,Bd,Bool.and_eq_true,decide_eq_true_eq]
      constructor
      ·
       rintro ⟨z,⟨hz,hz2⟩,hz3⟩
       have:z=y':=h.inj (List.mem_of_mem_take hz) hy3 (by rw [hz3,hid])
       subst this;exact hz2
      ·
       intro hh
       exact ⟨y',⟨List.mem_of_getElem? (i:=j) (by rw [List.getElem?_take,if_pos hj];exact hy),hh⟩,hid⟩
     constructor
     ·
      rintro ⟨h1,_⟩
      rcases List.mem_cons.1 h1 with h1|h1
      ·exact absurd h1 he
      ·exact hmem.1 h1
     ·intro h1;exact ⟨List.mem_cons.2 (.inr (hmem.2 h1)),hpos⟩
  by_cases hc:up l id (l[k]).From=id∧0<id
  ·
   have:=key.2 hc
   rw [rj hx hS this.1 this.2,wA hx hc.1 hc.2,ih]
  ·rw [mD hx hS (fun hh=>hc (key.1 hh)),uR hx hc,ih]
theorem yg {l:List aj}(h:cj l)(id:Int):dG id l=beneath l id:=by
 have:=wB h id l.length (Nat.le_refl _)
 simpa [beneath,List.take_length] using this
theorem rk {l:List aj}(h:cj l){a:Int}(ha:0≤bL l a)(f:Int)(hf0:0≤f):up l a f=a↔a∈chain l f:=by
 have ha0:=h.m7 ha
 by_cases he:f=a
 ·subst he;rw [qt (.inr (.inl rfl)),lq h ha];simp
 ·
  rcases Int.lt_or_le (bL l f) 0 with h1|h1
  ·rw [qt (.inr (.inr h1)),sD h1];simp [he]
  ·
   have hf:=h.m7 h1
   rw [tY h he h1,lq h h1,rk h ha (dy l f) hf.2.2.1]
   simp [Ne.symm he]
termination_by f.toNat
decreasing_by omega
end Go.Proofs.YtbkfhjaibhnkmaaGreatDoor
