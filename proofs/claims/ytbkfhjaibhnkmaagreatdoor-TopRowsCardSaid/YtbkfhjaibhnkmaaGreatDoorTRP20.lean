import Derived.Test.YtbkfhjaibhnkmaaGreatDoorTRP18
namespace Go.Proofs.YtbkfhjaibhnkmaaGreatDoor
open Go.RowKit
set_option linter.unusedVariables false
theorem nr {l:List ak}{k:Nat}{x y:ak}(hx:l[k]? = some x)(h:eD l k=0)(hk:0<k)(hy:l[k-1]? = some y):y.ID<x.ID:=by
  have hw:=k6 hx h
  have h0:bB x=0:=by rcases fK x with h1|h1;exact h1;rw [eZ hx (by omega)] at h;omega
  rcases Int.lt_or_le y.ID x.ID with h1|h1
  · exact h1
  · rw [hD hx h0 hk hy (by omega)] at h;omega
theorem bQ.rise {l:List ak}(h:bQ l):∀ (j i:Nat) {x y:ak},i<j→l[j]? = some x→l[i]? = some y→y.ID<x.ID
  | 0,i,x,y,hij,hx,hy=>by omega
  | j+1,i,x,y,hij,hx,hy=>by
    have hlt:j+1<l.length:=(List.getElem?_eq_some_iff.1 hx).1
    have hz:l[j]? = some l[j]:=List.getElem?_eq_getElem (by omega)
    have h1:=nr hx (h.steps _ hlt) (by omega) hz
    by_cases hj:i=j
    · subst hj;rw [hz] at hy;injection hy with hy;subst hy;exact h1
    · have:=h.rise j i (by omega) hz hy;omega
theorem bQ.inj {l:List ak}(h:bQ l){x y:ak}(hx:x∈l)(hy:y∈l)(he:x.ID=y.ID):x=y:=by
  obtain ⟨i,hi⟩:=List.mem_iff_getElem?.1 hx
  obtain ⟨j,hj⟩:=List.mem_iff_getElem?.1 hy
  rcases Nat.lt_trichotomy i j with h1|h1|h1
  · have:=h.rise j i h1 hj hi;omega
  · subst h1;rw [hi] at hj;injection hj
  · have:=h.rise i j h1 hi hj;omega
theorem nt {l:List ak}{k:Nat}{x:ak}(hx:l[k]? = some x)(h:eD l k=0)(h0:x.From≠0) :
    ∃j y,j<k∧l[j]? = some y∧y.ID=x.From∧(derived y x.ID x.Rights x.ar).2=0∧(derived y x.ID x.Rights x.ar).1=x:=by
  have hw:bB x=0:=by rcases fK x with h1|h1;exact h1;rw [eZ hx (by omega)] at h;omega
  have hsh:¬ 0<k ∨ ∃y,l[k-1]? = some y∧y.ID<x.ID:=by
    by_cases hk:0<k
    ·
      have hlt:k<l.length:=(List.getElem?_eq_some_iff.1 hx).1
      exact .inr ⟨_,List.getElem?_eq_getElem (by omega),nr hx h hk (List.getElem?_eq_getElem (by omega))⟩
    · exact .inl hk
  rcases dB (l.take k) x.From with ⟨h1,h2⟩ | ⟨j,hj,h1,h2,h3⟩
  · rw [nq hx hw hsh h0 h1] at h;omega
  ·
    have hjk:j<k:=by rw [List.length_take] at hj;omega
    have hlt:k<l.length:=(List.getElem?_eq_some_iff.1 hx).1
    have hy:l[j]? = some l[j]:=List.getElem?_eq_getElem (by omega)
    rw [e5 hx hw hsh h0 h1 hjk hy] at h
    have hid:(l[j]'(by omega)).ID=x.From:=by simpa [List.getElem_take] using h2
    by_cases hd:(derived l[j] x.ID x.Rights x.ar).2≠0
    · rw [if_pos hd] at h;exact absurd h hd
    ·
      rw [if_neg hd] at h
      by_cases he:(derived l[j] x.ID x.Rights x.ar).1≠x
      · rw [if_pos he] at h;omega
      · exact ⟨j,_,hjk,hy,hid,by simpa using hd,by simpa using he⟩
theorem gG {l:List ak}{x:ak}(hx:x∈l):0≤bC l x.ID:=by
  rcases dB l x.ID with ⟨h1,h2⟩ | ⟨k,hk,h1,h2,_⟩
  · exact absurd rfl (h2 x hx)
  · omega
theorem iA {l:List ak}{f:Int}(h:0≤bC l f):∃y,l[(bC l f).toNat]? = some y∧y.ID=f∧y∈l∧dj l f=y.From:=by
  obtain ⟨y,h1,h2,h3⟩:=pW l f h
  exact ⟨y,h1,h2,h3,l5 (j:=(bC l f).toNat) (by omega) h1⟩
theorem nu {l:List ak}{f:Int}(h:bC l f<0):dj l f=0:=by
  rcases dB l f with ⟨h1,_⟩ | ⟨k,hk,h1,_⟩
  · exact l6 h1
  · omega
theorem bQ.l7 {l:List ak}(h:bQ l){f:Int}(hf:0≤bC l f):0<f∧f≤999∧0≤dj l f∧dj l f<f:=by
  obtain ⟨y,h1,h2,h3,h4⟩:=iA hf
  have w:=h.mem h3
  have:=w.id1;have:=w.zu;have:=w.yL;have:=w.xU
  omega
def chain (l:List ak)(f:Int):List Int :=
  if h:0≤bC l f∧0<f∧dj l f<f then f::chain l (dj l f) else []
termination_by f.toNat
decreasing_by omega
def above (l:List ak)(id:Int):List Int:=chain l (dj l id)
theorem ky {l:List ak}(h:bQ l){f:Int}(hf:0≤bC l f):chain l f=f::chain l (dj l f):=by
  have:=h.l7 hf
  rw [chain,dif_pos ⟨hf,by omega,by omega⟩]
theorem qS {l:List ak}{f:Int}(hf:bC l f<0):chain l f=[]:=by
  rw [chain,dif_neg (by omega)]
def qT (id:Int)(acc:List Int)(x:ak):List Int:=if (x.From=id∨x.From∈acc)∧0<x.From then acc++[x.ID] else acc
def dv (id:Int)(l:List ak):List Int:=l.foldl (qT id) []
theorem pY {id:Int}{l:List ak}{k:Nat}{x:ak}{S:List Int}(hx:l[k]? = some x)(hS:∀z,z∈S↔z=id∨z∈dv id (l.take k))(h:x.From∈S)(h0:0<x.From):dv id (l.take (k+1))=dv id (l.take k)++[x.ID]:=by
  unfold dv at *
  rw [List.take_add_one,hx,List.foldl_append]
  simp only [Option.toList,List.foldl_cons,List.foldl_nil]
  unfold qT at *
  rw [if_pos ⟨(hS _).1 h,h0⟩]
theorem lF {id:Int}{l:List ak}{k:Nat}{x:ak}{S:List Int}(hx:l[k]? = some x)(hS:∀z,z∈S↔z=id∨z∈dv id (l.take k))(h:¬ (x.From∈S∧0<x.From)):dv id (l.take (k+1))=dv id (l.take k):=by
  unfold dv at *
  rw [List.take_add_one,hx,List.foldl_append]
  simp only [Option.toList,List.foldl_cons,List.foldl_nil]
  unfold qT at *
  rw [if_neg (fun hc=>h ⟨(hS _).2 hc.1,hc.2⟩)]
theorem uZ (id:Int)(l:List ak):(dv id l).length≤l.length:=by
  have:∀ (l:List ak) (acc:List Int),(l.foldl (qT id) acc).length≤acc.length+l.length:=by
    intro l
    induction l with
    | nil=>intro acc;simp
    | cons x l ih =>
      intro acc
      have:=ih (qT id acc x)
      have h2:(qT id acc x).length≤acc.length+1:=by unfold qT;split <;> simp
      simp only [List.foldl_cons,List.length_cons];omega
  simpa [dv] using this l []
def up (l:List ak)(id f:Int):Int :=
  if h:0<f∧f≠id∧0≤bC l f∧dj l f<f then up l id (dj l f) else f
termination_by f.toNat
decreasing_by omega
theorem sC {l:List ak}(h:bQ l){id f:Int}(h1:f≠id)(h2:0≤bC l f):up l id f=up l id (dj l f):=by
  have:=h.l7 h2
  rw [up,dif_pos ⟨by omega,h1,h2,by omega⟩]
theorem pd {l:List ak}{id f:Int}(h:¬ 0<f∨f=id∨bC l f<0):up l id f=f:=by
  rw [up,dif_neg (by omega)]
def zv (l:List ak)(id:Int)(x:ak):Bool:=decide (up l id x.From=id)&&decide (0<id)
def my (l:List ak)(id:Int)(m:List ak):List Int:=(m.filter (zv l id)).map ak.ID
theorem u6 {l0:List ak}{id:Int}{l:List ak}{k:Nat}{x:ak}(hx:l[k]? = some x)(h:up l0 id x.From=id)(h0:0<id):my l0 id (l.take (k+1))=my l0 id (l.take k)++[x.ID]:=by
  unfold my
  rw [List.take_add_one,hx,List.filter_append];simp [zv,h,h0]
theorem tv {l0:List ak}{id:Int}{l:List ak}{k:Nat}{x:ak}(hx:l[k]? = some x)(h:¬ (up l0 id x.From=id∧0<id)):my l0 id (l.take (k+1))=my l0 id (l.take k):=by
  unfold my
  rw [List.take_add_one,hx,List.filter_append]
  have:zv l0 id x=false:=by unfold zv;rw [Bool.and_eq_false_iff];by_cases h1:up l0 id x.From=id;right;simpa using (fun h2=>h ⟨h1,h2⟩);left;simpa using h1
  simp [this]
def beneath (l:List ak)(id:Int):List Int:=my l id l
theorem u7 {l:List ak}(h:bQ l)(id:Int):∀k,k≤l.length→dv id (l.take k)=my l id (l.take k)
  | 0,_=>by simp [dv,my]
  | k+1,hk=>by
    have ih:=u7 h id k (by omega)
    have hx:l[k]? = some l[k]:=List.getElem?_eq_getElem (by omega)
    have hS:∀z,z∈id::dv id (l.take k)↔z=id∨z∈dv id (l.take k):=fun z=>by simp
    have w:=k6 hx (h.steps k (by omega))
    have key:((l[k]).From∈id::dv id (l.take k)∧0<(l[k]).From)↔(up l id (l[k]).From=id∧0<id):=by
      by_cases h0:(l[k]).From=0
      ·
        rw [h0,pd (.inl (by omega))]
        constructor
        · intro h;omega
        · intro h;omega
      ·
        have hpos:0<(l[k]).From:=by have:=w.zu;omega
        by_cases he:(l[k]).From=id
        ·
          rw [pd (.inr (.inl he))]
          constructor
          · intro _;exact ⟨he,by omega⟩
          · intro _;exact ⟨by rw [he];simp,hpos⟩
        ·
          obtain ⟨j,y,hj,hy,hid,_,_⟩:=nt hx (h.steps k (by omega)) h0
          have hym:y∈l:=List.mem_of_getElem? hy
          have hfi:0≤bC l (l[k]).From:=by rw [← hid];exact gG hym
          rw [sC h he hfi]
          obtain ⟨y',_,hy2,hy3,hy4⟩:=iA hfi
          have:y'=y:=h.inj hy3 hym (by rw [hy2,hid])
          subst this
          rw [hy4,ih]
          have hmem:(l[k]).From∈my l id (l.take k)↔(up l id y'.From=id∧0<id):=by
            unfold my
            simp only [List.mem_map,List.mem_filter,zv,Bool.and_eq_true,decide_eq_true_eq]
            constructor
            ·
              rintro ⟨z,⟨hz,hz2⟩,hz3⟩
              have:z=y':=h.inj (List.mem_of_mem_take hz) hy3 (by rw [hz3,hid])
              subst this;exact hz2
            ·
              intro hh
              exact ⟨y',⟨List.mem_of_getElem? (i:=j) (by rw [List.getElem?_take,if_pos hj];exact hy),hh⟩,hid⟩
          constructor
          ·
            rintro ⟨h1,_⟩
            rcases List.mem_cons.1 h1 with h1|h1
            · exact absurd h1 he
            · exact hmem.1 h1
          · intro h1;exact ⟨List.mem_cons.2 (.inr (hmem.2 h1)),hpos⟩
    by_cases hc:up l id (l[k]).From=id∧0<id
    ·
      have:=key.2 hc
      rw [pY hx hS this.1 this.2,u6 hx hc.1 hc.2,ih]
    · rw [lF hx hS (fun hh=>hc (key.1 hh)),tv hx hc,ih]
theorem wP {l:List ak}(h:bQ l)(id:Int):dv id l=beneath l id:=by
  have:=u7 h id l.length (Nat.le_refl _)
  simpa [beneath,List.take_length] using this
theorem pZ {l:List ak}(h:bQ l){a:Int}(ha:0≤bC l a)(f:Int)(hf0:0≤f):up l a f=a↔a∈chain l f:=by
  have ha0:=h.l7 ha
  by_cases he:f=a
  · subst he;rw [pd (.inr (.inl rfl)),ky h ha];simp
  ·
    rcases Int.lt_or_le (bC l f) 0 with h1|h1
    · rw [pd (.inr (.inr h1)),qS h1];simp [he]
    ·
      have hf:=h.l7 h1
      rw [sC h he h1,ky h h1,pZ h ha (dj l f) hf.2.2.1]
      simp [Ne.symm he]
termination_by f.toNat
decreasing_by omega
end Go.Proofs.YtbkfhjaibhnkmaaGreatDoor
