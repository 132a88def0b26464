import Derived.Test.YtpipachmngdegaaGreatRSP20
section
namespace Go.Proofs.YtpipachmngdegaaGreat
open Go.RowKit
set_option linter.unusedVariables false
theorem mG {l:List ao}{k:Nat}{x y:ao}(hx:l[k]? = some x)(h:fB l k=0)(hk:0<k)(hy:l[k-1]? = some y):y.ID<x.ID:=by
  have hw:=mB hx h
  have h0:cK x=0:=by rcases iZ x with h1|h1;exact h1;rw [hO hx (by omega)] at h;omega
  rcases Int.lt_or_le y.ID x.ID with h1|h1
  · exact h1
  · rw [oW hx h0 hk hy (by omega)] at h;omega
theorem ct.rise {l:List ao}(h:ct l):∀ (j i:Nat) {x y:ao},i<j→l[j]? = some x→l[i]? = some y→y.ID<x.ID
  | 0,i,x,y,hij,hx,hy=>by omega
  | j+1,i,x,y,hij,hx,hy=>by
    have hlt:j+1<l.length:=(List.getElem?_eq_some_iff.1 hx).1
    have hz:l[j]? = some l[j]:=List.getElem?_eq_getElem (by omega)
    have h1:=mG hx (h.steps _ hlt) (by omega) hz
    by_cases hj:i=j
    · subst hj;rw [hz] at hy;injection hy with hy;subst hy;exact h1
    · have:=h.rise j i (by omega) hz hy;omega
theorem ct.inj {l:List ao}(h:ct l){x y:ao}(hx:x∈l)(hy:y∈l)(he:x.ID=y.ID):x=y:=by
  obtain ⟨i,hi⟩:=List.mem_iff_getElem?.1 hx
  obtain ⟨j,hj⟩:=List.mem_iff_getElem?.1 hy
  rcases Nat.lt_trichotomy i j with h1|h1|h1
  · have:=h.rise j i h1 hj hi;omega
  · subst h1;rw [hi] at hj;injection hj
  · have:=h.rise i j h1 hi hj;omega
theorem mH {l:List ao}{k:Nat}{x:ao}(hx:l[k]? = some x)(h:fB l k=0)(h0:x.From≠0) :
    ∃j y,j<k∧l[j]? = some y∧y.ID=x.From∧(derived y x.ID x.Rights x.ar).2=0∧(derived y x.ID x.Rights x.ar).1=x:=by
  have hw:cK x=0:=by rcases iZ x with h1|h1;exact h1;rw [hO hx (by omega)] at h;omega
  have hsh:¬ 0<k ∨ ∃y,l[k-1]? = some y∧y.ID<x.ID:=by
    by_cases hk:0<k
    ·
      have hlt:k<l.length:=(List.getElem?_eq_some_iff.1 hx).1
      exact .inr ⟨_,List.getElem?_eq_getElem (by omega),mG hx h hk (List.getElem?_eq_getElem (by omega))⟩
    · exact .inl hk
  rcases dm (l.take k) x.From with ⟨h1,h2⟩ | ⟨j,hj,h1,h2,h3⟩
  · rw [pW hx hw hsh h0 h1] at h;omega
  ·
    have hjk:j<k:=by rw [List.length_take] at hj;omega
    have hlt:k<l.length:=(List.getElem?_eq_some_iff.1 hx).1
    have hy:l[j]? = some l[j]:=List.getElem?_eq_getElem (by omega)
    rw [mA hx hw hsh h0 h1 hjk hy] at h
    have hid:(l[j]'(by omega)).ID=x.From:=by simpa [List.getElem_take] using h2
    by_cases hd:(derived l[j] x.ID x.Rights x.ar).2≠0
    · rw [if_pos hd] at h;exact absurd h hd
    ·
      rw [if_neg hd] at h
      by_cases he:(derived l[j] x.ID x.Rights x.ar).1≠x
      · rw [if_pos he] at h;omega
      · exact ⟨j,_,hjk,hy,hid,by simpa using hd,by simpa using he⟩
theorem gL {l:List ao}{x:ao}(hx:x∈l):0≤cb l x.ID:=by
  rcases dm l x.ID with ⟨h1,h2⟩ | ⟨k,hk,h1,h2,_⟩
  · exact absurd rfl (h2 x hx)
  · omega
theorem iN {l:List ao}{f:Int}(h:0≤cb l f):∃y,l[(cb l f).toNat]? = some y∧y.ID=f∧y∈l∧dB l f=y.From:=by
  obtain ⟨y,h1,h2,h3⟩:=mC l f h
  exact ⟨y,h1,h2,h3,hX (j:=(cb l f).toNat) (by omega) h1⟩
theorem j7 {l:List ao}{f:Int}(h:cb l f<0):dB l f=0:=by
  rcases dm l f with ⟨h1,_⟩ | ⟨k,hk,h1,_⟩
  · exact lu h1
  · omega
theorem ct.lv {l:List ao}(h:ct l){f:Int}(hf:0≤cb l f):0<f∧f≤999∧0≤dB l f∧dB l f<f:=by
  obtain ⟨y,h1,h2,h3,h4⟩:=iN hf
  have w:=h.mem h3
  have:=w.id1;have:=w.xF;have:=w.xG;have:=w.yw
  omega
def chain (l:List ao)(f:Int):List Int :=
  if h:0≤cb l f∧0<f∧dB l f<f then f::chain l (dB l f) else []
termination_by f.toNat
decreasing_by omega
def above (l:List ao)(id:Int):List Int:=chain l (dB l id)
theorem j8 {l:List ao}(h:ct l){f:Int}(hf:0≤cb l f):chain l f=f::chain l (dB l f):=by
  have:=h.lv hf
  rw [chain,dif_pos ⟨hf,by omega,by omega⟩]
theorem pX {l:List ao}{f:Int}(hf:cb l f<0):chain l f=[]:=by
  rw [chain,dif_neg (by omega)]
def pY (id:Int)(acc:List Int)(x:ao):List Int:=if (x.From=id∨x.From∈acc)∧0<x.From then acc++[x.ID] else acc
def cZ (id:Int)(l:List ao):List Int:=l.foldl (pY id) []
theorem o5 {id:Int}{l:List ao}{k:Nat}{x:ao}{S:List Int}(hx:l[k]? = some x)(hS:∀z,z∈S↔z=id∨z∈cZ id (l.take k))(h:x.From∈S)(h0:0<x.From):cZ id (l.take (k+1))=cZ id (l.take k)++[x.ID]:=by
  unfold cZ at *
  rw [List.take_add_one,hx,List.foldl_append]
  simp only [Option.toList,List.foldl_cons,List.foldl_nil]
  unfold pY at *
  rw [if_pos ⟨(hS _).1 h,h0⟩]
theorem kZ {id:Int}{l:List ao}{k:Nat}{x:ao}{S:List Int}(hx:l[k]? = some x)(hS:∀z,z∈S↔z=id∨z∈cZ id (l.take k))(h:¬ (x.From∈S∧0<x.From)):cZ id (l.take (k+1))=cZ id (l.take k):=by
  unfold cZ at *
  rw [List.take_add_one,hx,List.foldl_append]
  simp only [Option.toList,List.foldl_cons,List.foldl_nil]
  unfold pY at *
  rw [if_neg (fun hc=>h ⟨(hS _).2 hc.1,hc.2⟩)]
theorem s6 (id:Int)(l:List ao):(cZ id l).length≤l.length:=by
  have:∀ (l:List ao) (acc:List Int),(l.foldl (pY id) acc).length≤acc.length+l.length:=by
    intro l
    induction l with
    | nil=>intro acc;simp
    | cons x l ih =>
      intro acc
      have:=ih (pY id acc x)
      have h2:(pY id acc x).length≤acc.length+1:=by unfold pY;split <;> simp
      simp only [List.foldl_cons,List.length_cons];omega
  simpa [cZ] using this l []
def up (l:List ao)(id f:Int):Int :=
  if h:0<f∧f≠id∧0≤cb l f∧dB l f<f then up l id (dB l f) else f
termination_by f.toNat
decreasing_by omega
theorem od {l:List ao}(h:ct l){id f:Int}(h1:f≠id)(h2:0≤cb l f):up l id f=up l id (dB l f):=by
  have:=h.lv h2
  rw [up,dif_pos ⟨by omega,h1,h2,by omega⟩]
theorem im {l:List ao}{id f:Int}(h:¬ 0<f∨f=id∨cb l f<0):up l id f=f:=by
  rw [up,dif_neg (by omega)]
def vW (l:List ao)(id:Int)(x:ao):Bool:=decide (up l id x.From=id)&&decide (0<id)
def jY (l:List ao)(id:Int)(m:List ao):List Int:=(m.filter (vW l id)).map ao.ID
theorem mI {l0:List ao}{id:Int}{l:List ao}{k:Nat}{x:ao}(hx:l[k]? = some x)(h:up l0 id x.From=id)(h0:0<id):jY l0 id (l.take (k+1))=jY l0 id (l.take k)++[x.ID]:=by
  unfold jY
  rw [List.take_add_one,hx,List.filter_append];simp [vW,h,h0]
theorem iO {l0:List ao}{id:Int}{l:List ao}{k:Nat}{x:ao}(hx:l[k]? = some x)(h:¬ (up l0 id x.From=id∧0<id)):jY l0 id (l.take (k+1))=jY l0 id (l.take k):=by
  unfold jY
  rw [List.take_add_one,hx,List.filter_append]
  have:vW l0 id x=false:=by unfold vW;rw [Bool.and_eq_false_iff];by_cases h1:up l0 id x.From=id;right;simpa using (fun h2=>h ⟨h1,h2⟩);left;simpa using h1
  simp [this]
theorem s7 (l0:List ao)(id:Int)(l:List ao):(jY l0 id l).length≤l.length:=by unfold jY;simp;exact List.length_filter_le _ _
def beneath (l:List ao)(id:Int):List Int:=jY l id l
theorem s8 {l:List ao}(h:ct l)(id:Int):∀k,k≤l.length→cZ id (l.take k)=jY l id (l.take k)
  | 0,_=>by simp [cZ,jY]
  | k+1,hk=>by
    have ih:=s8 h id k (by omega)
    have hx:l[k]? = some l[k]:=List.getElem?_eq_getElem (by omega)
    have hS:∀z,z∈id::cZ id (l.take k)↔z=id∨z∈cZ id (l.take k):=fun z=>by simp
    have w:=mB hx (h.steps k (by omega))
    have key:((l[k]).From∈id::cZ id (l.take k)∧0<(l[k]).From)↔(up l id (l[k]).From=id∧0<id):=by
      by_cases h0:(l[k]).From=0
      ·
        rw [h0,im (.inl (by omega))]
        constructor
        · intro h;omega
        · intro h;omega
      ·
        have hpos:0<(l[k]).From:=by have:=w.xF;omega
        by_cases he:(l[k]).From=id
        ·
          rw [im (.inr (.inl he))]
          constructor
          · intro _;exact ⟨he,by omega⟩
          · intro _;exact ⟨by rw [he];simp,hpos⟩
        ·
          obtain ⟨j,y,hj,hy,hid,_,_⟩:=mH hx (h.steps k (by omega)) h0
          have hym:y∈l:=List.mem_of_getElem? hy
          have hfi:0≤cb l (l[k]).From:=by rw [← hid];exact gL hym
          rw [od h he hfi]
          obtain ⟨y',_,hy2,hy3,hy4⟩:=iN hfi
          have:y'=y:=h.inj hy3 hym (by rw [hy2,hid])
          subst this
          rw [hy4,ih]
          have hmem:(l[k]).From∈jY l id (l.take k)↔(up l id y'.From=id∧0<id):=by
            unfold jY
            simp only [List.mem_map,List.mem_filter,vW,Bool.and_eq_true,decide_eq_true_eq]
            constructor
            ·
              rintro ⟨z,⟨hz,hz2⟩,hz3⟩
              have:z=y':=h.inj (List.mem_of_mem_take hz) hy3 (by rw [hz3,hid])
              subst this;exact hz2
            ·
              intro hh
              exact ⟨y',⟨List.mem_of_getElem? (i:=j) (by rw [List.getElem?_take,if_pos hj];exact hy),hh⟩,hid⟩
          constructor
          ·
            rintro ⟨h1,_⟩
            rcases List.mem_cons.1 h1 with h1|h1
            · exact absurd h1 he
            · exact hmem.1 h1
          · intro h1;exact ⟨List.mem_cons.2 (.inr (hmem.2 h1)),hpos⟩
    by_cases hc:up l id (l[k]).From=id∧0<id
    ·
      have:=key.2 hc
      rw [o5 hx hS this.1 this.2,mI hx hc.1 hc.2,ih]
    · rw [kZ hx hS (fun hh=>hc (key.1 hh)),iO hx hc,ih]
theorem qZ {l:List ao}(h:ct l)(id:Int):cZ id l=beneath l id:=by
  have:=s8 h id l.length (Nat.le_refl _)
  simpa [beneath,List.take_length] using this
theorem o6 {l:List ao}(h:ct l){a:Int}(ha:0≤cb l a)(f:Int)(hf0:0≤f):up l a f=a↔a∈chain l f:=by
  have ha0:=h.lv ha
  by_cases he:f=a
  · subst he;rw [im (.inr (.inl rfl)),j8 h ha];simp
  ·
    rcases Int.lt_or_le (cb l f) 0 with h1|h1
    · rw [im (.inr (.inr h1)),pX h1];simp [he]
    ·
      have hf:=h.lv h1
      rw [od h he h1,j8 h h1,o6 h ha (dB l f) hf.2.2.1]
      simp [Ne.symm he]
termination_by f.toNat
decreasing_by omega
end Go.Proofs.YtpipachmngdegaaGreat
end
