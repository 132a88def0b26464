import Derived.Test.YtbkfhjaibhnkmaaGreatDoorIMS32
namespace Go.Proofs.YtbkfhjaibhnkmaaGreatDoor
open Go Go.RowKit
set_option linter.unusedVariables false
def FT (md:Region.Mode)(o:Oper)(ls:Array Bool):Bool:=o.after.all fun e => !Region.binds md e||ls.getD e.on false
def lG (md:Region.Mode)(ops:Array Oper)(ls:Array Bool):Bool:=(List.range ops.size).all fun j => !(ls.getD j false)||((ops[j]?).map (FT md · ls)).getD true
def wi (md:Region.Mode)(ops:Array Oper):Nat→Nat→Nat→Bool
  | 0,_,_=>false
  | f+1,j,i=>((ops[j]?).map fun o=>o.after.any fun e=>Region.binds md e&&(e.on==i||wi md ops f e.on i)).getD false
section
variable {P:Program} {ops:Array Oper} {Q:Exit→Act→World→Prop} {md:Region.Mode} {S:World→Prop} {T:Nat→Bool}
theorem pB {ls:Array Bool}(h:lG md ops ls=true){j:Nat}{o:Oper}(ho:ops[j]? = some o)(hj:ls.getD j false=true):FT md o ls=true:=by
 have hlt:j<ops.size:=(Array.getElem?_eq_some_iff.1 ho).1
 have:=List.all_eq_true.1 h j (List.mem_range.2 hlt)
 rw [hj,ho] at this
 simpa using this
theorem lH {ls:Array Bool}(hc:lG md ops ls=true):∀ (f j i:Nat) (o:Oper),ops[j]? = some o→FT md o ls=true→wi md ops f j i=true→ls.getD i false=true
 | 0,j,i,o,_,_,h=>by cases h
 | f+1,j,i,o,ho,hu,h=>by
  unfold wi at h
  rw [ho] at h
  simp only [Option.map_some,Option.getD_some,Array.any_eq_true'] at h
  obtain ⟨e,he,h⟩:=h
  simp only [Bool.and_eq_true,Bool.or_eq_true,beq_iff_eq] at h
  have hl:ls.getD e.on false=true:=by
   have:=Array.all_eq_true'.1 hu e he
   simpa [h.1] using this
  rcases h.2 with h2|h2
  ·rw [← h2];exact hl
  ·
   cases ho2:ops[e.on]? with
   | none=>cases f with
    | zero=>cases h2
    | succ f=>unfold wi at h2;rw [ho2] at h2;cases h2
   | some o2=>exact lH hc f e.on i o2 ho2 (pB hc ho2 hl) h2
theorem yR {o:Oper}{ls:Array Bool}{j:Nat}(h:FT md o ls=true):FT md o (ls.setIfInBounds j true)=true:=by
 refine Array.all_eq_true'.2 fun e he=>?_
 have:=Array.all_eq_true'.1 h e he
 simp only [Bool.or_eq_true,Bool.not_eq_true'] at this ⊢
 rcases this with h1|h1
 ·exact .inl h1
 ·exact .inr (getD_set_true h1)
theorem xK {ls:Array Bool}(h:lG md ops ls=true){j:Nat}{o:Oper}(ho:ops[j]? = some o)(hu:FT md o ls=true):lG md ops (ls.setIfInBounds j true)=true:=by
 refine List.all_eq_true.2 fun k hk=>?_
 have hlt:=List.mem_range.1 hk
 cases hl:(ls.setIfInBounds j true).getD k false with
 | false=>rfl
 | true =>
  have hok:ops[k]? = some ops[k]:=Array.getElem?_eq_getElem hlt
  rw [hok]
  simp only [Bool.not_true,Bool.false_or,Option.map_some,Option.getD_some]
  by_cases hj:j=k
  ·subst hj;rw [ho] at hok;injection hok with hok;rw [← hok];exact yR hu
  ·
   have:ls.getD k false=true:=by
    rw [← hl];simp [Array.getD_eq_getD_getElem?,Array.getElem?_setIfInBounds_ne hj]
   exact yR (pB h hok this)
def noT (T:Nat→Bool)(ls:Array Bool):Prop:= ∀j,T j=true→ls.getD j false=false
def lI (P:Program)(md:Region.Mode)(ops:Array Oper)(Q:Exit→Act→World→Prop)(S:World→Prop)(T:Nat→Bool):Nat→Array Bool→Act→World→Prop
  | 0,ls,a,w=>Region.ready md ops ls=[]∧Q .normal a w
  | fuel+1,ls,a,w =>
    (Region.ready md ops ls=[]→Q .normal a w) ∧
    ∀i∈Region.ready md ops ls,wpOp P ops Q i (fun a' w'=>(noT T (ls.setIfInBounds i true)→S w')∧lI P md ops Q S T fuel (ls.setIfInBounds i true) a' w') a w
theorem wj {ls:Array Bool}{j:Nat}(h:j∈Region.ready md ops ls):∃o,ops[j]? = some o∧FT md o ls=true:=by
 unfold Region.ready at h
 obtain ⟨h1,h2⟩:=List.mem_filter.1 h
 simp only [Bool.and_eq_true] at h2
 cases ho:ops[j]? with
 | none=>rw [ho] at h2;simp at h2
 | some o =>
  rw [ho] at h2
  have h3:=h2.2
  rw [Option.map_some,Option.getD_some] at h3
  exact ⟨o,rfl,h3⟩
theorem uA {N i:Nat}{oi:Oper}{v:Value}(hi:ops[i]? = some oi)(hsel:∀ (j:Nat) (o:Oper) cs b,ops[j]? = some o→o.op ≠ .select cs b)
 (hQ:∀c a w,Q (.panic c) (a.put oi.dst v) w→Q (.panic c) a w) (hT:∀j,T j=true→wi md ops N j i=true) :
 ∀ (fuel:Nat) (listed:Array Bool) (a:Act) (w:World),lG md ops listed=true →
  (∀j oj,ops[j]? = some oj→j≠i→listed.getD j true=false→(∀e∈oj.after,Region.binds md e=true→e.on≠i)→oi.apart ops oj=true) →
  i∈Region.ready md ops listed→YieldsIf P ops S oi v a→S w →
  lI P md ops Q S T fuel (listed.setIfInBounds i true) (a.put oi.dst v) w→lI P md ops Q S T (fuel+1) listed a w:=by
 intro fuel
 induction fuel with
 | zero =>
  intro listed a w _ _ hr hy hS H
  refine ⟨fun h=>(by rw [h] at hr;cases hr),fun j hj=>?_⟩
  by_cases hji:j=i
  ·subst hji;exact hy.wpOp hi hS ⟨fun _=>hS,H⟩
  ·
   have:=ready_mono hj hji
   rw [H.1] at this
   cases this
 | succ fuel ih =>
  intro listed a w hcl hfree hr hy hS H
  refine ⟨fun h=>(by rw [h] at hr;cases hr),fun j hj=>?_⟩
  by_cases hji:j=i
  ·subst hji;exact hy.wpOp hi hS ⟨fun _=>hS,H⟩
  ·
   have h1:=H.2 j (ready_mono hj hji)
   obtain ⟨hjun,oj,hoj,hall⟩:=mem_ready.1 hj
   have hun:=(mem_ready.1 hr).1
   have hnl:listed.getD i false=false:=by
    rcases Nat.lt_or_ge i listed.size with h'|h'
    ·simpa [Array.getD,h'] using hun
    ·simp [Array.getD,Nat.not_lt.2 h']
   obtain ⟨JV,H3,Jl⟩:=wj hj
   have JW:¬ T j=true:=fun h=>by
    have:=lH hcl N j i JV H3 Jl (hT j h)
    rw [hnl] at this;cases this
   obtain ⟨JX,I6,JY⟩:=wj hr
   have H4:¬ T i=true:=fun h=>by
    have:=lH hcl N i i JX I6 JY (hT i h)
    rw [hnl] at this;cases this
   have hno:noT T ((listed.setIfInBounds i true).setIfInBounds j true):=fun k hk=>by
    have hki:i≠k:=fun e=>H4 (e▸hk)
    have hkj:j≠k:=fun e=>JW (e▸hk)
    rw [Array.getD_eq_getD_getElem?,Array.getElem?_setIfInBounds_ne hkj,Array.getElem?_setIfInBounds_ne hki,← Array.getD_eq_getD_getElem?]
    cases hl:listed.getD k false with
    | false=>rfl
    | true =>
     exfalso
     cases hok:ops[k]? with
     | none=>have:=hT k hk;cases N with
      | zero=>cases this
      | succ N=>unfold wi at this;rw [hok] at this;cases this
     | some ok =>
      have:=lH hcl N k i ok hok (pB hcl hok hl) (hT k hk)
      rw [hnl] at this;cases this
   have hnot:∀e∈oj.after,Region.binds md e=true→e.on≠i:=fun e he hb heq=>by
    have h1:=hall e he hb
    rw [heq] at h1
    rcases Nat.lt_or_ge i listed.size with h'|h'
    ·simp [h'] at hun h1;rw [hun] at h1;cases h1
    ·simp [Array.getElem?_eq_none h'] at h1
   have h2:=wpOp_putIf hoj (hfree j oj hoj hji hjun hnot) (fun cs b=>hsel i oi cs b hi) (fun cs b=>hsel j oj cs b hoj) hQ hy h1
   have hfree':∀k ok,ops[k]? = some ok→k≠i→(listed.setIfInBounds j true).getD k true=false →
    (∀e∈ok.after,Region.binds md e=true→e.on≠i)→oi.apart ops ok=true:=fun k ok hk hki hun hno=>by
    refine hfree k ok hk hki ?_ hno
    by_cases hjk:j=k
    ·subst hjk;exact hjun
    ·rw [getD_set_ne true hjk] at hun;exact hun
   have I7:=xK hcl H3 Jl
   refine wpOp_mono (fun a' w' h3=>⟨fun _=>h3.2.1 hno,ih (listed.setIfInBounds j true) a' w' I7 hfree' (ready_mono hr (Ne.symm hji)) h3.1 (h3.2.1 hno) ?_⟩) h2
   rw [Array.setIfInBounds_comm _ _ hji]
   exact h3.2.2
theorem uB {ls:Array Bool}{i:Nat}(hi:¬ T i=true):noT T (ls.setIfInBounds i true)↔noT T ls:=by
 have e:∀k,T k=true→(ls.setIfInBounds i true).getD k false=ls.getD k false:=fun k hk=>getD_set_ne false (fun e=>hi (e▸hk))
 exact ⟨fun h k hk=>(e k hk).symm.trans (h k hk),fun h k hk=>(e k hk).trans (h k hk)⟩
theorem sF {i:Nat}{oi:Oper}{v:Value}(hi:ops[i]? = some oi)(hsel:∀ (j:Nat) (o:Oper) cs b,ops[j]? = some o→o.op ≠ .select cs b)
 (hQ:∀c a w,Q (.panic c) (a.put oi.dst v) w→Q (.panic c) a w) (H4:¬ T i=true) :
 ∀ (fuel:Nat) (listed:Array Bool) (a:Act) (w:World),
  (∀j oj,ops[j]? = some oj→j≠i→listed.getD j true=false→(∀e∈oj.after,Region.binds md e=true→e.on≠i)→oi.apart ops oj=true) →
  i∈Region.ready md ops listed→YieldsIf P ops (fun _=>True) oi v a→(noT T listed→S w) →
  lI P md ops Q S T fuel (listed.setIfInBounds i true) (a.put oi.dst v) w→lI P md ops Q S T (fuel+1) listed a w:=by
 intro fuel
 induction fuel with
 | zero =>
  intro listed a w _ hr hy hS H
  refine ⟨fun h=>(by rw [h] at hr;cases hr),fun j hj=>?_⟩
  by_cases hji:j=i
  ·subst hji;exact hy.wpOp hi trivial ⟨fun h=>hS ((uB H4).1 h),H⟩
  ·
   have:=ready_mono hj hji
   rw [H.1] at this
   cases this
 | succ fuel ih =>
  intro listed a w hfree hr hy hS H
  refine ⟨fun h=>(by rw [h] at hr;cases hr),fun j hj=>?_⟩
  by_cases hji:j=i
  ·subst hji;exact hy.wpOp hi trivial ⟨fun h=>hS ((uB H4).1 h),H⟩
  ·
   have h1:=H.2 j (ready_mono hj hji)
   obtain ⟨hjun,oj,hoj,hall⟩:=mem_ready.1 hj
   have hun:=(mem_ready.1 hr).1
   have hnot:∀e∈oj.after,Region.binds md e=true→e.on≠i:=fun e he hb heq=>by
    have h1:=hall e he hb
    rw [heq] at h1
    rcases Nat.lt_or_ge i listed.size with h'|h'
    ·simp [h'] at hun h1;rw [hun] at h1;cases h1
    ·simp [Array.getElem?_eq_none h'] at h1
   have h2:=wpOp_putIf hoj (hfree j oj hoj hji hjun hnot) (fun cs b=>hsel i oi cs b hi) (fun cs b=>hsel j oj cs b hoj) hQ hy h1
   have hfree':∀k ok,ops[k]? = some ok→k≠i→(listed.setIfInBounds j true).getD k true=false →
    (∀e∈ok.after,Region.binds md e=true→e.on≠i)→oi.apart ops ok=true:=fun k ok hk hki hun hno=>by
    refine hfree k ok hk hki ?_ hno
    by_cases hjk:j=k
    ·subst hjk;exact hjun
    ·rw [getD_set_ne true hjk] at hun;exact hun
   refine wpOp_mono (fun a' w' h3=>?_) h2
   have hS':noT T (listed.setIfInBounds j true)→S w':=fun h=>h3.2.1 (by rw [Array.setIfInBounds_comm _ _ (Ne.symm hji)];exact (uB H4).2 h)
   refine ⟨hS',ih (listed.setIfInBounds j true) a' w' hfree' (ready_mono hr (Ne.symm hji)) h3.1 hS' ?_⟩
   rw [Array.setIfInBounds_comm _ _ hji]
   exact h3.2.2
theorem wk {N i:Nat}{oi:Oper}{v:Value}{fuel:Nat}{listed:Array Bool}{a:Act}{w:World}(hi:ops[i]? = some oi)
 (hs:Region.noSelect ops=true) (hf:Region.free md ops listed i=true) (hr:(Region.ready md ops listed).contains i=true) (hcl:lG md ops listed=true) (hT:∀j,T j=true→wi md ops N j i=true)
 (hQ:∀c a w,Q (.panic c) (a.put oi.dst v) w→Q (.panic c) a w) (hy:YieldsIf P ops S oi v a) (hS:S w)
 (h:lI P md ops Q S T fuel (listed.setIfInBounds i true) (a.put oi.dst v) w):lI P md ops Q S T (fuel+1) listed a w :=
 uA hi (Region.noSelect_spec hs) hQ hT fuel listed a w hcl (Region.free_spec hi hf) (by simpa using hr) hy hS h
end
section
variable {P:Program} {n:Nat} {we:World} {X:List Nat} {Q:Exit→Act→World→Prop} {k k':List It} {L:Fm} {B F:List ag} {ops rest:List Oper}
variable {dst:Option Nat} {d:Nat} {op:Op} {ty:TypeId} {pos:String} {eV:Array Edge} {g:Option (Nat×Bool)} {v:Value}
def wm (l:List Nat)(j:Nat):Bool:=l.any (Nat.beq j)
def Kg (S:World→Prop)(T:List Nat)(P:Program)(n:Nat)(we:World)(X:List Nat)(Q:Exit→Act→World→Prop)(ops:List Oper)(fuel:Nat)(ls:Array Bool)(k:List It)(L:Fm)(B F:List ag):Prop :=
  ∀a w,Fr n L a→Wd we X B F w→lI P .any ops.toArray (NoPanic (nr P Q k)) S (wm T) fuel ls a w
def Ko (S:World→Prop)(T:List Nat)(P:Program)(n:Nat)(we:World)(X:List Nat)(Q:Exit→Act→World→Prop)(ops:List Oper)(i:Nat)(o:Oper)(fuel:Nat)(ls:Array Bool)(k:List It)(L:Fm)(B F:List ag):Prop :=
  ops[i]? = some o → ∀a w,Fr n L a→Wd we X B F w→wpOp P ops.toArray (NoPanic (nr P Q k)) i (fun a' w'=>(noT (wm T) (ls.setIfInBounds i true)→S w')∧lI P .any ops.toArray (NoPanic (nr P Q k)) S (wm T) fuel (ls.setIfInBounds i true) a' w') a w
variable {S:World→Prop} {T:List Nat} {i j fuel:Nat} {ls ls':Array Bool} {o:Oper}
theorem K.done (h0:Region.ready .any ops.toArray ls=[])(h:Run P n we X Q k L B F):Kg S T P n we X Q ops fuel ls k L B F :=
 fun a w ha hw=>by
  cases fuel with
  | zero=>exact ⟨h0,NoPanic.normal (h a w ha hw)⟩
  | succ f=>exact ⟨fun _=>NoPanic.normal (h a w ha hw),by rw [h0];simp⟩
theorem Cm {T:List Nat}{p:Nat→Bool}(h:T.all p=true):∀j,wm T j=true→p j=true:=fun j hj=>by
 unfold wm at hj
 obtain ⟨t,ht,e⟩:=List.any_eq_true.1 hj
 rw [Nat.eq_of_beq_eq_true e];exact List.all_eq_true.1 h t ht
theorem K.q (hi:ops[i]? = some ⟨some d,op,ty,pos,eV,g⟩)(hfr:(Region.noSelect ops.toArray&&Region.free .any ops.toArray ls i&&(Region.ready .any ops.toArray ls).contains i&&lG .any ops.toArray ls&&T.all (fun j=>wi .any ops.toArray 40 j i))=true)(hS:∀w,Wd we X B F w→S w)(hg:gd ops L g=some true)
 (hq:∀dst pos eV g a w,Fr n L a→S w→(execOp a.eval ⟨dst,op,ty,pos,eV,g⟩).run P w = .ok (.value v) w) (hd:Nat.blt d n=true) (h:Kg S T P n we X Q ops fuel (ls.setIfInBounds i true) k ((d,v)::L) B F):Kg S T P n we X Q ops (fuel+1) ls k L B F:=by
 intro a w ha hw
 simp only [Bool.and_eq_true] at hfr
 obtain ⟨⟨⟨⟨h1,h2⟩,h3⟩,h4⟩,h5⟩:=hfr
 exact wk (N:=40) (by simpa using hi) h1 h2 h3 h4 (Cm h5) (fun _ _ _ h=>h) (.inl ⟨eA (o:=⟨some d,op,ty,pos,eV,g⟩) ha hg,fun w hw=>hq _ _ _ _ a w ha hw⟩) (hS w hw) (h _ w (ha.put d v hd) hw)
theorem K.p (hi:ops[i]? = some ⟨some d,op,ty,pos,eV,g⟩)(hfr:(Region.noSelect ops.toArray&&Region.free .any ops.toArray ls i&&(Region.ready .any ops.toArray ls).contains i && !wm T i)=true)(hS:T.any (fun t=>ls.getD t false)=true ∨ ∀w,Wd we X B F w→S w)(hg:gd ops L g=some true)
 (hq:∀w,Qt P n w [] L [] [] op ty v) (hd:Nat.blt d n=true) (h:Kg S T P n we X Q ops fuel (ls.setIfInBounds i true) k ((d,v)::L) B F):Kg S T P n we X Q ops (fuel+1) ls k L B F:=by
 intro a w ha hw
 simp only [Bool.and_eq_true,Bool.not_eq_true'] at hfr
 obtain ⟨⟨⟨h1,h2⟩,h3⟩,h4⟩:=hfr
 have hi':ops.toArray[i]? = some ⟨some d,op,ty,pos,eV,g⟩:=by simpa using hi
 exact sF hi' (Region.noSelect_spec h1) (fun _ _ _ h=>h) (by rw [h4];simp) fuel ls a w (Region.free_spec hi' h2) (by simpa using h3)
  (.inl ⟨eA (o:=⟨some d,op,ty,pos,eV,g⟩) ha hg,fun w _=>hq w _ _ _ _ a w ha (Wd.start w [])⟩) (fun hno=>hS.elim (fun hT=>by
   obtain ⟨t,ht,e⟩:=List.any_eq_true.1 hT
   have:=hno t (List.any_eq_true.2 ⟨t,ht,Nat.beq_refl t⟩)
   rw [e] at this;cases this) fun h=>h w hw) (h _ w (ha.put d v hd) hw)
theorem K.one (h0:Region.ready .any ops.toArray ls=[i])(hi:ops[i]? = some o)(h:Ko S T P n we X Q ops i o fuel ls k L B F):Kg S T P n we X Q ops (fuel+1) ls k L B F :=
 fun a w ha hw=>⟨fun h1=>(by rw [h0] at h1;cases h1),fun j hj=>by
  rw [h0] at hj;rw [List.mem_singleton.1 hj];exact h hi a w ha hw⟩
theorem K.two {o':Oper}(h0:Region.ready .any ops.toArray ls=[i,j])(hi:ops[i]? = some o)(hj:ops[j]? = some o')(h:Ko S T P n we X Q ops i o fuel ls k L B F)(h':Ko S T P n we X Q ops j o' fuel ls k L B F):Kg S T P n we X Q ops (fuel+1) ls k L B F :=
 fun a w ha hw=>⟨fun h1=>(by rw [h0] at h1;cases h1),fun m hm=>by
  rw [h0] at hm
  rcases List.mem_cons.1 hm with rfl|hm
  ·exact h hi a w ha hw
  ·rw [List.mem_singleton.1 hm];exact h' hj a w ha hw⟩
theorem Ko.s {β:Type}{L':β→Fm}{B' F':β→List ag}(hs:Stp P n we X L B F o L' B' F')(hS:wm T i=true∨(∀z w,Wd we X (B' z) (F' z) w→S w))(hT:wm T i=true→Nat.blt i ls.size=true)(hg:gd ops L o.guard=some true)
 (h:∀z,Kg S T P n we X Q ops fuel (ls.setIfInBounds i true) k (L' z) (B' z) (F' z)):Ko S T P n we X Q ops i o fuel ls k L B F:=by
 intro hi a w ha hw
 unfold wpOp
 have:ops.toArray[i]? = some o:=by simpa using hi
 rw [this]
 simp only []
 rw [if_pos (eA (o:=o) ha hg)]
 refine .inl (hs _ _ a w ha hw fun z a w ha hw=>⟨fun hno=>?_,h z a w ha hw⟩)
 rcases hS with hS|hS
 ·
  have h1:=hno i hS
  have h2:i<ls.size:=Nat.blt_eq.mp (hT hS) |> fun h=>h
  simp [Array.getD,h2] at h1
 ·exact hS z w hw
end
end Go.Proofs.YtbkfhjaibhnkmaaGreatDoor
