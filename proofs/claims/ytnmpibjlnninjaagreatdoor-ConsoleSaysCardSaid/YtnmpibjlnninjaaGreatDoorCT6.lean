import Derived.Test.YtnmpibjlnninjaaGreatDoorCT5
namespace Go.Proofs.YtnmpibjlnninjaaGreatDoor
set_option linter.unusedVariables false
set_option linter.unusedSimpArgs false
set_option maxRecDepth 100000
set_option maxHeartbeats 90000000
section
open Go Go.RowKit
def Ec (v:Value):Value:=match v with | .slice a n c => .slice a n c|_ => .slice none 0 0
theorem Nx (v:Value):(Ec v).oneCell'=true:=by unfold Ec;split <;> rfl
theorem Sl.Ec {α:Type}[Enc α]{w:World}{v:Value}{l:List α}(h:Sl w v l):YtnmpibjlnninjaaGreatDoor.Ec v=v:=by
 obtain ⟨A,c,rfl,_⟩:=h;rfl
structure lr where
  v0:Value
  L:List Change
abbrev lr.cv (x:lr):Value:=Ec x.v0
instance:Enc lr:=⟨1,fun x=>[x.cv],fun _=>rfl,fun x u hu=>by grind [List.mem_singleton,Nx],by decide⟩
abbrev lr.val (x:lr):Value:=x.cv
def ag.nU (l:List lr):ag:=⟨l.flatMap (fun x=>(ag.ls x.cv x.L).blk),fun w => ∀x∈l,Sl w x.cv x.L,fun w w' h hs x hx=>(ag.ls x.cv x.L).loc w w' (fun k hk=>h k (List.mem_flatMap.2 ⟨x,hx,hk⟩)) (hs x hx)⟩
def ag.rX (l:List lr)(E:List (List Change)):ag:=⟨(ag.nU l).blk,fun w=>(ag.nU l).ok w/\l.map lr.L=E,fun w w' h hs=>⟨(ag.nU l).loc w w' h hs.1,hs.2⟩⟩
theorem Ro {l:List lr}{x:lr}(hx:x∈l):∀k∈(ag.ls x.cv x.L).blk,k∈(ag.nU l).blk:=fun k hk=>List.mem_flatMap.2 ⟨x,hx,hk⟩
section
variable {P:Program} {n:Nat} {we w:World} {X:List Nat} {B F:List ag} {l:List lr} {x:lr} {v:Value} {L:List Change} {Q:Exit->Act->World->Prop} {k:List It} {ops:List Oper} {rest:List (List Oper)}
theorem Wd.aaH (i:Nat)(h:F[i]? = some (ag.nU l))(hx:x∈l)(hw:Wd we X B F w):Sl w x.cv x.L:=hw.f i h x hx
theorem Wd.Yo (hw:Wd we X B F w):Wd we X B (ag.nU []::F) w:=hw.fact (r:=ag.nU []) (fun x hx=>by grind) (fun k hk=>by cases hk)
theorem Wd.Rp (i j:Nat)(hi:F[i]? = some (ag.nU l))(hj:F[j]? = some (ag.ls v L))(hw:Wd we X B F w):Wd we X B (ag.nU (l++[⟨v,L⟩])::F) w:=by
 have h1:∀x∈l,Sl w x.cv x.L:=hw.f i hi
 have h2:Sl w v L:=hw.cy j hj
 refine hw.fact (r:=ag.nU (l++[⟨v,L⟩])) (fun x hx=>?_) (fun k hk=>?_)
 .grind [Sl,Ec,List.mem_singleton]
 obtain ⟨x,hx,hk⟩:=List.mem_flatMap.1 hk
 rcases List.mem_append.1 hx with hx|hx
 .exact hw.nq k (bK.2 ⟨_,List.mem_of_getElem? hi,List.mem_flatMap.2 ⟨x,hx,hk⟩⟩)
 rw [List.mem_singleton.1 hx] at hk
 have hk':k∈(ag.ls v L).blk:=by
  have:(lr.mk v L).cv=v:=h2.Ec
  grind
 exact hw.nq k (bK.2 ⟨_,List.mem_of_getElem? hj,hk'⟩)
theorem Wd.Ed (i:Nat)(hi:F[i]? = some (ag.nU l))(hw:Wd we X B F w):Wd we X B (ag.rX l (l.map lr.L)::F) w :=
 hw.fact (r:=ag.rX l (l.map lr.L)) ⟨hw.f i hi,rfl⟩ (fun k hk=>hw.nq k (bK.2 ⟨_,List.mem_of_getElem? hi,hk⟩))
theorem Wd.U2 (i:Nat)(hi:F[i]? = some (ag.nU l))(hx:x∈l)(hw:Wd we X B F w):Wd we X B (ag.ls x.cv x.L::F) w :=
 hw.nQ i _ _ hi (Ro hx) (hw.aaH i hi hx)
theorem Wd.Ee {E:List (List Change)}(i:Nat)(F':List ag)(hi:F[i]? = some (ag.rX l E))(hF:ag.nU l::F.eraseIdx i=F')(hw:Wd we X B F w):Wd we X B F' w/\l.map lr.L=E:=by
 subst hF
 have h:=hw.f i hi
 refine ⟨?_,h.2⟩
 have h1:=hw.fact (r:=ag.nU l) h.1 (fun k hk=>hw.nq k (bK.2 ⟨_,List.mem_of_getElem? hi,hk⟩))
 refine ⟨h1.upd,h1.okB,fun r hr=>?_,h1.sep,h1.own,fun k hk=>?_⟩
 .
  rcases List.mem_cons.1 hr with rfl|hr
  .exact h.1
  exact hw.okF r ((List.eraseIdx_sublist F i).subset hr)
 obtain ⟨r,hr,hk⟩:=bK.1 hk
 rcases List.mem_cons.1 hr with rfl|hr
 .exact hw.nq k (bK.2 ⟨_,List.mem_of_getElem? hi,hk⟩)
 exact hw.nq k (bK.2 ⟨r,(List.eraseIdx_sublist F i).subset hr,hk⟩)
theorem R.U3 {L':Fm}{E:List (List Change)}(i:Nat)(F':List ag)(hi:F[i]? = some (ag.rX l E))(hF:ag.nU l::F.eraseIdx i=F')(h:l.map lr.L=E->Run P n we X Q k L' B F'):Run P n we X Q k L' B F :=
 fun a w ha hw=>h (hw.Ee i F' hi hF).2 a w ha (hw.Ee i F' hi hF).1
theorem Rg.U3 {L':Fm}{E:List (List Change)}{rs:List Oper}(i:Nat)(F':List ag)(hi:F[i]? = some (ag.rX l E))(hF:ag.nU l::F.eraseIdx i=F')(h:l.map lr.L=E->Rg P n we X Q ops rs k L' B F'):Rg P n we X Q ops rs k L' B F :=
 fun a w ha hw=>h (hw.Ee i F' hi hF).2 a w ha (hw.Ee i F' hi hF).1
end
section
variable {P:Program} {n:Nat} {we:World} {X:List Nat} {L:Fm} {B F:List ag} {d:Nat} {ty:TypeId} {pos:String} {dV:Array Edge} {g:Option (Nat×Bool)}
theorem s.bsV {α:Type}[Enc α]{m:Nat}{parts:Array (Nat×Operand)}{t e:TypeId}{l:List α}{vs:List Value}{z:Value}(ht:nL P t=some (e,Enc.k α))(hz:eJ P e=some z)(hzs:z.cells.size=Enc.k α)(hm:l.length=m)(hsmall:Nat.blt (m*Enc.k α) 16777216=true)
 (hp:evs L (parts.toList.map (·.2))=some vs) (hi:parts.toList.map (·.1)=List.range' 0 m) (hv:∀w,Wd we X B F w->vs.map (fun v=>v.cells.toList)=l.map Enc.cells) (hd:Nat.blt d n=true) :
 Stp P n we X L B F ⟨some d,.buildSlice t m parts,ty,pos,dV,g⟩ (fun b:Nat=>(d,.slice (some ⟨b,0,none⟩) m m)::L) (fun b=>ag.row e (.slice (some ⟨b,0,none⟩) m m) l::B) (fun _=>F) :=
 fun K Q' a w ha hw hK=>s.bs ht hz hzs hm hsmall hp hi (hv w hw) hd K Q' a w ha hw hK
theorem Ls {w:World}{v:Value}{L:List Change}(h:Sl w v L) : [v].map (fun v=>v.cells.toList)=[(⟨v,L⟩:lr)].map Enc.cells:=by
 show [v.cells.toList]=[[Ec v]]
 rw [h.Ec,h.D9]
theorem q.Yp {fn:FuncId}{fs cs:Array Operand}{bnd cap:List Value}(hb:evs L fs.toList=some bnd)(hc:evs L cs.toList=some cap):Qt P n we X L B F (.makeFunc (.func fn) fs cs) ty (.func (.func fn) bnd.toArray cap.toArray):=fun _ _ _ _ a w ha hw=>by
 have hm:cs.map a.eval=cap.toArray:=by rw [<- ha.evs hc,<- Array.toList_map]
 have hn:fs.map a.eval=bnd.toArray:=by rw [<- ha.evs hb,<- Array.toList_map]
 simp_all [execOp,Instr.makeFunc]
theorem q.min {kd:IntKind}{x y:Operand}{a b r:Int}{ts:Array TypeId}(hx:ev L x=some (.int kd a))(hy:ev L y=some (.int kd b))(hr:min a b=r):Qt P n we X L B F (.call { callee:= .builtin .min,args:= #[x,y],argTypes:=ts}) ty (.int kd r):=fun _ _ _ _ q w ha hw=>by
 have e:(if b<a then b else a)=r:=ae
 simp [execOp,resolve,invoke,builtin,ha.ev hx,ha.ev hy,Builtin.min_,Builtin.min2,e]
theorem XF {k:IntKind}{a b:Int}(h:a=b):Value.int k a = .int k b:=by rw [h]
structure BX where
  f:Fn
  b:Array Value
  c:Array Value
abbrev BX.cv (x:BX):Value:= .func x.f x.b x.c
instance:Enc BX:=⟨1,fun x=>[x.cv],fun _=>rfl,fun x u hu=>by rw [List.mem_singleton.1 hu];rfl,by decide⟩
theorem q.Rr {u:Value}{x:BX}{xT:TypeId}{a:Operand}(hu:x.cv=u)(h:Qt P n we X L B F (.load xT a) ty x.cv):Qt P n we X L B F (.load xT a) ty u:=hu▸h
theorem Lt {f:FuncId}{c:Operand}{xs:Array Operand}{ts:Array TypeId}{vs:List Value}{bnd cap:Array Value}{a:Act}{w:World}{dst:Option Nat}(ha:Fr n L a)(hargs:evs L xs.toList=some vs)(hc:ev L c=some (.func (.func f) bnd cap))
 (eg:∀args w,(callFunc f args).run P w = .ok (.enter f args) w):(execOp a.eval ⟨dst,.call { callee:= .value c,args:=xs,argTypes:=ts},ty,pos,dV,g⟩).run P w = .ok (.enter f (bnd.toList++vs++cap.toList).toArray) w:=by
 have hm:xs.map a.eval=vs.toArray:=by
  rw [<- ha.evs hargs,<- Array.toList_map]
 simp [execOp,resolve,ha.ev hc,Deferred.ofValue,invoke,hm,eg]
theorem s.Ny {β:Type}{f:FuncId}{c:Operand}{xs:Array Operand}{ts:Array TypeId}{vs:List Value}{bnd cap:Array Value}{B0 Br F0:List ag}(is js:List Nat)(G:β->Value)(B1 F1:β->List ag)(hp:bW B is=some (B0++Br))(ha':eP is=true)(hj:bW F js=some F0)
 (eg:∀args w,(callFunc f args).run P w = .ok (.enter f args) w) (hargs:evs L xs.toList=some vs) (hc:ev L c=some (.func (.func f) bnd cap))
 (hcall:∀w own,Wd we X B F w->Wd w (blks B0++own) (B0++[ag.held w own]) F0 w->Calls P f (bnd.toList++vs++cap.toList).toArray w fun e w' => ∃z,e = .returned (G z)/\Wd w (blks B0++own) (B1 z++[ag.held w own]) (F1 z) w') (hd:Nat.blt d n=true) :
 Stp P n we X L B F ⟨some d,.call { callee:= .value c,args:=xs,argTypes:=ts},ty,pos,dV,g⟩ (fun z=>(d,G z)::L) (fun z=>B1 z++Br) (fun z=>F1 z++F):=by
 intro K Q' a w ha hw hK
 have hw2:=hw.Lm is hp ha'
 unfold Oper.wp
 rw [Lt ha hargs hc eg,Oper.upon_enter]
 refine (hcall w (blks Br) hw (hw2.D6 hj)).mono fun e w' he=>?_
 obtain ⟨z,rfl,ht⟩:=he
 exact hK z _ _ (ha.put d _ hd) (hw2.after ht)
end
end
section
open Go.ChangeShapes Go.WideShapes Go.ChangeAt Go.RowKit Go.Deep
section
variable {H:Type} {enc:TypeId×Value->H} {w:World} {base:Nat} {spare:Nat->Bool} {held:Bool}
theorem Rs {m:Nat}{cs:List Value}{y:DataW H×List MemPlace}(hl:cs.length=1)(h:DataW.trod enc Tryz.prog w base spare held m 9 cs=some y):∃z:ByteArray,cs=Enc.cells z/\z.size<=maxLen:=by
 match cs,hl with
 | [c],_ =>
  obtain ⟨s,rfl,hs⟩:=U1 h
  exact ⟨s,rfl,hs⟩
theorem FM {r:Reach}{b0:Nat}{v:Value}{d:DataW H}{p:List MemPlace}(hv:Value.okWide Tryz.prog w r b0 61 v)(h:DataW.Trod enc Tryz.prog w base spare held 61 v d p):∃l:List ByteArray,Sl w v l /\ ∀z∈l,z.size<=maxLen:=by
 obtain ⟨a,len,cap,rfl⟩:=okWide_slice Tryz.underlying61 hv
 obtain ⟨m,hm⟩:=h
 exact open_list Tryz.underlying61 FK (fun z:ByteArray=>z.size<=maxLen) (fun _ _ _ hl hy=>Rs hl hy) hm
end
end
section
open Go Go.RowKit
class Y {α:Type}(a:α)(b:outParam α):Prop where
  h:a=b:=by kernel_rfl
class dK (P:Program)(f:FuncId):Prop where
  h:∀args w,(callFunc f args).run P w = .ok (.enter f args) w
end
section
open Go Go.RowKit
def U4 (md:Region.Mode)(o:Oper)(ls:Array Bool):Bool:=o.after.all fun e => !Region.binds md e||ls.getD e.on false
def qj (md:Region.Mode)(ops:Array Oper)(ls:Array Bool):Bool:=(List.range ops.size).all fun j => !(ls.getD j false)||((ops[j]?).map (U4 md · ls)).getD true
def FN (md:Region.Mode)(ops:Array Oper):Nat->Nat->Nat->Bool
  | 0,_,_=>false
  | f+1,j,i=>((ops[j]?).map fun o=>o.after.any fun e=>Region.binds md e&&(e.on==i||FN md ops f e.on i)).getD false
section
variable {P:Program} {ops:Array Oper} {Q:Exit->Act->World->Prop} {md:Region.Mode} {S:World->Prop} {T:Nat->Bool}
theorem wM {ls:Array Bool}(h:qj md ops ls=true){j:Nat}{o:Oper}(ho:ops[j]? = some o)(hj:ls.getD j false=true):U4 md o ls=true:=by
 have hlt:j<ops.size:=(Array.getElem?_eq_some_iff.1 ho).1
 have:=List.all_eq_true.1 h j (List.mem_range.2 hlt)
 grind
theorem ql {ls:Array Bool}(hc:qj md ops ls=true):∀ (f j i:Nat) (o:Oper),ops[j]? = some o->U4 md o ls=true->FN md ops f j i=true->ls.getD i false=true
 | 0,j,i,o,_,_,h=>by cases h
 | f+1,j,i,o,ho,hu,h=>by
  unfold FN at h
  rw [ho] at h
  simp only [Option.map_some,Option.getD_some,Array.any_eq_true'] at h
  obtain ⟨e,he,h⟩:=h
  simp only [Bool.and_eq_true,Bool.or_eq_true,beq_iff_eq] at h
  have hl:ls.getD e.on false=true:=by
   have:=Array.all_eq_true'.1 hu e he
   simpa [h.1] using this
  rcases h.2 with h2|h2
  .rw [<- h2];exact hl
  cases ho2:ops[e.on]? with
  | none=>cases f with
   | zero=>cases h2
   | succ f=>unfold FN at h2;rw [ho2] at h2;cases h2
  | some o2=>exact ql hc f e.on i o2 ho2 (wM hc ho2 hl) h2
theorem J3 {o:Oper}{ls:Array Bool}{j:Nat}(h:U4 md o ls=true):U4 md o (ls.setIfInBounds j true)=true:=by
 refine Array.all_eq_true'.2 fun e he=>?_
 have:=Array.all_eq_true'.1 h e he
 simp only [Bool.or_eq_true,Bool.not_eq_true'] at this ⊢
 grind [getD_set_true]
theorem IA {ls:Array Bool}(h:qj md ops ls=true){j:Nat}{o:Oper}(ho:ops[j]? = some o)(hu:U4 md o ls=true):qj md ops (ls.setIfInBounds j true)=true:=by
 refine List.all_eq_true.2 fun k hk=>?_
 have hlt:=List.mem_range.1 hk
 cases hl:(ls.setIfInBounds j true).getD k false with
 | false=>rfl
 | true =>
  have hok:ops[k]? = some ops[k]:=Array.getElem?_eq_getElem hlt
  rw [hok]
  simp only [Bool.not_true,Bool.false_or,Option.map_some,Option.getD_some]
  by_cases hj:j=k
  .grind [J3]
  have:ls.getD k false=true:=by
   simp_all
  grind [J3,wM]
def noT (T:Nat->Bool)(ls:Array Bool):Prop:= ∀j,T j=true->ls.getD j false=false
def pz (P:Program)(md:Region.Mode)(ops:Array Oper)(Q:Exit->Act->World->Prop)(S:World->Prop)(T:Nat->Bool):Nat->Array Bool->Act->World->Prop
  | 0,ls,a,w=>Region.ready md ops ls=[]/\Q .normal a w
  | fuel+1,ls,a,w =>
    (Region.ready md ops ls=[]->Q .normal a w) /\
    ∀i∈Region.ready md ops ls,wpOp P ops Q i (fun a' w'=>(noT T (ls.setIfInBounds i true)->S w')/\pz P md ops Q S T fuel (ls.setIfInBounds i true) a' w') a w
theorem zt:∀ (fuel:Nat) (ls:Array Bool) (a:Act) (w:World),pz P md ops Q S T fuel ls a w->wpAny P md ops Q fuel ls a w
 | 0,_,_,_,h=>h
 | fuel+1,_,_,_,h=>⟨h.1,fun i hi=>wpOp_mono (fun a' w' h'=>zt fuel _ a' w' h'.2) (h.2 i hi)⟩
theorem FP {ls:Array Bool}{j:Nat}(h:j∈Region.ready md ops ls):∃o,ops[j]? = some o/\U4 md o ls=true:=by
 unfold Region.ready at h
 obtain ⟨h1,h2⟩:=List.mem_filter.1 h
 simp only [Bool.and_eq_true] at h2
 cases ho:ops[j]? with
 | none=>grind
 | some o =>
  rw [ho] at h2
  have h3:=h2.2
  rw [Option.map_some,Option.getD_some] at h3
  exact ⟨o,rfl,h3⟩
theorem Ef {N i:Nat}{oi:Oper}{v:Value}(hi:ops[i]? = some oi)(hsel:∀ (j:Nat) (o:Oper) cs b,ops[j]? = some o->o.op ≠ .select cs b)
 (hQ:∀c a w,Q (.panic c) (a.put oi.dst v) w->Q (.panic c) a w) (hT:∀j,T j=true->FN md ops N j i=true) :
 ∀ (fuel:Nat) (listed:Array Bool) (a:Act) (w:World),qj md ops listed=true ->
  (∀j oj,ops[j]? = some oj->j≠i->listed.getD j true=false->(∀e∈oj.after,Region.binds md e=true->e.on≠i)->oi.apart ops oj=true) ->
  i∈Region.ready md ops listed->YieldsIf P ops S oi v a->S w ->
  pz P md ops Q S T fuel (listed.setIfInBounds i true) (a.put oi.dst v) w->pz P md ops Q S T (fuel+1) listed a w:=by
 intro fuel
 induction fuel with
 | zero =>
  intro listed a w _ _ hr hy hS H
  refine ⟨fun h=>az,fun j hj=>?_⟩
  by_cases hji:j=i
  .subst hji;exact hy.wpOp hi hS ⟨fun _=>hS,H⟩
  have:=ready_mono hj hji
  rw [H.1] at this
  grind
 | succ fuel ih =>
  intro listed a w hcl hfree hr hy hS H
  refine ⟨fun h=>az,fun j hj=>?_⟩
  by_cases hji:j=i
  .subst hji;exact hy.wpOp hi hS ⟨fun _=>hS,H⟩
  have h1:=H.2 j (ready_mono hj hji)
  obtain ⟨hjun,oj,hoj,hall⟩:=mem_ready.1 hj
  have hun:=(mem_ready.1 hr).1
  have hnl:listed.getD i false=false:=by
   grind
  obtain ⟨oj',aaI,huj⟩:=FP hj
  have hjT:¬ T j=true:=fun h=>by
   grind [ql]
  obtain ⟨oi',abV,hui⟩:=FP hr
  have hiT:¬ T i=true:=fun h=>by
   grind [ql]
  have hno:noT T ((listed.setIfInBounds i true).setIfInBounds j true):=fun k hk=>by
   have hki:i≠k:=fun e=>hiT (e▸hk)
   have hkj:j≠k:=fun e=>hjT (e▸hk)
   rw [Array.getD_eq_getD_getElem?,Array.getElem?_setIfInBounds_ne hkj,Array.getElem?_setIfInBounds_ne hki,<- Array.getD_eq_getD_getElem?]
   cases hl:listed.getD k false with
   | false=>rfl
   | true =>
    exfalso
    cases hok:ops[k]? with
    | none=>have:=hT k hk;cases N with
     | zero=>cases this
     | succ N=>grind [FN]
    | some ok =>
     grind [ql,wM]
  have hnot:∀e∈oj.after,Region.binds md e=true->e.on≠i:=fun e he hb heq=>by
   grind
  have h2:=wpOp_putIf hoj (hfree j oj hoj hji hjun hnot) (fun cs b=>hsel i oi cs b hi) (fun cs b=>hsel j oj cs b hoj) hQ hy h1
  have hfree':∀k ok,ops[k]? = some ok->k≠i->(listed.setIfInBounds j true).getD k true=false ->
   (∀e∈ok.after,Region.binds md e=true->e.on≠i)->oi.apart ops ok=true:=fun k ok hk hki hun hno=>by
   refine hfree k ok hk hki ?_ hno
   by_cases hjk:j=k
   .grind
   simp_all
  have aaJ:=IA hcl aaI huj
  refine wpOp_mono (fun a' w' h3=>⟨fun _=>h3.2.1 hno,ih (listed.setIfInBounds j true) a' w' aaJ hfree' (ready_mono hr (Ne.symm hji)) h3.1 (h3.2.1 hno) ?_⟩) h2
  grind [Array.setIfInBounds_comm]
theorem Eg {ls:Array Bool}{i:Nat}(hi:¬ T i=true):noT T (ls.setIfInBounds i true)↔noT T ls:=by
 have e:∀k,T k=true->(ls.setIfInBounds i true).getD k false=ls.getD k false:=fun k hk=>getD_set_ne false (fun e=>hi (e▸hk))
 exact ⟨fun h k hk=>(e k hk).symm.trans (h k hk),fun h k hk=>(e k hk).trans (h k hk)⟩
theorem BZ {i:Nat}{oi:Oper}{v:Value}(hi:ops[i]? = some oi)(hsel:∀ (j:Nat) (o:Oper) cs b,ops[j]? = some o->o.op ≠ .select cs b)
 (hQ:∀c a w,Q (.panic c) (a.put oi.dst v) w->Q (.panic c) a w) (hiT:¬ T i=true) :
 ∀ (fuel:Nat) (listed:Array Bool) (a:Act) (w:World),
  (∀j oj,ops[j]? = some oj->j≠i->listed.getD j true=false->(∀e∈oj.after,Region.binds md e=true->e.on≠i)->oi.apart ops oj=true) ->
  i∈Region.ready md ops listed->YieldsIf P ops (fun _=>True) oi v a->(noT T listed->S w) ->
  pz P md ops Q S T fuel (listed.setIfInBounds i true) (a.put oi.dst v) w->pz P md ops Q S T (fuel+1) listed a w:=by
 intro fuel
 induction fuel with
 | zero =>
  intro listed a w _ hr hy hS H
  refine ⟨fun h=>az,fun j hj=>?_⟩
  by_cases hji:j=i
  .subst hji;exact hy.wpOp hi trivial ⟨fun h=>hS ((Eg hiT).1 h),H⟩
  have:=ready_mono hj hji
  rw [H.1] at this
  grind
 | succ fuel ih =>
  intro listed a w hfree hr hy hS H
  refine ⟨fun h=>az,fun j hj=>?_⟩
  by_cases hji:j=i
  .subst hji;exact hy.wpOp hi trivial ⟨fun h=>hS ((Eg hiT).1 h),H⟩
  have h1:=H.2 j (ready_mono hj hji)
  obtain ⟨hjun,oj,hoj,hall⟩:=mem_ready.1 hj
  have hun:=(mem_ready.1 hr).1
  have hnot:∀e∈oj.after,Region.binds md e=true->e.on≠i:=fun e he hb heq=>by
   grind
  have h2:=wpOp_putIf hoj (hfree j oj hoj hji hjun hnot) (fun cs b=>hsel i oi cs b hi) (fun cs b=>hsel j oj cs b hoj) hQ hy h1
  have hfree':∀k ok,ops[k]? = some ok->k≠i->(listed.setIfInBounds j true).getD k true=false ->
   (∀e∈ok.after,Region.binds md e=true->e.on≠i)->oi.apart ops ok=true:=fun k ok hk hki hun hno=>by
   refine hfree k ok hk hki ?_ hno
   by_cases hjk:j=k
   .grind
   simp_all
  refine wpOp_mono (fun a' w' h3=>?_) h2
  have hS':noT T (listed.setIfInBounds j true)->S w':=fun h=>h3.2.1 (by rw [Array.setIfInBounds_comm _ _ (Ne.symm hji)];grind [Eg])
  refine ⟨hS',ih (listed.setIfInBounds j true) a' w' hfree' (ready_mono hr (Ne.symm hji)) h3.1 hS' ?_⟩
  grind [Array.setIfInBounds_comm]
theorem FQ {N i:Nat}{oi:Oper}{v:Value}{fuel:Nat}{listed:Array Bool}{a:Act}{w:World}(hi:ops[i]? = some oi)
 (hs:Region.noSelect ops=true) (hf:Region.free md ops listed i=true) (hr:(Region.ready md ops listed).contains i=true) (hcl:qj md ops listed=true) (hT:∀j,T j=true->FN md ops N j i=true)
 (hQ:∀c a w,Q (.panic c) (a.put oi.dst v) w->Q (.panic c) a w) (hy:YieldsIf P ops S oi v a) (hS:S w)
 (h:pz P md ops Q S T fuel (listed.setIfInBounds i true) (a.put oi.dst v) w):pz P md ops Q S T (fuel+1) listed a w :=
 Ef hi (Region.noSelect_spec hs) hQ hT fuel listed a w hcl (Region.free_spec hi hf) az hy hS h
end
section
variable {P:Program} {n:Nat} {we:World} {X:List Nat} {Q:Exit->Act->World->Prop} {k k':List It} {L:Fm} {B F:List ag} {ops rest:List Oper}
variable {dst:Option Nat} {d:Nat} {op:Op} {ty:TypeId} {pos:String} {dV:Array Edge} {g:Option (Nat×Bool)} {v:Value}
def Eh (l:List Nat)(j:Nat):Bool:=l.any (Nat.beq j)
def Kg (S:World->Prop)(T:List Nat)(P:Program)(n:Nat)(we:World)(X:List Nat)(Q:Exit->Act->World->Prop)(ops:List Oper)(fuel:Nat)(ls:Array Bool)(k:List It)(L:Fm)(B F:List ag):Prop :=
  ∀a w,Fr n L a->Wd we X B F w->pz P .any ops.toArray (NoPanic (rJ P Q k)) S (Eh T) fuel ls a w
def Ko (S:World->Prop)(T:List Nat)(P:Program)(n:Nat)(we:World)(X:List Nat)(Q:Exit->Act->World->Prop)(ops:List Oper)(i:Nat)(o:Oper)(fuel:Nat)(ls:Array Bool)(k:List It)(L:Fm)(B F:List ag):Prop :=
  ops[i]? = some o -> ∀a w,Fr n L a->Wd we X B F w->wpOp P ops.toArray (NoPanic (rJ P Q k)) i (fun a' w'=>(noT (Eh T) (ls.setIfInBounds i true)->S w')/\pz P .any ops.toArray (NoPanic (rJ P Q k)) S (Eh T) fuel (ls.setIfInBounds i true) a' w') a w
variable {S:World->Prop} {T:List Nat} {i j fuel:Nat} {ls ls':Array Bool} {o:Oper}
theorem R.aaK {id:Nat}(S:World->Prop)(T:List Nat)(h:norm 200 k = .c (.region id ops.toArray true)::k')(hm:P.follows .mixedOrders=true)(hl:ops.length=fuel)(hr:Kg S T P n we X Q ops fuel (Array.replicate fuel false) k' L B F):Run P n we X Q k L B F:=by
 intro a w ha hw
 refine dr 200 (h ▸ ?_)
 refine wp_region_noPanic (wp_region_any hm (zt (S:=S) (T:=Eh T) _ _ _ _ ?_))
 have:=hr a _ ha (hw.grow (np.draw w))
 grind
theorem R.aaL {id:Nat}{B1:List ag}(is:List Nat)(T:List Nat)(hB:bW B is=some B1)(h:norm 200 k = .c (.region id ops.toArray true)::k')(hm:P.follows .mixedOrders=true)(hl:ops.length=fuel)(hr:Kg (Wd we X B1 F) T P n we X Q ops fuel (Array.replicate fuel false) k' L B F):Run P n we X Q k L B F :=
 R.aaK (Wd we X B1 F) T h hm hl hr
theorem K.done (h:Run P n we X Q k L B F)(h0:Region.ready .any ops.toArray ls=[]:=by kernel_rfl):Kg S T P n we X Q ops fuel ls k L B F :=
 fun a w ha hw=>by
  cases fuel with
  | zero=>exact ⟨h0,NoPanic.normal (h a w ha hw)⟩
  | succ f=>exact ⟨fun _=>NoPanic.normal (h a w ha hw),az⟩
theorem Nz {T:List Nat}{p:Nat->Bool}(h:T.all p=true):∀j,Eh T j=true->p j=true:=fun j hj=>by
 grind [Eh,List.any_eq_true,Nat.eq_of_beq_eq_true,List.all_eq_true]
theorem K.q (hi:ops[i]? = some ⟨some d,op,ty,pos,dV,g⟩)(hS:∀w,Wd we X B F w->S w)(hg:gd ops L g=some true)
 (hq:∀dst pos dV g a w,Fr n L a->S w->(execOp a.eval ⟨dst,op,ty,pos,dV,g⟩).run P w = .ok (.value v) w) (hd:Nat.blt d n=true) (h:Kg S T P n we X Q ops fuel (ls.setIfInBounds i true) k ((d,v)::L) B F) (hfr:(Region.noSelect ops.toArray&&Region.free .any ops.toArray ls i&&(Region.ready .any ops.toArray ls).contains i&&qj .any ops.toArray ls&&T.all (fun j=>FN .any ops.toArray 40 j i))=true:=by kernel_rfl):Kg S T P n we X Q ops (fuel+1) ls k L B F:=by
 intro a w ha hw
 simp only [Bool.and_eq_true] at hfr
 obtain ⟨⟨⟨⟨h1,h2⟩,h3⟩,h4⟩,h5⟩:=hfr
 exact FQ (N:=40) az h1 h2 h3 h4 (Nz h5) (fun _ _ _ h=>h) (.inl ⟨eR (o:=⟨some d,op,ty,pos,dV,g⟩) ha hg,fun w hw=>hq _ _ _ _ a w ha hw⟩) (hS w hw) (h _ w (ha.put d v hd) hw)
theorem K.p (hi:ops[i]? = some ⟨some d,op,ty,pos,dV,g⟩)(hS:T.any (fun t=>ls.getD t false)=true ∨ ∀w,Wd we X B F w->S w)(hg:gd ops L g=some true)
 (hq:∀w,Qt P n w [] L [] [] op ty v) (hd:Nat.blt d n=true) (h:Kg S T P n we X Q ops fuel (ls.setIfInBounds i true) k ((d,v)::L) B F) (hfr:(Region.noSelect ops.toArray&&Region.free .any ops.toArray ls i&&(Region.ready .any ops.toArray ls).contains i && !Eh T i)=true:=by kernel_rfl):Kg S T P n we X Q ops (fuel+1) ls k L B F:=by
 intro a w ha hw
 simp only [Bool.and_eq_true,Bool.not_eq_true'] at hfr
 obtain ⟨⟨⟨h1,h2⟩,h3⟩,h4⟩:=hfr
 have hi':ops.toArray[i]? = some ⟨some d,op,ty,pos,dV,g⟩:=az
 exact BZ hi' (Region.noSelect_spec h1) (fun _ _ _ h=>h) az fuel ls a w (Region.free_spec hi' h2) az
  (.inl ⟨eR (o:=⟨some d,op,ty,pos,dV,g⟩) ha hg,fun w _=>hq w _ _ _ _ a w ha (Wd.start w [])⟩) (fun hno=>hS.elim (fun hT=>by
   obtain ⟨t,ht,e⟩:=List.any_eq_true.1 hT
   have:=hno t (List.any_eq_true.2 ⟨t,ht,Nat.beq_refl t⟩)
   grind) fun h=>h w hw) (h _ w (ha.put d v hd) hw)
theorem K.one (hi:ops[i]? = some o)(h:Ko S T P n we X Q ops i o fuel ls k L B F)(h0:Region.ready .any ops.toArray ls=[i]:=by kernel_rfl):Kg S T P n we X Q ops (fuel+1) ls k L B F :=
 fun a w ha hw=>⟨fun h1=>az,fun j hj=>by
  rw [h0] at hj;rw [List.mem_singleton.1 hj];exact h hi a w ha hw⟩
theorem Ko.s {β:Type}{L':β->Fm}{B' F':β->List ag}(hs:Stp P n we X L B F o L' B' F')(hS:Eh T i=true∨(∀z w,Wd we X (B' z) (F' z) w->S w))(hT:Eh T i=true->Nat.blt i ls.size=true)(hg:gd ops L o.guard=some true)
 (h:∀z,Kg S T P n we X Q ops fuel (ls.setIfInBounds i true) k (L' z) (B' z) (F' z)):Ko S T P n we X Q ops i o fuel ls k L B F:=by
 intro hi a w ha hw
 unfold wpOp
 have:ops.toArray[i]? = some o:=az
 rw [this]
 simp only []
 rw [if_pos (eR (o:=o) ha hg)]
 refine .inl (hs _ _ a w ha hw fun z a w ha hw=>⟨fun hno=>?_,h z a w ha hw⟩)
 rcases hS with hS|hS
 .
  have h1:=hno i hS
  simp_all
 grind
end
end
section
open Go Go.RowKit
theorem Uq.NA {p:Prop}(h:p:=by first|exact (rfl:_=[_])|exact (rfl:_=[_,_])|exact (rfl:_=[_,_,_])|exact (rfl:_=[_,_,_,_])|exact (rfl:_=[_,_,_,_,_])|exact (rfl:_=[_,_,_,_,_,_])|exact (rfl:_=[_,_,_,_,_,_,_])|exact (rfl:_=[_,_,_,_,_,_,_,_,_,_,_])):p:=h
class HB (B:List ag)(b:Nat)(cs:outParam (List Value))(t:outParam TypeId):Prop where
  h:ag.box b cs t∈B
instance HB.s {B:List ag}{b:Nat}{cs:List Value}{t:TypeId}{r:ag}[h:HB B b cs t]:HB (r::B) b cs t:=⟨.tail _ h.h⟩
instance HB.z {B:List ag}{b:Nat}{cs:List Value}{t:TypeId}:HB (ag.box b cs t::B) b cs t:=⟨.head _⟩
class HX (B:List ag)(b:Nat)(cs:outParam (List Value))(t:outParam TypeId)(K:outParam (ag->List ag)):Prop where
  h:∃i,B[i]? = some (ag.box b cs t) /\ ∀r,B.set i r=K r
instance HX.s {B:List ag}{b:Nat}{cs:List Value}{t:TypeId}{K:ag->List ag}{q:ag}[h:HX B b cs t K]:HX (q::B) b cs t (fun r=>q::K r) :=
  ⟨h.h.elim fun i h=>⟨i+1,by simpa using h.1,fun r=>by simp [h.2]⟩⟩
instance HX.z {B:List ag}{b:Nat}{cs:List Value}{t:TypeId}:HX (ag.box b cs t::B) b cs t (fun r=>r::B):=⟨0,rfl,fun _=>rfl⟩
theorem Lu {B:List ag}{b:Nat}{cs:List Value}{t:TypeId}(i:Nat)(h:B[i]? = some (ag.box b cs t)):HX B b cs t (fun r=>B.set i r):=⟨i,h,fun _=>rfl⟩
theorem XG {p:Prop}(h:p:=by first|exact inferInstance|exact Lu 0 rfl|exact Lu 1 rfl|exact Lu 2 rfl|exact Lu 3 rfl|exact Lu 4 rfl|exact Lu 5 rfl|exact Lu 6 rfl|exact Lu 7 rfl|exact Lu 8 rfl|exact Lu 9 rfl|exact Lu 10 rfl|exact Lu 11 rfl|exact Lu 12 rfl):p:=h
class HS (B F:List ag)(v:Value)(α:outParam Type)(i:outParam (Enc α))(l:outParam (List α)):Prop where
  h:(∃e,ag.row e v l∈B)∨ag.ls v l∈F
section
variable {B F:List ag} {v:Value} {α:Type} [i:Enc α] {l:List α} {r:ag} {e:TypeId}
instance HS.fs [h:HS [] F v α i l]:HS [] (r::F) v α i l:=⟨h.h.imp (fun ⟨_,h⟩=>by cases h) (.tail _)⟩
instance HS.f:HS [] (ag.ls v l::F) v α i l:=⟨.inr (.head _)⟩
instance HS.bs [h:HS B F v α i l]:HS (r::B) F v α i l:=⟨h.h.imp (fun ⟨e,h⟩=>⟨e,.tail _ h⟩) id⟩
instance HS.b:HS (ag.row e v l::B) F v α i l:=⟨.inl ⟨e,.head _⟩⟩
theorem HS.sl [h:HS B F v α i l]{we:World}{X:List Nat}(w:World)(hw:Wd we X B F w):Sl w v l :=
 h.h.elim (fun ⟨_,h⟩=>Own.sl (hw.okB _ h)) (fun h=>hw.okF _ h)
end
section
variable {P:Program} {n:Nat} {we:World} {X:List Nat} {Q:Exit->Act->World->Prop} {k k':List It} {L:Fm} {B F:List ag} {ops rest:List Oper}
variable {dst:Option Nat} {d:Nat} {op:Op} {ty:TypeId} {pos:String} {dV:Array Edge} {g:Option (Nat×Bool)} {v:Value}
variable {x y:Operand} {xT yT e t:TypeId} {kd:IntKind} {b o m i j:Nat} {cs ds:List Value} {u:Value}
theorem R.yy (hg:gd ops L g=some true)(hq:Qt P n we X L B F op ty v)(hd:Nat.blt d n=true)(h:Rg P n we X Q ops rest k ((d,v)::L) B F):Rg P n we X Q ops (⟨some d,op,ty,pos,dV,g⟩::rest) k L B F:=by
 intro a w ha hw
 refine wpList_step fun K hK=>?_
 rw [if_pos (eR (o:=⟨some d,op,ty,pos,dV,g⟩) ha hg)]
 unfold Oper.wp
 rw [hq _ _ _ _ a w ha hw,Oper.upon_value]
 exact hK _ _ (h _ w (ha.put d v hd) hw)
theorem R.kc {f:FuncId}{c:Operand}{xs:Array Operand}{ts:Array TypeId}{vs:List Value}{cap:Array Value}[eg:dK P f](hc:ev L c=some (.func (.func f) #[] cap))(hargs:evs L xs.toList=some vs)
 (hcall:∀w,Wd we X B F w->Calls P f (vs++cap.toList).toArray w fun e w'=>e = .returned u/\Ext w w') (h:Rg P n we X Q ops rest k ((d,u)::L) B F) (hg:gd ops L g=some true:=by exact rfl) (hd:Nat.blt d n=true:=by exact rfl) :
 Rg P n we X Q ops (⟨some d,.call { callee:= .value c,args:=xs,argTypes:=ts},ty,pos,dV,g⟩::rest) k L B F:=R.s hg (s.c (q.call eg.h hargs hc hcall) hd) fun _=>h
theorem R.sk (hg:gd ops L g=some false)(hd:Nat.blt d n=true)(h:Rg P n we X Q ops rest k ((d,undef)::L) B F):Rg P n we X Q ops (⟨some d,op,ty,pos,dV,g⟩::rest) k L B F:=by
 intro a w ha hw
 refine wpList_step fun K hK=>?_
 rw [if_neg (by rw [eR (o:=⟨some d,op,ty,pos,dV,g⟩) ha hg];simp)]
 exact hK _ _ (h _ w (ha.put d undef hd) hw)
theorem Q.yy (hg:gd ops L g=some true)(hq:Qt P n we X L B F op ty v)(hd:Nat.blt d n=true)(h:Rq P n we X Q ops rest k ((d,v)::L) B F):Rq P n we X Q ops (⟨some d,op,ty,pos,dV,g⟩::rest) k L B F:=by
 intro a ha
 refine wpQuiet_step fun K hK=>?_
 rw [if_pos (eR (o:=⟨some d,op,ty,pos,dV,g⟩) ha hg)]
 exact ⟨v,fun w hw=>by unfold Oper.quietAt;rw [hq _ _ _ _ a w ha hw];exact ⟨rfl,rfl⟩,hK _ (h _ (ha.put d v hd))⟩
theorem Q.sk (hg:gd ops L g=some false)(hd:Nat.blt d n=true)(h:Rq P n we X Q ops rest k ((d,undef)::L) B F):Rq P n we X Q ops (⟨some d,op,ty,pos,dV,g⟩::rest) k L B F:=by
 intro a ha
 refine wpQuiet_step fun K hK=>?_
 rw [if_neg (by rw [eR (o:=⟨some d,op,ty,pos,dV,g⟩) ha hg];simp)]
 exact hK _ (h _ (ha.put d undef hd))
def Dm (is:List Nat)(B1 F1:List ag)(P:Program)(n:Nat)(we:World)(X:List Nat)(Q:Exit->Act->World->Prop)(ops:List Oper)(fuel:Nat)(ls:Array Bool)(k:List It)(L:Fm)(B F:List ag):Prop :=
  (∀w,Wd we X B F w->Wd we X B1 F1 w)->Dg (Wd we X B1 F1) P n we X Q ops fuel ls k L B F
variable {is bs fs:List Nat} {B1 F1:List ag} {fuel:Nat} {ls:Array Bool}
theorem D.l (is bs fs:List Nat)(hS:(bW B bs,bW F fs,eP bs)=(some B1,some F1,true))(h:Dm is B1 F1 P n we X Q ops fuel ls k L B F):Dg (Wd we X B1 F1) P n we X Q ops fuel ls k L B F :=
 h fun _=>Wd.pk bs fs hS
theorem Dm.nil (h:Dg (Wd we X B1 F1) P n we X Q ops fuel ls k L B F):Dm [] B1 F1 P n we X Q ops fuel ls k L B F:=fun _=>h
theorem Dm.yy (hi:ops[i]? = some ⟨some d,op,ty,pos,dV,g⟩)(hg:gd ops L g=some true)(hq:Qt P n we X L B1 F1 op ty v)(hd:Nat.blt d n=true)(h:Dm is B1 F1 P n we X Q ops fuel (ls.setIfInBounds i true) k ((d,v)::L) B F)(hfr:(Region.noSelect ops.toArray&&Region.free .any ops.toArray ls i&&(Region.ready .any ops.toArray ls).contains i)=true:=by kernel_rfl):Dm (i::is) B1 F1 P n we X Q ops (fuel+1) ls k L B F :=
 fun hS=>D.q hi hS hg hq hd (h hS) hfr
theorem Dm.sk (hi:ops[i]? = some ⟨some d,op,ty,pos,dV,g⟩)(hg:gd ops L g=some false)(hd:Nat.blt d n=true)(h:Dm is B1 F1 P n we X Q ops fuel (ls.setIfInBounds i true) k ((d,undef)::L) B F)(hfr:(Region.noSelect ops.toArray&&Region.free .any ops.toArray ls i&&(Region.ready .any ops.toArray ls).contains i)=true:=by kernel_rfl):Dm (i::is) B1 F1 P n we X Q ops (fuel+1) ls k L B F :=
 fun hS=>D.skip hi hS hg hd (h hS) hfr
theorem Lv {B:List ag}{b:Nat}{cs:List Value}{t:TypeId}(i:Nat)(h:B[i]? = some (ag.box b cs t)):HB B b cs t:=⟨List.mem_of_getElem? h⟩
theorem hsI {B F:List ag}{v:Value}{α:Type}{i:Enc α}{l:List α}{e:TypeId}(j:Nat)(h:B[j]? = some (ag.row e v l)):HS B F v α i l:=⟨.inl ⟨e,List.mem_of_getElem? h⟩⟩
theorem hsJ {B F:List ag}{v:Value}{α:Type}{i:Enc α}{l:List α}(j:Nat)(h:F[j]? = some (ag.ls v l)):HS B F v α i l:=⟨.inr (List.mem_of_getElem? h)⟩
theorem Yq {p:Prop}(h:p:=by first|exact inferInstance|exact Lv 0 rfl|exact Lv 1 rfl|exact Lv 2 rfl|exact Lv 3 rfl|exact Lv 4 rfl|exact Lv 5 rfl|exact Lv 6 rfl|exact Lv 7 rfl|exact Lv 8 rfl|exact Lv 9 rfl|exact Lv 10 rfl|exact Lv 11 rfl|exact Lv 12 rfl):p:=h
theorem HSx {p:Prop}(h:p:=by first|exact inferInstance|exact hsI 0 rfl|exact hsI 1 rfl|exact hsI 2 rfl|exact hsI 3 rfl|exact hsI 4 rfl|exact hsI 5 rfl|exact hsI 6 rfl|exact hsI 7 rfl|exact hsJ 0 rfl|exact hsJ 1 rfl|exact hsJ 2 rfl|exact hsJ 3 rfl|exact hsJ 4 rfl|exact hsJ 5 rfl|exact hsJ 6 rfl|exact hsJ 7 rfl|exact hsJ 8 rfl|exact hsJ 9 rfl|exact hsJ 10 rfl|exact hsJ 11 rfl|exact hsJ 12 rfl|exact hsJ 13 rfl):p:=h
theorem Dm.yz (hi:ops[i]? = some ⟨some d,op,ty,pos,dV,g⟩)(hg:gd ops L g=some true)(hq:Qt P n we X L B1 F1 op ty v)(hd:Nat.blt d n=true)(hfr:(Region.noSelect ops.toArray&&Region.free .any ops.toArray ls i&&(Region.ready .any ops.toArray ls).contains i)=true)(h:Dm is B1 F1 P n we X Q ops fuel (ls.setIfInBounds i true) k ((d,v)::L) B F):Dm (i::is) B1 F1 P n we X Q ops (fuel+1) ls k L B F:=Dm.yy hi hg hq hd h hfr
theorem Dm.sz (hi:ops[i]? = some ⟨some d,op,ty,pos,dV,g⟩)(hg:gd ops L g=some false)(hd:Nat.blt d n=true)(hfr:(Region.noSelect ops.toArray&&Region.free .any ops.toArray ls i&&(Region.ready .any ops.toArray ls).contains i)=true)(h:Dm is B1 F1 P n we X Q ops fuel (ls.setIfInBounds i true) k ((d,undef)::L) B F):Dm (i::is) B1 F1 P n we X Q ops (fuel+1) ls k L B F:=Dm.sk hi hg hd h hfr
theorem Qt.raw (h:Qt P n we X L B F op ty v):∀dst pos dV g a w,Fr n L a->Wd we X B F w->(execOp a.eval ⟨dst,op,ty,pos,dV,g⟩).run P w = .ok (.value v) w:=h
theorem M9 {p:Prop}(h:p:=by first|exact fun _=>HS.sl _|exact fun _=>Wd.row 0 rfl|exact fun _=>Wd.row 1 rfl|exact fun _=>Wd.row 2 rfl|exact fun _=>Wd.row 3 rfl|exact fun _=>Wd.row 4 rfl|exact fun _=>Wd.row 5 rfl|exact fun _=>Wd.row 6 rfl|exact fun _=>Wd.row 7 rfl|exact fun _=>Wd.cy 0 rfl|exact fun _=>Wd.cy 1 rfl|exact fun _=>Wd.cy 2 rfl|exact fun _=>Wd.cy 3 rfl|exact fun _=>Wd.cy 4 rfl|exact fun _=>Wd.cy 5 rfl|exact fun _=>Wd.cy 6 rfl|exact fun _=>Wd.cy 7 rfl|exact fun _=>Wd.cy 8 rfl|exact fun _=>Wd.cy 9 rfl|exact fun _=>Wd.cy 10 rfl|exact fun _=>Wd.cy 11 rfl|exact fun _=>Wd.cy 12 rfl|exact fun _=>Wd.old (by assumption)):p:=h
theorem HB.at {w:World}[h:HB B b cs t](hw:Wd we X B F w)(j:Nat)(u:Value)(hu:cs[j]? = some u):w.cell? ⟨b,j,none⟩=some u:=by
 have h:=uq (hw.okB _ h.h) j u hu
 rwa [Nat.zero_add] at h
theorem Uq.ld (hx:ev L x=some (.pointer (some ⟨b,o,none⟩)))(hb:HB B b cs t)(ht:fJ P xT=true)(hu:cs[o]? = some u):Qt P n we X L B F (.load xT x) ty u:=fun _ _ _ _ a w ha hw=>by
 simp [execOp,ha.ev hx,mo (P:=P) w ht (HB.at hw o u hu)]
theorem Uq.X3 (hx:ev L x=some (.pointer (some ⟨b,o,none⟩)))(hb:HB B b cs t)(ht:jU P xT=some m)(h0:(o==0&&m==cs.length)=true):Qt P n we X L B F (.load xT x) ty (.agg cs.toArray):=fun _ _ _ _ a w ha hw=>by
 obtain ⟨h1,h2⟩:o=0/\m=cs.length:=by simpa using h0
 subst h1;subst h2
 have h:At w b 0 cs:=fun j u hu=>HB.at hw (0+j) u (by simpa using hu)
 simp [execOp,ha.ev hx,kR (P:=P) w ht h]
theorem Uq.Rc (hx:ev L x=some (.pointer (some ⟨b,o,none⟩)))(hb:HB B b cs t)(ht:jU P xT=some m)(hd:(cs.drop o).take m=ds)(hm:ds.length=m):Qt P n we X L B F (.load xT x) ty (.agg ds.toArray):=fun _ _ _ _ a w ha hw=>by
 have h:At w b o ds:=fun j u hu=>HB.at hw (o+j) u (by
  rw [<- hd,List.getElem?_take] at hu
  split at hu
  .simpa [List.getElem?_drop] using hu
  cases hu)
 subst hm
 simp [execOp,ha.ev hx,kR (P:=P) w ht h]
theorem Uq.len {α:Type}{i:Enc α}{l:List α}(hx:ev L x=some v)(hs:HS B F v α i l)(ht:P.underlying xT=some (.slice e)):Qt P n we X L B F (.call { callee:= .builtin .len,args:= #[x],argTypes:= #[xT]}) ty (.int .i64 l.length):=q.len' (fun _=>HS.sl _) hx ht
theorem Uq.aaM {α:Type}{i:Enc α}{l:List α}(hx:ev L x=some v)(hs:Sl we v l)(ht:P.underlying xT=some (.slice e)):Qt P n we [] L B F (.call { callee:= .builtin .len,args:= #[x],argTypes:= #[xT]}) ty (.int .i64 l.length):=q.len' (fun _=>Wd.old hs) hx ht
theorem Uq.ext {vs:List Value}(hx:ev L x=some (.tuple vs.toArray))(hv:vs[i]? = some v):Qt P n we X L B F (.extract x i) ty v:=q.ext hx (by simpa using hv)
theorem Uq.aaN {a:Addr}{pT:TypeId}(hx:ev L x=some (.pointer (some a)))(hy:ev L y=some (.pointer none))(ht:P.underlying xT=some (.pointer pT)):Qt P n we X L B F (.binOp .eql xT x y yT) ty (.bool false):=q.Yk hx hy ht
theorem Uq.aaO {pT:TypeId}(hx:ev L x=some (.pointer none))(hy:ev L y=some (.pointer none))(ht:P.underlying xT=some (.pointer pT)):Qt P n we X L B F (.binOp .eql xT x y yT) ty (.bool true):=q.Yk hx hy ht
theorem Uq.aaP {a:Addr}{pT:TypeId}(hx:ev L x=some (.pointer (some a)))(hy:ev L y=some (.pointer none))(ht:P.underlying xT=some (.pointer pT)):Qt P n we X L B F (.binOp .neq xT x y yT) ty (.bool true):=q.Yl hx hy ht
theorem Uq.aaQ {pT:TypeId}(hx:ev L x=some (.pointer none))(hy:ev L y=some (.pointer none))(ht:P.underlying xT=some (.pointer pT)):Qt P n we X L B F (.binOp .neq xT x y yT) ty (.bool false):=q.Yl hx hy ht
section
variable {α:Type} {ι:Enc α} {l:List α} {z:α} {kk off:Nat} {mm ll:Int}
theorem Uq.idx (hx:ev L x=some v)(hs:∀w,Wd we X B F w->Sl w v l)(hy:ev L y=some (.int kd mm))(hm:mm=(j:Int))(hi:l[j]? = some z)(ht:nL P xT=some (e,kk))(hk:kk=Enc.k α):Qt P n we X L B F (.indexAddr xT x y) ty (ep v j (Enc.k α) 0):=q.idx hs hx hy (hk▸ht) hm hi
theorem Uq.Nk {f:Nat}(hx:ev L x=some (ep v i kk j))(hs:∀w,Wd we X B F w->Sl w v l)(hi:l[i]? = some z)(ht:dW P xT f=some off):Qt P n we X L B F (.fieldAddr xT x f) ty (ep v i kk (j+off)):=q.Nk hs hi hx ht rfl
theorem Uq.Rf (hx:ev L x=some (ep v i kk j))(hs:∀w,Wd we X B F w->Sl w v l)(hi:l[i]? = some z)(ht:fJ P xT=true)(hk:kk=Enc.k α)(hu:(Enc.cells z)[j]? = some u):Qt P n we X L B F (.load xT x) ty u:=q.Rf hs hi (hk▸hx) ht hu
theorem Uq.Nl (hx:ev L x=some (ep v i kk j))(hs:∀w,Wd we X B F w->Sl w v l)(hi:l[i]? = some z)(ht:jU P xT=some m)(hk:kk=Enc.k α)(hd:((Enc.cells z).drop j).take m=ds)(hm:ds.length=m):Qt P n we X L B F (.load xT x) ty (.agg ds.toArray):=by
 subst hm;exact q.Nl hs hi (hk▸hx) ht hd
theorem Uq.addN {a c:Nat}(hx:ev L x=some (.int .i64 (a:Int)))(hy:ev L y=some (.int .i64 (c:Int)))(h:a+c<=9223372036854775807):Qt P n we X L B F (.binOp .add xT x y yT) ty (.int .i64 ((a+c:Nat):Int)):=q.add hx hy (wr ae)
theorem Uq.cQ {a c:Nat}(hx:ev L x=some (.int .i64 (a:Int)))(hy:ev L y=some (.int .i64 (@OfNat.ofNat Int c instOfNat)))(h:a+(@OfNat.ofNat Nat c (instOfNatNat c))<=9223372036854775807):Qt P n we X L B F (.binOp .add xT x y yT) ty (.int .i64 ((a+(@OfNat.ofNat Nat c (instOfNatNat c)):Nat):Int)):=Uq.addN hx hy h
theorem Uq.lu {a c:Nat}(hx:ev L x=some (.int .i64 (@OfNat.ofNat Int c instOfNat)))(hy:ev L y=some (.int .i64 (a:Int)))(h:(@OfNat.ofNat Nat c (instOfNatNat c))+a<=9223372036854775807):Qt P n we X L B F (.binOp .add xT x y yT) ty (.int .i64 (((@OfNat.ofNat Nat c (instOfNatNat c))+a:Nat):Int)):=Uq.addN hx hy h
theorem Uq.aaR (hx:ev L x=some (.int .i64 mm))(hy:ev L y=some (.int .i64 ll))(h : -9223372036854775808<=mm+ll/\mm+ll<=9223372036854775807):Qt P n we X L B F (.binOp .add xT x y yT) ty (.int .i64 (mm+ll)):=q.add hx hy (wr ⟨rfl,h⟩)
end
theorem Us.st {us cs':List Value}{K:ag->List ag}(hg:gd ops L g=some true)(hx:ev L x=some (.pointer (some ⟨b,o,none⟩)))(hb:HX B b cs t K)(hy:ev L y=some u)(hu:u.cells=us.toArray)(ht:fJ P xT=true/\us.length=1∨jU P xT=some us.length)(hone:us.all (·.oneCell')=true)(hl:Nat.ble (o+us.length) cs.length=true)(hcs:cs.take o++us++cs.drop (o+us.length)=cs')
 (h:Rg P n we X Q ops rest k L (K (ag.box b cs' t)) F):Rg P n we X Q ops (⟨none,.store xT x y,ty,pos,dV,g⟩::rest) k L B F:=by
 obtain ⟨i,h1,h2⟩:=hb.h
 exact R.s hg (s.st i _ h1 hx hy hu ht.symm hone hcs hl (h2 _)) fun _=>h
theorem SLy {α:Type}{ι:Enc α}{l:List α}{w:World}(hw:Wd we X B F w)(h:∀w,Wd we X B F w->Sl w v l:=by exact M9):Sl w v l:=h w hw
theorem OX {p:Prop}(h:p:=by intro w hw;(repeat first|exact cd|refine bD rfl ?_|refine bD (Sl.one (SLy hw)) ?_)):p:=h
theorem Us.stS {α:Type}{ι:Enc α}{l:List α}{cs':List Value}{K:ag->List ag}(hg:gd ops L g=some true)(hx:ev L x=some (.pointer (some ⟨b,o,none⟩)))(hb:HX B b cs t K)(hy:ev L y=some v)(hs:∀w,Wd we X B F w->Sl w v l)(ht:fJ P xT=true)(hl:Nat.ble (o+1) cs.length=true)(hcs:cs.take o++[v]++cs.drop (o+1)=cs')
 (h:Rg P n we X Q ops rest k L (K (ag.box b cs' t)) F):Rg P n we X Q ops (⟨none,.store xT x y,ty,pos,dV,g⟩::rest) k L B F:=by
 obtain ⟨i,h1,h2⟩:=hb.h
 exact R.s hg (s.lq i _ h1 hx hy (fun w hw=>Sl.cL (hs w hw)) (.inr ⟨ht,rfl⟩) (fun w hw=>bD (Sl.one (hs w hw)) cd) hcs hl (h2 _)) fun _=>h
theorem Us.stG {us cs':List Value}{K:ag->List ag}(hg:gd ops L g=some true)(hx:ev L x=some (.pointer (some ⟨b,o,none⟩)))(hb:HX B b cs t K)(hy:ev L y=some (.agg us.toArray))(ht:jU P xT=some m)(hm:m=us.length)(hone:∀w,Wd we X B F w -> ∀q∈us,q.oneCell'=true)(hl:Nat.ble (o+us.length) cs.length=true)(hcs:cs.take o++us++cs.drop (o+us.length)=cs')
 (h:Rg P n we X Q ops rest k L (K (ag.box b cs' t)) F):Rg P n we X Q ops (⟨none,.store xT x y,ty,pos,dV,g⟩::rest) k L B F:=by
 obtain ⟨i,h1,h2⟩:=hb.h
 exact R.s hg (s.lq i _ h1 hx hy (fun _ _=>rfl) (.inl (hm▸ht)) hone hcs hl (h2 _)) fun _=>h
theorem RV.cS {p:Nat}{t':TypeId}(h:lk L p=some (.pointer (some ⟨b,0,none⟩)))(hb:HB B b cs t')(ht:jU P t=some m)(hm:m=cs.length):RV P n we X L B F (.cell p t) (.agg cs.toArray):=by
 obtain ⟨i,hi⟩:=List.mem_iff_getElem?.1 hb.h
 exact RV.cell i hi h (hm▸ht)
theorem RV.c1 {p:Nat}{t':TypeId}(h:lk L p=some (.pointer (some ⟨b,o,none⟩)))(hb:HB B b cs t')(ht:fJ P t=true)(hu:cs[o]? = some u):RV P n we X L B F (.cell p t) u:=by
 obtain ⟨i,hi⟩:=List.mem_iff_getElem?.1 hb.h
 exact RV.cell1 i hi h ht hu
theorem QZ {p:Prop}(h:p:=by first|exact RV.tmp rfl|(apply RV.cS;exact rfl;exact Yq;exact Y.h;exact rfl)|(apply RV.c1;exact rfl;exact Yq;exact Y.h;exact rfl)):p:=h
theorem Uq.aaS (hx:ev L x=some v)(h:v = .bool true):Qt P n we X L B F (.unOp .not xT x) ty (.bool false):=q.not (h▸hx)
theorem Uq.aaT (hx:ev L x=some v)(h:v = .bool false):Qt P n we X L B F (.unOp .not xT x) ty (.bool true):=q.not (h▸hx)
theorem Uq.Nh {c:Operand}{v':Value}(hc:ev L c=some v')(h:v' = .bool true)(hx:ev L x=some v):Qt P n we X L B F (.pick c x y) ty v:=q.Nh (h▸hc) hx
theorem Uq.Ni {c:Operand}{v':Value}(hc:ev L c=some v')(h:v' = .bool false)(hx:ev L y=some v):Qt P n we X L B F (.pick c x y) ty v:=q.Ni (h▸hc) hx
theorem R.cT {c:Operand}{x y:Code}(h:norm 200 k = .c (.cond c x y)::k')(hc:ev L c=some v)(h':v = .bool true)(hr:Run P n we X Q (.c x::k') L B F):Run P n we X Q k L B F:=R.pE h (h'▸hc) hr
theorem R.cF {c:Operand}{x y:Code}(h:norm 200 k = .c (.cond c x y)::k')(hc:ev L c=some v)(h':v = .bool false)(hr:Run P n we X Q (.c y::k') L B F):Run P n we X Q k L B F:=R.rO h (h'▸hc) hr
end
theorem bnT:Value.bool (!true) = .bool false:=rfl
theorem bnF:Value.bool (!false) = .bool true:=rfl
theorem TT {p:Prop}(h:p:=by with_reducible first|exact rfl|exact bnT|exact bnF):p:=h
theorem QQ {p:Prop}(h:p:=by first
 | (apply q.mv;exact rfl)
 | (apply q.as;exact rfl)
 | (apply q.xI;exact rfl;exact Y.h;exact rfl)
 | (apply Uq.ld;exact rfl;exact Yq;exact Y.h;exact rfl)
 | (apply Uq.ext;exact rfl;exact rfl)
 | (apply Uq.Nh;exact rfl;exact TT;exact rfl)
 | (apply Uq.Ni;exact rfl;exact TT;exact rfl)
 | (apply Uq.len;exact rfl;exact HSx;exact Y.h)
 | (apply q.X2;exact rfl;exact Y.h)
 | (apply Uq.aaM;exact rfl;assumption;exact Y.h)
 | (apply q.len;exact rfl;exact Y.h)
 | (apply q.JX;exact rfl;exact rfl;exact Y.h;omega)
 | (apply q.FH;exact rfl;exact rfl;exact Y.h;omega)
 | (apply q.Nq;exact rfl;exact rfl;exact Y.h;omega)
 | (apply q.JY;exact rfl;exact rfl;exact Y.h;omega)
 | (apply q.UW;exact rfl;exact rfl;assumption)
 | (apply q.Rb;exact rfl;exact rfl;assumption)
 | (apply q.UW;exact rfl;exact rfl;omega)
 | (apply q.Rb;exact rfl;exact rfl;omega)
 | (apply q.XY;exact rfl;exact rfl;assumption)
 | (apply q.XZ;exact rfl;exact rfl;assumption)
 | (apply q.XY;exact rfl;exact rfl;omega)
 | (apply q.XZ;exact rfl;exact rfl;omega)
 | (apply q.X0;exact rfl;exact rfl;assumption)
 | (apply q.X1;exact rfl;exact rfl;assumption)
 | (apply q.X0;exact rfl;exact rfl;omega)
 | (apply q.X1;exact rfl;exact rfl;omega)
 | (apply q.XU;exact rfl;exact rfl;assumption)
 | (apply q.XV;exact rfl;exact rfl;assumption)
 | (apply q.XU;exact rfl;exact rfl;omega)
 | (apply q.XV;exact rfl;exact rfl;omega)
 | (apply q.XS;exact rfl;exact rfl;assumption)
 | (apply q.XT;exact rfl;exact rfl;assumption)
 | (apply q.XS;exact rfl;exact rfl;omega)
 | (apply q.XT;exact rfl;exact rfl;omega)
 | (apply q.XW;exact rfl;exact rfl;assumption)
 | (apply q.XX;exact rfl;exact rfl;assumption)
 | (apply q.XW;exact rfl;exact rfl;omega)
 | (apply q.XX;exact rfl;exact rfl;omega)
 | (apply Uq.idx;exact rfl;exact M9;exact rfl;exact rfl;assumption;exact Y.h;exact rfl)
 | (apply Uq.Rf;exact rfl;exact M9;assumption;exact Y.h;exact rfl;exact rfl)
 | (apply Uq.Nl;exact rfl;exact M9;assumption;exact Y.h;exact rfl;exact Uq.NA;exact rfl)
 | (apply Uq.Nk;exact rfl;exact M9;assumption;exact Y.h)
 | (apply Uq.cQ;exact rfl;exact rfl;omega)
 | (apply Uq.lu;exact rfl;exact rfl;omega)
 | (apply Uq.addN;exact rfl;exact rfl;omega)
 | (apply Uq.aaR;exact rfl;exact rfl;omega)
 | (apply Uq.X3;exact rfl;exact Yq;exact Y.h;exact rfl)
 | (apply Uq.Rc;exact rfl;exact Yq;exact Y.h;exact Uq.NA;exact rfl)
 | (apply Uq.aaN;exact rfl;exact rfl;exact Y.h)
 | (apply Uq.aaO;exact rfl;exact rfl;exact Y.h)
 | (apply Uq.aaP;exact rfl;exact rfl;exact Y.h)
 | (apply Uq.aaQ;exact rfl;exact rfl;exact Y.h)
 | (apply Uq.aaS;exact rfl;exact TT)
 | (apply Uq.aaT;exact rfl;exact TT)
 | (apply q.Nn;exact rfl;exact rfl;exact Y.h)
 | (apply q.Np;exact rfl;exact rfl;exact Y.h)
 | (apply q.TI;exact rfl;exact rfl;exact Y.h)
 | (apply q.TJ;exact rfl;exact rfl;exact Y.h)
 | (apply q.field;exact rfl;exact Y.h;exact rfl)
 | (apply q.UY;exact rfl;exact Y.h;exact Uq.NA)
 | (apply q.build;exact Y.h;exact rfl;exact rfl)
 | (apply q.iface;exact rfl;exact Y.h)
 | (apply q.wJ;exact rfl)):p:=h
structure Uz (S:Prop):Prop where
  un:S
theorem U {G S:Prop}(k:S)(h:Uz S->G:=by
 intro h
 (repeat first
  | (apply R.yy;exact rfl;exact QQ;exact rfl)
  | apply R.nil
  | (apply R.reg;exact rfl)
  | (apply R.cT;exact rfl;exact rfl;exact TT)
  | (apply R.cF;exact rfl;exact rfl;exact TT)
  | (apply R.sk;exact rfl;exact rfl)
  | (apply Us.st;exact rfl;exact rfl;exact XG;exact rfl;exact rfl;(first|exact .inl ⟨Y.h,rfl⟩ | exact .inr Y.h);exact rfl;exact rfl;exact Uq.NA)
  | (apply Us.stS;exact rfl;exact rfl;exact XG;exact rfl;exact M9;exact Y.h;exact rfl;exact Uq.NA)
  | (apply Us.stG;exact rfl;exact rfl;exact XG;exact rfl;exact Y.h;exact rfl;exact OX;exact rfl;exact Uq.NA)
  | (apply Dm.yz;exact rfl;exact rfl;exact QQ;exact rfl;kernel_rfl)
  | apply Dm.nil
  | (apply Dm.sz;exact rfl;exact rfl;exact rfl;kernel_rfl)
  | (apply Q.yy;exact rfl;exact QQ;exact rfl)
  | apply Q.nil
  | (apply Q.sk;exact rfl;exact rfl))
 exact h.un):G:=h ⟨k⟩
theorem V {G S:Prop}(k:S)(h:Uz S->G:=by
 intro h
 (repeat first
  | (apply R.yy;exact rfl;exact QQ;exact rfl)
  | apply R.nil
  | (apply R.cT;exact rfl;exact rfl;exact TT)
  | (apply R.cF;exact rfl;exact rfl;exact TT)
  | (apply R.sk;exact rfl;exact rfl)
  | (apply Us.st;exact rfl;exact rfl;exact XG;exact rfl;exact rfl;(first|exact .inl ⟨Y.h,rfl⟩ | exact .inr Y.h);exact rfl;exact rfl;exact Uq.NA)
  | (apply Us.stS;exact rfl;exact rfl;exact XG;exact rfl;exact M9;exact Y.h;exact rfl;exact Uq.NA)
  | (apply Us.stG;exact rfl;exact rfl;exact XG;exact rfl;exact Y.h;exact rfl;exact OX;exact rfl;exact Uq.NA)
  | (apply Dm.yz;exact rfl;exact rfl;exact QQ;exact rfl;kernel_rfl)
  | apply Dm.nil
  | (apply Dm.sz;exact rfl;exact rfl;exact rfl;kernel_rfl)
  | (apply Q.yy;exact rfl;exact QQ;exact rfl)
  | apply Q.nil
  | (apply Q.sk;exact rfl;exact rfl))
 exact h.un):G:=h ⟨k⟩
theorem R.nb {G:Prop}{S:Nat->Prop}(k:∀b,S b)(h:(∀b,Uz (S b))->G:=by
 intro h
 first
  | (refine R.s rfl (s.alloc Y.h rfl rfl) fun b=>?_;exact U (h b).un)
  | (refine R.s rfl (s.box rfl rfl rfl) fun b=>?_;exact U (h b).un)):G:=h fun b=>⟨k b⟩
theorem Yr {P:Program}{t e:TypeId}{α:Type}{ι:Enc α}{kk bytes:Nat}{l:Option (TypeId×Nat)}(hs:nL P t=some (e,kk))(hk:kk=Enc.k α)(h:nP P t kk=some (e,bytes)):nP P t (Enc.k α)=some (e,bytes):=hk▸h
theorem R.ap {G:Prop}{S:Value->Prop}(k:∀b,S b)(h:(∀b,Uz (S b))->G:=by
 intro h
 first
  | (refine R.s rfl (s.app 0 _ rfl rfl rfl M9 (Yr (l:=none) Y.h rfl Y.h) (by first|omega|(simp;done)|(simp;omega)) (by first|omega|(simp;done)|(simp;omega)) (fun _=>rfl) rfl) fun b=>?_;exact U (h b).un)
  | (refine R.s rfl (s.app 1 _ rfl rfl rfl M9 (Yr (l:=none) Y.h rfl Y.h) (by first|omega|(simp;done)|(simp;omega)) (by first|omega|(simp;done)|(simp;omega)) (fun _=>rfl) rfl) fun b=>?_;exact U (h b).un)
  | (refine R.s rfl (s.app 2 _ rfl rfl rfl M9 (Yr (l:=none) Y.h rfl Y.h) (by first|omega|(simp;done)|(simp;omega)) (by first|omega|(simp;done)|(simp;omega)) (fun _=>rfl) rfl) fun b=>?_;exact U (h b).un)
  | (refine R.s rfl (s.app 3 _ rfl rfl rfl M9 (Yr (l:=none) Y.h rfl Y.h) (by first|omega|(simp;done)|(simp;omega)) (by first|omega|(simp;done)|(simp;omega)) (fun _=>rfl) rfl) fun b=>?_;exact U (h b).un)
  | (refine R.s rfl (s.app 4 _ rfl rfl rfl M9 (Yr (l:=none) Y.h rfl Y.h) (by first|omega|(simp;done)|(simp;omega)) (by first|omega|(simp;done)|(simp;omega)) (fun _=>rfl) rfl) fun b=>?_;exact U (h b).un)):G:=h fun b=>⟨k b⟩
theorem C {G S S':Prop}(p:Prop)(k1:p->S)(k2:¬ p->S')(h1:p->Uz S->G:=by intro _ h;exact U h.un)(h2:¬ p->Uz S'->G:=by intro _ h;exact U h.un):G:=by
 by_cases hp:p
 .exact h1 hp ⟨k1 hp⟩
 exact h2 hp ⟨k2 hp⟩
theorem mR {p:Prop}(h:p:=by
 (repeat first
  | rewrite [if_pos (by first|assumption|omega)] | rewrite [if_neg (by first|assumption|omega)]
  | rewrite [if_pos (by simp_all;done)] | rewrite [if_neg (by simp_all;done)])
 rfl):p:=h
section
variable {P:Program} {n:Nat} {we:World} {X:List Nat} {k k':List It} {L:Fm} {B F:List ag} {fn:Func} {β:Type} {B1 F1:β->List ag} {V:β->Value} {r1 r2 r3 r4:ResultVar} {v1 v2 v3 v4 W:Value}
theorem eV {p:Prop}(h:p:=by first|exact rfl|exact vo rfl|exact rC (by decide) rfl):p:=h
theorem R.x0 (z:β)(is js:List Nat)(hr:fn.results = #[]:=by exact rfl)(h:norm 200 k=[] ∨ ∃k',norm 200 k = .c .ret::k':=by first|exact .inl rfl|exact .inr ⟨_,rfl⟩)(hp:bW B is=some (B1 z):=by exact rfl)(ha:eP is=true:=by exact rfl)(hj:bW F js=some (F1 z):=by exact rfl)(e:V z = .tuple #[]:=by exact rfl):Run P n we X (bodyPost P fn fun en w' => ∃z,en = .returned (V z)/\Wd we X (B1 z) (F1 z) w') k L B F:=R.w0 z is js h hr hp ha hj e
theorem R.x1 (z:β)(is js:List Nat)(hr:fn.results = #[r1]:=by exact rfl)(h:norm 200 k = .c .ret::k':=by exact rfl)(h1:RV P n we X L B F r1 v1:=by exact QZ)(hp:bW B is=some (B1 z):=by exact rfl)(ha:eP is=true:=by exact rfl)(hj:bW F js=some (F1 z):=by exact rfl)(e:v1=V z:=by exact eV):Run P n we X (bodyPost P fn fun en w' => ∃z,en = .returned (V z)/\Wd we X (B1 z) (F1 z) w') k L B F:=R.w1 z is js h hr h1 hp ha hj e
theorem R.x2 (z:β)(is js:List Nat)(hr:fn.results = #[r1,r2]:=by exact rfl)(h:norm 200 k = .c .ret::k':=by exact rfl)(h1:RV P n we X L B F r1 v1:=by exact QZ)(h2:RV P n we X L B F r2 v2:=by exact QZ)(hp:bW B is=some (B1 z):=by exact rfl)(ha:eP is=true:=by exact rfl)(hj:bW F js=some (F1 z):=by exact rfl)(e : .tuple #[v1,v2]=V z:=by first|exact rfl|exact X5 eV eV):Run P n we X (bodyPost P fn fun en w' => ∃z,en = .returned (V z)/\Wd we X (B1 z) (F1 z) w') k L B F:=R.w2 z is js h hr h1 h2 hp ha hj e
theorem R.x3 (z:β)(is js:List Nat)(hr:fn.results = #[r1,r2,r3]:=by exact rfl)(h:norm 200 k = .c .ret::k':=by exact rfl)(h1:RV P n we X L B F r1 v1:=by exact QZ)(h2:RV P n we X L B F r2 v2:=by exact QZ)(h3:RV P n we X L B F r3 v3:=by exact QZ)(hp:bW B is=some (B1 z):=by exact rfl)(ha:eP is=true:=by exact rfl)(hj:bW F js=some (F1 z):=by exact rfl)(e : .tuple #[v1,v2,v3]=V z:=by first|exact rfl|exact aaw eV eV eV):Run P n we X (bodyPost P fn fun en w' => ∃z,en = .returned (V z)/\Wd we X (B1 z) (F1 z) w') k L B F:=R.w3 z is js h hr h1 h2 h3 hp ha hj e
theorem R.x4 (z:β)(is js:List Nat)(hr:fn.results = #[r1,r2,r3,r4]:=by exact rfl)(h:norm 200 k = .c .ret::k':=by exact rfl)(h1:RV P n we X L B F r1 v1:=by exact QZ)(h2:RV P n we X L B F r2 v2:=by exact QZ)(h3:RV P n we X L B F r3 v3:=by exact QZ)(h4:RV P n we X L B F r4 v4:=by exact QZ)(hp:bW B is=some (B1 z):=by exact rfl)(ha:eP is=true:=by exact rfl)(hj:bW F js=some (F1 z):=by exact rfl)(e : .tuple #[v1,v2,v3,v4]=V z:=by first|exact rfl|exact aax eV eV eV eV):Run P n we X (bodyPost P fn fun en w' => ∃z,en = .returned (V z)/\Wd we X (B1 z) (F1 z) w') k L B F:=R.w4 z is js h hr h1 h2 h3 h4 hp ha hj e
end
theorem Do.p {P:Program}{n:Nat}{we:World}{X:List Nat}{Q:Exit->Act->World->Prop}{ops:List Oper}{i fuel:Nat}{o:Oper}{ls:Array Bool}{k:List It}{L:Fm}{B F:List ag}{β:Type}{L':β->Fm}{B' F':β->List ag}{B1 F1:List ag}(bs fs:List Nat)(hs:Stp P n we X L B F o L' B' F')(h:∀z,Dg (Wd we X B1 F1) P n we X Q ops fuel (ls.setIfInBounds i true) k (L' z) (B' z) (F' z))(hS:∀z,(bW (B' z) bs,bW (F' z) fs,eP bs)=(some B1,some F1,true):=by exact fun _=>rfl)(hg:gd ops L o.guard=some true:=by exact rfl):Do (Wd we X B1 F1) P n we X Q ops i o fuel ls k L B F:=Do.s hs (fun z w hw=>Wd.pk bs fs (hS z) hw) hg h
theorem D.p {P:Program}{n:Nat}{we:World}{X:List Nat}{Q:Exit->Act->World->Prop}{ops:List Oper}{fuel:Nat}{o:Oper}{ls:Array Bool}{k:List It}{L:Fm}{B F:List ag}{β:Type}{L':β->Fm}{B' F':β->List ag}{B1 F1:List ag}(i:Nat)(hi:ops[i]? = some o)(bs fs:List Nat)(hs:Stp P n we X L B F o L' B' F')(h:∀z,Dg (Wd we X B1 F1) P n we X Q ops fuel (ls.setIfInBounds i true) k (L' z) (B' z) (F' z))(hS:∀z,(bW (B' z) bs,bW (F' z) fs,eP bs)=(some B1,some F1,true):=by exact fun _=>rfl)(hg:gd ops L o.guard=some true:=by exact rfl)(h0:Region.ready .any ops.toArray ls=[i]:=by kernel_rfl):Dg (Wd we X B1 F1) P n we X Q ops (fuel+1) ls k L B F:=D.one hi (Do.p bs fs hs h hS hg) h0
theorem D.k {P:Program}{n d:Nat}{op:Op}{ty:TypeId}{pos:String}{dV:Array Edge}{v:Value}{g:Option (Nat×Bool)}{we:World}{X:List Nat}{Q:Exit->Act->World->Prop}{ops:List Oper}{fuel:Nat}{ls:Array Bool}{k:List It}{L:Fm}{B F B1 F1:List ag}(i:Nat)(hi:ops[i]? = some ⟨some d,op,ty,pos,dV,g⟩)(bs fs:List Nat)(hq:Qt P n we X L B F op ty v)(h:Dg (Wd we X B1 F1) P n we X Q ops fuel (ls.setIfInBounds i true) k ((d,v)::L) B F)(hd:Nat.blt d n=true:=by exact rfl)(hS:(bW B bs,bW F fs,eP bs)=(some B1,some F1,true):=by exact rfl)(hg:gd ops L g=some true:=by exact rfl)(h0:Region.ready .any ops.toArray ls=[i]:=by kernel_rfl):Dg (Wd we X B1 F1) P n we X Q ops (fuel+1) ls k L B F:=D.p i hi bs fs (s.c (Qt.a hq) hd) (fun _=>h) (fun _=>hS) hg h0
theorem Do.k {P:Program}{n d:Nat}{op:Op}{ty:TypeId}{pos:String}{dV:Array Edge}{v:Value}{g:Option (Nat×Bool)}{we:World}{X:List Nat}{Q:Exit->Act->World->Prop}{ops:List Oper}{i fuel:Nat}{ls:Array Bool}{k:List It}{L:Fm}{B F B1 F1:List ag}(bs fs:List Nat)(hq:Qt P n we X L B F op ty v)(h:Dg (Wd we X B1 F1) P n we X Q ops fuel (ls.setIfInBounds i true) k ((d,v)::L) B F)(hd:Nat.blt d n=true:=by exact rfl)(hS:(bW B bs,bW F fs,eP bs)=(some B1,some F1,true):=by exact rfl)(hg:gd ops L g=some true:=by exact rfl):Do (Wd we X B1 F1) P n we X Q ops i ⟨some d,op,ty,pos,dV,g⟩ fuel ls k L B F:=Do.p bs fs (s.c (Qt.a hq) hd) (fun _=>h) (fun _=>hS) hg
theorem R.rt {G S:Prop}(k:S)(h:Uz S->G:=by
 intro h
 apply R.rv;exact rfl;exact rfl;exact rfl
 first|exact rI h.un|exact rB h.un|exact rS h.un|exact rE h.un|exact vo h.un|exact rC (by decide) h.un):G:=h ⟨k⟩
theorem R.eN {A G S:Prop}(H:A)(k:S)(h:A->Uz S->G:=by
 intro H h
 (first|refine R.wL _ Y.h rfl rfl rfl Uq.NA H ?_|refine R.wL _ Y.h rfl rfl rfl rfl H ?_)
 exact U h.un):G:=h H ⟨k⟩
theorem R.eV {G S:Prop}(k:S)(h:Uz S->G:=by
 intro h
 (first|refine R.enter [] _ Y.h rfl rfl rfl Uq.NA ?_|refine R.enter [] _ Y.h rfl rfl rfl rfl ?_)
 exact U h.un):G:=h ⟨k⟩
end
end Go.Proofs.YtnmpibjlnninjaaGreatDoor
