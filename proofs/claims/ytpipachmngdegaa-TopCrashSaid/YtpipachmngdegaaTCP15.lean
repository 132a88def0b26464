import Derived.Test.YtpipachmngdegaaTCP13
import Derived.Test.YtpipachmngdegaaTCP14
section
namespace Go.Proofs.Ytpipachmngdegaa
open Go Go.RowKit
set_option linter.unusedVariables false
set_option linter.unusedSimpArgs false
def j2 (v:Value):Value:=match v with | .slice a n c => .slice a n c|_ => .slice none 0 0
theorem sI (v:Value):(j2 v).oneCell'=true:=by unfold j2;split <;> rfl
theorem Sl.j2 {α:Type}[Enc α]{w:World}{v:Value}{l:List α}(h:Sl w v l):Ytpipachmngdegaa.j2 v=v:=by
  obtain ⟨A,c,rfl,_⟩:=h;rfl
structure bS where
  v0:Value
  L:List Change
abbrev bS.cv (x:bS):Value:=j2 x.v0
instance:Enc bS:=⟨1,fun x=>[x.cv],fun _=>rfl,fun x u hu=>by rw [List.mem_singleton.1 hu];exact sI _,by decide⟩
abbrev bS.val (x:bS):Value:=x.cv
def ah.cw (l:List bS):ah:=⟨l.flatMap (fun x=>(ah.ls x.cv x.L).blk),fun w => ∀x∈l,Sl w x.cv x.L,fun w w' h hs x hx=>(ah.ls x.cv x.L).loc w w' (fun k hk=>h k (List.mem_flatMap.2 ⟨x,hx,hk⟩)) (hs x hx)⟩
def ah.i5 (l:List bS)(E:List (List Change)):ah:=⟨(ah.cw l).blk,fun w=>(ah.cw l).ok w∧l.map bS.L=E,fun w w' h hs=>⟨(ah.cw l).loc w w' h hs.1,hs.2⟩⟩
theorem uw {l:List bS}{x:bS}(hx:x∈l):∀k∈(ah.ls x.cv x.L).blk,k∈(ah.cw l).blk:=fun k hk=>List.mem_flatMap.2 ⟨x,hx,hk⟩
theorem qx {w:World}{l:List bS}(h:∀x∈l,Sl w x.cv x.L):∀k∈(ah.cw l).blk,k<w.heap.size:=fun k hk=>by
  obtain ⟨x,hx,hk⟩:=List.mem_flatMap.1 hk
  exact vk (h x hx) k hk
section
variable {P:Program} {n:Nat} {we w:World} {X:List Nat} {B F:List ah} {l:List bS} {x:bS} {v:Value} {L:List Change} {Q:Exit→Act→World→Prop} {k:List It} {ops:List Oper} {rest:List (List Oper)}
theorem Wd.cw (i:Nat)(h:F[i]? = some (ah.cw l))(hw:Wd we X B F w):∀x∈l,Sl w x.cv x.L:=hw.f i h
theorem Wd.vU (i:Nat)(h:F[i]? = some (ah.cw l))(hx:x∈l)(hw:Wd we X B F w):Sl w x.cv x.L:=hw.f i h x hx
theorem Wd.xn (hw:Wd we X B F w):Wd we X B (ah.cw []::F) w:=hw.fact (r:=ah.cw []) (fun x hx=>by cases hx) (fun k hk=>by cases hk)
theorem Wd.ux (i j:Nat)(hi:F[i]? = some (ah.cw l))(hj:F[j]? = some (ah.ls v L))(hw:Wd we X B F w):Wd we X B (ah.cw (l++[⟨v,L⟩])::F) w:=by
  have h1:∀x∈l,Sl w x.cv x.L:=hw.f i hi
  have h2:Sl w v L:=hw.bZ j hj
  refine hw.fact (r:=ah.cw (l++[⟨v,L⟩])) (fun x hx=>?_) (fun k hk=>?_)
  ·
    rcases List.mem_append.1 hx with hx|hx
    · exact h1 x hx
    · rw [List.mem_singleton.1 hx];show Sl w (j2 v) L;rw [h2.j2];exact h2
  ·
    obtain ⟨x,hx,hk⟩:=List.mem_flatMap.1 hk
    rcases List.mem_append.1 hx with hx|hx
    · exact hw.gI k (aZ.2 ⟨_,List.mem_of_getElem? hi,List.mem_flatMap.2 ⟨x,hx,hk⟩⟩)
    ·
      rw [List.mem_singleton.1 hx] at hk
      have hk':k∈(ah.ls v L).blk:=by
        have:(bS.mk v L).cv=v:=h2.j2
        rw [this] at hk;exact hk
      exact hw.gI k (aZ.2 ⟨_,List.mem_of_getElem? hj,hk'⟩)
theorem Wd.nM (i:Nat)(hi:F[i]? = some (ah.cw l))(hw:Wd we X B F w):Wd we X B (ah.i5 l (l.map bS.L)::F) w :=
  hw.fact (r:=ah.i5 l (l.map bS.L)) ⟨hw.f i hi,rfl⟩ (fun k hk=>hw.gI k (aZ.2 ⟨_,List.mem_of_getElem? hi,hk⟩))
theorem Wd.pI (i:Nat)(hi:F[i]? = some (ah.cw l))(hx:x∈l)(hw:Wd we X B F w):Wd we X B (ah.ls x.cv x.L::F) w :=
  hw.xe i _ _ hi (uw hx) (hw.vU i hi hx)
theorem Wd.nO {E:List (List Change)}(i:Nat)(F':List ah)(hi:F[i]? = some (ah.i5 l E))(hF:ah.cw l::F.eraseIdx i=F')(hw:Wd we X B F w):Wd we X B F' w∧l.map bS.L=E:=by
  subst hF
  have h:=hw.f i hi
  refine ⟨?_,h.2⟩
  have h1:=hw.fact (r:=ah.cw l) h.1 (fun k hk=>hw.gI k (aZ.2 ⟨_,List.mem_of_getElem? hi,hk⟩))
  refine ⟨h1.upd,h1.okB,fun r hr=>?_,h1.sep,h1.own,fun k hk=>?_⟩
  ·
    rcases List.mem_cons.1 hr with rfl|hr
    · exact h.1
    · exact hw.okF r ((List.eraseIdx_sublist F i).subset hr)
  ·
    obtain ⟨r,hr,hk⟩:=aZ.1 hk
    rcases List.mem_cons.1 hr with rfl|hr
    · exact hw.gI k (aZ.2 ⟨_,List.mem_of_getElem? hi,hk⟩)
    · exact hw.gI k (aZ.2 ⟨r,(List.eraseIdx_sublist F i).subset hr,hk⟩)
theorem R.vV {L':Fm}{E:List (List Change)}(i:Nat)(F':List ah)(hi:F[i]? = some (ah.i5 l E))(hF:ah.cw l::F.eraseIdx i=F')(h:l.map bS.L=E→Run P n we X Q k L' B F'):Run P n we X Q k L' B F :=
  fun a w ha hw=>h (hw.nO i F' hi hF).2 a w ha (hw.nO i F' hi hF).1
theorem Rg.vV {L':Fm}{E:List (List Change)}{rs:List Oper}(i:Nat)(F':List ah)(hi:F[i]? = some (ah.i5 l E))(hF:ah.cw l::F.eraseIdx i=F')(h:l.map bS.L=E→Rg P n we X Q ops rs k L' B F'):Rg P n we X Q ops rs k L' B F :=
  fun a w ha hw=>h (hw.nO i F' hi hF).2 a w ha (hw.nO i F' hi hF).1
end
section
variable {P:Program} {n:Nat} {we:World} {X:List Nat} {L:Fm} {B F:List ah} {d:Nat} {ty:TypeId} {pos:String} {cx:Array Edge} {g:Option (Nat×Bool)}
theorem s.zJ {α:Type}[Enc α]{m:Nat}{parts:Array (Nat×Operand)}{t e:TypeId}{l:List α}{vs:List Value}{z:Value}(ht:jS P t=some (e,Enc.k α))(hz:eE P e=some z)(hzs:z.cells.size=Enc.k α)(hm:l.length=m)(hsmall:Nat.blt (m*Enc.k α) 16777216=true)
    (hp:evs L (parts.toList.map (·.2))=some vs) (hi:parts.toList.map (·.1)=List.range' 0 m) (hv:∀w,Wd we X B F w→vs.map (fun v=>v.cells.toList)=l.map Enc.cells) (hd:Nat.blt d n=true) :
    Stp P n we X L B F ⟨some d,.buildSlice t m parts,ty,pos,cx,g⟩ (fun b:Nat=>(d,.slice (some ⟨b,0,none⟩) m m)::L) (fun b=>ah.row e (.slice (some ⟨b,0,none⟩) m m) l::B) (fun _=>F) :=
  fun K Q' a w ha hw hK=>s.bs ht hz hzs hm hsmall hp hi (hv w hw) hd K Q' a w ha hw hK
theorem rA {w:World}{v:Value}{L:List Change}(h:Sl w v L) : [v].map (fun v=>v.cells.toList)=[(⟨v,L⟩:bS)].map Enc.cells:=by
  show [v.cells.toList]=[[j2 v]]
  rw [h.j2,h.pH]
theorem q.xo {fn:FuncId}{fs cs:Array Operand}{bnd cap:List Value}(hb:evs L fs.toList=some bnd)(hc:evs L cs.toList=some cap):Qt P n we X L B F (.makeFunc (.func fn) fs cs) ty (.func (.func fn) bnd.toArray cap.toArray):=fun _ _ _ _ a w ha hw=>by
  have hm:cs.map a.eval=cap.toArray:=by rw [← ha.evs hc,← Array.toList_map]
  have hn:fs.map a.eval=bnd.toArray:=by rw [← ha.evs hb,← Array.toList_map]
  simp [execOp,Instr.makeFunc,hm,hn]
theorem q.min {kd:IntKind}{x y:Operand}{a b r:Int}{ts:Array TypeId}(hx:ev L x=some (.int kd a))(hy:ev L y=some (.int kd b))(hr:min a b=r):Qt P n we X L B F (.call { callee:= .builtin .min,args:= #[x,y],argTypes:=ts }) ty (.int kd r):=fun _ _ _ _ q w ha hw=>by
  have e:(if b<a then b else a)=r:=by rw [← hr];split <;> omega
  simp [execOp,resolve,invoke,builtin,ha.ev hx,ha.ev hy,Builtin.min_,Builtin.min2,e]
theorem wM {k:IntKind}{a b:Int}(h:a=b):Value.int k a = .int k b:=by rw [h]
structure eJ where
  f:Fn
  b:Array Value
  c:Array Value
abbrev eJ.cv (x:eJ):Value:= .func x.f x.b x.c
instance:Enc eJ:=⟨1,fun x=>[x.cv],fun _=>rfl,fun x u hu=>by rw [List.mem_singleton.1 hu];rfl,by decide⟩
theorem q.uy {u:Value}{x:eJ}{xT:TypeId}{a:Operand}(hu:x.cv=u)(h:Qt P n we X L B F (.load xT a) ty x.cv):Qt P n we X L B F (.load xT a) ty u:=hu▸h
theorem rC {f:FuncId}{c:Operand}{xs:Array Operand}{ts:Array TypeId}{vs:List Value}{bnd cap:Array Value}{a:Act}{w:World}{dst:Option Nat}(ha:Fr n L a)(hargs:evs L xs.toList=some vs)(hc:ev L c=some (.func (.func f) bnd cap))
    (eg:∀args w,(callFunc f args).run P w = .ok (.enter f args) w):(execOp a.eval ⟨dst,.call { callee:= .value c,args:=xs,argTypes:=ts },ty,pos,cx,g⟩).run P w = .ok (.enter f (bnd.toList++vs++cap.toList).toArray) w:=by
  have hm:xs.map a.eval=vs.toArray:=by
    rw [← ha.evs hargs,← Array.toList_map]
  simp [execOp,resolve,ha.ev hc,Deferred.ofValue,invoke,hm,eg]
theorem s.sJ {β:Type}{f:FuncId}{c:Operand}{xs:Array Operand}{ts:Array TypeId}{vs:List Value}{bnd cap:Array Value}{B0 Br F0:List ah}(is js:List Nat)(G:β→Value)(B1 F1:β→List ah)(hp:cb B is=some (B0++Br))(ha':eL is=true)(hj:cb F js=some F0)
    (eg:∀args w,(callFunc f args).run P w = .ok (.enter f args) w) (hargs:evs L xs.toList=some vs) (hc:ev L c=some (.func (.func f) bnd cap))
    (hcall:∀w own,Wd we X B F w→Wd w (blks B0++own) (B0++[ah.held w own]) F0 w→Calls P f (bnd.toList++vs++cap.toList).toArray w fun e w' => ∃z,e = .returned (G z)∧Wd w (blks B0++own) (B1 z++[ah.held w own]) (F1 z) w') (hd:Nat.blt d n=true) :
    Stp P n we X L B F ⟨some d,.call { callee:= .value c,args:=xs,argTypes:=ts },ty,pos,cx,g⟩ (fun z=>(d,G z)::L) (fun z=>B1 z++Br) (fun z=>F1 z++F):=by
  intro K Q' a w ha hw hK
  have hw2:=hw.vO is hp ha'
  unfold Oper.wp
  rw [rC ha hargs hc eg,Oper.upon_enter]
  refine (hcall w (blks Br) hw (hw2.nJ hj)).mono fun e w' he=>?_
  obtain ⟨z,rfl,ht⟩:=he
  exact hK z _ _ (ha.put d _ hd) (hw2.after ht)
end
end Go.Proofs.Ytpipachmngdegaa
end
section
namespace Go.Proofs.Ytpipachmngdegaa
open Go.ChangeShapes Go.WideShapes Go.ChangeAt Go.RowKit Go.Deep
set_option linter.unusedVariables false
set_option maxRecDepth 100000
section
variable {H:Type} {enc:TypeId×Value→H} {w:World} {base:Nat} {spare:Nat→Bool} {held:Bool}
theorem vW {m:Nat}{cs:List Value}{y:DataW H×List MemPlace}(hl:cs.length=1)(h:DataW.trod enc Try.prog w base spare held m 46 cs=some y):∃z:bS,cs=Enc.cells z∧(Sl w z.cv z.L ∧ ∀q∈z.L,q.Fit):=by
  match cs,hl with
  | [c],_ =>
    obtain ⟨l,hs,hf⟩:=open_list (v:=c) Try.underlying46 oF Change.Fit (fun _ _ _ hl hy=>rz hl hy) h
    refine ⟨⟨c,l⟩,?_,?_,hf⟩
    · show [c]=[j2 c];rw [hs.j2]
    · show Sl w (j2 c) l;rw [hs.j2];exact hs
theorem rD {r:Reach}{b0:Nat}{v:Value}{d:DataW H}{p:List MemPlace}(hv:Value.okWide Try.prog w r b0 33 v)(h:DataW.Trod enc Try.prog w base spare held 33 v d p):∃l:List bS,Sl w v l∧(∀z∈l,Sl w z.cv z.L) ∧ ∀z∈l,∀q∈z.L,q.Fit:=by
  obtain ⟨a,len,cap,rfl⟩:=okWide_slice Try.underlying33 hv
  obtain ⟨m,hm⟩:=h
  obtain ⟨l,h1,h2⟩:=open_list Try.underlying33 nK (fun z:bS=>Sl w z.cv z.L ∧ ∀q∈z.L,q.Fit) (fun _ _ _ hl hy=>vW hl hy) hm
  exact ⟨l,h1,fun z hz=>(h2 z hz).1,fun z hz=>(h2 z hz).2⟩
end
end Go.Proofs.Ytpipachmngdegaa
end
