import Derived.Test.YtpipachmngdegaaSSP13
import Derived.Test.YtpipachmngdegaaSSP16
section
namespace Go.Proofs.Ytpipachmngdegaa
set_option linter.unusedVariables false
def cK (c:Change):Bool:=decide (c.Key.size≤20)&&decide (c.Val.size≤40)
def ia (l:List Change)(most:Int):Bool:=decide ((l.length:Int)≤most)&&l.all cK
def cF (a:dj):Bool:=decide (a.S.size≤100)&&ia a.Changes 70
def ib (l:List dj)(most:Int):Bool:=decide ((l.length:Int)≤most)&&l.all cF
theorem dA {α:Type}{p:α→Bool}{l:List α}{k:Nat}{x:α}(hx:l[k]? = some x)(h:p x=false):l.all p=false:=by
  rw [Bool.eq_false_iff];intro h'
  have:=List.all_eq_true.1 h' x (List.mem_of_getElem? hx)
  rw [h] at this;simp at this
theorem jk {α:Type}{p:α→Bool}{l:List α}{k:Nat}(hk:¬ k<l.length)(h:(l.take k).all p=true):l.all p=true:=by
  rwa [List.take_of_length_le (by omega)] at h
theorem pd {α:Type}{p:α→Bool}{l:List α}{k:Nat}{x:α}(hx:l[k]? = some x)(h:(l.take k).all p=true)(hp:p x=true):(l.take (k+1)).all p=true:=by
  rw [List.take_add_one,hx];simp [List.all_append,h,hp]
theorem pY {l:List dj}{most:Int}(h:ib l most=true):(l.length:Int)≤most:=by
  unfold ib at h;simp only [Bool.and_eq_true,decide_eq_true_eq] at h;exact h.1
theorem pZ {l:List Change}{m:Int}(h:ia l m=true):(l.length:Int)≤m:=by
  unfold ia at h;simp only [Bool.and_eq_true,decide_eq_true_eq] at h;exact h.1
theorem p6 {l:List dj}{m:Int}(h:ib l m=true):∀a∈l,a.S.size≤100∧ia a.Changes 70=true:=fun a ha=>by
  unfold ib at h;simp only [Bool.and_eq_true,decide_eq_true_eq] at h
  have:=List.all_eq_true.1 h.2 a ha
  unfold cF at this;simp only [Bool.and_eq_true,decide_eq_true_eq] at this;exact this
end Go.Proofs.Ytpipachmngdegaa
end
section
namespace Go.Proofs.Ytpipachmngdegaa
open Go Go.RowKit
set_option linter.unusedVariables false
set_option linter.unusedSimpArgs false
def mU (v:Value):Value:=match v with | .slice a n c => .slice a n c|_ => .slice none 0 0
theorem tD (v:Value):(mU v).oneCell'=true:=by unfold mU;split <;> rfl
theorem Sl.mU {α:Type}[Enc α]{w:World}{v:Value}{l:List α}(h:Sl w v l):Ytpipachmngdegaa.mU v=v:=by
  obtain ⟨A,c,rfl,_⟩:=h;rfl
structure dz where
  v0:Value
  L:List Change
abbrev dz.cv (x:dz):Value:=mU x.v0
instance:Enc dz:=⟨1,fun x=>[x.cv],fun _=>rfl,fun x u hu=>by rw [List.mem_singleton.1 hu];exact tD _,by decide⟩
abbrev dz.val (x:dz):Value:=x.cv
def af.gj (l:List dz):af:=⟨l.flatMap (fun x=>(af.ls x.cv x.L).blk),fun w => ∀x∈l,Sl w x.cv x.L,fun w w' h hs x hx=>(af.ls x.cv x.L).loc w w' (fun k hk=>h k (List.mem_flatMap.2 ⟨x,hx,hk⟩)) (hs x hx)⟩
def af.jl (l:List dz)(E:List (List Change)):af:=⟨(af.gj l).blk,fun w=>(af.gj l).ok w∧l.map dz.L=E,fun w w' h hs=>⟨(af.gj l).loc w w' h hs.1,hs.2⟩⟩
theorem uY {l:List dz}{x:dz}(hx:x∈l):∀k∈(af.ls x.cv x.L).blk,k∈(af.gj l).blk:=fun k hk=>List.mem_flatMap.2 ⟨x,hx,hk⟩
section
variable {P:Program} {n:Nat} {we w:World} {X:List Nat} {B F:List af} {l:List dz} {x:dz} {v:Value} {L:List Change} {Q:Exit→Act→World→Prop} {k:List It} {ops:List Oper} {rest:List (List Oper)}
theorem Wd.gj (i:Nat)(h:F[i]? = some (af.gj l))(hw:Wd we X B F w):∀x∈l,Sl w x.cv x.L:=hw.f i h
theorem Wd.zn (i:Nat)(h:F[i]? = some (af.gj l))(hx:x∈l)(hw:Wd we X B F w):Sl w x.cv x.L:=hw.f i h x hx
theorem Wd.yp (hw:Wd we X B F w):Wd we X B (af.gj []::F) w:=hw.fact (r:=af.gj []) (fun x hx=>by cases hx) (fun k hk=>by cases hk)
theorem Wd.uZ (i j:Nat)(hi:F[i]? = some (af.gj l))(hj:F[j]? = some (af.ls v L))(hw:Wd we X B F w):Wd we X B (af.gj (l++[⟨v,L⟩])::F) w:=by
  have h1:∀x∈l,Sl w x.cv x.L:=hw.f i hi
  have h2:Sl w v L:=hw.bV j hj
  refine hw.fact (r:=af.gj (l++[⟨v,L⟩])) (fun x hx=>?_) (fun k hk=>?_)
  ·
    rcases List.mem_append.1 hx with hx|hx
    · exact h1 x hx
    · rw [List.mem_singleton.1 hx];show Sl w (mU v) L;rw [h2.mU];exact h2
  ·
    obtain ⟨x,hx,hk⟩:=List.mem_flatMap.1 hk
    rcases List.mem_append.1 hx with hx|hx
    · exact hw.gR k (a6.2 ⟨_,List.mem_of_getElem? hi,List.mem_flatMap.2 ⟨x,hx,hk⟩⟩)
    ·
      rw [List.mem_singleton.1 hx] at hk
      have hk':k∈(af.ls v L).blk:=by
        have:(dz.mk v L).cv=v:=h2.mU
        rw [this] at hk;exact hk
      exact hw.gR k (a6.2 ⟨_,List.mem_of_getElem? hj,hk'⟩)
theorem Wd.ox (i:Nat)(hi:F[i]? = some (af.gj l))(hw:Wd we X B F w):Wd we X B (af.jl l (l.map dz.L)::F) w :=
  hw.fact (r:=af.jl l (l.map dz.L)) ⟨hw.f i hi,rfl⟩ (fun k hk=>hw.gR k (a6.2 ⟨_,List.mem_of_getElem? hi,hk⟩))
theorem Wd.wB {a:List dj}{x:dj}(i:Nat)(hi:F[i]? = some (af.acts a))(hx:x∈a)(hw:Wd we X B F w):Wd we X B (af.ls x.cv x.Changes::F) w :=
  hw.vB i _ _ hi (uF hx) (hw.uE i hi hx)
theorem Wd.wC (i:Nat)(hi:F[i]? = some (af.gj l))(hx:x∈l)(hw:Wd we X B F w):Wd we X B (af.ls x.cv x.L::F) w :=
  hw.vB i _ _ hi (uY hx) (hw.zn i hi hx)
theorem Wd.oy {E:List (List Change)}(i:Nat)(F':List af)(hi:F[i]? = some (af.jl l E))(hF:af.gj l::F.eraseIdx i=F')(hw:Wd we X B F w):Wd we X B F' w∧l.map dz.L=E:=by
  subst hF
  have h:=hw.f i hi
  refine ⟨?_,h.2⟩
  have h1:=hw.fact (r:=af.gj l) h.1 (fun k hk=>hw.gR k (a6.2 ⟨_,List.mem_of_getElem? hi,hk⟩))
  refine ⟨h1.upd,h1.okB,fun r hr=>?_,h1.sep,h1.own,fun k hk=>?_⟩
  ·
    rcases List.mem_cons.1 hr with rfl|hr
    · exact h.1
    · exact hw.okF r ((List.eraseIdx_sublist F i).subset hr)
  ·
    obtain ⟨r,hr,hk⟩:=a6.1 hk
    rcases List.mem_cons.1 hr with rfl|hr
    · exact hw.gR k (a6.2 ⟨_,List.mem_of_getElem? hi,hk⟩)
    · exact hw.gR k (a6.2 ⟨r,(List.eraseIdx_sublist F i).subset hr,hk⟩)
theorem R.wD {L':Fm}{E:List (List Change)}(i:Nat)(F':List af)(hi:F[i]? = some (af.jl l E))(hF:af.gj l::F.eraseIdx i=F')(h:l.map dz.L=E→Run P n we X Q k L' B F'):Run P n we X Q k L' B F :=
  fun a w ha hw=>h (hw.oy i F' hi hF).2 a w ha (hw.oy i F' hi hF).1
theorem Rg.wD {L':Fm}{E:List (List Change)}{rs:List Oper}(i:Nat)(F':List af)(hi:F[i]? = some (af.jl l E))(hF:af.gj l::F.eraseIdx i=F')(h:l.map dz.L=E→Rg P n we X Q ops rs k L' B F'):Rg P n we X Q ops rs k L' B F :=
  fun a w ha hw=>h (hw.oy i F' hi hF).2 a w ha (hw.oy i F' hi hF).1
end
section
variable {P:Program} {n:Nat} {we:World} {X:List Nat} {L:Fm} {B F:List af} {d:Nat} {ty:TypeId} {pos:String} {cz:Array Edge} {g:Option (Nat×Bool)}
theorem s.Av {α:Type}[Enc α]{m:Nat}{parts:Array (Nat×Operand)}{t e:TypeId}{l:List α}{vs:List Value}{z:Value}(ht:jR P t=some (e,Enc.k α))(hz:eB P e=some z)(hzs:z.cells.size=Enc.k α)(hm:l.length=m)(hsmall:Nat.blt (m*Enc.k α) 16777216=true)
    (hp:evs L (parts.toList.map (·.2))=some vs) (hi:parts.toList.map (·.1)=List.range' 0 m) (hv:∀w,Wd we X B F w→vs.map (fun v=>v.cells.toList)=l.map Enc.cells) (hd:Nat.blt d n=true) :
    Stp P n we X L B F ⟨some d,.buildSlice t m parts,ty,pos,cz,g⟩ (fun b:Nat=>(d,.slice (some ⟨b,0,none⟩) m m)::L) (fun b=>af.row e (.slice (some ⟨b,0,none⟩) m m) l::B) (fun _=>F) :=
  fun K Q' a w ha hw hK=>s.bs ht hz hzs hm hsmall hp hi (hv w hw) hd K Q' a w ha hw hK
theorem rV {w:World}{v:Value}{L:List Change}(h:Sl w v L) : [v].map (fun v=>v.cells.toList)=[(⟨v,L⟩:dz)].map Enc.cells:=by
  show [v.cells.toList]=[[mU v]]
  rw [h.mU,h.pS]
theorem q.yq {fn:FuncId}{fs cs:Array Operand}{bnd cap:List Value}(hb:evs L fs.toList=some bnd)(hc:evs L cs.toList=some cap):Qt P n we X L B F (.makeFunc (.func fn) fs cs) ty (.func (.func fn) bnd.toArray cap.toArray):=fun _ _ _ _ a w ha hw=>by
  have hm:cs.map a.eval=cap.toArray:=by rw [← ha.evs hc,← Array.toList_map]
  have hn:fs.map a.eval=bnd.toArray:=by rw [← ha.evs hb,← Array.toList_map]
  simp [execOp,Instr.makeFunc,hm,hn]
theorem q.min {kd:IntKind}{x y:Operand}{a b r:Int}{ts:Array TypeId}(hx:ev L x=some (.int kd a))(hy:ev L y=some (.int kd b))(hr:min a b=r):Qt P n we X L B F (.call { callee:= .builtin .min,args:= #[x,y],argTypes:=ts }) ty (.int kd r):=fun _ _ _ _ q w ha hw=>by
  have e:(if b<a then b else a)=r:=by rw [← hr];split <;> omega
  simp [execOp,resolve,invoke,builtin,ha.ev hx,ha.ev hy,Builtin.min_,Builtin.min2,e]
theorem xd {k:IntKind}{a b:Int}(h:a=b):Value.int k a = .int k b:=by rw [h]
structure eY where
  f:Fn
  b:Array Value
  c:Array Value
abbrev eY.cv (x:eY):Value:= .func x.f x.b x.c
instance:Enc eY:=⟨1,fun x=>[x.cv],fun _=>rfl,fun x u hu=>by rw [List.mem_singleton.1 hu];rfl,by decide⟩
theorem q.u6 {u:Value}{x:eY}{xT:TypeId}{a:Operand}(hu:x.cv=u)(h:Qt P n we X L B F (.load xT a) ty x.cv):Qt P n we X L B F (.load xT a) ty u:=hu▸h
theorem rW {f:FuncId}{c:Operand}{xs:Array Operand}{ts:Array TypeId}{vs:List Value}{bnd cap:Array Value}{a:Act}{w:World}{dst:Option Nat}(ha:Fr n L a)(hargs:evs L xs.toList=some vs)(hc:ev L c=some (.func (.func f) bnd cap))
    (eg:∀args w,(callFunc f args).run P w = .ok (.enter f args) w):(execOp a.eval ⟨dst,.call { callee:= .value c,args:=xs,argTypes:=ts },ty,pos,cz,g⟩).run P w = .ok (.enter f (bnd.toList++vs++cap.toList).toArray) w:=by
  have hm:xs.map a.eval=vs.toArray:=by
    rw [← ha.evs hargs,← Array.toList_map]
  simp [execOp,resolve,ha.ev hc,Deferred.ofValue,invoke,hm,eg]
theorem s.tE {β:Type}{f:FuncId}{c:Operand}{xs:Array Operand}{ts:Array TypeId}{vs:List Value}{bnd cap:Array Value}{B0 Br F0:List af}(is js:List Nat)(G:β→Value)(B1 F1:β→List af)(hp:cd B is=some (B0++Br))(ha':eJ is=true)(hj:cd F js=some F0)
    (eg:∀args w,(callFunc f args).run P w = .ok (.enter f args) w) (hargs:evs L xs.toList=some vs) (hc:ev L c=some (.func (.func f) bnd cap))
    (hcall:∀w own,Wd we X B F w→Wd w (blks B0++own) (B0++[af.held w own]) F0 w→Calls P f (bnd.toList++vs++cap.toList).toArray w fun e w' => ∃z,e = .returned (G z)∧Wd w (blks B0++own) (B1 z++[af.held w own]) (F1 z) w') (hd:Nat.blt d n=true) :
    Stp P n we X L B F ⟨some d,.call { callee:= .value c,args:=xs,argTypes:=ts },ty,pos,cz,g⟩ (fun z=>(d,G z)::L) (fun z=>B1 z++Br) (fun z=>F1 z++F):=by
  intro K Q' a w ha hw hK
  have hw2:=hw.wc is hp ha'
  unfold Oper.wp
  rw [rW ha hargs hc eg,Oper.upon_enter]
  refine (hcall w (blks Br) hw (hw2.nW hj)).mono fun e w' he=>?_
  obtain ⟨z,rfl,ht⟩:=he
  exact hK z _ _ (ha.put d _ hd) (hw2.after ht)
end
end Go.Proofs.Ytpipachmngdegaa
end
