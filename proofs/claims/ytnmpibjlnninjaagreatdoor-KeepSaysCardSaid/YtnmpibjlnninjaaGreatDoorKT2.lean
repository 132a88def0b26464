import Derived.Test.YtnmpibjlnninjaaGreatDoorKT1
import Derived.Deep.Quiet
import Derived.OrdersHeld
import Derived.Deep.RegionHeld3
namespace Go.Proofs.YtnmpibjlnninjaaGreatDoor
set_option linter.unusedVariables false
set_option linter.unusedSimpArgs false
set_option maxRecDepth 100000
set_option maxHeartbeats 90000000
section
open Go Go.RowKit
def iP (P:Program)(t:TypeId):Option Nat :=
  match P.underlying t,P.info? t with
  | some (.struct _),some i=>some i.size
  | some (.array _ _),some i=>some i.size
  | _,_=>none
def eX (P:Program)(t:TypeId):Bool :=
  match P.underlying t,P.info? t with
  | some (.struct _),_=>false
  | some (.array _ _),_=>false
  | some _,some i=>i.size==1
  | _,_=>false
def lV (P:Program)(t:TypeId):Option (TypeId×Nat) :=
  match P.underlying t with
  | some (.slice e)=>(P.info? e).map fun i=>(e,i.size)
  | _=>none
def dq (P:Program)(t:TypeId)(f:Nat):Option Nat :=
  match P.underlying t with
  | some (.struct fs)=>match fs[f]? with
    | some fl=>match P.info? fl.type with
      | some i=>if i.size=0 then none else some fl.offset
      | none=>none
    | none=>none
  | _=>none
def dZ (P:Program)(t:TypeId):Option Value:=(P.info? t).bind (·.zero)
section
variable {P:Program} {t e:TypeId} {m off f:Nat} {z:Value} (w:World)
theorem wn (h:iP P t=some m):(isAgg t).run P w = .ok true w/\(sizeOf t).run P w = .ok m w:=by
 unfold iP at h
 split at h
 .simp_all [isAgg,sizeOf,typeInfo,run_underlying]
 .simp_all [isAgg,sizeOf,typeInfo,run_underlying]
 grind
theorem wq (h:eX P t=true):(isAgg t).run P w = .ok false w/\(sizeOf t).run P w = .ok 1 w:=by
 unfold eX at h
 split at h
 .cases h
 .cases h
 .
  rename_i d i h1 h2 h3 h4
  simp at h
  refine ⟨?_,by simp_all [sizeOf,typeInfo]⟩
  simp only [isAgg,Sem.run_bind,run_underlying h3,Result.andThen_ok]
  rfl
 grind
theorem eE (h:lV P t=some (e,m)):P.underlying t=some (.slice e)/\(sizeOf e).run P w = .ok m w:=by
 unfold lV at h
 split at h
 .
  rename_i e' h1
  cases h2:P.info? e' with
  | none=>grind
  | some i =>
   simp [h2] at h
   obtain ⟨rfl,rfl⟩:=h
   simp_all [sizeOf,typeInfo]
 grind
theorem Ha (h:dq P t f=some off)(b o:Nat):(Instr.fieldAt t (.pointer (some ⟨b,o,none⟩)) f).run P w = .ok (.pointer (some ⟨b,o+off,none⟩)) w:=by
 unfold dq at h
 split at h
 .
  rename_i fs h1
  split at h
  .
   rename_i fl h2
   split at h
   .simp_all [Instr.fieldAt,Instr.sureAddr,fieldPlace,sizeOf,typeInfo,run_underlying,addr_add]
   grind
  grind
 grind
theorem nD (h:dZ P t=some z):(zeroValue t).run P w = .ok z w:=by
 unfold dZ at h
 cases h2:P.info? t with
 | none=>grind
 | some i=>simp_all [zeroValue,typeInfo]
end
def At (w:World)(b o:Nat)(cs:List Value):Prop:= ∀j u,cs[j]? = some u->w.cell? ⟨b,o+j,none⟩=some u
theorem kL {P:Program}{t:TypeId}{b o:Nat}{cs:List Value}(w:World)(ht:iP P t=some cs.length)(h:At w b o cs):(Instr.loadAt t (.pointer (some ⟨b,o,none⟩))).run P w = .ok (.agg cs.toArray) w:=by
 have h1:=run_loadCells_list (P:=P) (w:=w) ⟨b,o,none⟩ cs (fun j v hv=>by rw [addr_add];exact h j v hv)
 simp_all [Instr.loadAt,Instr.sureAddr,loadVar,wn]
theorem kM {P:Program}{t:TypeId}{b o:Nat}{u:Value}(w:World)(ht:eX P t=true)(h:w.cell? ⟨b,o,none⟩=some u):(Instr.loadAt t (.pointer (some ⟨b,o,none⟩))).run P w = .ok u w:=by
 simp_all [Instr.loadAt,Instr.sureAddr,loadVar,wq]
def ah.box (g:Nat)(cs:List Value)(t:TypeId):ah:=⟨[g],fun w=>w.heap[g]? = some (.cells cs.toArray t (0,0)),fun w w' h hw=>(h g (by simp)).trans hw⟩
theorem ud {w:World}{g:Nat}{cs:List Value}{t:TypeId}(h:(ah.box g cs t).ok w):At w g 0 cs:=fun j u hu=>by
 have h':w.heap[g]? = some (.cells cs.toArray t (0,0)):=h
 rw [cell_of_row w g (0+j) _ _ _ h']
 grind
def eA:Value->List Nat
  | .slice (some a) _ _=>[a.block]
  | _=>[]
theorem Ky {α:Type}[Enc α]{w w':World}{v:Value}{l:List α}(h:∀k∈eA v,w'.heap[k]? = w.heap[k]?)(hs:Sl w v l):Sl w' v l:=by
 obtain ⟨A,c,rfl,h1,h2,h3⟩:=hs
 refine ⟨A,c,rfl,h1,h2,fun i x hx=>?_⟩
 obtain ⟨b,off,rfl,hb,hc⟩:=h3 i x hx
 have hk:w'.heap[b]? = w.heap[b]?:=h b (by simp [eA])
 grind [Array.getElem?_eq_getElem,Array.getElem?_eq_some_iff,World.cell?_of_block]
def ah.sl {α:Type}[Enc α](v:Value)(l:List α):ah:=⟨eA v,fun w=>Sl w v l,fun w w' h hs=>Ky h hs⟩
def ah.row {α:Type}[Enc α](e:TypeId)(v:Value)(l:List α):ah:=⟨eA v,fun w=>Own 0 e w v l,fun w w' h hs=>by
  refine ⟨hs.1,?_⟩
  rcases hs.2 with hn|⟨g,cap,cur,rfl,hb,hgg,rest⟩
  . grind
  .
    refine .inr ⟨g,cap,cur,rfl,hb,?_,rest⟩
    grind [eA]⟩
section
variable {we w:World} {X:List Nat} {B F:List ah}
theorem Wd.old {α:Type}[Enc α]{v:Value}{l:List α}(hv:Sl we v l)(hw:Wd we [] B F w):Sl w v l:=hv.ext hw.upd.ext
theorem Wd.f {r:ah}(i:Nat)(h:F[i]? = some r)(hw:Wd we X B F w):r.ok w:=hw.okF r (List.mem_of_getElem? h)
theorem Wd.b {r:ah}(i:Nat)(h:B[i]? = some r)(hw:Wd we X B F w):r.ok w:=hw.okB r (List.mem_of_getElem? h)
theorem Wd.row {α:Type}[Enc α]{e:TypeId}{v:Value}{l:List α}(i:Nat)(h:B[i]? = some (ah.row e v l))(hw:Wd we X B F w):Sl w v l:=Own.sl (hw.b i h)
theorem cm{we:World}{X:List Nat}{B F:List ah}{α:Type}[Enc α]{e:TypeId}{v:Value}{l:List α}(i:Nat)(h:B[i]? =some (ah.row e v l)):∀w,Wd we X B F w->Sl w v l:=fun _=>Wd.row i h
theorem Wd.ext (hw:Wd we [] B F w):Ext we w:=hw.upd.ext
end
def ep (v:Value)(i k j:Nat):Value :=
  match v with
  | .slice (some a) _ _ => .pointer (some ⟨a.block,a.off+i*k+j,none⟩)
  | _=>undef
section
variable {P:Program} {n:Nat} {we:World} {X:List Nat} {Q:Exit->Act->World->Prop} {k k':List It} {L:Fm} {B F:List ah} {ops rest:List Oper}
variable {dst:Option Nat} {d:Nat} {op:Op} {ty:TypeId} {pos:String} {dr:Array Edge} {g:Option (Nat×Bool)} {g':Nat×Bool} {v:Value}
variable {x y:Operand} {xT yT e:TypeId} {kd:IntKind} {α:Type} [Enc α] {l:List α}
theorem q.len' (hs:∀w,Wd we X B F w->Sl w v l)(hx:ev L x=some v)(ht:P.underlying xT=some (.slice e)):Qt P n we X L B F (.call { callee:= .builtin .len,args:= #[x],argTypes:= #[xT]}) ty (.int .i64 l.length):=fun _ _ _ _ a w ha hw=>by
 obtain ⟨A,c,rfl,_⟩:=hs w hw
 exact q.len (X:=X) (B:=B) (F:=F) hx ht _ _ _ _ a w ha hw
theorem q.idx {m:Int}{i:Nat}{z:α}(hs:∀w,Wd we X B F w->Sl w v l)(hx:ev L x=some v)(hy:ev L y=some (.int kd m))(ht:lV P xT=some (e,Enc.k α))(hm:m=(i:Int))(hi:l[i]? = some z) :
 Qt P n we X L B F (.indexAddr xT x y) ty (ep v i (Enc.k α) 0):=fun _ _ _ _ a w ha hw=>by
 obtain ⟨A,c,rfl,h1,h2,h3⟩:=hs w hw
 obtain ⟨b,off,rfl,hb,hc⟩:=h3 i z hi
 obtain ⟨hu,hz⟩:=eE (P:=P) w ht
 have hlt:i<l.length:=(List.getElem?_eq_some_iff.1 hi).1
 subst hm
 simp only [execOp,ha.ev hx,ha.ev hy,Instr.indexAt,asIntOf,Sem.run_bind,Sem.run_pure,Result.andThen_ok,run_underlying hu]
 simp_all [ep,if_pos,Sem.run_bind,Result.andThen_ok,Sem.run_pure,addr_add,Int.toNat_natCast,Nat.add_zero]
theorem q.vp {b o f off off':Nat}(hx:ev L x=some (.pointer (some ⟨b,o,none⟩)))(ht:dq P xT f=some off)(ho:o+off=off'):Qt P n we X L B F (.fieldAddr xT x f) ty (.pointer (some ⟨b,off',none⟩)):=fun _ _ _ _ a w ha hw=>by
 subst ho
 simp [execOp,ha.ev hx,Ha (P:=P) w ht]
theorem q.Kz {i kk j f off j':Nat}{z:α}(hs:∀w,Wd we X B F w->Sl w v l)(hi:l[i]? = some z)(hx:ev L x=some (ep v i kk j))(ht:dq P xT f=some off)(hj:j+off=j'):Qt P n we X L B F (.fieldAddr xT x f) ty (ep v i kk j'):=fun _ _ _ _ a w ha hw=>by
 obtain ⟨A,c,rfl,h1,h2,h3⟩:=hs w hw
 obtain ⟨b,o,rfl,hb,hc⟩:=h3 i z hi
 subst hj
 simp only [execOp,ha.ev hx,ep,Sem.run_bind,Ha (P:=P) w ht,Result.andThen_ok,Sem.run_pure,Nat.add_assoc]
theorem q.ld {b o:Nat}{cs:List Value}{t:TypeId}{u:Value}(i:Nat)(hB:B[i]? = some (ah.box b cs t))(hx:ev L x=some (.pointer (some ⟨b,o,none⟩)))(ht:eX P xT=true)(hu:cs[o]? = some u):Qt P n we X L B F (.load xT x) ty u:=fun _ _ _ _ a w ha hw=>by
 have h:=ud (hw.b i hB) o u hu
 rw [Nat.zero_add] at h
 simp [execOp,ha.ev hx,kM (P:=P) w ht h]
theorem q.TP {b:Nat}{cs:List Value}{t:TypeId}(i:Nat)(hB:B[i]? = some (ah.box b cs t))(hx:ev L x=some (.pointer (some ⟨b,0,none⟩)))(ht:iP P xT=some cs.length):Qt P n we X L B F (.load xT x) ty (.agg cs.toArray):=fun _ _ _ _ a w ha hw=>by
 simp [execOp,ha.ev hx,kL (P:=P) w ht (ud (hw.b i hB))]
theorem q.NJ {i j:Nat}{z:α}{u:Value}(hs:∀w,Wd we X B F w->Sl w v l)(hi:l[i]? = some z)(hx:ev L x=some (ep v i (Enc.k α) j))(ht:eX P xT=true)(hu:(Enc.cells z)[j]? = some u):Qt P n we X L B F (.load xT x) ty u:=fun _ _ _ _ a w ha hw=>by
 obtain ⟨A,c,rfl,h1,h2,h3⟩:=hs w hw
 obtain ⟨b,o,rfl,hb,hc⟩:=h3 i z hi
 simp only [execOp,ha.ev hx,ep,Sem.run_bind,kM (P:=P) w ht (hc j u hu),Result.andThen_ok,Sem.run_pure]
theorem q.KA {i j:Nat}{z:α}{ds:List Value}(hs:∀w,Wd we X B F w->Sl w v l)(hi:l[i]? = some z)(hx:ev L x=some (ep v i (Enc.k α) j))(ht:iP P xT=some ds.length)(hd:((Enc.cells z).drop j).take ds.length=ds):Qt P n we X L B F (.load xT x) ty (.agg ds.toArray):=fun _ _ _ _ a w ha hw=>by
 obtain ⟨A,c,rfl,h1,h2,h3⟩:=hs w hw
 obtain ⟨b,o,rfl,hb,hc⟩:=h3 i z hi
 have h:At w b (o+i*Enc.k α+j) ds:=fun q u hu=>by
  grind
 simp only [execOp,ha.ev hx,ep,Sem.run_bind,kL (P:=P) w ht h,Result.andThen_ok,Sem.run_pure]
theorem pL {f:FuncId}{c:Operand}{xs:Array Operand}{ts:Array TypeId}{vs:List Value}{cap:Array Value}{a:Act}{w:World}(ha:Fr n L a)(hargs:evs L xs.toList=some vs)(hc:ev L c=some (.func (.func f) #[] cap))
 (eg:∀args w,(callFunc f args).run P w = .ok (.enter f args) w):(execOp a.eval ⟨dst,.call { callee:= .value c,args:=xs,argTypes:=ts},ty,pos,dr,g⟩).run P w = .ok (.enter f (vs++cap.toList).toArray) w:=by
 have hm:xs.map a.eval=vs.toArray:=by
  rw [<- ha.evs hargs,<- Array.toList_map]
 simp [execOp,resolve,ha.ev hc,Deferred.ofValue,invoke,hm,eg]
def Leaves (w w':World)(own:List Nat)(rb rf:List ah):Prop :=
  (∀r∈rb,r.ok w')/\(blks rb).Nodup/\(∀k∈blks rb,w.heap.size<=k/\k<w'.heap.size)/\(∀r∈rf,r.ok w') /\ ∀k∈blks rf,k<w'.heap.size/\k∉blks rb/\(w.heap.size<=k∨k∉own)
theorem bf:∀ (A B:List ah),blks (A++B)=blks A++blks B
 | [],B=>rfl
 | r::A,B=>by simp [blks,bf A B]
theorem Wd.leaves {w w':World}{rb rf:List ah}(hw:Wd we X B F w)(e:lL [] w w')(h:Leaves w w' (blks B) rb rf):Wd we X (rb++B) (rf++F) w':=by
 obtain ⟨h1,h2,h3,h4,h5⟩:=h
 have g:=hw.grow e
 refine ⟨g.upd,fun r hr=>(List.mem_append.1 hr).elim (h1 r) (g.okB r),fun r hr=>(List.mem_append.1 hr).elim (h4 r) (g.okF r),?_,fun k hk=>?_,fun k hk=>?_⟩
 .
  rw [bf]
  refine List.nodup_append.2 ⟨h2,hw.sep,fun a ha b hb e'=>?_⟩
  subst e'
  have:=(h3 a ha).1;have:=(hw.own a hb).1;omega
 .
  rw [bf] at hk
  rcases List.mem_append.1 hk with hk|hk
  .exact ⟨(h3 k hk).2,fun hlt=>absurd (Nat.le_trans hw.upd.size (h3 k hk).1) ae⟩
  exact g.own k hk
 rw [bf] at hk
 rw [bf]
 rcases List.mem_append.1 hk with hk|hk
 .
  refine ⟨(h5 k hk).1,fun hb=>(List.mem_append.1 hb).elim (h5 k hk).2.1 fun hb=>?_⟩
  rcases (h5 k hk).2.2 with h6|h6
  .have:=(hw.own k hb).1;omega
  grind
 refine ⟨(g.lU k hk).1,fun hb=>(List.mem_append.1 hb).elim (fun hb=>?_) (g.lU k hk).2⟩
 have:=(h3 k hb).1;have:=(hw.lU k hk).1;omega
def Stp {β:Type}(P:Program)(n:Nat)(we:World)(X:List Nat)(L:Fm)(B F:List ah)(o:Oper)(L':β->Fm)(B' F':β->List ah):Prop :=
  ∀ (K:Act->World->Prop) (Q':Exit->Act->World->Prop) a w,Fr n L a->Wd we X B F w->(∀z a w,Fr n (L' z) a->Wd we X (B' z) (F' z) w->K a w)->o.wp P a w K Q'
theorem R.s {β:Type}{o:Oper}{L':β->Fm}{B' F':β->List ah}(hg:gd ops L o.guard=some true)(hs:Stp P n we X L B F o L' B' F')(h:∀z,Rg P n we X Q ops rest k (L' z) (B' z) (F' z)):Rg P n we X Q ops (o::rest) k L B F:=by
 intro a w ha hw
 refine wpList_step fun K hK=>?_
 rw [if_pos (dR (o:=o) ha hg)]
 exact hs K _ a w ha hw fun z a w ha hw=>hK _ _ (h z a w ha hw)
def Qa (P:Program)(n:Nat)(we:World)(X:List Nat)(L:Fm)(B F:List ah)(op:Op)(ty:TypeId)(v:Value):Prop :=
  ∀dst pos dr g a w,Fr n L a->Wd we X B F w->(execOp a.eval ⟨dst,op,ty,pos,dr,g⟩).run P w = .ok (.value v) w ∨
    ∃f args,(execOp a.eval ⟨dst,op,ty,pos,dr,g⟩).run P w = .ok (.enter f args) w/\Calls P f args w fun e w'=>e = .returned v/\Ext w w'
theorem Qt.a (h:Qt P n we X L B F op ty v):Qa P n we X L B F op ty v:=fun _ _ _ _ a w ha hw => .inl (h _ _ _ _ a w ha hw)
theorem Qa.wp {o:Oper}(h:Qa P n we X L B F op ty v){a:Act}{w:World}{dst:Option Nat}{K:Act->World->Prop}{Q':Exit->Act->World->Prop}(ha:Fr n L a)(hw:Wd we X B F w)(hK:∀w',Wd we X B F w'->K (a.put dst v) w'):Oper.wp P ⟨dst,op,ty,pos,dr,g⟩ a w K Q':=by
 unfold Oper.wp
 rcases h dst pos dr g a w ha hw with h1|⟨f,args,h1,h2⟩
 .grind [Oper.upon_value]
 rw [h1,Oper.upon_enter]
 refine h2.mono fun e w' he=>?_
 obtain ⟨rfl,hx⟩:=he
 exact hK w' (hw.grow hx.upd)
theorem s.c (h:Qa P n we X L B F op ty v)(hd:Nat.blt d n=true):Stp P n we X L B F ⟨some d,op,ty,pos,dr,g⟩ (fun _:Unit=>(d,v)::L) (fun _=>B) (fun _=>F) :=
 fun K Q' a w ha hw hK=>Qa.wp (o:=default) h ha hw fun w' hw'=>hK () _ _ (ha.put d v hd) hw'
theorem R.c (h:Qa P n we X L B F op ty v)(hd:Nat.blt d n=true)(hr:Rg P n we X Q ops rest k ((d,v)::L) B F):Rg P n we X Q ops (⟨some d,op,ty,pos,dr,none⟩::rest) k L B F:=R.s rfl (s.c h hd) fun _=>hr
theorem R.cg (hg:gd ops L (some g')=some true)(h:Qa P n we X L B F op ty v)(hd:Nat.blt d n=true)(hr:Rg P n we X Q ops rest k ((d,v)::L) B F):Rg P n we X Q ops (⟨some d,op,ty,pos,dr,some g'⟩::rest) k L B F:=R.s hg (s.c h hd) fun _=>hr
section
variable {f:FuncId} {c:Operand} {xs:Array Operand} {ts:Array TypeId} {vs:List Value} {cap:Array Value} {u:Value}
theorem q.call (eg:∀args w,(callFunc f args).run P w = .ok (.enter f args) w)(hargs:evs L xs.toList=some vs)(hc:ev L c=some (.func (.func f) #[] cap))
 (hcall:∀w,Wd we X B F w->Calls P f (vs++cap.toList).toArray w fun e w'=>e = .returned u/\Ext w w'):Qa P n we X L B F (.call { callee:= .value c,args:=xs,argTypes:=ts}) ty u :=
 fun _ _ _ _ a w ha hw => .inr ⟨f,_,pL ha hargs hc eg,hcall w hw⟩
theorem s.TQ {β:Type}(G:β->Value)(RB RF:β->List ah)(eg:∀args w,(callFunc f args).run P w = .ok (.enter f args) w)
 (hargs:evs L xs.toList=some vs) (hc:ev L c=some (.func (.func f) #[] cap))
 (hcall:∀w,Wd we X B F w->Calls P f (vs++cap.toList).toArray w fun e w' => ∃z,e = .returned (G z)/\Leaves w w' (blks B) (RB z) (RF z)/\Ext w w') (hd:Nat.blt d n=true) :
 Stp P n we X L B F ⟨some d,.call { callee:= .value c,args:=xs,argTypes:=ts},ty,pos,dr,g⟩ (fun z=>(d,G z)::L) (fun z=>RB z++B) (fun z=>RF z++F):=by
 intro K Q' a w ha hw hK
 unfold Oper.wp
 rw [pL ha hargs hc eg,Oper.upon_enter]
 refine (hcall w hw).mono fun e w' he=>?_
 obtain ⟨z,rfl,hl,hx⟩:=he
 exact hK z _ _ (ha.put d _ hd) (hw.leaves hx.upd hl)
theorem s.nE {α:Type}[Enc α]{e:TypeId}{l:List α}(eg:∀args w,(callFunc f args).run P w = .ok (.enter f args) w)
 (hargs:evs L xs.toList=some vs) (hc:ev L c=some (.func (.func f) #[] cap))
 (hcall:∀w,Wd we X B F w->Calls P f (vs++cap.toList).toArray w fun en w' => ∃z,en = .returned z/\Own w.heap.size e w' z l/\Ext w w') (hd:Nat.blt d n=true) :
 Stp P n we X L B F ⟨some d,.call { callee:= .value c,args:=xs,argTypes:=ts},ty,pos,dr,g⟩ (fun z=>(d,z)::L) (fun z=>ah.row e z l::B) (fun _=>F):=by
 refine s.TQ (fun z=>z) (fun z=>[ah.row e z l]) (fun _=>[]) eg hargs hc (fun w hw=>(hcall w hw).mono fun en w' h=>?_) hd
 obtain ⟨z,h1,h2,h3⟩:=h
 refine ⟨z,h1,⟨?_,?_,?_,bC,by simp [blks]⟩,h3⟩
 .intro r hr;simp at hr;subst hr;exact h2.lower (Nat.zero_le _)
 .
  simp only [blks,ah.row,List.append_nil]
  unfold eA;grind
 intro k hk
 simp only [blks,ah.row,List.append_nil] at hk
 unfold eA at hk
 split at hk
 .
  simp at hk;subst hk
  exact h2.lt _ rfl
 grind
end
theorem lL.alloc (w:World)(o:Obj):lL [] w (w.alloc o):=⟨rfl,rfl,rfl,bC,fun k hk _=>Below.heap_alloc w o k hk⟩
theorem Wd.alloc {w:World}{o:Obj}(hw:Wd we X B F w){r:ah}(hr:r.ok (w.alloc o))(hb:r.blk=[w.heap.size]):Wd we X (r::B) F (w.alloc o):=by
 refine (hw.grow (lL.alloc w o)).new hr au (fun k hk=>?_)
 rw [hb] at hk
 simp at hk;subst hk
 exact ⟨bC,hw.upd.size,fun h=>by have:=(hw.own _ h).1;omega,fun h=>by have:=(hw.lU _ h).1;omega⟩
theorem s.box {t:TypeId}{cs:List Value}(hx:ev L x=some v)(hv:v.cells=cs.toArray)(hd:Nat.blt d n=true) :
 Stp P n we X L B F ⟨some d,.box t x,ty,pos,dr,g⟩ (fun b:Nat=>(d,.pointer (some ⟨b,0,none⟩))::L) (fun b=>ah.box b cs t::B) (fun _=>F):=by
 intro K Q' a w ha hw hK
 unfold Oper.wp
 have hrun:(execOp a.eval ⟨some d,.box t x,ty,pos,dr,g⟩).run P w = .ok (.value (.pointer (some ⟨w.heap.size,0,none⟩))) (w.alloc (.cells cs.toArray t)):=by
  simp [execOp,ha.ev hx,Instr.box,newVar,newRow,hv]
 rw [hrun,Oper.upon_value]
 exact hK _ _ _ (ha.put d _ hd) (hw.alloc (r:=ah.box w.heap.size cs t) (heap_alloc_new w _) rfl)
theorem s.alloc {t:TypeId}{cs:List Value}{z:Value}(hz:dZ P t=some z)(hv:z.cells=cs.toArray)(hd:Nat.blt d n=true) :
 Stp P n we X L B F ⟨some d,.alloc t,ty,pos,dr,g⟩ (fun b:Nat=>(d,.pointer (some ⟨b,0,none⟩))::L) (fun b=>ah.box b cs t::B) (fun _=>F):=by
 intro K Q' a w ha hw hK
 unfold Oper.wp
 have hrun:(execOp a.eval ⟨some d,.alloc t,ty,pos,dr,g⟩).run P w = .ok (.value (.pointer (some ⟨w.heap.size,0,none⟩))) (w.alloc (.cells cs.toArray t)):=by
  simp [execOp,Instr.alloc,nD (P:=P) w hz,newVar,newRow,hv]
 rw [hrun,Oper.upon_value]
 exact hK _ _ _ (ha.put d _ hd) (hw.alloc (r:=ah.box w.heap.size cs t) (heap_alloc_new w _) rfl)
theorem foldl_set (off:Nat):∀ (vs:List Value) (j:Nat) (cs:Array Value),off+j+vs.length<=cs.size->(vs.zipIdx j).foldl (fun cs p=>cs.setIfInBounds (off+p.2) p.1) cs=(cs.toList.take (off+j)++vs++cs.toList.drop (off+j+vs.length)).toArray
 | [],j,cs,h=>by simp
 | v::vs,j,cs,h=>by
  simp only [List.length_cons] at h
  simp only [List.zipIdx_cons,List.foldl_cons]
  rw [foldl_set off vs (j+1) _ aE]
  have e:=list_seg_step cs.toList (off+j) v vs aE
  congr 1
  simp only [Array.toList_setIfInBounds,List.length_cons]
  have h1:off+(j+1)=off+j+1:=ae
  rw [h1]
  have h2:off+j+1+vs.length=off+j+(vs.length+1):=ae
  rw [h2] at e ⊢
  simpa using e
theorem Dk {kk:Nat}:∀ (vs:List Value) (i:Nat) (cs:Array Value),(∀v∈vs,v.cells.size=kk)->cs.size=(i+vs.length)*kk ->
 Instr.fill (fun i=>some (i*kk,kk)) cs ((List.range' i vs.length).zip vs)=some (cs.toList.take (i*kk)++vs.flatMap (·.cells.toList)).toArray
 | [],i,cs,h,hs=>by
  simp_all [Instr.fill,List.length_nil,Nat.add_zero,List.range'_zero,List.zip_nil_right,List.flatMap_nil,List.append_nil,List.take_of_length_le]
 | v::vs,i,cs,h,hs=>by
  have hv:v.cells.size=kk:=h v bC
  simp only [List.length_cons] at hs
  have hs':i*kk+kk<=cs.size:=au
  simp only [List.length_cons,List.range'_succ,List.zip_cons_cons,Instr.fill]
  rw [if_neg au]
  have hf:Array.foldl (fun cs (p:Value×Nat)=>cs.setIfInBounds (i*kk+p.2) p.1) cs v.cells.zipIdx=(cs.toList.take (i*kk)++v.cells.toList++cs.toList.drop (i*kk+kk)).toArray:=by
   rw [<- Array.foldl_toList,Array.toList_zipIdx,foldl_set (i*kk) v.cells.toList 0 cs au]
   grind
  have hl:(cs.toList.take (i*kk)++v.cells.toList).length=(i+1)*kk:=by
   grind
  have:=Dk vs (i+1) (cs.toList.take (i*kk)++v.cells.toList++cs.toList.drop (i*kk+kk)).toArray (fun u hu=>h u au) (by
   grind)
  grind
theorem wZ {α:Type}[Enc α]:∀ {vs:List Value} {l:List α},vs.map (fun v=>v.cells.toList)=l.map Enc.cells->vs.flatMap (·.cells.toList)=l.flatMap Enc.cells/\vs.length=l.length /\ ∀v∈vs,v.cells.size=Enc.k α
 | [],[],h=>⟨rfl,rfl,bC⟩
 | [],x::l,h=>by simp at h
 | v::vs,[],h=>by simp at h
 | v::vs,x::l,h=>by
  simp only [List.map_cons,List.cons.injEq] at h
  obtain ⟨h1,h2,h3⟩:=wZ h.2
  refine ⟨by simp [h1,h.1],by simp [h2],fun u hu=>?_⟩
  rcases List.mem_cons.1 hu with rfl|hu
  .have:=Enc.len x;rw [<- h.1] at this;simpa using this
  exact h3 u hu
theorem s.bs {α:Type}[Enc α]{m:Nat}{parts:Array (Nat×Operand)}{t e:TypeId}{l:List α}{vs:List Value}{z:Value}(ht:lV P t=some (e,Enc.k α))(hz:dZ P e=some z)(hzs:z.cells.size=Enc.k α)(hm:l.length=m)(hsmall:Nat.blt (m*Enc.k α) 16777216=true)
 (hp:evs L (parts.toList.map (·.2))=some vs) (hi:parts.toList.map (·.1)=List.range' 0 m) (hv:vs.map (fun v=>v.cells.toList)=l.map Enc.cells) (hd:Nat.blt d n=true) :
 Stp P n we X L B F ⟨some d,.buildSlice t m parts,ty,pos,dr,g⟩ (fun b:Nat=>(d,.slice (some ⟨b,0,none⟩) m m)::L) (fun b=>ah.row e (.slice (some ⟨b,0,none⟩) m m) l::B) (fun _=>F):=by
 intro K Q' a w ha hw hK
 obtain ⟨hf1,hf2,hf3⟩:=wZ hv
 obtain ⟨hu,hsz⟩:=eE (P:=P) w ht
 have hsm:m*Enc.k α<16777216:=sH
 unfold Oper.wp
 have hparts:(parts.map fun p=>(p.1,a.eval p.2)).toList=(List.range' 0 vs.length).zip vs:=by
  rw [hf2,hm,<- hi,<- ha.evs hp]
  grind [Array.toList_map,List.map_map]
 have XU:=Dk (kk:=Enc.k α) vs 0 ((Array.range (m*Enc.k α)).map (fun i=>z.cells[i % z.cells.size]!)) hf3 au
 have hrun:(execOp a.eval ⟨some d,.buildSlice t m parts,ty,pos,dr,g⟩).run P w = .ok (.value (.slice (some ⟨w.heap.size,0,none⟩) m m)) (w.alloc (.cells (l.flatMap Enc.cells).toArray e)):=by
  simp only [execOp,Instr.buildSlice,Sem.run_bind,run_underlying hu,hsz,Result.andThen_ok]
  rw [if_neg ae]
  by_cases h0:m*Enc.k α=0
  .
   have hm0:m=0:=by grind [Nat.mul_eq_zero,Enc.pos]
   simp_all [Array.map,Instr.fill,newRow,List.eq_nil_of_length_eq_zero,Array.range_zero']
  simp_all [newRow,if_neg,Sem.run_bind,nD,Result.andThen_ok,Sem.run_pure]
 rw [hrun,Oper.upon_value]
 have hfl:=dL l
 refine hK _ _ _ (ha.put d _ hd) (hw.alloc (r:=ah.row e (.slice (some ⟨w.heap.size,0,none⟩) m m) l) ?_ eF)
 refine ⟨ae,.inr ⟨w.heap.size,m,(l.flatMap Enc.cells).toArray,by rw [hm],Nat.zero_le _,heap_alloc_new w _,ae,?_,au,au⟩⟩
 have:=Enc.pos (α:=α)
 have:m*1<=m*Enc.k α:=Nat.mul_le_mul_left m this
 grind [maxLen]
theorem oq (w:World)(g:Nat)(cs:Array Value):lL [g] w (w.setRow g cs):=⟨rfl,rfl,rfl,bC,fun k hk hn=>setRow_other w g k cs au⟩
theorem Wd.store {w:World}{b:Nat}{cs cs':List Value}{t:TypeId}{i:Nat}(hw:Wd we X B F w)(hB:B[i]? = some (ah.box b cs t)):Wd we X (B.set i (ah.box b cs' t)) F (w.setRow b cs'.toArray):=by
 have h0:w.heap[b]? = some (.cells cs.toArray t (0,0)):=hw.b i hB
 refine hw.turn hB (oq w b _) (setRow_heap w b _ _ t _ h0) (by simp [ah.box]) (fun k hk=>?_)
 grind [ah.box,World.setRow,Array.getElem?_eq_some_iff]
theorem s.st {b o:Nat}{cs us cs':List Value}{t:TypeId}{u:Value}(i:Nat)(B':List ah)(hB:B[i]? = some (ah.box b cs t))(hx:ev L x=some (.pointer (some ⟨b,o,none⟩)))(hy:ev L y=some u)(hu:u.cells=us.toArray)
 (ht:(iP P xT=some us.length∨eX P xT=true/\us.length=1)) (hone:us.all (·.oneCell')=true) (hcs:cs.take o++us++cs.drop (o+us.length)=cs') (hl:Nat.ble (o+us.length) cs.length=true) (hB':B.set i (ah.box b cs' t)=B') :
 Stp P n we X L B F ⟨none,.store xT x y,ty,pos,dr,g⟩ (fun _:Unit=>L) (fun _=>B') (fun _=>F):=by
 intro K Q' a w ha hw hK
 unfold Oper.wp
 have h0:w.heap[b]? = some (.cells cs.toArray t (0,0)):=hw.b i hB
 have hsz:(sizeOf xT).run P w = .ok us.length w:=by
  rcases ht with h|⟨h,h'⟩
  .exact (wn (P:=P) w h).2
  rw [h'];exact (wq (P:=P) w h).2
 have hst:=run_storeCells_at P b o t us 0 cs.toArray w h0 sH (fun v hv=>List.all_eq_true.1 hone v hv)
 have hrun:(execOp a.eval ⟨none,.store xT x y,ty,pos,dr,g⟩).run P w = .ok .skip (w.setRow b cs'.toArray):=by
  simp only [execOp,ha.ev hx,ha.ev hy,Instr.storeAt,Instr.sureAddr,storeVar,hu,Sem.run_bind,Sem.run_pure,Result.andThen_ok,hsz]
  simp_all
 rw [hrun,Oper.upon_skip]
 refine hK () _ _ ?_ (hB'▸hw.store hB)
 assumption
theorem lW {α:Type}[Enc α]:∀ (l:List α) (j:Nat) (u:Value),(l.flatMap Enc.cells)[j]? = some u -> ∃i x q,l[i]? = some x/\(Enc.cells x)[q]? = some u/\j=i*Enc.k α+q
 | [],j,u,h=>by simp at h
 | y::l,j,u,h=>by
  simp only [List.flatMap_cons] at h
  by_cases hj:j<(Enc.cells y).length
  .
   rw [List.getElem?_append_left hj] at h
   exact ⟨0,y,j,rfl,h,bC⟩
  rw [List.getElem?_append_right ae] at h
  obtain ⟨i,x,q,h1,h2,h3⟩:=lW l _ u h
  rw [Enc.len] at h3 hj
  exact ⟨i+1,x,q,by simpa using h1,h2,by rw [Nat.add_mul];omega⟩
theorem NK {α:Type}[Enc α]{w:World}{e t:TypeId}{i:TypeInfo}{z:Value}{bytes:Nat}(ht:P.underlying t=some (.slice e))(hi:P.info? e=some i)(hz:i.zero=some z)
 (hsize:i.size=Enc.k α) (hby:i.bytes=bytes) (hzs:z.cells.size=Enc.k α) {base:Nat} {v u:Value} {l l2:List α} (hown:Own base e w v l) (hs:Sl w u l2) (hlen:(l.length+l2.length)*bytes<=140737488355328) (hml:l.length+l2.length<=maxLen) (hb:base<=w.heap.size) :
 ∃v' w',(Builtin.append_ #[t,t] ty #[v,u]).run P w = .ok v' w'/\Own base e w' v' (l++l2)/\w.grownBy w' v.ownBlock /\ ∀k∈eA v',k∈eA v∨w.heap.size<=k:=by
 obtain ⟨A,c,rfl,h1,h2,h3⟩:=hs
 cases A with
 | none =>
  have hl2:l2=[]:=by
   cases l2 with
   | nil=>rfl
   | cons x l2=>obtain ⟨b,off,h,_⟩:=h3 0 x rfl;cases h
  subst hl2
  refine ⟨v,w,?_,au,⟨rfl,rfl,rfl,Nat.le_refl _,fun _ _ _=>rfl⟩,fun k hk => .inl hk⟩
  have hown':=hown
  rcases hown'.2 with ⟨rfl,h0⟩ | ⟨gg,cap,cur,rfl,_,_,hnc,_⟩
  .simp [Builtin.append_,run_underlying ht,sizeOf,typeInfo,hi,Builtin.lenOf,Builtin.firstCells]
  simp [Builtin.append_,run_underlying ht,sizeOf,typeInfo,hi,Builtin.lenOf,Builtin.firstCells,hnc,storeCells]
 | some ad =>
  have hfl:=dL l2
  have hn:∀j u,(l2.flatMap Enc.cells)[j]? = some u->w.cell? (ad.add j)=some u:=fun j u hu=>by
   grind [lW,addr_add,Nat.add_assoc]
  obtain ⟨v',w',g1,g2,g3,g4⟩:=run_append_own (P:=P) w base t ty e i z (Enc.k α) bytes ht hi hz hsize hby hzs Enc.pos v l.length (l.flatMap Enc.cells) hown ad l2.length c (l2.flatMap Enc.cells) hfl hn (kK l2) hml hlen hb
  refine ⟨v',w',g1,?_,g3,?_⟩
  .grind [Own]
  have Q7:(l2.flatMap Enc.cells).length=l2.length*i.size:=au
  have hlen':(l.length+l2.length)*i.bytes<=140737488355328:=au
  have hml':l.length+l2.length<=9223372036854775807:=af
  have hown':=hown
  rcases hown'.2 with ⟨rfl,h0⟩ | ⟨gg,cap,cur,rfl,_,hgg,hnc,hcm,hcs,_⟩
  .
   by_cases hm:l2.length=0
   .grind
   have hr:=run_append_nil (P:=P) w t ty e i z ht hi hz ad l2.length c (l2.flatMap Enc.cells) Q7 hn ae ae au
   rw [hr] at g1
   injection g1 with g1 _
   subst g1
   simp_all [eA,Nat.le_refl]
  by_cases hroom:l.length+l2.length<=cap
  .
   have hfit:l.length*i.size+(l2.flatMap Enc.cells).length<=cur.size:=by rw [hfl,hcs,hsize,<- Nat.add_mul];exact Nat.mul_le_mul_right _ hroom
   have hr:=run_append_room (P:=P) w t ty e i ht hi gg l.length cap cur hgg ad l2.length c (l2.flatMap Enc.cells) Q7 hn (kK l2) hroom hfit
   rw [hr] at g1
   injection g1 with g1 _
   subst g1
   intro k hk;exact .inl hk
  have holds:∀j u,(l.flatMap Enc.cells)[j]? = some u->w.cell? ((⟨gg,0,none⟩:Addr).add j)=some u:=World.ownsRow.cells hown (g:=gg) rfl
  have hr:=run_append_grow (P:=P) w t ty e i z ht hi hz ⟨gg,0,none⟩ l.length cap (l.flatMap Enc.cells) (by rw [hsize];exact hown.1) holds ad l2.length c (l2.flatMap Enc.cells) Q7 hn ae ae (growslice_fits ae hlen')
  rw [hr] at g1
  injection g1 with g1 _
  subst g1
  simp_all [eA,Nat.le_refl]
def mI (P:Program)(t:TypeId)(k:Nat):Option (TypeId×Nat) :=
  match P.underlying t with
  | some (.slice e)=>match P.info? e with
    | some i=>match i.zero with
      | some z=>if i.size=k/\z.cells.size=k then some (e,i.bytes) else none
      | none=>none
    | none=>none
  | _=>none
theorem uf {t e:TypeId}{kk bytes:Nat}(h:mI P t kk=some (e,bytes)):∃i z,P.underlying t=some (.slice e)/\P.info? e=some i/\i.zero=some z/\i.size=kk/\i.bytes=bytes/\z.cells.size=kk:=by
 unfold mI at h
 grind
theorem Hb {α:Type}[Enc α]{w w':World}{v:Value}(h:w.grownBy w' v.ownBlock):lL (eA v) w w' :=
 ⟨h.os,h.tape,h.output,h.size,fun k hk hn=>h.block k hk (fun e=>hn (by
  unfold Value.ownBlock at e
  grind [eA]))⟩
theorem ot {α:Type}[Enc α]{base:Nat}{e:TypeId}{w:World}{v:Value}{l:List α}(h:Own base e w v l):(eA v).Nodup /\ ∀k∈eA v,base<=k/\k<w.heap.size:=by
 unfold eA
 split
 .
  refine ⟨bC,fun k hk=>?_⟩
  simp at hk;subst hk
  exact h.lt _ rfl
 grind
theorem s.app {α:Type}[Enc α]{t e:TypeId}{bytes:Nat}{u:Value}{l l2:List α}(i:Nat)(B':Value->List ah)(hB:B[i]? = some (ah.row e v l))(hx:ev L x=some v)(hy:ev L y=some u)(hs:∀w,Wd we X B F w->Sl w u l2)
 (ht:mI P t (Enc.k α)=some (e,bytes)) (hlen:(l.length+l2.length)*bytes<=140737488355328) (hml:l.length+l2.length<=9223372036854775807) (hB':∀z,B.set i (ah.row e z (l++l2))=B' z) (hd:Nat.blt d n=true) :
 Stp P n we X L B F ⟨some d,.call { callee:= .builtin .append,args:= #[x,y],argTypes:= #[t,t]},ty,pos,dr,g⟩ (fun z:Value=>(d,z)::L) B' (fun _=>F):=by
 intro K Q' a w ha hw hK
 obtain ⟨ti,z,g1,g2,g3,g4,g5,g6⟩:=uf ht
 have hown:Own 0 e w v l:=hw.b i hB
 have hb:=ot hown
 have KB:=NK (P:=P) (ty:=ty) g1 g2 g3 g4 g5 g6 (hown) (hs w hw) hlen af (Nat.zero_le _)
 obtain ⟨v',w',h1,h2,h3,h4⟩:=KB
 unfold Oper.wp
 have hrun:(execOp a.eval ⟨some d,.call { callee:= .builtin .append,args:= #[x,y],argTypes:= #[t,t]},ty,pos,dr,g⟩).run P w = .ok (.value v') w':=by
  simp [execOp,resolve,invoke,builtin,ha.ev hx,ha.ev hy,h1]
 rw [hrun,Oper.upon_value]
 refine hK v' _ _ (ha.put d _ hd) (hB' v'▸hw.turn hB (Hb (α:=α) h3) h2 (ot h2).1 fun k hk=>⟨((ot h2).2 k hk).2,h4 k hk⟩)
end
end
section
open Go Go.RowKit
theorem lL.draw (w:World):lL [] w { w with drawn:=w.drawn+1}:=⟨rfl,rfl,rfl,Nat.le_refl _,fun _ _ _=>rfl⟩
def bP (B:List ah):List Nat->Option (List ah)
  | []=>some []
  | i::is=>match B[i]?,bP B is with
    | some r,some rs=>some (r::rs)
    | _,_=>none
def rising:Nat->List Nat->Bool
  | _,[]=>true
  | m,i::is=>Nat.ble m i&&rising (i+1) is
theorem nG:∀ {B:List ah} {is:List Nat} {rs:List ah},bP B is=some rs -> ∀r∈rs,r∈B
 | B,[],rs,h,r,hr=>by simp [bP] at h;subst h;cases hr
 | B,i::is,rs,h,r,hr=>by
  simp only [bP] at h
  split at h
  .
   rename_i q qs h1 h2
   injection h with h;subst h
   rcases List.mem_cons.1 hr with rfl|hr
   .exact List.mem_of_getElem? h1
   exact nG h2 r hr
  cases h
theorem zZ:∀ {B:List ah} {is:List Nat} {rs:List ah} {m:Nat},bP B is=some rs->rising m is=true->rs.Sublist (B.drop m)
 | B,[],rs,m,h,hr=>by grind [bP]
 | B,i::is,rs,m,h,hr=>by
  simp only [bP] at h
  split at h
  .
   rename_i q qs h1 h2
   injection h with h;subst h
   simp only [rising,Bool.and_eq_true] at hr
   have hm:m<=i:=Nat.le_of_ble_eq_true hr.1
   have ih:=zZ h2 hr.2
   have hi:i<B.length:=(List.getElem?_eq_some_iff.1 h1).1
   have e:B.drop i=q::B.drop (i+1):=by
    grind [List.drop_eq_getElem_cons,List.getElem?_eq_some_iff]
   have h3:(q::qs).Sublist (B.drop i):=e▸ih.cons_cons q
   exact h3.trans au
  grind
theorem sV:∀ {A B:List ah},A.Sublist B->(blks A).Sublist (blks B)
 | _,_,.slnil=>List.Sublist.refl _
 | _,_,.cons r h=>(sV h).trans (List.sublist_append_right _ _)
 | _,_,.cons_cons r h=>(List.Sublist.refl _).append (sV h)
theorem Wd.pick {we w:World}{X:List Nat}{B F B' F':List ah}(is js:List Nat)(hi:bP B is=some B')(hj:bP F js=some F')(hr:rising 0 is=true)(hw:Wd we X B F w):Wd we X B' F' w:=by
 have hs:B'.Sublist B:=by simpa using zZ hi hr
 have hb:=sV hs
 have hF:=nG hj
 exact ⟨hw.upd,fun r h=>hw.okB r (hs.subset h),fun r h=>hw.okF r (hF r h),hw.sep.sublist hb,fun k hk=>hw.own k (hb.subset hk),fun k hk=>by
  obtain ⟨r,hr,hk⟩:=bD.1 hk
  have:=hw.lU k (bD.2 ⟨r,hF r hr,hk⟩)
  grind⟩
theorem Wd.pc {we w:World}{X:List Nat}{B F B' F':List ah}(is js:List Nat)(h:(bP B is,bP F js,rising 0 is)=(some B',some F',true))(hw:Wd we X B F w):Wd we X B' F' w:=by
 injection h with h1 h2;injection h2 with h2 h3;exact hw.pick is js h1 h2 h3
theorem dE{we:World}{X:List Nat}{B F B' F':List ah}(is js:List Nat)(h:(bP B is,bP F js,rising 0 is)=(some B',some F',true)):∀w,Wd we X B F w->Wd we X B' F' w:=fun _=>Wd.pc is js h
section
variable {P:Program} {n:Nat} {we:World} {X:List Nat} {Q:Exit->Act->World->Prop} {k k':List It} {L:Fm} {B F:List ah} {ops rest:List Oper}
variable {dst:Option Nat} {d:Nat} {op:Op} {ty:TypeId} {pos:String} {dr:Array Edge} {g:Option (Nat×Bool)} {g':Nat×Bool} {v:Value}
variable {x y:Operand} {xT yT e:TypeId} {kd:IntKind}
def Rq (P:Program)(n:Nat)(we:World)(X:List Nat)(Q:Exit->Act->World->Prop)(ops rest:List Oper)(k:List It)(L:Fm)(B F:List ah):Prop :=
  ∀a,Fr n L a->wpQuiet P ops.toArray (Wd we X B F) (fun a' => ∀w',Wd we X B F w'->pH P Q k .normal a' w') rest a
theorem R.cG {id:Nat}(h:norm 200 k = .c (.region id ops.toArray true)::k')(hm:P.follows .mixedOrders=true)(hB:Region.lexB .any ops.toArray=true)(hr:Rq P n we X Q ops ops k' L B F):Run P n we X Q k L B F :=
 fun a w ha hw=>cO 200 (h▸wp_region_quiet (C:=Wd we X B F) hm hB (hw.grow (lL.draw w)) (by simpa using hr a ha))
theorem Q.nil (h:Run P n we X Q k L B F):Rq P n we X Q ops [] k L B F:=fun a ha=>wpQuiet_nil (h a · ha)
theorem Q.q (hq:Qt P n we X L B F op ty v)(hd:Nat.blt d n=true)(h:Rq P n we X Q ops rest k ((d,v)::L) B F):Rq P n we X Q ops (⟨some d,op,ty,pos,dr,none⟩::rest) k L B F:=by
 intro a ha
 refine wpQuiet_step fun K hK=>?_
 rw [if_pos eF]
 exact ⟨v,fun w hw=>by unfold Oper.quietAt;rw [hq _ _ _ _ a w ha hw];exact ⟨rfl,rfl⟩,hK _ (h _ (ha.put d v hd))⟩
theorem Q.qg (hg:gd ops L (some g')=some true)(hq:Qt P n we X L B F op ty v)(hd:Nat.blt d n=true)(h:Rq P n we X Q ops rest k ((d,v)::L) B F):Rq P n we X Q ops (⟨some d,op,ty,pos,dr,some g'⟩::rest) k L B F:=by
 intro a ha
 refine wpQuiet_step fun K hK=>?_
 rw [if_pos (dR (o:=⟨some d,op,ty,pos,dr,some g'⟩) ha hg)]
 exact ⟨v,fun w hw=>by unfold Oper.quietAt;rw [hq _ _ _ _ a w ha hw];exact ⟨rfl,rfl⟩,hK _ (h _ (ha.put d v hd))⟩
theorem Qa.at {a:Act}{w:World}(h:Qa P n we X L B F op ty v)(ha:Fr n L a)(hw:Wd we X B F w):Oper.quietAt P ⟨dst,op,ty,pos,dr,g⟩ a (Wd we X B F) w v:=by
 unfold Oper.quietAt
 rcases h dst pos dr g a w ha hw with h1|⟨f,args,h1,h2⟩
 .rw [h1];exact ⟨rfl,rfl⟩
 rw [h1];exact ⟨rfl,h2.mono fun e w' he=>⟨he.1,hw.grow he.2.upd⟩⟩
theorem Q.c (hq:Qa P n we X L B F op ty v)(hd:Nat.blt d n=true)(h:Rq P n we X Q ops rest k ((d,v)::L) B F):Rq P n we X Q ops (⟨some d,op,ty,pos,dr,none⟩::rest) k L B F:=by
 intro a ha
 refine wpQuiet_step fun K hK=>?_
 rw [if_pos eF]
 exact ⟨v,fun w hw=>hq.at ha hw,hK _ (h _ (ha.put d v hd))⟩
theorem Q.cg (hg:gd ops L (some g')=some true)(hq:Qa P n we X L B F op ty v)(hd:Nat.blt d n=true)(h:Rq P n we X Q ops rest k ((d,v)::L) B F):Rq P n we X Q ops (⟨some d,op,ty,pos,dr,some g'⟩::rest) k L B F:=by
 intro a ha
 refine wpQuiet_step fun K hK=>?_
 rw [if_pos (dR (o:=⟨some d,op,ty,pos,dr,some g'⟩) ha hg)]
 exact ⟨v,fun w hw=>hq.at ha hw,hK _ (h _ (ha.put d v hd))⟩
def Dg (S:World->Prop)(P:Program)(n:Nat)(we:World)(X:List Nat)(Q:Exit->Act->World->Prop)(ops:List Oper)(fuel:Nat)(ls:Array Bool)(k:List It)(L:Fm)(B F:List ah):Prop :=
  ∀a w,Fr n L a->Wd we X B F w->wpAnyH P .any ops.toArray (NoPanic (pH P Q k)) S fuel ls a w
def Do (S:World->Prop)(P:Program)(n:Nat)(we:World)(X:List Nat)(Q:Exit->Act->World->Prop)(ops:List Oper)(i:Nat)(o:Oper)(fuel:Nat)(ls:Array Bool)(k:List It)(L:Fm)(B F:List ah):Prop :=
  ops[i]? = some o -> ∀a w,Fr n L a->Wd we X B F w->wpOp P ops.toArray (NoPanic (pH P Q k)) i (fun a' w'=>S w'/\wpAnyH P .any ops.toArray (NoPanic (pH P Q k)) S fuel (ls.setIfInBounds i true) a' w') a w
variable {S:World->Prop} {i j fuel:Nat} {ls ls':Array Bool} {o:Oper}
theorem R.FP {id:Nat}(S:World->Prop)(h:norm 200 k = .c (.region id ops.toArray true)::k')(hm:P.follows .mixedOrders=true)(hl:ops.length=fuel)(hr:Dg S P n we X Q ops fuel (Array.replicate fuel false) k' L B F):Run P n we X Q k L B F:=by
 intro a w ha hw
 refine cO 200 (h ▸ ?_)
 refine wp_region_noPanic (wp_region_held (S:=S) hm ?_)
 have:=hr a _ ha (hw.grow (lL.draw w))
 grind
theorem R.dC {id:Nat}{B1:List ah}(is:List Nat)(hB:bP B is=some B1)(h:norm 200 k = .c (.region id ops.toArray true)::k')(hm:P.follows .mixedOrders=true)(hl:ops.length=fuel)(hr:Dg (Wd we X B1 F) P n we X Q ops fuel (Array.replicate fuel false) k' L B F):Run P n we X Q k L B F :=
 R.FP (Wd we X B1 F) h hm hl hr
theorem D.done (h:Run P n we X Q k L B F)(h0:Region.ready .any ops.toArray ls=[]:=by kernel_rfl):Dg S P n we X Q ops fuel ls k L B F :=
 fun a w ha hw=>wpAnyH_done h0 (NoPanic.normal (h a w ha hw)) _
theorem D.q (hi:ops[i]? = some ⟨some d,op,ty,pos,dr,g⟩)(hS:∀w,Wd we X B F w->S w)(hg:gd ops L g=some true)
 (hq:∀dst pos dr g a w,Fr n L a->S w->(execOp a.eval ⟨dst,op,ty,pos,dr,g⟩).run P w = .ok (.value v) w) (hd:Nat.blt d n=true) (h:Dg S P n we X Q ops fuel (ls.setIfInBounds i true) k ((d,v)::L) B F) (hfr:(Region.noSelect ops.toArray&&Region.free .any ops.toArray ls i&&(Region.ready .any ops.toArray ls).contains i)=true:=by kernel_rfl):Dg S P n we X Q ops (fuel+1) ls k L B F:=by
 intro a w ha hw
 simp only [Bool.and_eq_true] at hfr
 exact wpAnyH_take au hfr.1.1 hfr.1.2 hfr.2 (fun _ _ _ h=>h) (.inl ⟨dR (o:=⟨some d,op,ty,pos,dr,g⟩) ha hg,fun w hw=>hq _ _ _ _ a w ha hw⟩) (hS w hw) (h _ w (ha.put d v hd) hw)
theorem D.skip (hi:ops[i]? = some ⟨some d,op,ty,pos,dr,g⟩)(hS:∀w,Wd we X B F w->S w)(hg:gd ops L g=some false)
 (hd:Nat.blt d n=true) (h:Dg S P n we X Q ops fuel (ls.setIfInBounds i true) k ((d,undef)::L) B F) (hfr:(Region.noSelect ops.toArray&&Region.free .any ops.toArray ls i&&(Region.ready .any ops.toArray ls).contains i)=true:=by kernel_rfl):Dg S P n we X Q ops (fuel+1) ls k L B F:=by
 intro a w ha hw
 simp only [Bool.and_eq_true] at hfr
 exact wpAnyH_take au hfr.1.1 hfr.1.2 hfr.2 (fun _ _ _ h=>h) (.inr ⟨dR (o:=⟨some d,op,ty,pos,dr,g⟩) ha hg,rfl⟩) (hS w hw) (h _ w (ha.put d undef hd) hw)
theorem D.one (hi:ops[i]? = some o)(h:Do S P n we X Q ops i o fuel ls k L B F)(h0:Region.ready .any ops.toArray ls=[i]:=by kernel_rfl):Dg S P n we X Q ops (fuel+1) ls k L B F :=
 fun a w ha hw=>wpAnyH_all h0 bC (by simpa using h hi a w ha hw)
theorem D.two {o':Oper}(hi:ops[i]? = some o)(hj:ops[j]? = some o')(h:Do S P n we X Q ops i o fuel ls k L B F)(h':Do S P n we X Q ops j o' fuel ls k L B F)(h0:Region.ready .any ops.toArray ls=[i,j]:=by kernel_rfl):Dg S P n we X Q ops (fuel+1) ls k L B F :=
 fun a w ha hw=>wpAnyH_all h0 bC (by simpa using ⟨h hi a w ha hw,h' hj a w ha hw⟩)
theorem D.three {m:Nat}{o' o'':Oper}(hi:ops[i]? = some o)(hj:ops[j]? = some o')(hm:ops[m]? = some o'')(h:Do S P n we X Q ops i o fuel ls k L B F)(h':Do S P n we X Q ops j o' fuel ls k L B F)(h'':Do S P n we X Q ops m o'' fuel ls k L B F)(h0:Region.ready .any ops.toArray ls=[i,j,m]:=by kernel_rfl):Dg S P n we X Q ops (fuel+1) ls k L B F :=
 fun a w ha hw=>wpAnyH_all h0 bC (by simpa using ⟨h hi a w ha hw,h' hj a w ha hw,h'' hm a w ha hw⟩)
theorem Do.s {β:Type}{L':β->Fm}{B' F':β->List ah}(hs:Stp P n we X L B F o L' B' F')(hS:∀z w,Wd we X (B' z) (F' z) w->S w)(hg:gd ops L o.guard=some true)
 (h:∀z,Dg S P n we X Q ops fuel (ls.setIfInBounds i true) k (L' z) (B' z) (F' z)):Do S P n we X Q ops i o fuel ls k L B F:=by
 intro hi a w ha hw
 unfold wpOp
 have:ops.toArray[i]? = some o:=au
 rw [this]
 simp only []
 rw [if_pos (dR (o:=o) ha hg)]
 exact .inl (hs _ _ a w ha hw fun z a w ha hw=>⟨hS z w hw,h z a w ha hw⟩)
end
end
end Go.Proofs.YtnmpibjlnninjaaGreatDoor
