import Derived.Test.YtkbhcbipadkcaaaGreatDoorTS14
import Derived.RangeFuncNested
import Derived.RangeFuncCalls
import Derived.RangeFuncLeaves
import Derived.OrdersIn
import Derived.TacticsIn
import Derived.Lib.ConvBytes
namespace Go.Proofs.YtkbhcbipadkcaaaGreatDoor
set_option linter.unusedVariables false
set_option linter.unusedSimpArgs false
set_option maxRecDepth 100000
set_option maxHeartbeats 90000000
section
open Go Go.RowKit
def E2:Option Nat->Fence
  | none=>Fence.wide
  | some l=>Fence.wide.inRound l
theorem E3 (r:Option Nat)(f:FuncId):(E2 r).fn f:=by cases r <;> exact trivial
theorem tW (r:Option Nat):(E2 r).depth.isSome=true->1<=9:=fun _=>by decide
theorem H0 {r:Option Nat}{m:Nat}{P:Program}{f:FuncId}{args:Array Value}{w:World}{R:Ending->World->Prop}(h:Calls P f args w R):CallsIn (E2 r) m P f args w R:=by
 cases r with
 | none=>exact callsIn_wide.2 h
 | some l=>exact CallsIn.inRound l (callsIn_wide.2 h)
theorem Km {r:Option Nat}{m:Nat}{P:Program}{row:String}{args:Array Value}{w:World}{R:Value->World->Prop}(h:Rows P row args w R):RowsIn (E2 r) m P row args w R:=by
 have key:RowsIn Fence.wide m P row args w R:=fun c cs _=>let ⟨v,w',q,s⟩:=h c cs;⟨v,w',q,stepsIn_wide.2 s⟩
 cases r with
 | none=>exact key
 | some l=>exact key
def nk (a:Act)(ds:List Deferred):Act:={ a with defers:=a.defers++ds }
theorem mV (a:Act)(ds:List Deferred)(dst:Option Nat)(v:Value):(nk a ds).put dst v=nk (a.put dst v) ds:=by cases dst <;> rfl
theorem Df (a:Act)(ds:List Deferred):(nk a ds).eval=a.eval:=rfl
section
variable {P:Program} {r:Option Nat} {ds:List Deferred}
def ndef (o:Oper):Bool:=match o.op with | .defer _=>false|_=>true
theorem My {o:Oper}(h:ndef o=true):∀c,o.op ≠ .defer c:=fun c e=>by unfold ndef at h;rw [e] at h;cases h
theorem Kn {o:Oper}{a:Act}{w:World}{K K':Act->World->Prop}{Q Q':Exit->Act->World->Prop}(hnd:ndef o=true)(hK:∀a w,K a w->K' (nk a ds) w)(hQ:∀e a w,Q e a w->Q' e (nk a ds) w)
 (h:o.wp P a w K Q):o.wpIn (E2 r) 9 P (nk a ds) w K' Q':=by
 refine ⟨fun f _=>E3 r f,?_⟩
 rw [Oper.semAt_eq _ _ _ (My hnd),Df]
 unfold Oper.wp at h
 generalize (execOp a.eval o).run P w=x at *
 cases x with
 | ok y w' =>
  cases y <;> simp only [Oper.upon] at h <;> simp only [Oper.uponIn]
  case value v=>rw [mV];exact hK _ _ h
  case skip=>rw [mV];exact hK _ _ h
  case defer d =>
   have e:({ nk a ds with defers:=d::(nk a ds).defers }:Act)=nk { a with defers:=d::a.defers } ds:=rfl
   rw [e,mV];exact hK _ _ h
  case enter f args =>
   refine ⟨tW r,(H0 h).mono fun en w'' he=>?_⟩
   cases en with
   | returned v=>show K' ((nk a ds).put o.dst v) w'';rw [mV];exact hK _ _ he
   | panicked c=>exact hQ _ _ _ he
   | outgrown=>obtain ⟨a',w',hq⟩:=he;exact ⟨_,_,hQ _ _ _ hq⟩
  case row row args =>
   exact ⟨tW r,(Km h).mono fun v w'' he=>by rw [mV];exact hK _ _ he⟩
 | halt x w' =>
  cases x <;> simp only [Oper.upon] at h <;> simp only [Oper.uponIn]
  case panic v=>exact hQ _ _ _ h
theorem Gu {ops:Array Oper}{Q Q':Exit->Act->World->Prop}(hQ:∀e a w,Q e a w->Q' e (nk a ds) w)(hO:∀a w,¬ Q .outgrown a w):∀ (rest:List Oper) (a:Act) (w:World),rest.all ndef=true->wpList P ops Q rest a w->wpListIn (E2 r) 9 P ops Q' rest (nk a ds) w
 | [],a,w,_,h=>hQ _ _ _ h
 | o::rest,a,w,hn,h=>by
  rw [List.all_cons,Bool.and_eq_true] at hn
  have ih:∀a w,wpList P ops Q rest a w->wpListIn (E2 r) 9 P ops Q' rest (nk a ds) w:=fun a w=>Gu hQ hO rest a w hn.2
  unfold wpList at h
  unfold wpListIn
  by_cases hw:Region.wanted o (yielded ops a.tmps)=true
  .
   rw [if_pos hw] at h
   rw [if_pos (show Region.wanted o (yielded ops (nk a ds).tmps)=true from hw)]
   rcases h with h|⟨_,a',w',h⟩
   .exact Kn hn.1 ih hQ h
   .exact absurd h (hO _ _)
  .
   rw [if_neg hw] at h
   rw [if_neg (show ¬ Region.wanted o (yielded ops (nk a ds).tmps)=true from hw),mV]
   exact ⟨fun f _=>E3 r f,ih _ _ h⟩
theorem Kp {ops:Array Oper}{Q Q':Exit->Act->World->Prop}(hn:ops.toList.all ndef=true)(hQ:∀e a w,Q e a w->Q' e (nk a ds) w)(hO:∀a w,¬ Q .outgrown a w) :
 ∀ (fuel:Nat) (ls:Array Bool) (a:Act) (w:World),wpAny P .any ops Q fuel ls a w->wpAnyIn (E2 r) 9 P .any ops Q' fuel ls (nk a ds) w
 | 0,ls,a,w,h=>⟨h.1,hQ _ _ _ h.2⟩
 | fuel+1,ls,a,w,h=>by
  refine ⟨fun h0=>hQ _ _ _ (h.1 h0),fun i hi=>?_⟩
  have h1:=h.2 i hi
  have ih:∀a w,wpAny P .any ops Q fuel (ls.setIfInBounds i true) a w->wpAnyIn (E2 r) 9 P .any ops Q' fuel (ls.setIfInBounds i true) (nk a ds) w:=fun a w=>Kp hn hQ hO fuel (ls.setIfInBounds i true) a w
  unfold wpOp at h1
  unfold wpOpIn
  cases ho:ops[i]? with
  | none=>rw [ho] at h1;exact ih _ _ h1
  | some o =>
   rw [ho] at h1
   dsimp only at h1 ⊢
   have hno:ndef o=true:=List.all_eq_true.1 hn o (Array.mem_toList_iff.2 (Array.mem_of_getElem? ho))
   by_cases hw:Region.wanted o (yielded ops a.tmps)=true
   .
    rw [if_pos hw] at h1
    rw [if_pos (show Region.wanted o (yielded ops (nk a ds).tmps)=true from hw)]
    rcases h1 with h1|⟨_,a',w',h1⟩
    .exact Kn hno ih hQ h1
    .exact absurd h1 (hO _ _)
   .
    rw [if_neg hw] at h1
    rw [if_neg (show ¬ Region.wanted o (yielded ops (nk a ds).tmps)=true from hw),mV]
    exact ⟨fun f _=>E3 r f,ih _ _ h1⟩
end
def lM (r:Option Nat)(P:Program)(Q:Exit->Act->World->Prop):List It->Exit->Act->World->Prop
  | [],e,a,w=>Q e a w
  | .c x::k,.normal,a,w=>x.wpIn (E2 r) 9 P (lM r P Q k) a w
  | .c _::k,e,a,w=>lM r P Q k e a w
  | .b id::k,.exit id',a,w=>bif Nat.beq id' id then lM r P Q k .normal a w else lM r P Q k (.exit id') a w
  | .b _::k,e,a,w=>lM r P Q k e a w
  | .back I::k,.normal,a,w=>I a w
  | .back _::k,e,a,w=>lM r P Q k e a w
section
variable {P:Program} {r:Option Nat} {ds:List Deferred} {Q:Exit->Act->World->Prop}
theorem Kq {x y:Code}{k:List It}{a:Act}{w:World}(h:lM r P Q (.c x :: .c y::k) .normal a w):lM r P Q (.c (.seq x y)::k) .normal a w :=
 wpIn_seq (wpIn_mono h (fun e a w q=>by cases e <;> exact q))
theorem E4 {id:Nat}{x:Code}{k:List It}{a:Act}{w:World}(h:lM r P Q (.c x :: .b id::k) .normal a w):lM r P Q (.c (.block id x)::k) .normal a w :=
 wpIn_block (wpIn_mono h (fun e a w q=>by
  cases e with
  | exit id' =>
   simp only [lM] at q
   by_cases hid:id'=id
   .subst hid;simpa [Exit.inBlock] using q
   .
    have e':Nat.beq id' id=false:=Bool.eq_false_iff.2 (fun h=>hid (Nat.eq_of_beq_eq_true h))
    rw [e'] at q
    simpa [Exit.inBlock,hid] using q
  | _=>exact q))
theorem qH {id:Nat}:∀ {k k':List It} {a:Act} {w:World},kJ id k=some k'->lM r P Q k' .normal a w->lM r P Q k (.exit id) a w
 | [],k',a,w,h,hq=>by simp [kJ] at h
 | .c _::k,k',a,w,h,hq=>qH (k:=k) (by simpa [kJ] using h) hq
 | .back _::k,k',a,w,h,hq=>qH (k:=k) (by simpa [kJ] using h) hq
 | .b id'::k,k',a,w,h,hq=>by
  simp only [kJ] at h
  simp only [lM]
  cases hb:Nat.beq id id' with
  | true=>rw [hb] at h;simp at h;subst h;exact hq
  | false=>rw [hb] at h;simp at h;exact qH h hq
theorem eJ:∀ (f:Nat) {k:List It} {a:Act} {w:World},lM r P Q (norm f k) .normal a w->lM r P Q k .normal a w
 | 0,k,a,w,h=>h
 | f+1,k,a,w,h=>by
  unfold norm at h
  split at h
  .exact Kq (eJ f h)
  .exact wpIn_skip (eJ f h)
  .exact wpIn_label (eJ f h)
  .exact E4 (eJ f h)
  .
   have:=eJ f h
   exact this
  .
   split at h
   .rename_i hx;exact wpIn_exit (qH hx (eJ f h))
   .exact h
  .exact h
theorem sT:∀ {k:List It} {a:Act} {w:World},Q .ret a w->lM r P Q k .ret a w
 | [],a,w,h=>h
 | .c _::k,a,w,h=>sT (k:=k) h
 | .b _::k,a,w,h=>sT (k:=k) h
 | .back _::k,a,w,h=>sT (k:=k) h
theorem p9 (hO:∀a w,¬ Q .outgrown a w):∀ (k:List It) (a:Act) (w:World),¬ lM r P Q k .outgrown a w
 | [],a,w=>hO a w
 | .c _::k,a,w=>p9 hO k a w
 | .b _::k,a,w=>p9 hO k a w
 | .back _::k,a,w=>p9 hO k a w
theorem mq:∀ (k:List It) (e:Exit) (a:Act) (w:World),lM none P Q k e a w->o8 P Q k e a w
 | [],e,a,w,h=>h
 | .c x::k,e,a,w,h=>by
  cases e with
  | normal=>exact wp_mono (wpIn_wide.1 h) (fun e a w q=>mq k e a w q)
  | _=>exact mq k _ a w h
 | .b id::k,e,a,w,h=>by
  cases e with
  | exit id' =>
   simp only [lM] at h
   simp only [o8]
   cases hb:Nat.beq id' id with
   | true=>rw [hb] at h;exact mq k _ a w h
   | false=>rw [hb] at h;exact mq k _ a w h
  | _=>exact mq k _ a w h
 | .back I::k,e,a,w,h=>by
  cases e with
  | normal=>exact h
  | _=>exact mq k _ a w h
end
def lF (r:Option Nat)(ds:List Deferred)(P:Program)(n:Nat)(we:World)(X:List Nat)(Q:Exit->Act->World->Prop)(k:List It)(L:Fm)(B F:List ag):Prop :=
  ∀a w,Fr n L a->Wd we X B F w->lM r P Q k .normal (nk a ds) w
def qI (r:Option Nat)(ds:List Deferred)(P:Program)(Q:Exit->Act->World->Prop)(k:List It):Exit->Act->World->Prop:=fun e a w=>lM r P Q k e (nk a ds) w
section
variable {P:Program} {r:Option Nat} {ds:List Deferred} {n:Nat} {we:World} {X:List Nat} {Q:Exit->Act->World->Prop} {k k':List It} {L L':Fm} {B F:List ag} {ops rest:List Oper}
theorem I.nil (h:lF r ds P n we X Q k L B F):Run P n we X (qI r ds P Q k) [] L B F:=fun a w ha hw=>h a w ha hw
theorem I.reg {id:Nat}(h:norm 200 k = .c (.region id ops.toArray false)::k')(hn:ops.all ndef=true)(hO:∀a w,¬ Q .outgrown a w)(hr:Rg P n we X (qI r ds P Q k') ops ops [] L B F):lF r ds P n we X Q k L B F :=
 fun a w ha hw=>eJ 200 (h▸wpIn_region_lit (Gu (Q:=o8 P (qI r ds P Q k') []) (fun e a w q=>q) (fun a w q=>p9 hO k' _ _ q) ops a w hn (hr a w ha hw)))
theorem I.Ew {id fuel:Nat}(S:World->Prop)(h:norm 200 k = .c (.region id ops.toArray true)::k')(hn:ops.all ndef=true)(hO:∀a w,¬ Q .outgrown a w)(hm:P.follows .mixedOrders=true)(hl:ops.length=fuel)
 (hr:Dg S P n we X (qI r ds P Q k') ops fuel (Array.replicate fuel false) [] L B F):lF r ds P n we X Q k L B F:=by
 intro a w ha hw
 refine eJ 200 (h ▸ ?_)
 refine wpIn_region_any hm ?_
 have h1:=wpAny_of_held _ _ _ _ (hr a _ ha (hw.grow (lR.draw w)))
 have h2:=Kp (r:=r) (ds:=ds) (ops:=ops.toArray) (Q:=NoPanic (o8 P (qI r ds P Q k') [])) (Q':=lM r P Q k') hn (fun e a w q=>NoPanic.imp e a w q) (fun a w q=>p9 hO k' (nk a ds) w (NoPanic.imp (Q:=o8 P (qI r ds P Q k') []) _ a w q)) fuel _ a _ h1
 simpa [hl] using h2
theorem I.az {c:Operand}{x y:Code}(h:norm 200 k = .c (.cond c x y)::k')(hc:ev L c=some (.bool true))(hr:lF r ds P n we X Q (.c x::k') L B F):lF r ds P n we X Q k L B F :=
 fun a w ha hw=>eJ 200 (h▸wpIn_cond_true (ha.ev hc) (hr a w ha hw))
theorem I.aD {c:Operand}{x y:Code}(h:norm 200 k = .c (.cond c x y)::k')(hc:ev L c=some (.bool false))(hr:lF r ds P n we X Q (.c y::k') L B F):lF r ds P n we X Q k L B F :=
 fun a w ha hw=>eJ 200 (h▸wpIn_cond_false (ha.ev hc) (hr a w ha hw))
theorem I.mp {B' F':List ag}(hm:∀w,Wd we X B F w->Wd we X B' F' w)(h:lF r ds P n we X Q k L B' F'):lF r ds P n we X Q k L B F:=fun a w ha hw=>h a w ha (hm w hw)
theorem I.ret (h:norm 200 k = .c .ret::k')(hq:∀a w,Fr n L a->Wd we X B F w->Q .ret (nk a ds) w):lF r ds P n we X Q k L B F :=
 fun a w ha hw=>eJ 200 (h▸wpIn_ret (sT (hq a w ha hw)))
theorem I.end (h:norm 200 k=[])(hq:∀a w,Fr n L a->Wd we X B F w->Q .normal (nk a ds) w):lF r ds P n we X Q k L B F :=
 fun a w ha hw=>eJ 200 (h▸hq a w ha hw)
end
end
section
open Go Go.RowKit
def ag.cJ (l:Nat)(o:Obj):ag:=⟨[l],fun w=>w.heap[l]? = some o,fun w w' h ho=>(h l (List.mem_singleton.2 rfl)).trans ho⟩
theorem E5 {w:World}{l:Nat}{o o':Obj}:lR [l] w (w.putObj l o') :=
 ⟨rfl,rfl,rfl,Nat.le_of_eq World.putObj_size.symm,fun k hk hn=>World.putObj_heap_other (fun e=>hn (by rw [e];exact List.mem_singleton.2 rfl))⟩
section
variable {we w:World} {X:List Nat} {B F:List ag}
theorem Wd.E6 {i l:Nat}{o:Obj}(hw:Wd we X B F w)(hi:B[i]? = some (ag.cJ l o)):w.heap[l]? = some o:=hw.b i hi
theorem Wd.Kr {i l:Nat}{o:Obj}(o':Obj)(hw:Wd we X B F w)(hi:B[i]? = some (ag.cJ l o)):Wd we X (B.set i (ag.cJ l o')) F (w.putObj l o'):=by
 have h:=hw.E6 hi
 have hlt:l<w.heap.size:=(Array.getElem?_eq_some_iff.1 h).1
 refine hw.turn hi (E5 (o:=o)) (World.putObj_heap_same hlt) (by simp [ag.cJ]) fun k hk=>?_
 have e:k=l:=List.mem_singleton.1 hk
 subst e
 exact ⟨by rw [World.putObj_size];exact hlt,.inl (List.mem_singleton.2 rfl)⟩
theorem H2 (w:World)(o:Obj):lR [] w (w.alloc o):=by
 refine ⟨rfl,rfl,rfl,by rw [World.size_alloc];omega,fun k hk _=>?_⟩
 show (w.heap.push o)[k]? = _
 rw [Array.getElem?_push_lt hk,Array.getElem?_eq_getElem hk]
theorem Wd.U2 (hw:Wd we X B F w)(o:Obj):Wd we X (ag.cJ w.heap.size o::B) F (w.alloc o):=by
 have h1:=hw.grow (H2 w o)
 refine h1.new (r:=ag.cJ w.heap.size o) (World.alloc_heap_new w o) (by simp [ag.cJ]) fun k hk=>?_
 have e:k=w.heap.size:=List.mem_singleton.1 hk
 subst e
 refine ⟨by rw [World.size_alloc];omega,hw.upd.size,fun hb=>?_,fun hb=>?_⟩
 .have:=(hw.own _ hb).1;omega
 .have:=(hw.mb _ hb).1;omega
end
section
variable {P:Program} {r:Option Nat} {ds:List Deferred} {n:Nat} {we:World} {X:List Nat} {Q:Exit->Act->World->Prop} {k k':List It} {L L':Fm} {B F:List ag} {ops rest:List Oper}
variable {d:Nat} {op:Op} {ty:TypeId} {pos:String} {eh:Array Edge} {g:Option (Nat×Bool)} {v:Value}
def Od (r:Option Nat)(ds:List Deferred)(P:Program)(n:Nat)(we:World)(X:List Nat)(Q:Exit->Act->World->Prop)(ops rest:List Oper)(k:List It)(L:Fm)(B F:List ag):Prop :=
  ∀a w,Fr n L a->Wd we X B F w->wpListIn (E2 r) 9 P ops.toArray (lM r P Q k) rest (nk a ds) w
theorem I.Uj {id:Nat}(h:norm 200 k = .c (.region id ops.toArray false)::k')(hr:Od r ds P n we X Q ops ops k' L B F):lF r ds P n we X Q k L B F :=
 fun a w ha hw=>eJ 200 (h▸wpIn_region_lit (hr a w ha hw))
theorem I.SI (h:lF r ds P n we X Q k L B F):Od r ds P n we X Q ops [] k L B F:=fun a w ha hw=>wpListIn_nil (h a w ha hw)
theorem I.s {β:Type}{o:Oper}{L':β->Fm}{B' F':β->List ag}(hn:ndef o=true)(hg:gd ops L o.guard=some true)(hs:Stp P n we X L B F o L' B' F')(h:∀z,Od r ds P n we X Q ops rest k (L' z) (B' z) (F' z)):Od r ds P n we X Q ops (o::rest) k L B F:=by
 intro a w ha hw
 refine wpListIn_step fun K hK=>?_
 rw [if_pos (show Region.wanted o (yielded ops.toArray (nk a ds).tmps)=true from dV (o:=o) (a:=a) ha hg)]
 refine Kn (K:=fun a w => ∃z,Fr n (L' z) a/\Wd we X (B' z) (F' z) w) (Q:=fun _ _ _=>False) hn ?_ ?_ (hs _ _ a w ha hw fun z a w ha hw=>⟨z,ha,hw⟩)
 .rintro a w ⟨z,ha,hw⟩;exact hK _ _ (h z a w ha hw)
 .intro e a w q;exact q.elim
theorem q.VR (hq:Qt P n we X L B F op ty v)(hd:Nat.blt d n=true):Stp P n we X L B F ⟨some d,op,ty,pos,eh,g⟩ (fun _:Unit=>(d,v)::L) (fun _=>B) (fun _=>F):=by
 intro K Q' a w ha hw hK
 unfold Oper.wp
 rw [hq _ _ _ _ a w ha hw,Oper.upon_value]
 exact hK () _ _ (ha.put d v hd) hw
theorem I.q (hq:Qt P n we X L B F op ty v)(hd:Nat.blt d n=true)(hn:ndef ⟨some d,op,ty,pos,eh,none⟩=true)(h:Od r ds P n we X Q ops rest k ((d,v)::L) B F):Od r ds P n we X Q ops (⟨some d,op,ty,pos,eh,none⟩::rest) k L B F :=
 I.s hn rfl (q.VR hq hd) fun _=>h
theorem I.y {β:Type}{l i:Nat}{rc:Loop}{c x:Operand}{xv:Value}{ts:Array TypeId}(hi:B[i]? = some (ag.cJ l (.loop rc)))(hp:rc.params.size=1)(hc:ev L c=some (.func (.yield l) #[] #[]))(hx:ev L x=some xv)
 (V:β->Bool) (PV:β->Prop) (B' F':β->List ag)
 (P6:∀w,Wd we X B F w->RoundIn Fence.wide 8 P l rc.fn ((rc.params.zip #[xv]).foldl (fun tmps (t,a)=>tmps.setIfInBounds t a) rc.tmps) rc.assign rc.body w (fun e w' => ∃z,e = .returned (.bool (V z))/\PV z/\Wd we X (B' z) (F' z) w'))
 (hd:Nat.blt d n=true) (h:∀z,PV z->Od none ds P n we X Q ops rest k ((d,.bool (V z))::L) (B' z) (F' z)) :
 Od none ds P n we X Q ops (⟨some d,.call { callee:= .value c,args:= #[x],argTypes:=ts },ty,pos,eh,none⟩::rest) k L B F:=by
 intro a w ha hw
 refine wpListIn_plain rfl fun K hK=>⟨fun f _=>trivial,?_⟩
 have hrun:(Oper.semAt (E2 none).round (nk a ds).eval ⟨some d,.call { callee:= .value c,args:= #[x],argTypes:=ts },ty,pos,eh,none⟩).run P w = .ok (.round l rc.fn ((rc.params.zip #[xv]).foldl (fun tmps (t,a)=>tmps.setIfInBounds t a) rc.tmps) rc.assign rc.body) w:=by
  rw [Oper.semAt_eq _ _ _ (fun c h=>by cases h),Df]
  simp [execOp,resolve,ha.ev hc,Deferred.ofValue,invoke,ha.ev hx,run_yield (P:=P) (args:= #[xv]) (hw.E6 hi) (by rw [hp];rfl)]
 rw [hrun,Oper.uponIn_round]
 refine ⟨tW none,RoundIn.mono (P6 w hw) fun e w' he=>?_⟩
 obtain ⟨z,rfl,hp,hz⟩:=he
 show K ((nk a ds).put (some d) (.bool (V z))) w'
 rw [mV]
 exact hK _ _ (h z hp _ w' (ha.put d _ hd) hz)
def U3 {ι:Type}(ds:List Deferred)(n:Nat)(we:World)(X:List Nat)(LI:ι->Fm)(BI FI:ι->List ag)(PI:ι->Prop)(μ:ι->Nat)(m:Nat)(a:Act)(w:World):Prop :=
  ∃a0,a=nk a0 ds/\Hd n we X LI BI FI PI μ m a0 w
theorem I.back {ι:Type}{LI:ι->Fm}{BI FI:ι->List ag}{PI:ι->Prop}{μ:ι->Nat}{m:Nat}(i:ι)(h:norm 200 k = .back (U3 ds n we X LI BI FI PI μ m)::k')(hP:PI i)(hm:μ i<m)(hL:Ah (LI i) L)(hB:∀w,Wd we X B F w->Wd we X (BI i) (FI i) w):lF r ds P n we X Q k L B F :=
 fun a w ha hw=>eJ 200 (by rw [h];exact ⟨a,rfl,i,hP,hm,ha.sub hL,hB w hw⟩)
theorem H3 {c:Code}{Q:Exit->Act->World->Prop}{a:Act}{w:World}(I:Nat->Act->World->Prop)(m:Nat)(h₀:I m a w)
 (round:∀m a w,I m a w->c.wpIn Fence.wide 9 P (Exit.then (fun a' w' => ∃m',m'<m/\I m' a' w') Q) a w):(Code.loop c).wpIn Fence.wide 9 P Q a w :=
 wpIn_wide.2 (Cl I m h₀ fun m a w h=>wpIn_wide.1 (round m a w h))
theorem I.loop {ι:Type}(LI:ι->Fm)(BI FI:ι->List ag)(PI:ι->Prop)(μ:ι->Nat)(i:ι){c:Code}(h:norm 200 k = .c (.loop c)::k')(hP:PI i)(hL:Ah (LI i) L)(hB:∀w,Wd we X B F w->Wd we X (BI i) (FI i) w)
 (round:∀i,PI i->lF none ds P n we X Q (.c c :: .back (U3 ds n we X LI BI FI PI μ (μ i))::k') (LI i) (BI i) (FI i)):lF none ds P n we X Q k L B F:=by
 intro a w ha hw
 refine eJ 200 (h ▸ ?_)
 refine H3 (fun m a w => ∃a0,a=nk a0 ds /\ ∃i,PI i/\μ i=m/\Fr n (LI i) a0/\Wd we X (BI i) (FI i) w) (μ i) ⟨a,rfl,i,hP,rfl,ha.sub hL,hB w hw⟩ ?_
 rintro m a w ⟨a0,rfl,i,hP,rfl,ha,hw⟩
 refine wpIn_mono (round i hP a0 w ha hw) (fun e a w q=>?_)
 cases e with
 | normal =>
  obtain ⟨a1,rfl,j,h1,h2,h3,h4⟩:=q
  exact ⟨μ j,h2,a1,rfl,j,h1,rfl,h3,h4⟩
 | _=>exact q
theorem Ks (r:Option Nat)(m:Nat):(E2 r).room m:=by
 intro d hd;cases r <;> cases hd
theorem Dh {c:Code}{m:Nat}{a:Act}{w:World}(h:c.wpIn (E2 r) 9 P Q a w):c.wpIn (E2 r) m P Q a w:=fun b k cs h1 h2 _=>h b k cs h1 h2 (Ks r _)
def qA (n:Nat)(L:Fm)(we:World)(X:List Nat)(B F:List ag):Exit->Act->World->Prop
  | .normal,a,w=>Fr n L a/\Wd we X B F w
  | _,_,_=>False
theorem I.assigned {L1:Fm}(h:norm 200 k=[])(hL:Ah L1 L):lF r [] P n we X (qA n L1 we X B F) k L B F :=
 fun a w ha hw=>eJ 200 (by
  rw [h]
  have e:nk a []=a:=by unfold nk;rw [List.append_nil]
  show qA n L1 we X B F .normal (nk a []) w
  rw [e];exact ⟨ha.sub hL,hw⟩)
theorem I.round {l i:Nat}{fn:FuncId}{tmps:Array Value}{assign body:Code}{w:World}{R:Ending->World->Prop}{rc:Loop}{L0 L1:Fm}(hi:B[i]? = some (ag.cJ l (.loop rc)))(hs:rc.state = .ready)(hf:Fr n L0 { tmps:=tmps,defers:=[] })(hw:Wd we X B F w)
 (ha:lF (some l) [] P n we X (qA n L1 we X B F) [.c assign] L0 B F) (hb:lF (some l) [] P n we X (roundPost P l R) [.c body] L1 (B.set i (ag.cJ l (.loop { rc with state:= .busy }))) F) :
 RoundIn Fence.wide 8 P l fn tmps assign body w R:=by
 refine roundIn_of_wpIn trivial (Dh (r:=some l) ?_)
 have h1:=ha _ w hf hw
 refine wpIn_mono h1 fun e a w q=>?_
 cases e with
 | normal =>
  obtain ⟨hfa,U4⟩:=q
  refine ⟨_,run_beginRound (U4.E6 hi) hs,Dh (r:=some l) ?_⟩
  have h2:=hb a _ hfa (U4.Kr (.loop { rc with state:= .busy }) hi)
  have e:nk a []=a:=by unfold nk;rw [List.append_nil]
  rw [e] at h2
  exact h2
 | _=>exact q.elim
section
variable {β:Type} {V:β->Bool} {PV:β->Prop} {B1 F1:β->List ag}
theorem I.VT {l i:Nat}{rc:Loop}(z:β)(hP:PV z)(h:norm 200 k=[])(hi:B[i]? = some (ag.cJ l (.loop rc)))(hV:V z=true)(hB:∀w,Wd we X (B.set i (ag.cJ l (.loop { rc with state:= .ready,pending:=none }))) F w->Wd we X (B1 z) (F1 z) w) :
 lF r [] P n we X (roundPost P l fun e w' => ∃z,e = .returned (.bool (V z))/\PV z/\Wd we X (B1 z) (F1 z) w') k L B F :=
 I.end h fun a w ha hw=>⟨_,_,run_endRound none (hw.E6 hi),z,by rw [hV];rfl,hP,hB _ (hw.Kr _ hi)⟩
theorem I.Uk {l i:Nat}{rc:Loop}(z:β)(hP:PV z)(h:norm 200 k = .c .ret::k')(hi:B[i]? = some (ag.cJ l (.loop rc)))(hV:V z=false)(hB:∀w,Wd we X (B.set i (ag.cJ l (.loop { rc with state:= .done,pending:=some .ret }))) F w->Wd we X (B1 z) (F1 z) w) :
 lF r [] P n we X (roundPost P l fun e w' => ∃z,e = .returned (.bool (V z))/\PV z/\Wd we X (B1 z) (F1 z) w') k L B F :=
 I.ret h fun a w ha hw=>⟨_,_,run_endRound (some .ret) (hw.E6 hi),z,by rw [hV];rfl,hP,hB _ (hw.Kr _ hi)⟩
end
def coll (D:Nat):List Deferred:=[{ target:= .collected D,args:= #[] }]
def yE (RC:Loop)(stop:Bool):Loop:=bif stop then { RC with state:= .done,pending:=some .ret } else { RC with state:= .ready,pending:=none }
theorem R.range {β:Type}{g:Operand}{ps:Array Tmp}{assign body:Code}{gf:Nat}{lb:Array Value}(h:norm 200 k = .c (.rangeFunc g ps assign body)::k')(hg:ev L g=some (.func (.func gf) #[] lb))
 (eg:∀args w,(callFunc gf args).run P w = .ok (.enter gf args) w) (stop:β->Bool) (PJ:β->Prop) (Bz Fz:Nat->β->List ag)
 (hcall:∀ (RC:Loop) (a:Act) (D:Nat) (w1:World),we.heap.size<=D->Fr n L a->RC.tmps=a.tmps->RC.params=ps->RC.assign=assign->RC.body=body->Wd we X (ag.cJ (D+1) (.loop (yE RC false))::ag.cJ D (.deferred (some []))::B) F w1 ->
  CallsIn Fence.wide (9-1) P gf (#[.func (.yield (D+1)) #[] #[]]++lb) w1 fun e w3 => ∃v z,e = .returned v/\PJ z/\Wd we X (ag.cJ (D+1) (.loop (yE RC (stop z)))::Bz D z) (Fz D z) w3)
 (hend:∀D z,we.heap.size<=D->PJ z->stop z=false->lF none (coll D) P n we X Q k' L (Bz D z) (Fz D z))
 (hstop:∀D z,we.heap.size<=D->PJ z->stop z=true->lF none (coll D) P n we X Q (.c .ret::k') L (Bz D z) (Fz D z)):Run P n we X Q k L B F:=by
 intro a w ha hw
 refine cR 200 (h ▸ ?_)
 suffices hx:(Code.rangeFunc g ps assign body).wpIn Fence.wide 9 P (lM none P Q k') a w from wp_mono (wpIn_wide.1 hx) (fun e a w q=>mq k' e a w q)
 refine wpIn_rangeFunc fun fn _=>?_
 have hw2:=(hw.U2 (.deferred (some []))).U2 (.loop { state:= .ready,pending:=none,fn,tmps:=a.tmps,params:=ps,assign,body,defers:=w.heap.size })
 have hsz:(w.alloc (.deferred (some []))).heap.size=w.heap.size+1:=World.size_alloc _ _
 rw [hsz] at hw2
 have e0:=run_enterLoop_outer (P:=P) (w:=w) fn a.tmps ps assign body
 generalize (w.alloc (.deferred (some []))).alloc (.loop { state:= .ready,pending:=none,fn,tmps:=a.tmps,params:=ps,assign,body,defers:=w.heap.size })=W1 at hw2 e0
 have hc:=hcall { state:= .ready,pending:=none,fn,tmps:=a.tmps,params:=ps,assign,body,defers:=w.heap.size } a w.heap.size W1 hw.upd.size ha rfl rfl rfl rfl hw2
 refine ⟨w.heap.size+1,coll w.heap.size,W1,{ target:= .fn (.func gf) lb,args:= #[.func (.yield (w.heap.size+1)) #[] #[]] },W1,gf,#[.func (.yield (w.heap.size+1)) #[] #[]]++lb,W1,e0,?_,fun _ _=>trivial,?_,fun _=>by decide,?_⟩
 .simp only [resolve,ha.ev hg];simp [go_sem]
 .simp [invoke,go_sem,eg]
 .
  refine CallsIn.mono hc (fun e w3 he=>?_)
  obtain ⟨v,z,rfl,U5,hz⟩:=he
  have e2:nk a (coll w.heap.size) = { a with defers:=coll w.heap.size++a.defers }:=by unfold nk;rw [ha.defers];rfl
  have hq1:=hend w.heap.size z hw.upd.size U5
  have hq2:=hstop w.heap.size z hw.upd.size U5
  generalize hrc:yE { state:= .ready,pending:=none,fn:=fn,tmps:=a.tmps,params:=ps,assign:=assign,body:=body,defers:=w.heap.size } (stop z)=rc at hz
  have hb:rc.state ≠ .busy:=by rw [<- hrc];cases stop z <;> (intro hh;cases hh)
  have U6:rc.pending=bif stop z then some .ret else none:=by rw [<- hrc];cases stop z <;> rfl
  have e1:=run_endLoop (P:=P) (hz.E6 (i:=0) rfl) hb
  have hz2:=hz.Kr (i:=0) (.loop { rc with state:= .exhausted }) rfl
  have hz3:Wd we X (Bz w.heap.size z) (Fz w.heap.size z) (w3.putObj (w.heap.size+1) (.loop { rc with state:= .exhausted })) :=
   ⟨hz2.upd,fun r hr=>hz2.okB r (List.mem_cons_of_mem _ hr),hz2.okF,(List.nodup_append.1 hz2.sep).2.1,fun k hk=>hz2.own k (List.mem_append.2 (.inr hk)),fun k hk=>⟨(hz2.mb k hk).1,fun hh=>(hz2.mb k hk).2 (List.mem_append.2 (.inr hh))⟩⟩
  cases hJ:stop z with
  | false =>
   have hq:rc.pending=none:=by rw [U6,hJ];rfl
   have h2:=hq1 hJ a _ ha hz3
   rw [e2] at h2
   refine ⟨rc.pending,_,e1,?_⟩
   rw [hq] at h2 ⊢
   exact h2
  | true =>
   have hq:rc.pending=some .ret:=by rw [U6,hJ];rfl
   have h2:=hq2 hJ a _ ha hz3
   rw [e2] at h2
   refine ⟨rc.pending,_,e1,?_⟩
   rw [hq] at h2 ⊢
   exact h2
theorem Wd.sub {w:World}(hw:Wd we X B F w):Wd w (blks B) B F w:=⟨lR.refl _ _,hw.okB,hw.okF,hw.sep,fun k hk=>⟨(hw.own k hk).1,fun _=>hk⟩,hw.mb⟩
theorem Wd.over {w w':World}{B1 F1:List ag}(hw:Wd we X B F w)(h:Wd w (blks B) B1 F1 w'):Wd we X B1 F1 w' :=
 ⟨⟨h.upd.os.trans hw.upd.os,h.upd.tape.trans hw.upd.tape,h.upd.output.trans hw.upd.output,Nat.le_trans hw.upd.size h.upd.size,fun k hk hn=>(h.upd.block k (Nat.lt_of_lt_of_le hk hw.upd.size) fun hb=>hn ((hw.own k hb).2 hk)).trans (hw.upd.block k hk hn)⟩,
  h.okB,h.okF,h.sep,fun k hk=>⟨(h.own k hk).1,fun hk2=>(hw.own k ((h.own k hk).2 (Nat.lt_of_lt_of_le hk2 hw.upd.size))).2 hk2⟩,h.mb⟩
theorem R.P7 {f:FuncId}{fn:Func}{c:Code}{vs:List Value}{w:World}{R:Ending->World->Prop}(L:Fm)(hf:P.funcs[f]? = some fn)(hb:fn.body=some c)(hn:fn.ntmps=n)
 (hle:Nat.ble vs.length n=true) (hL:OE 0 vs=L) (h0:Wd w X B F w) (h:Run P n w X (bodyPostM Fence.wide 9 P fn R) [.c c] L B F):Calls P f vs.toArray w R:=by
 have hle':vs.length<=n:=Nat.le_of_ble_eq_true hle
 suffices hx:c.wp P (bodyPostM Fence.wide 9 P fn R) { tmps:=vs.toArray++Array.replicate (fn.ntmps-vs.toArray.size) undef,defers:=[] } w from callsIn_wide.1 (callsIn_of_wp_marks (n:=9) hf hb trivial (wpIn_wide.2 hx))
 refine wp_mono (h _ w ⟨?_,rfl,fun i v hv=>?_⟩ h0) (fun e a w q=>by cases e <;> exact q)
 .simp [hn];omega
 rw [<- hL] at hv
 obtain ⟨h1,h2⟩:=vS vs 0 i v hv
 simp only [Nat.sub_zero] at h2
 have hi:i<vs.length:=(List.getElem?_eq_some_iff.1 h2).1
 show (vs.toArray++Array.replicate (fn.ntmps-vs.toArray.size) undef)[i]? = some v
 rw [Array.getElem?_append_left (by simpa using hi)]
 simpa using h2
theorem I.bF {f:FuncId}{fn:Func}{c:Code}{vs:List Value}{w:World}{R:Ending->World->Prop}(L:Fm)(hf:P.funcs[f]? = some fn)(hb:fn.body=some c)(hn:fn.ntmps=n)
 (hle:Nat.ble vs.length n=true) (hL:OE 0 vs=L) (h0:Wd w X B F w) (h:lF none [] P n w X (bodyPost P fn R) [.c c] L B F):CallsIn Fence.wide (9-1) P f vs.toArray w R:=by
 have hle':vs.length<=n:=Nat.le_of_ble_eq_true hle
 suffices hx:c.wpIn Fence.wide 9 P (bodyPost P fn R) { tmps:=vs.toArray++Array.replicate (fn.ntmps-vs.toArray.size) undef,defers:=[] } w from callsIn_wide.2 (calls_of_wp hf hb (wpIn_wide.1 hx))
 have h1:=h { tmps:=vs.toArray++Array.replicate (fn.ntmps-vs.toArray.size) undef,defers:=[] } w ⟨?_,rfl,fun i v hv=>?_⟩ h0
 .exact wpIn_mono h1 (fun e a w q=>by cases e <;> exact q)
 .simp [hn];omega
 .
  rw [<- hL] at hv
  obtain ⟨h1,h2⟩:=vS vs 0 i v hv
  simp only [Nat.sub_zero] at h2
  have hi:i<vs.length:=(List.getElem?_eq_some_iff.1 h2).1
  show (vs.toArray++Array.replicate (fn.ntmps-vs.toArray.size) undef)[i]? = some v
  rw [Array.getElem?_append_left (by simpa using hi)]
  simpa using h2
section
variable {fn:Func} {β:Type} {B1 F1:β->List ag} {V:β->Value} {r1:ResultVar} {v1:Value}
theorem I.w0 {PJ:β->Prop}(z:β)(hP:PJ z)(is js:List Nat)(h:norm 200 k=[] ∨ ∃k',norm 200 k = .c .ret::k')(hr:fn.results = #[])(hp:cZ B is=some (B1 z))(ha':ic is=true)(hj:cZ F js=some (F1 z))(e:V z = .tuple #[]) :
 lF none [] P n we X (bodyPost P fn fun en w' => ∃z,en = .returned (V z)/\PJ z/\Wd we X (B1 z) (F1 z) w') k L B F:=by
 have e0:∀a:Act,nk a []=a:=fun a=>by unfold nk;rw [List.append_nil]
 rcases h with h|⟨k',h⟩
 .exact I.end h fun a w ha hw=>by rw [e0];exact bodyPost_end (results_none hr _ _ _) ha.defers ⟨z,by rw [e],hP,hw.fB is js hp hj ha'⟩
 .exact I.ret h fun a w ha hw=>by rw [e0];exact bodyPost_ret (results_none hr _ _ _) ha.defers ⟨z,by rw [e],hP,hw.fB is js hp hj ha'⟩
theorem I.SJ {D i:Nat}(z:β)(is js:List Nat)(h:norm 200 k = .c .ret::k')(hr:fn.results = #[r1])(hB:B[i]? = some (ag.cJ D (.deferred (some []))))(h1:RV P n we X L (B.set i (ag.cJ D (.deferred none))) F r1 v1)
 (hp:cZ (B.set i (ag.cJ D (.deferred none))) is=some (B1 z)) (ha':ic is=true) (hj:cZ F js=some (F1 z)) (e:v1=V z) :
 lF none (coll D) P n we X (bodyPostM Fence.wide 9 P fn fun en w' => ∃z,en = .returned (V z)/\Wd we X (B1 z) (F1 z) w') k L B F :=
 I.ret h fun a w ha hw=>by
  have hw':=hw.Kr (.deferred none) hB
  have hds:(nk a (coll D)).defers=coll D:=by unfold nk;rw [ha.defers];rfl
  show LeavesInM Fence.wide 9 P fn a.tmps _ (nk a (coll D)).defers .returning w
  rw [hds]
  show FrameMode.returning ≠ .run/\_
  refine And.intro (fun hh=>by cases hh) (Or.inl ⟨D,_,rfl,run_takeDeferred (hw.E6 hB),v1,?_,z,by rw [e],hw'.fB is js hp hj ha'⟩)
  have e1:=h1 a _ ha hw'
  rw [ly,hr,show (#[r1]:Array ResultVar)=[r1].toArray from rfl]
  simp only [List.mapM_toArray,List.mapM_cons,List.mapM_nil,bind_assoc,pure_bind,Sem.run_bind,map_eq_pure_bind,e1,Result.andThen_ok]
  rfl
end
end
end
section
open Go Go.RowKit
section
variable {α:Type} [Enc α] {w:World} {v:Value} {l:List α}
theorem Sl.Er (h:Sl w v l){i j q:Nat}(hij:i<=j)(hj:j<=q)(hq:q<=l.length):Sl w (YtkbhcbipadkcaaaGreatDoor.Er v i j q (Enc.k α)) ((l.drop i).take (j-i)):=by
 obtain ⟨A,c,rfl,h1,h2,h3⟩:=h
 have hl:((l.drop i).take (j-i)).length=j-i:=by rw [List.length_take,List.length_drop];omega
 refine ⟨if q=i then A else A.map (·.add (i*Enc.k α)),q-i,by simp only [YtkbhcbipadkcaaaGreatDoor.Er,hl],by omega,by omega,fun m x hx=>?_⟩
 have hm:m<j-i:=by
  have:=(List.getElem?_eq_some_iff.1 hx).1
  omega
 rw [List.getElem?_take_of_lt hm,List.getElem?_drop] at hx
 obtain ⟨b,off,rfl,hb,hc⟩:=h3 (i+m) x hx
 rw [if_neg (by omega)]
 refine ⟨b,off+i*Enc.k α,by simp [Addr.add],hb,fun n u hu=>?_⟩
 have:=hc n u hu
 rwa [show off+(i+m)*Enc.k α+n=off+i*Enc.k α+m*Enc.k α+n by rw [Nat.add_mul];omega] at this
end
section
variable {P:Program} {n:Nat} {we:World} {X:List Nat} {L:Fm} {B F:List ag} {x:Operand} {xT yT ty e:TypeId} {d:Nat} {pos:String} {eh:Array Edge} {g:Option (Nat×Bool)}
theorem s.VU {s:ByteArray}(hx:ev L x=some (.string s))(h1:P.underlying xT=some .string)(h2:P.underlying yT=some (.slice e))(h3:P.underlying e=some (.int .u8))(hlen:s.size<=1000000)(hd:Nat.blt d n=true) :
 Stp P n we X L B F ⟨some d,.convert xT yT x,ty,pos,eh,g⟩ (fun z:Value=>(d,z)::L) (fun _=>B) (fun z=>ag.ls z (s.data.toList:List UInt8)::F):=by
 intro K Q' a w ha hw hK
 have h:=Lib.run_convert_string_bytes (P:=P) w xT yT e s h1 h2 h3
 unfold Oper.wp
 have hrun:(execOp a.eval ⟨some d,.convert xT yT x,ty,pos,eh,g⟩).run P w = .ok (.value (.slice (some ⟨w.heap.size,0,none⟩) s.size (grownCap w s.size 0 e))) (Lib.bytesWorld w e s):=by
  simp [execOp,ha.ev hx,h]
 rw [hrun,Oper.upon_value]
 have hsz:=Lib.bytesWorld_size w e s
 have hl:s.data.toList.length=s.size:=by rw [Array.length_toList];rfl
 have hup:lR [] w (Lib.bytesWorld w e s):=⟨rfl,rfl,rfl,by omega,fun k hk _=>Lib.bytesWorld_at_old w e s k hk⟩
 have hw2:=hw.grow hup
 refine hK _ _ _ (ha.put d _ hd) (hw2.fact (r:=ag.ls _ (s.data.toList:List UInt8)) ?_ fun k hk=>?_)
 .
  refine ⟨some ⟨w.heap.size,0,none⟩,grownCap w s.size 0 e,by rw [hl],by rw [hl];exact grownCap_ge w s.size 0 e,grownCap_le_maxLen w s.size 0 e (by unfold maxLen;omega),fun i b hb=>?_⟩
  have hi:i<s.size:=by have:=(List.getElem?_eq_some_iff.1 hb).1;omega
  refine ⟨w.heap.size,0,rfl,by omega,fun j u hu=>?_⟩
  have hu' : [Value.int .u8 (b.toNat:Int)][j]? = some u:=hu
  have hj:j=0:=by have:=(List.getElem?_eq_some_iff.1 hu').1;simpa using this
  subst hj
  have hu2:Value.int .u8 (b.toNat:Int)=u:=by simpa using hu'
  have hc:=Lib.bytesWorld_cell w e s i hi
  rw [show 0+i*Enc.k UInt8+0=i by show 0+i*1+0=i;omega,hc,<- hu2,List.getD_eq_getElem?_getD,hb];rfl
 .
  have hkk:k=w.heap.size:=by
   simp only [ag.ls] at hk
   split at hk
   .cases hk
   .simpa [dW] using hk
  subst hkk
  exact ⟨by omega,fun hb=>by have:=(hw.own _ hb).1;omega⟩
theorem oG (m:Int):(df m).cells=[df m].toArray:=by unfold df;split <;> rfl
theorem sU (m:Int):([df m].all fun x=>x.oneCell')=true:=by unfold df;split <;> rfl
theorem Fr.yield {a:Act}{ps:Array Tmp}{t:Tmp}{xv:Value}{T:Array Value}(ha:Fr n L a)(hT:T=a.tmps)(hp:ps = #[t])(hd:Nat.blt t n=true) :
 Fr n ((t,xv)::L) { tmps:=(ps.zip #[xv]).foldl (fun tmps (t,a)=>tmps.setIfInBounds t a) T,defers:=[] }:=by
 have h:=ha.put t xv hd
 have e:a.put (some t) xv = { tmps:=(ps.zip #[xv]).foldl (fun tmps (t,a)=>tmps.setIfInBounds t a) T,defers:=[] }:=by
  subst hp;subst hT
  have:=ha.defers
  cases a;simp only at this;subst this
  have e2:(#[t].zip #[xv]) = #[(t,xv)]:=by simp
  rw [e2];simp [Act.put]
 exact e▸h
end
end
end Go.Proofs.YtkbhcbipadkcaaaGreatDoor
