import Derived.Test.YtnmpibjlnninjaaGreatDoorKT16
import Derived.Lib.ConvBytes
namespace Go.Proofs.YtnmpibjlnninjaaGreatDoor
set_option linter.unusedVariables false
set_option linter.unusedSimpArgs false
set_option maxRecDepth 100000
set_option maxHeartbeats 90000000
section
open Go Go.RowKit
def ah.cE (l:Nat)(o:Obj):ah:=⟨[l],fun w=>w.heap[l]? = some o,fun w w' h ho=>(h l (List.mem_singleton.2 rfl)).trans ho⟩
theorem GK {w:World}{l:Nat}{o o':Obj}:lL [l] w (w.putObj l o') :=
 ⟨rfl,rfl,rfl,Nat.le_of_eq World.putObj_size.symm,fun k hk hn=>World.putObj_heap_other (fun e=>hn au)⟩
section
variable {we w:World} {X:List Nat} {B F:List ah}
theorem Wd.GL {i l:Nat}{o:Obj}(hw:Wd we X B F w)(hi:B[i]? = some (ah.cE l o)):w.heap[l]? = some o:=hw.b i hi
theorem Wd.MU {i l:Nat}{o:Obj}(o':Obj)(hw:Wd we X B F w)(hi:B[i]? = some (ah.cE l o)):Wd we X (B.set i (ah.cE l o')) F (w.putObj l o'):=by
 have h:=hw.GL hi
 have hlt:l<w.heap.size:=(Array.getElem?_eq_some_iff.1 h).1
 refine hw.turn hi (GK (o:=o)) (World.putObj_heap_same hlt) (by simp [ah.cE]) fun k hk=>?_
 have e:k=l:=List.mem_singleton.1 hk
 subst e
 exact ⟨sH,.inl (List.mem_singleton.2 rfl)⟩
theorem JL (w:World)(o:Obj):lL [] w (w.alloc o):=by
 refine ⟨rfl,rfl,rfl,bC,fun k hk _=>?_⟩
 show (w.heap.push o)[k]? = _
 grind
theorem Wd.X7 (hw:Wd we X B F w)(o:Obj):Wd we X (ah.cE w.heap.size o::B) F (w.alloc o):=by
 have h1:=hw.grow (JL w o)
 refine h1.new (r:=ah.cE w.heap.size o) (World.alloc_heap_new w o) (by simp [ah.cE]) fun k hk=>?_
 have e:k=w.heap.size:=List.mem_singleton.1 hk
 subst e
 refine ⟨bC,hw.upd.size,fun hb=>?_,fun hb=>?_⟩
 .have:=(hw.own _ hb).1;omega
 have:=(hw.lU _ hb).1;omega
end
section
variable {P:Program} {r:Option Nat} {ds:List Deferred} {n:Nat} {we:World} {X:List Nat} {Q:Exit->Act->World->Prop} {k k':List It} {L L':Fm} {B F:List ah} {ops rest:List Oper}
variable {d:Nat} {op:Op} {ty:TypeId} {pos:String} {dr:Array Edge} {g:Option (Nat×Bool)} {v:Value}
def QI (r:Option Nat)(ds:List Deferred)(P:Program)(n:Nat)(we:World)(X:List Nat)(Q:Exit->Act->World->Prop)(ops rest:List Oper)(k:List It)(L:Fm)(B F:List ah):Prop :=
  ∀a w,Fr n L a->Wd we X B F w->wpListIn (GH r) 9 P ops.toArray (lx r P Q k) rest (ny a ds) w
theorem I.W9 {id:Nat}(h:norm 200 k = .c (.region id ops.toArray false)::k')(hr:QI r ds P n we X Q ops ops k' L B F):lh r ds P n we X Q k L B F :=
 fun a w ha hw=>ez 200 (h▸wpIn_region_lit (hr a w ha hw))
theorem I.Vy (h:lh r ds P n we X Q k L B F):QI r ds P n we X Q ops [] k L B F:=fun a w ha hw=>wpListIn_nil (h a w ha hw)
theorem I.s {β:Type}{o:Oper}{L':β->Fm}{B' F':β->List ah}(hn:ndef o=true)(hg:gd ops L o.guard=some true)(hs:Stp P n we X L B F o L' B' F')(h:∀z,QI r ds P n we X Q ops rest k (L' z) (B' z) (F' z)):QI r ds P n we X Q ops (o::rest) k L B F:=by
 intro a w ha hw
 refine wpListIn_step fun K hK=>?_
 rw [if_pos (show Region.wanted o (yielded ops.toArray (ny a ds).tmps)=true from dR (o:=o) (a:=a) ha hg)]
 refine MQ (K:=fun a w => ∃z,Fr n (L' z) a/\Wd we X (B' z) (F' z) w) (Q:=fun _ _ _=>False) hn ?_ ?_ (hs _ _ a w ha hw fun z a w ha hw=>⟨z,ha,hw⟩)
 .rintro a w ⟨z,ha,hw⟩;exact hK _ _ (h z a w ha hw)
 grind
theorem q.Y7 (hq:Qt P n we X L B F op ty v)(hd:Nat.blt d n=true):Stp P n we X L B F ⟨some d,op,ty,pos,dr,g⟩ (fun _:Unit=>(d,v)::L) (fun _=>B) (fun _=>F):=by
 intro K Q' a w ha hw hK
 unfold Oper.wp
 rw [hq _ _ _ _ a w ha hw,Oper.upon_value]
 exact hK () _ _ (ha.put d v hd) hw
theorem I.q (hq:Qt P n we X L B F op ty v)(hd:Nat.blt d n=true)(hn:ndef ⟨some d,op,ty,pos,dr,none⟩=true)(h:QI r ds P n we X Q ops rest k ((d,v)::L) B F):QI r ds P n we X Q ops (⟨some d,op,ty,pos,dr,none⟩::rest) k L B F :=
 I.s hn rfl (q.Y7 hq hd) fun _=>h
theorem I.y {β:Type}{l i:Nat}{rc:Loop}{c x:Operand}{xv:Value}{ts:Array TypeId}(hi:B[i]? = some (ah.cE l (.loop rc)))(hp:rc.params.size=1)(hc:ev L c=some (.func (.yield l) #[] #[]))(hx:ev L x=some xv)
 (V:β->Bool) (PV:β->Prop) (B' F':β->List ah)
 (SH:∀w,Wd we X B F w->RoundIn Fence.wide 8 P l rc.fn ((rc.params.zip #[xv]).foldl (fun tmps (t,a)=>tmps.setIfInBounds t a) rc.tmps) rc.assign rc.body w (fun e w' => ∃z,e = .returned (.bool (V z))/\PV z/\Wd we X (B' z) (F' z) w'))
 (hd:Nat.blt d n=true) (h:∀z,PV z->QI none ds P n we X Q ops rest k ((d,.bool (V z))::L) (B' z) (F' z)) :
 QI none ds P n we X Q ops (⟨some d,.call { callee:= .value c,args:= #[x],argTypes:=ts},ty,pos,dr,none⟩::rest) k L B F:=by
 intro a w ha hw
 refine wpListIn_plain rfl fun K hK=>⟨fun f _=>trivial,?_⟩
 have hrun:(Oper.semAt (GH none).round (ny a ds).eval ⟨some d,.call { callee:= .value c,args:= #[x],argTypes:=ts},ty,pos,dr,none⟩).run P w = .ok (.round l rc.fn ((rc.params.zip #[xv]).foldl (fun tmps (t,a)=>tmps.setIfInBounds t a) rc.tmps) rc.assign rc.body) w:=by
  rw [Oper.semAt_eq _ _ _ (fun c h=>by cases h),E0]
  simp [execOp,resolve,ha.ev hc,Deferred.ofValue,invoke,ha.ev hx,run_yield (P:=P) (args:= #[xv]) (hw.GL hi) au]
 rw [hrun,Oper.uponIn_round]
 refine ⟨uV none,RoundIn.mono (SH w hw) fun e w' he=>?_⟩
 obtain ⟨z,rfl,hp,hz⟩:=he
 show K ((ny a ds).put (some d) (.bool (V z))) w'
 rw [nf]
 exact hK _ _ (h z hp _ w' (ha.put d _ hd) hz)
def X8 {ι:Type}(ds:List Deferred)(n:Nat)(we:World)(X:List Nat)(LI:ι->Fm)(BI FI:ι->List ah)(PI:ι->Prop)(μ:ι->Nat)(m:Nat)(a:Act)(w:World):Prop :=
  ∃a0,a=ny a0 ds/\Hd n we X LI BI FI PI μ m a0 w
theorem I.back {ι:Type}{LI:ι->Fm}{BI FI:ι->List ah}{PI:ι->Prop}{μ:ι->Nat}{m:Nat}(i:ι)(h:norm 200 k = .back (X8 ds n we X LI BI FI PI μ m)::k')(hP:PI i)(hm:μ i<m)(hL:Bi (LI i) L)(hB:∀w,Wd we X B F w->Wd we X (BI i) (FI i) w):lh r ds P n we X Q k L B F :=
 fun a w ha hw=>ez 200 (by rw [h];exact ⟨a,rfl,i,hP,hm,ha.sub hL,hB w hw⟩)
theorem JM {c:Code}{Q:Exit->Act->World->Prop}{a:Act}{w:World}(I:Nat->Act->World->Prop)(m:Nat)(h₀:I m a w)
 (round:∀m a w,I m a w->c.wpIn Fence.wide 9 P (Exit.then (fun a' w' => ∃m',m'<m/\I m' a' w') Q) a w):(Code.loop c).wpIn Fence.wide 9 P Q a w :=
 wpIn_wide.2 (Dj I m h₀ fun m a w h=>wpIn_wide.1 (round m a w h))
theorem I.loop {ι:Type}(LI:ι->Fm)(BI FI:ι->List ah)(PI:ι->Prop)(μ:ι->Nat)(i:ι){c:Code}(h:norm 200 k = .c (.loop c)::k')(hP:PI i)(hL:Bi (LI i) L)(hB:∀w,Wd we X B F w->Wd we X (BI i) (FI i) w)
 (round:∀i,PI i->lh none ds P n we X Q (.c c :: .back (X8 ds n we X LI BI FI PI μ (μ i))::k') (LI i) (BI i) (FI i)):lh none ds P n we X Q k L B F:=by
 intro a w ha hw
 refine ez 200 (h ▸ ?_)
 refine JM (fun m a w => ∃a0,a=ny a0 ds /\ ∃i,PI i/\μ i=m/\Fr n (LI i) a0/\Wd we X (BI i) (FI i) w) (μ i) ⟨a,rfl,i,hP,rfl,ha.sub hL,hB w hw⟩ ?_
 rintro m a w ⟨a0,rfl,i,hP,rfl,ha,hw⟩
 refine wpIn_mono (round i hP a0 w ha hw) (fun e a w q=>?_)
 cases e with
 | normal =>
  obtain ⟨a1,rfl,j,h1,h2,h3,h4⟩:=q
  exact ⟨μ j,h2,a1,rfl,j,h1,rfl,h3,h4⟩
 | _=>exact q
theorem MV (r:Option Nat)(m:Nat):(GH r).room m:=by
 intro d hd;cases r <;> cases hd
theorem E1 {c:Code}{m:Nat}{a:Act}{w:World}(h:c.wpIn (GH r) 9 P Q a w):c.wpIn (GH r) m P Q a w:=fun b k cs h1 h2 _=>h b k cs h1 h2 (MV r _)
def qA (n:Nat)(L:Fm)(we:World)(X:List Nat)(B F:List ah):Exit->Act->World->Prop
  | .normal,a,w=>Fr n L a/\Wd we X B F w
  | _,_,_=>False
theorem I.assigned {L1:Fm}(h:norm 200 k=[])(hL:Bi L1 L):lh r [] P n we X (qA n L1 we X B F) k L B F :=
 fun a w ha hw=>ez 200 (by
  rw [h]
  have e:ny a []=a:=by unfold ny;simp
  show qA n L1 we X B F .normal (ny a []) w
  rw [e];exact ⟨ha.sub hL,hw⟩)
theorem I.round {l i:Nat}{fn:FuncId}{tmps:Array Value}{assign body:Code}{w:World}{R:Ending->World->Prop}{rc:Loop}{L0 L1:Fm}(hi:B[i]? = some (ah.cE l (.loop rc)))(hs:rc.state = .ready)(hf:Fr n L0 { tmps:=tmps,defers:=[]})(hw:Wd we X B F w)
 (ha:lh (some l) [] P n we X (qA n L1 we X B F) [.c assign] L0 B F) (hb:lh (some l) [] P n we X (roundPost P l R) [.c body] L1 (B.set i (ah.cE l (.loop { rc with state:= .busy}))) F) :
 RoundIn Fence.wide 8 P l fn tmps assign body w R:=by
 refine roundIn_of_wpIn trivial (E1 (r:=some l) ?_)
 have h1:=ha _ w hf hw
 refine wpIn_mono h1 fun e a w q=>?_
 cases e with
 | normal =>
  obtain ⟨hfa,X9⟩:=q
  refine ⟨_,run_beginRound (X9.GL hi) hs,E1 (r:=some l) ?_⟩
  have h2:=hb a _ hfa (X9.MU (.loop { rc with state:= .busy}) hi)
  have e:ny a []=a:=by unfold ny;simp
  rw [e] at h2
  exact h2
 | _=>exact q.elim
section
variable {β:Type} {V:β->Bool} {PV:β->Prop} {B1 F1:β->List ah}
theorem I.Y8 {l i:Nat}{rc:Loop}(z:β)(hP:PV z)(h:norm 200 k=[])(hi:B[i]? = some (ah.cE l (.loop rc)))(hV:V z=true)(hB:∀w,Wd we X (B.set i (ah.cE l (.loop { rc with state:= .ready,pending:=none}))) F w->Wd we X (B1 z) (F1 z) w) :
 lh r [] P n we X (roundPost P l fun e w' => ∃z,e = .returned (.bool (V z))/\PV z/\Wd we X (B1 z) (F1 z) w') k L B F :=
 I.end h fun a w ha hw=>⟨_,_,run_endRound none (hw.GL hi),z,au,hP,hB _ (hw.MU _ hi)⟩
theorem I.Xa {l i:Nat}{rc:Loop}(z:β)(hP:PV z)(h:norm 200 k = .c .ret::k')(hi:B[i]? = some (ah.cE l (.loop rc)))(hV:V z=false)(hB:∀w,Wd we X (B.set i (ah.cE l (.loop { rc with state:= .done,pending:=some .ret}))) F w->Wd we X (B1 z) (F1 z) w) :
 lh r [] P n we X (roundPost P l fun e w' => ∃z,e = .returned (.bool (V z))/\PV z/\Wd we X (B1 z) (F1 z) w') k L B F :=
 I.ret h fun a w ha hw=>⟨_,_,run_endRound (some .ret) (hw.GL hi),z,au,hP,hB _ (hw.MU _ hi)⟩
end
def coll (D:Nat):List Deferred:=[{ target:= .collected D,args:= #[]}]
def zM (RC:Loop)(stop:Bool):Loop:=bif stop then { RC with state:= .done,pending:=some .ret} else { RC with state:= .ready,pending:=none}
theorem R.range {β:Type}{g:Operand}{ps:Array Tmp}{assign body:Code}{gf:Nat}{lb:Array Value}(h:norm 200 k = .c (.rangeFunc g ps assign body)::k')(hg:ev L g=some (.func (.func gf) #[] lb))
 (eg:∀args w,(callFunc gf args).run P w = .ok (.enter gf args) w) (stop:β->Bool) (PJ:β->Prop) (Bz Fz:Nat->β->List ah)
 (hcall:∀ (RC:Loop) (a:Act) (D:Nat) (w1:World),we.heap.size<=D->Fr n L a->RC.tmps=a.tmps->RC.params=ps->RC.assign=assign->RC.body=body->Wd we X (ah.cE (D+1) (.loop (zM RC false))::ah.cE D (.deferred (some []))::B) F w1 ->
  CallsIn Fence.wide (9-1) P gf (#[.func (.yield (D+1)) #[] #[]]++lb) w1 fun e w3 => ∃v z,e = .returned v/\PJ z/\Wd we X (ah.cE (D+1) (.loop (zM RC (stop z)))::Bz D z) (Fz D z) w3)
 (hend:∀D z,we.heap.size<=D->PJ z->stop z=false->lh none (coll D) P n we X Q k' L (Bz D z) (Fz D z))
 (hstop:∀D z,we.heap.size<=D->PJ z->stop z=true->lh none (coll D) P n we X Q (.c .ret::k') L (Bz D z) (Fz D z)):Run P n we X Q k L B F:=by
 intro a w ha hw
 refine cO 200 (h ▸ ?_)
 suffices hx:(Code.rangeFunc g ps assign body).wpIn Fence.wide 9 P (lx none P Q k') a w from wp_mono (wpIn_wide.1 hx) (fun e a w q=>mj k' e a w q)
 refine wpIn_rangeFunc fun fn _=>?_
 have hw2:=(hw.X7 (.deferred (some []))).X7 (.loop { state:= .ready,pending:=none,fn,tmps:=a.tmps,params:=ps,assign,body,defers:=w.heap.size})
 have hsz:(w.alloc (.deferred (some []))).heap.size=w.heap.size+1:=World.size_alloc _ _
 rw [hsz] at hw2
 have e0:=run_enterLoop_outer (P:=P) (w:=w) fn a.tmps ps assign body
 generalize (w.alloc (.deferred (some []))).alloc (.loop { state:= .ready,pending:=none,fn,tmps:=a.tmps,params:=ps,assign,body,defers:=w.heap.size})=W1 at hw2 e0
 have hc:=hcall { state:= .ready,pending:=none,fn,tmps:=a.tmps,params:=ps,assign,body,defers:=w.heap.size} a w.heap.size W1 hw.upd.size ha rfl rfl rfl rfl hw2
 refine ⟨w.heap.size+1,coll w.heap.size,W1,{ target:= .fn (.func gf) lb,args:= #[.func (.yield (w.heap.size+1)) #[] #[]]},W1,gf,#[.func (.yield (w.heap.size+1)) #[] #[]]++lb,W1,e0,?_,fun _ _=>trivial,?_,fun _=>by decide,?_⟩
 .simp only [resolve,ha.ev hg];simp [go_sem]
 .grind [invoke]
 refine CallsIn.mono hc (fun e w3 he=>?_)
 obtain ⟨v,z,rfl,Ya,hz⟩:=he
 have e2:ny a (coll w.heap.size) = { a with defers:=coll w.heap.size++a.defers}:=by unfold ny;rw [ha.defers];rfl
 have hq1:=hend w.heap.size z hw.upd.size Ya
 have hq2:=hstop w.heap.size z hw.upd.size Ya
 generalize hrc:zM { state:= .ready,pending:=none,fn:=fn,tmps:=a.tmps,params:=ps,assign:=assign,body:=body,defers:=w.heap.size} (stop z)=rc at hz
 have hb:rc.state ≠ .busy:=by rw [<- hrc];cases stop z <;> (intro hh;cases hh)
 have ZT:rc.pending=bif stop z then some .ret else none:=by rw [<- hrc];cases stop z <;> rfl
 have e1:=run_endLoop (P:=P) (hz.GL (i:=0) rfl) hb
 have hz2:=hz.MU (i:=0) (.loop { rc with state:= .exhausted}) rfl
 have hz3:Wd we X (Bz w.heap.size z) (Fz w.heap.size z) (w3.putObj (w.heap.size+1) (.loop { rc with state:= .exhausted})) :=
  ⟨hz2.upd,fun r hr=>hz2.okB r (List.mem_cons_of_mem _ hr),hz2.okF,(List.nodup_append.1 hz2.sep).2.1,fun k hk=>hz2.own k (List.mem_append.2 (.inr hk)),fun k hk=>⟨(hz2.lU k hk).1,fun hh=>(hz2.lU k hk).2 (List.mem_append.2 (.inr hh))⟩⟩
 cases hJ:stop z with
 | false =>
  have hq:rc.pending=none:=au
  have h2:=hq1 hJ a _ ha hz3
  rw [e2] at h2
  refine ⟨rc.pending,_,e1,?_⟩
  grind
 | true =>
  have hq:rc.pending=some .ret:=au
  have h2:=hq2 hJ a _ ha hz3
  rw [e2] at h2
  refine ⟨rc.pending,_,e1,?_⟩
  rw [hq] at h2 ⊢
  exact h2
theorem Wd.sub {w:World}(hw:Wd we X B F w):Wd w (blks B) B F w:=⟨lL.refl _ _,hw.okB,hw.okF,hw.sep,fun k hk=>⟨(hw.own k hk).1,fun _=>hk⟩,hw.lU⟩
theorem Wd.over {w w':World}{B1 F1:List ah}(hw:Wd we X B F w)(h:Wd w (blks B) B1 F1 w'):Wd we X B1 F1 w' :=
 ⟨⟨h.upd.os.trans hw.upd.os,h.upd.tape.trans hw.upd.tape,h.upd.output.trans hw.upd.output,Nat.le_trans hw.upd.size h.upd.size,fun k hk hn=>(h.upd.block k (Nat.lt_of_lt_of_le hk hw.upd.size) fun hb=>hn ((hw.own k hb).2 hk)).trans (hw.upd.block k hk hn)⟩,
  h.okB,h.okF,h.sep,fun k hk=>⟨(h.own k hk).1,fun hk2=>(hw.own k ((h.own k hk).2 (Nat.lt_of_lt_of_le hk2 hw.upd.size))).2 hk2⟩,h.lU⟩
theorem R.SI {f:FuncId}{fn:Func}{c:Code}{vs:List Value}{w:World}{R:Ending->World->Prop}(L:Fm)(hf:P.funcs[f]? = some fn)(hb:fn.body=some c)(hn:fn.ntmps=n)
 (hle:Nat.ble vs.length n=true) (hL:Q0 0 vs=L) (h0:Wd w X B F w) (h:Run P n w X (bodyPostM Fence.wide 9 P fn R) [.c c] L B F):Calls P f vs.toArray w R:=by
 have hle':vs.length<=n:=Nat.le_of_ble_eq_true hle
 suffices hx:c.wp P (bodyPostM Fence.wide 9 P fn R) { tmps:=vs.toArray++Array.replicate (fn.ntmps-vs.toArray.size) undef,defers:=[]} w from callsIn_wide.1 (callsIn_of_wp_marks (n:=9) hf hb trivial (wpIn_wide.2 hx))
 refine wp_mono (h _ w ⟨?_,rfl,fun i v hv=>?_⟩ h0) (fun e a w q=>by cases e <;> exact q)
 .simp [hn];omega
 rw [<- hL] at hv
 obtain ⟨h1,h2⟩:=wY vs 0 i v hv
 simp only [Nat.sub_zero] at h2
 have hi:i<vs.length:=(List.getElem?_eq_some_iff.1 h2).1
 show (vs.toArray++Array.replicate (fn.ntmps-vs.toArray.size) undef)[i]? = some v
 rw [Array.getElem?_append_left (by simpa using hi)]
 simpa using h2
theorem I.uk {f:FuncId}{fn:Func}{c:Code}{vs:List Value}{w:World}{R:Ending->World->Prop}(L:Fm)(hf:P.funcs[f]? = some fn)(hb:fn.body=some c)(hn:fn.ntmps=n)
 (hle:Nat.ble vs.length n=true) (hL:Q0 0 vs=L) (h0:Wd w X B F w) (h:lh none [] P n w X (bodyPost P fn R) [.c c] L B F):CallsIn Fence.wide (9-1) P f vs.toArray w R:=by
 have hle':vs.length<=n:=Nat.le_of_ble_eq_true hle
 suffices hx:c.wpIn Fence.wide 9 P (bodyPost P fn R) { tmps:=vs.toArray++Array.replicate (fn.ntmps-vs.toArray.size) undef,defers:=[]} w from callsIn_wide.2 (calls_of_wp hf hb (wpIn_wide.1 hx))
 have h1:=h { tmps:=vs.toArray++Array.replicate (fn.ntmps-vs.toArray.size) undef,defers:=[]} w ⟨?_,rfl,fun i v hv=>?_⟩ h0
 .assumption
 .grind
 rw [<- hL] at hv
 obtain ⟨h1,h2⟩:=wY vs 0 i v hv
 grind
section
variable {fn:Func} {β:Type} {B1 F1:β->List ah} {V:β->Value} {r1:ResultVar} {v1:Value}
theorem I.w0 {PJ:β->Prop}(z:β)(hP:PJ z)(is js:List Nat)(h:norm 200 k=[] ∨ ∃k',norm 200 k = .c .ret::k')(hr:fn.results = #[])(hp:bP B is=some (B1 z))(ha':d9 is=true)(hj:bP F js=some (F1 z))(e:V z = .tuple #[]) :
 lh none [] P n we X (bodyPost P fn fun en w' => ∃z,en = .returned (V z)/\PJ z/\Wd we X (B1 z) (F1 z) w') k L B F:=by
 have e0:∀a:Act,ny a []=a:=fun a=>by unfold ny;simp
 rcases h with h|⟨k',h⟩
 .exact I.end h fun a w ha hw=>by rw [e0];exact bodyPost_end (results_none hr _ _ _) ha.defers ⟨z,by rw [e],hP,hw.KH is js hp hj ha'⟩
 exact I.ret h fun a w ha hw=>by rw [e0];exact bodyPost_ret (results_none hr _ _ _) ha.defers ⟨z,by rw [e],hP,hw.KH is js hp hj ha'⟩
theorem I.Vz {D i:Nat}(z:β)(is js:List Nat)(h:norm 200 k = .c .ret::k')(hr:fn.results = #[r1])(hB:B[i]? = some (ah.cE D (.deferred (some []))))(h1:RV P n we X L (B.set i (ah.cE D (.deferred none))) F r1 v1)
 (hp:bP (B.set i (ah.cE D (.deferred none))) is=some (B1 z)) (ha':d9 is=true) (hj:bP F js=some (F1 z)) (e:v1=V z) :
 lh none (coll D) P n we X (bodyPostM Fence.wide 9 P fn fun en w' => ∃z,en = .returned (V z)/\Wd we X (B1 z) (F1 z) w') k L B F :=
 I.ret h fun a w ha hw=>by
  have hw':=hw.MU (.deferred none) hB
  have hds:(ny a (coll D)).defers=coll D:=by unfold ny;rw [ha.defers];rfl
  show LeavesInM Fence.wide 9 P fn a.tmps _ (ny a (coll D)).defers .returning w
  rw [hds]
  show FrameMode.returning ≠ .run/\_
  refine And.intro (fun hh=>by grind) (Or.inl ⟨D,_,rfl,run_takeDeferred (hw.GL hB),v1,?_,z,by rw [e],hw'.KH is js hp hj ha'⟩)
  have e1:=h1 a _ ha hw'
  rw [kO,hr,show (#[r1]:Array ResultVar)=[r1].toArray from rfl]
  simp_all
end
end
end
section
open Go Go.RowKit
section
variable {α:Type} [Enc α] {w:World} {v:Value} {l:List α}
theorem Sl.FK (h:Sl w v l){i j q:Nat}(hij:i<=j)(hj:j<=q)(hq:q<=l.length):Sl w (YtnmpibjlnninjaaGreatDoor.FK v i j q (Enc.k α)) ((l.drop i).take (j-i)):=by
 obtain ⟨A,c,rfl,h1,h2,h3⟩:=h
 have hl:((l.drop i).take (j-i)).length=j-i:=au
 refine ⟨if q=i then A else A.map (·.add (i*Enc.k α)),q-i,by simp only [YtnmpibjlnninjaaGreatDoor.FK,hl],ae,ae,fun m x hx=>?_⟩
 have hm:m<j-i:=by
  grind
 rw [List.getElem?_take_of_lt hm,List.getElem?_drop] at hx
 obtain ⟨b,off,rfl,hb,hc⟩:=h3 (i+m) x hx
 rw [if_neg ae]
 refine ⟨b,off+i*Enc.k α,by simp [Addr.add],hb,fun n u hu=>?_⟩
 grind
end
section
variable {P:Program} {n:Nat} {we:World} {X:List Nat} {L:Fm} {B F:List ah} {x:Operand} {xT yT ty e:TypeId} {d:Nat} {pos:String} {dr:Array Edge} {g:Option (Nat×Bool)}
theorem s.Y9 {s:ByteArray}(hx:ev L x=some (.string s))(h1:P.underlying xT=some .string)(h2:P.underlying yT=some (.slice e))(h3:P.underlying e=some (.int .u8))(hlen:s.size<=1000000)(hd:Nat.blt d n=true) :
 Stp P n we X L B F ⟨some d,.convert xT yT x,ty,pos,dr,g⟩ (fun z:Value=>(d,z)::L) (fun _=>B) (fun z=>ah.ls z (s.data.toList:List UInt8)::F):=by
 intro K Q' a w ha hw hK
 have h:=Lib.run_convert_string_bytes (P:=P) w xT yT e s h1 h2 h3
 unfold Oper.wp
 have hrun:(execOp a.eval ⟨some d,.convert xT yT x,ty,pos,dr,g⟩).run P w = .ok (.value (.slice (some ⟨w.heap.size,0,none⟩) s.size (grownCap w s.size 0 e))) (Lib.bytesWorld w e s):=by
  simp [execOp,ha.ev hx,h]
 rw [hrun,Oper.upon_value]
 have hsz:=Lib.bytesWorld_size w e s
 have hl:s.data.toList.length=s.size:=eF
 have hup:lL [] w (Lib.bytesWorld w e s):=⟨rfl,rfl,rfl,ae,fun k hk _=>Lib.bytesWorld_at_old w e s k hk⟩
 have hw2:=hw.grow hup
 refine hK _ _ _ (ha.put d _ hd) (hw2.fact (r:=ah.ls _ (s.data.toList:List UInt8)) ?_ fun k hk=>?_)
 .
  refine ⟨some ⟨w.heap.size,0,none⟩,grownCap w s.size 0 e,eF,by grind [grownCap_ge],grownCap_le_maxLen w s.size 0 e (by grind [maxLen]),fun i b hb=>?_⟩
  have hi:i<s.size:=au
  refine ⟨w.heap.size,0,rfl,ae,fun j u hu=>?_⟩
  have hu' : [Value.int .u8 (b.toNat:Int)][j]? = some u:=hu
  simp_all [Enc.k,List.getElem?_eq_some_iff,Lib.bytesWorld_cell,List.getD_eq_getElem?_getD]
 have hkk:k=w.heap.size:=by
  grind [ah.ls,eA]
 subst hkk
 exact ⟨ae,fun hb=>by have:=(hw.own _ hb).1;omega⟩
theorem oY (m:Int):(bN m).cells=[bN m].toArray:=by unfold bN;split <;> rfl
theorem tV (m:Int):([bN m].all fun x=>x.oneCell')=true:=by unfold bN;split <;> rfl
theorem Fr.yield {a:Act}{ps:Array Tmp}{t:Tmp}{xv:Value}{T:Array Value}(ha:Fr n L a)(hT:T=a.tmps)(hp:ps = #[t])(hd:Nat.blt t n=true) :
 Fr n ((t,xv)::L) { tmps:=(ps.zip #[xv]).foldl (fun tmps (t,a)=>tmps.setIfInBounds t a) T,defers:=[]}:=by
 have h:=ha.put t xv hd
 have e:a.put (some t) xv = { tmps:=(ps.zip #[xv]).foldl (fun tmps (t,a)=>tmps.setIfInBounds t a) T,defers:=[]}:=by
  subst hp;subst hT
  have:=ha.defers
  simp_all [Act.put]
 grind
end
end
end Go.Proofs.YtnmpibjlnninjaaGreatDoor
