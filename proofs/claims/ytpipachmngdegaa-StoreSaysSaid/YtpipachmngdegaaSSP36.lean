import Derived.Test.YtpipachmngdegaaSSP35
section
namespace Go.Proofs.Ytpipachmngdegaa
open Go Go.RowKit
set_option linter.unusedVariables false
set_option linter.unusedSimpArgs false
def af.bC (l:Nat)(o:Obj):af:=⟨[l],fun w=>w.heap[l]? = some o,fun w w' h ho=>(h l (List.mem_singleton.2 rfl)).trans ho⟩
theorem qj {w:World}{l:Nat}{o o':Obj}:iW [l] w (w.putObj l o') :=
  ⟨rfl,rfl,rfl,Nat.le_of_eq World.putObj_size.symm,fun k hk hn=>World.putObj_heap_other (fun e=>hn (by rw [e];exact List.mem_singleton.2 rfl))⟩
section
variable {we w:World} {X:List Nat} {B F:List af}
theorem Wd.qk {i l:Nat}{o:Obj}(hw:Wd we X B F w)(hi:B[i]? = some (af.bC l o)):w.heap[l]? = some o:=hw.b i hi
theorem Wd.uc {i l:Nat}{o:Obj}(o':Obj)(hw:Wd we X B F w)(hi:B[i]? = some (af.bC l o)):Wd we X (B.set i (af.bC l o')) F (w.putObj l o'):=by
  have h:=hw.qk hi
  have hlt:l<w.heap.size:=(Array.getElem?_eq_some_iff.1 h).1
  refine hw.turn hi (qj (o:=o)) (World.putObj_heap_same hlt) (by simp [af.bC]) fun k hk=>?_
  have e:k=l:=List.mem_singleton.1 hk
  subst e
  exact ⟨by rw [World.putObj_size];exact hlt,.inl (List.mem_singleton.2 rfl)⟩
theorem su (w:World)(o:Obj):iW [] w (w.alloc o):=by
  refine ⟨rfl,rfl,rfl,by rw [World.size_alloc];omega,fun k hk _=>?_⟩
  show (w.heap.push o)[k]? = _
  rw [Array.getElem?_push_lt hk,Array.getElem?_eq_getElem hk]
theorem Wd.zS (hw:Wd we X B F w)(o:Obj):Wd we X (af.bC w.heap.size o::B) F (w.alloc o):=by
  have h1:=hw.grow (su w o)
  refine h1.new (r:=af.bC w.heap.size o) (World.alloc_heap_new w o) (by simp [af.bC]) fun k hk=>?_
  have e:k=w.heap.size:=List.mem_singleton.1 hk
  subst e
  refine ⟨by rw [World.size_alloc];omega,hw.upd.size,fun hb=>?_,fun hb=>?_⟩
  · have:=(hw.own _ hb).1;omega
  · have:=(hw.gR _ hb).1;omega
end
section
variable {P:Program} {r:Option Nat} {ds:List Deferred} {n:Nat} {we:World} {X:List Nat} {Q:Exit→Act→World→Prop} {k k':List It} {L L':Fm} {B F:List af} {ops rest:List Oper}
variable {d:Nat} {op:Op} {ty:TypeId} {pos:String} {cz:Array Edge} {g:Option (Nat×Bool)} {v:Value}
def vV (r:Option Nat)(ds:List Deferred)(P:Program)(n:Nat)(we:World)(X:List Nat)(Q:Exit→Act→World→Prop)(ops rest:List Oper)(k:List It)(L:Fm)(B F:List af):Prop :=
  ∀a w,Fr n L a→Wd we X B F w→wpListIn (qf r) 9 P ops.toArray (gk r P Q k) rest (ig a ds) w
theorem I.zu {id:Nat}(h:norm 200 k = .c (.region id ops.toArray false)::k')(hr:vV r ds P n we X Q ops ops k' L B F):fY r ds P n we X Q k L B F :=
  fun a w ha hw=>cr 200 (h▸wpIn_region_lit (hr a w ha hw))
theorem I.yz (h:fY r ds P n we X Q k L B F):vV r ds P n we X Q ops [] k L B F:=fun a w ha hw=>wpListIn_nil (h a w ha hw)
theorem I.s {β:Type}{o:Oper}{L':β→Fm}{B' F':β→List af}(hn:ndef o=true)(hg:gd ops L o.guard=some true)(hs:Stp P n we X L B F o L' B' F')(h:∀z,vV r ds P n we X Q ops rest k (L' z) (B' z) (F' z)):vV r ds P n we X Q ops (o::rest) k L B F:=by
  intro a w ha hw
  refine wpListIn_step fun K hK=>?_
  rw [if_pos (show Region.wanted o (yielded ops.toArray (ig a ds).tmps)=true from cD (o:=o) (a:=a) ha hg)]
  refine t8 (K:=fun a w => ∃z,Fr n (L' z) a∧Wd we X (B' z) (F' z) w) (Q:=fun _ _ _=>False) hn ?_ ?_ (hs _ _ a w ha hw fun z a w ha hw=>⟨z,ha,hw⟩)
  · rintro a w ⟨z,ha,hw⟩;exact hK _ _ (h z a w ha hw)
  · intro e a w q;exact q.elim
theorem q.AG (hq:Qt P n we X L B F op ty v)(hd:Nat.blt d n=true):Stp P n we X L B F ⟨some d,op,ty,pos,cz,g⟩ (fun _:Unit=>(d,v)::L) (fun _=>B) (fun _=>F):=by
  intro K Q' a w ha hw hK
  unfold Oper.wp
  rw [hq _ _ _ _ a w ha hw,Oper.upon_value]
  exact hK () _ _ (ha.put d v hd) hw
theorem I.q (hq:Qt P n we X L B F op ty v)(hd:Nat.blt d n=true)(hn:ndef ⟨some d,op,ty,pos,cz,none⟩=true)(h:vV r ds P n we X Q ops rest k ((d,v)::L) B F):vV r ds P n we X Q ops (⟨some d,op,ty,pos,cz,none⟩::rest) k L B F :=
  I.s hn rfl (q.AG hq hd) fun _=>h
theorem I.y {β:Type}{l i:Nat}{rc:Loop}{c x:Operand}{xv:Value}{ts:Array TypeId}(hi:B[i]? = some (af.bC l (.loop rc)))(hp:rc.params.size=1)(hc:ev L c=some (.func (.yield l) #[] #[]))(hx:ev L x=some xv)
    (V:β→Bool) (PV:β→Prop) (B' F':β→List af)
    (wR:∀w,Wd we X B F w→RoundIn Fence.wide 8 P l rc.fn ((rc.params.zip #[xv]).foldl (fun tmps (t,a)=>tmps.setIfInBounds t a) rc.tmps) rc.assign rc.body w (fun e w' => ∃z,e = .returned (.bool (V z))∧PV z∧Wd we X (B' z) (F' z) w'))
    (hd:Nat.blt d n=true) (h:∀z,PV z→vV none ds P n we X Q ops rest k ((d,.bool (V z))::L) (B' z) (F' z)) :
    vV none ds P n we X Q ops (⟨some d,.call { callee:= .value c,args:= #[x],argTypes:=ts },ty,pos,cz,none⟩::rest) k L B F:=by
  intro a w ha hw
  refine wpListIn_plain rfl fun K hK=>⟨fun f _=>trivial,?_⟩
  have hrun:(Oper.semAt (qf none).round (ig a ds).eval ⟨some d,.call { callee:= .value c,args:= #[x],argTypes:=ts },ty,pos,cz,none⟩).run P w = .ok (.round l rc.fn ((rc.params.zip #[xv]).foldl (fun tmps (t,a)=>tmps.setIfInBounds t a) rc.tmps) rc.assign rc.body) w:=by
    rw [Oper.semAt_eq _ _ _ (fun c h=>by cases h),pw]
    simp [execOp,resolve,ha.ev hc,Deferred.ofValue,invoke,ha.ev hx,run_yield (P:=P) (args:= #[xv]) (hw.qk hi) (by rw [hp];rfl)]
  rw [hrun,Oper.uponIn_round]
  refine ⟨kN none,RoundIn.mono (wR w hw) fun e w' he=>?_⟩
  obtain ⟨z,rfl,hp,hz⟩:=he
  show K ((ig a ds).put (some d) (.bool (V z))) w'
  rw [hU]
  exact hK _ _ (h z hp _ w' (ha.put d _ hd) hz)
def zT {ι:Type}(ds:List Deferred)(n:Nat)(we:World)(X:List Nat)(LI:ι→Fm)(BI FI:ι→List af)(PI:ι→Prop)(μ:ι→Nat)(m:Nat)(a:Act)(w:World):Prop :=
  ∃a0,a=ig a0 ds∧Hd n we X LI BI FI PI μ m a0 w
theorem I.back {ι:Type}{LI:ι→Fm}{BI FI:ι→List af}{PI:ι→Prop}{μ:ι→Nat}{m:Nat}(i:ι)(h:norm 200 k = .back (zT ds n we X LI BI FI PI μ m)::k')(hP:PI i)(hm:μ i<m)(hL:oH (LI i) L)(hB:∀w,Wd we X B F w→Wd we X (BI i) (FI i) w):fY r ds P n we X Q k L B F :=
  fun a w ha hw=>cr 200 (by rw [h];exact ⟨a,rfl,i,hP,hm,ha.sub hL,hB w hw⟩)
theorem sv {c:Code}{Q:Exit→Act→World→Prop}{a:Act}{w:World}(I:Nat→Act→World→Prop)(m:Nat)(h₀:I m a w)
    (round:∀m a w,I m a w→c.wpIn Fence.wide 9 P (Exit.then (fun a' w' => ∃m',m'<m∧I m' a' w') Q) a w):(Code.loop c).wpIn Fence.wide 9 P Q a w :=
  wpIn_wide.2 (oI I m h₀ fun m a w h=>wpIn_wide.1 (round m a w h))
theorem I.loop {ι:Type}(LI:ι→Fm)(BI FI:ι→List af)(PI:ι→Prop)(μ:ι→Nat)(i:ι){c:Code}(h:norm 200 k = .c (.loop c)::k')(hP:PI i)(hL:oH (LI i) L)(hB:∀w,Wd we X B F w→Wd we X (BI i) (FI i) w)
    (round:∀i,PI i→fY none ds P n we X Q (.c c :: .back (zT ds n we X LI BI FI PI μ (μ i))::k') (LI i) (BI i) (FI i)):fY none ds P n we X Q k L B F:=by
  intro a w ha hw
  refine cr 200 (h ▸ ?_)
  refine sv (fun m a w => ∃a0,a=ig a0 ds ∧ ∃i,PI i∧μ i=m∧Fr n (LI i) a0∧Wd we X (BI i) (FI i) w) (μ i) ⟨a,rfl,i,hP,rfl,ha.sub hL,hB w hw⟩ ?_
  rintro m a w ⟨a0,rfl,i,hP,rfl,ha,hw⟩
  refine wpIn_mono (round i hP a0 w ha hw) (fun e a w q=>?_)
  cases e with
  | normal =>
    obtain ⟨a1,rfl,j,h1,h2,h3,h4⟩:=q
    exact ⟨μ j,h2,a1,rfl,j,h1,rfl,h3,h4⟩
  | _=>exact q
theorem ud (r:Option Nat)(m:Nat):(qf r).room m:=by
  intro d hd;cases r <;> cases hd
theorem px {c:Code}{m:Nat}{a:Act}{w:World}(h:c.wpIn (qf r) 9 P Q a w):c.wpIn (qf r) m P Q a w:=fun b k cs h1 h2 _=>h b k cs h1 h2 (ud r _)
def qA (n:Nat)(L:Fm)(we:World)(X:List Nat)(B F:List af):Exit→Act→World→Prop
  | .normal,a,w=>Fr n L a∧Wd we X B F w
  | _,_,_=>False
theorem I.assigned {L1:Fm}(h:norm 200 k=[])(hL:oH L1 L):fY r [] P n we X (qA n L1 we X B F) k L B F :=
  fun a w ha hw=>cr 200 (by
    rw [h]
    have e:ig a []=a:=by unfold ig;rw [List.append_nil]
    show qA n L1 we X B F .normal (ig a []) w
    rw [e];exact ⟨ha.sub hL,hw⟩)
theorem I.round {l i:Nat}{fn:FuncId}{tmps:Array Value}{assign body:Code}{w:World}{R:Ending→World→Prop}{rc:Loop}{L0 L1:Fm}(hi:B[i]? = some (af.bC l (.loop rc)))(hs:rc.state = .ready)(hf:Fr n L0 { tmps:=tmps,defers:=[] })(hw:Wd we X B F w)
    (ha:fY (some l) [] P n we X (qA n L1 we X B F) [.c assign] L0 B F) (hb:fY (some l) [] P n we X (roundPost P l R) [.c body] L1 (B.set i (af.bC l (.loop { rc with state:= .busy }))) F) :
    RoundIn Fence.wide 8 P l fn tmps assign body w R:=by
  refine roundIn_of_wpIn trivial (px (r:=some l) ?_)
  have h1:=ha _ w hf hw
  refine wpIn_mono h1 fun e a w q=>?_
  cases e with
  | normal =>
    obtain ⟨hfa,zU⟩:=q
    refine ⟨_,run_beginRound (zU.qk hi) hs,px (r:=some l) ?_⟩
    have h2:=hb a _ hfa (zU.uc (.loop { rc with state:= .busy }) hi)
    have e:ig a []=a:=by unfold ig;rw [List.append_nil]
    rw [e] at h2
    exact h2
  | _=>exact q.elim
section
variable {β:Type} {V:β→Bool} {PV:β→Prop} {B1 F1:β→List af}
theorem I.AH {l i:Nat}{rc:Loop}(z:β)(hP:PV z)(h:norm 200 k=[])(hi:B[i]? = some (af.bC l (.loop rc)))(hV:V z=true)(hB:∀w,Wd we X (B.set i (af.bC l (.loop { rc with state:= .ready,pending:=none }))) F w→Wd we X (B1 z) (F1 z) w) :
    fY r [] P n we X (roundPost P l fun e w' => ∃z,e = .returned (.bool (V z))∧PV z∧Wd we X (B1 z) (F1 z) w') k L B F :=
  I.end h fun a w ha hw=>⟨_,_,run_endRound none (hw.qk hi),z,by rw [hV];rfl,hP,hB _ (hw.uc _ hi)⟩
theorem I.zw {l i:Nat}{rc:Loop}(z:β)(hP:PV z)(h:norm 200 k = .c .ret::k')(hi:B[i]? = some (af.bC l (.loop rc)))(hV:V z=false)(hB:∀w,Wd we X (B.set i (af.bC l (.loop { rc with state:= .done,pending:=some .ret }))) F w→Wd we X (B1 z) (F1 z) w) :
    fY r [] P n we X (roundPost P l fun e w' => ∃z,e = .returned (.bool (V z))∧PV z∧Wd we X (B1 z) (F1 z) w') k L B F :=
  I.ret h fun a w ha hw=>⟨_,_,run_endRound (some .ret) (hw.qk hi),z,by rw [hV];rfl,hP,hB _ (hw.uc _ hi)⟩
end
def coll (D:Nat):List Deferred:=[{ target:= .collected D,args:= #[] }]
def m4 (RC:Loop)(stop:Bool):Loop:=bif stop then { RC with state:= .done,pending:=some .ret } else { RC with state:= .ready,pending:=none }
theorem R.range {β:Type}{g:Operand}{ps:Array Tmp}{assign body:Code}{gf:Nat}{lb:Array Value}(h:norm 200 k = .c (.rangeFunc g ps assign body)::k')(hg:ev L g=some (.func (.func gf) #[] lb))
    (eg:∀args w,(callFunc gf args).run P w = .ok (.enter gf args) w) (stop:β→Bool) (PJ:β→Prop) (Bz Fz:Nat→β→List af)
    (hcall:∀ (RC:Loop) (a:Act) (D:Nat) (w1:World),we.heap.size≤D→Fr n L a→RC.tmps=a.tmps→RC.params=ps→RC.assign=assign→RC.body=body→Wd we X (af.bC (D+1) (.loop (m4 RC false))::af.bC D (.deferred (some []))::B) F w1 →
      CallsIn Fence.wide (9-1) P gf (#[.func (.yield (D+1)) #[] #[]]++lb) w1 fun e w3 => ∃v z,e = .returned v∧PJ z∧Wd we X (af.bC (D+1) (.loop (m4 RC (stop z)))::Bz D z) (Fz D z) w3)
    (hend:∀D z,we.heap.size≤D→PJ z→stop z=false→fY none (coll D) P n we X Q k' L (Bz D z) (Fz D z))
    (hstop:∀D z,we.heap.size≤D→PJ z→stop z=true→fY none (coll D) P n we X Q (.c .ret::k') L (Bz D z) (Fz D z)):Run P n we X Q k L B F:=by
  intro a w ha hw
  refine bI 200 (h ▸ ?_)
  suffices hx:(Code.rangeFunc g ps assign body).wpIn Fence.wide 9 P (gk none P Q k') a w from wp_mono (wpIn_wide.1 hx) (fun e a w q=>gN k' e a w q)
  refine wpIn_rangeFunc fun fn _=>?_
  have hw2:=(hw.zS (.deferred (some []))).zS (.loop { state:= .ready,pending:=none,fn,tmps:=a.tmps,params:=ps,assign,body,defers:=w.heap.size })
  have hsz:(w.alloc (.deferred (some []))).heap.size=w.heap.size+1:=World.size_alloc _ _
  rw [hsz] at hw2
  have e0:=run_enterLoop_outer (P:=P) (w:=w) fn a.tmps ps assign body
  generalize (w.alloc (.deferred (some []))).alloc (.loop { state:= .ready,pending:=none,fn,tmps:=a.tmps,params:=ps,assign,body,defers:=w.heap.size })=W1 at hw2 e0
  have hc:=hcall { state:= .ready,pending:=none,fn,tmps:=a.tmps,params:=ps,assign,body,defers:=w.heap.size } a w.heap.size W1 hw.upd.size ha rfl rfl rfl rfl hw2
  refine ⟨w.heap.size+1,coll w.heap.size,W1,{ target:= .fn (.func gf) lb,args:= #[.func (.yield (w.heap.size+1)) #[] #[]] },W1,gf,#[.func (.yield (w.heap.size+1)) #[] #[]]++lb,W1,e0,?_,fun _ _=>trivial,?_,fun _=>by decide,?_⟩
  · simp only [resolve,ha.ev hg];simp [go_sem]
  · simp [invoke,go_sem,eg]
  ·
    refine CallsIn.mono hc (fun e w3 he=>?_)
    obtain ⟨v,z,rfl,zV,hz⟩:=he
    have e2:ig a (coll w.heap.size) = { a with defers:=coll w.heap.size++a.defers }:=by unfold ig;rw [ha.defers];rfl
    have hq1:=hend w.heap.size z hw.upd.size zV
    have hq2:=hstop w.heap.size z hw.upd.size zV
    generalize hrc:m4 { state:= .ready,pending:=none,fn:=fn,tmps:=a.tmps,params:=ps,assign:=assign,body:=body,defers:=w.heap.size } (stop z)=rc at hz
    have hb:rc.state ≠ .busy:=by rw [← hrc];cases stop z <;> (intro hh;cases hh)
    have zW:rc.pending=bif stop z then some .ret else none:=by rw [← hrc];cases stop z <;> rfl
    have e1:=run_endLoop (P:=P) (hz.qk (i:=0) rfl) hb
    have hz2:=hz.uc (i:=0) (.loop { rc with state:= .exhausted }) rfl
    have hz3:Wd we X (Bz w.heap.size z) (Fz w.heap.size z) (w3.putObj (w.heap.size+1) (.loop { rc with state:= .exhausted })) :=
      ⟨hz2.upd,fun r hr=>hz2.okB r (List.mem_cons_of_mem _ hr),hz2.okF,(List.nodup_append.1 hz2.sep).2.1,fun k hk=>hz2.own k (List.mem_append.2 (.inr hk)),fun k hk=>⟨(hz2.gR k hk).1,fun hh=>(hz2.gR k hk).2 (List.mem_append.2 (.inr hh))⟩⟩
    cases hJ:stop z with
    | false =>
      have hq:rc.pending=none:=by rw [zW,hJ];rfl
      have h2:=hq1 hJ a _ ha hz3
      rw [e2] at h2
      refine ⟨rc.pending,_,e1,?_⟩
      rw [hq] at h2 ⊢
      exact h2
    | true =>
      have hq:rc.pending=some .ret:=by rw [zW,hJ];rfl
      have h2:=hq2 hJ a _ ha hz3
      rw [e2] at h2
      refine ⟨rc.pending,_,e1,?_⟩
      rw [hq] at h2 ⊢
      exact h2
theorem Wd.sub {w:World}(hw:Wd we X B F w):Wd w (blks B) B F w:=⟨iW.refl _ _,hw.okB,hw.okF,hw.sep,fun k hk=>⟨(hw.own k hk).1,fun _=>hk⟩,hw.gR⟩
theorem Wd.over {w w':World}{B1 F1:List af}(hw:Wd we X B F w)(h:Wd w (blks B) B1 F1 w'):Wd we X B1 F1 w' :=
  ⟨⟨h.upd.os.trans hw.upd.os,h.upd.tape.trans hw.upd.tape,h.upd.output.trans hw.upd.output,Nat.le_trans hw.upd.size h.upd.size,fun k hk hn=>(h.upd.block k (Nat.lt_of_lt_of_le hk hw.upd.size) fun hb=>hn ((hw.own k hb).2 hk)).trans (hw.upd.block k hk hn)⟩,
    h.okB,h.okF,h.sep,fun k hk=>⟨(h.own k hk).1,fun hk2=>(hw.own k ((h.own k hk).2 (Nat.lt_of_lt_of_le hk2 hw.upd.size))).2 hk2⟩,h.gR⟩
theorem R.wS {f:FuncId}{fn:Func}{c:Code}{vs:List Value}{w:World}{R:Ending→World→Prop}(L:Fm)(hf:P.funcs[f]? = some fn)(hb:fn.body=some c)(hn:fn.ntmps=n)
    (hle:Nat.ble vs.length n=true) (hL:vZ 0 vs=L) (h0:Wd w X B F w) (h:Run P n w X (bodyPostM Fence.wide 9 P fn R) [.c c] L B F):Calls P f vs.toArray w R:=by
  have hle':vs.length≤n:=Nat.le_of_ble_eq_true hle
  suffices hx:c.wp P (bodyPostM Fence.wide 9 P fn R) { tmps:=vs.toArray++Array.replicate (fn.ntmps-vs.toArray.size) undef,defers:=[] } w from callsIn_wide.1 (callsIn_of_wp_marks (n:=9) hf hb trivial (wpIn_wide.2 hx))
  refine wp_mono (h _ w ⟨?_,rfl,fun i v hv=>?_⟩ h0) (fun e a w q=>by cases e <;> exact q)
  · simp [hn];omega
  ·
    rw [← hL] at hv
    obtain ⟨h1,h2⟩:=lE vs 0 i v hv
    simp only [Nat.sub_zero] at h2
    have hi:i<vs.length:=(List.getElem?_eq_some_iff.1 h2).1
    show (vs.toArray++Array.replicate (fn.ntmps-vs.toArray.size) undef)[i]? = some v
    rw [Array.getElem?_append_left (by simpa using hi)]
    simpa using h2
theorem I.bY {f:FuncId}{fn:Func}{c:Code}{vs:List Value}{w:World}{R:Ending→World→Prop}(L:Fm)(hf:P.funcs[f]? = some fn)(hb:fn.body=some c)(hn:fn.ntmps=n)
    (hle:Nat.ble vs.length n=true) (hL:vZ 0 vs=L) (h0:Wd w X B F w) (h:fY none [] P n w X (bodyPost P fn R) [.c c] L B F):CallsIn Fence.wide (9-1) P f vs.toArray w R:=by
  have hle':vs.length≤n:=Nat.le_of_ble_eq_true hle
  suffices hx:c.wpIn Fence.wide 9 P (bodyPost P fn R) { tmps:=vs.toArray++Array.replicate (fn.ntmps-vs.toArray.size) undef,defers:=[] } w from callsIn_wide.2 (calls_of_wp hf hb (wpIn_wide.1 hx))
  have h1:=h { tmps:=vs.toArray++Array.replicate (fn.ntmps-vs.toArray.size) undef,defers:=[] } w ⟨?_,rfl,fun i v hv=>?_⟩ h0
  · exact wpIn_mono h1 (fun e a w q=>by cases e <;> exact q)
  · simp [hn];omega
  ·
    rw [← hL] at hv
    obtain ⟨h1,h2⟩:=lE vs 0 i v hv
    simp only [Nat.sub_zero] at h2
    have hi:i<vs.length:=(List.getElem?_eq_some_iff.1 h2).1
    show (vs.toArray++Array.replicate (fn.ntmps-vs.toArray.size) undef)[i]? = some v
    rw [Array.getElem?_append_left (by simpa using hi)]
    simpa using h2
section
variable {fn:Func} {β:Type} {B1 F1:β→List af} {V:β→Value} {r1:ResultVar} {v1:Value}
theorem I.w0 {PJ:β→Prop}(z:β)(hP:PJ z)(is js:List Nat)(h:norm 200 k=[] ∨ ∃k',norm 200 k = .c .ret::k')(hr:fn.results = #[])(hp:cd B is=some (B1 z))(ha':eJ is=true)(hj:cd F js=some (F1 z))(e:V z = .tuple #[]) :
    fY none [] P n we X (bodyPost P fn fun en w' => ∃z,en = .returned (V z)∧PJ z∧Wd we X (B1 z) (F1 z) w') k L B F:=by
  have e0:∀a:Act,ig a []=a:=fun a=>by unfold ig;rw [List.append_nil]
  rcases h with h|⟨k',h⟩
  · exact I.end h fun a w ha hw=>by rw [e0];exact bodyPost_end (results_none hr _ _ _) ha.defers ⟨z,by rw [e],hP,hw.ay is js hp hj ha'⟩
  · exact I.ret h fun a w ha hw=>by rw [e0];exact bodyPost_ret (results_none hr _ _ _) ha.defers ⟨z,by rw [e],hP,hw.ay is js hp hj ha'⟩
theorem I.yA {D i:Nat}(z:β)(is js:List Nat)(h:norm 200 k = .c .ret::k')(hr:fn.results = #[r1])(hB:B[i]? = some (af.bC D (.deferred (some []))))(h1:RV P n we X L (B.set i (af.bC D (.deferred none))) F r1 v1)
    (hp:cd (B.set i (af.bC D (.deferred none))) is=some (B1 z)) (ha':eJ is=true) (hj:cd F js=some (F1 z)) (e:v1=V z) :
    fY none (coll D) P n we X (bodyPostM Fence.wide 9 P fn fun en w' => ∃z,en = .returned (V z)∧Wd we X (B1 z) (F1 z) w') k L B F :=
  I.ret h fun a w ha hw=>by
    have hw':=hw.uc (.deferred none) hB
    have hds:(ig a (coll D)).defers=coll D:=by unfold ig;rw [ha.defers];rfl
    show LeavesInM Fence.wide 9 P fn a.tmps _ (ig a (coll D)).defers .returning w
    rw [hds]
    show FrameMode.returning ≠ .run∧_
    refine And.intro (fun hh=>by cases hh) (Or.inl ⟨D,_,rfl,run_takeDeferred (hw.qk hB),v1,?_,z,by rw [e],hw'.ay is js hp hj ha'⟩)
    have e1:=h1 a _ ha hw'
    rw [fP,hr,show (#[r1]:Array ResultVar)=[r1].toArray from rfl]
    simp only [List.mapM_toArray,List.mapM_cons,List.mapM_nil,bind_assoc,pure_bind,Sem.run_bind,map_eq_pure_bind,e1,Result.andThen_ok]
    rfl
end
end
end Go.Proofs.Ytpipachmngdegaa
end
