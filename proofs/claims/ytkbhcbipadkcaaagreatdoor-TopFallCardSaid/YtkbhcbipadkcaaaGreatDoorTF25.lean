import Derived.Test.YtkbhcbipadkcaaaGreatDoorTF24
namespace Go.Proofs.YtkbhcbipadkcaaaGreatDoor
set_option linter.unusedVariables false
set_option linter.unusedSimpArgs false
set_option maxRecDepth 100000
set_option maxHeartbeats 90000000
section
open Go Go.RowKit
theorem FC (bU bJ bK bL:Value)(r:aB)(w:World)(own:List Nat)(H:HN w own [] [ag.ls bU r.ao,ag.ls bJ r.Things,ag.ls bK r.Held,ag.ls bL r.Notes])(hk:Ok r):RC Tryz.prog 23 #[.agg #[bU,bJ,bK,bL,iV r.ae,iV r.ah]] H (fun z:Value×Value×Value×Value => .agg #[z.1,z.2.1,z.2.2.1,z.2.2.2,iV (bm r).ae,iV (bm r).ah]) (fun _=>[]) (fun z=>[ag.ls z.1 (bm r).ao,ag.ls z.2.1 (bm r).Things,ag.ls z.2.2.1 (bm r).Held,ag.ls z.2.2.2 (bm r).Notes]):=by
 have eJ:=H.ck 0 rfl
 have dK:=H.ck 1 rfl
 have fI:=H.ck 2 rfl
 have eK:=H.ck 3 rfl
 have bw:=hk.wl;have bt:=hk.tl;have bh:=hk.hl;have bn:=hk.nl;have KV:=hk.w0;have KW:=hk.w1;have KX:=hk.t0;have KY:=hk.t1
 refine R.bD [(0,.agg #[bU,bJ,bK,bL,iV r.ae,iV r.ah])] Tryz.func23 O O O O H<|R.reg O<|R.s O (s.box O O O) fun b1=>?_
 refine R.s O (s.alloc dB O O) fun b2=>?_
 refine R.nil<|R.reg O<|R.q (q.aP O dv O) O<|R.q (q.ld 1 O O eB O) O<|R.q (q.len' (dx 3 O) O Tryz.underlying46) O<|R.u 1 O<|R.nil<|R.loop (fun g_:Nat×Value×(List ak)=>[(1,.pointer (some ⟨b1,0,none⟩)),(2,.pointer (some ⟨b2,0,none⟩)),(6,bL),(7,iV (r.Notes.length:Int)),(8,iV (g_.1:Int))]) (fun g_=>[ag.box b2 Hb 48,ag.box b1 [g_.2.1,bJ,bK,bL,iV r.ae,iV r.ah] 48,ag.held w own]) (fun g_=>[ag.ls g_.2.1 g_.2.2,ag.ls bU r.ao,ag.ls bJ r.Things,ag.ls bK r.Held,ag.ls bL r.Notes]) (fun g_=>g_.1<=r.Notes.length/\g_.2.2=hX (r.Notes.take g_.1) r.ao) (fun g_=>r.Notes.length-g_.1) (0,bU,r.ao) O (by exact ⟨by omega,rfl⟩) (sF O) (iz [0,1,2] [0,0,1,2,3] O) ?_
 rintro ⟨j,vw,ws⟩ ⟨hj1,HW⟩
 dsimp only at *
 have hws:ws.length<=2000:=by rw [HW];exact Nat.le_trans (xJ _ _) hk.wl
 have hwr:∀w∈ws,0<=w.Rights/\w.Rights<=7:=by rw [HW];exact zN _ _ hk.ri
 have hok:Ok (⟨ws,r.Things,r.Held,[],r.ae,r.ah⟩:aB):=⟨hws,hk.tl,hk.hl,Nat.zero_le _,hwr,hk.w0,hk.w1,hk.t0,hk.t1⟩
 refine R.reg O<|?_
 by_cases h1:j<r.Notes.length
 .
  refine R.q (q.dD O O) O<|R.nil<|R.az O O<|R.reg O<|?_
  obtain ⟨x1,hx1⟩:∃z,r.Notes[j]? = some z:=⟨_,List.getElem?_eq_getElem (by omega)⟩
  refine R.q (q.idx (i:=j) (dx 4 O) O O gK O hx1) O<|R.q (q.gk (ds:=vP x1) (dx 4 O) hx1 O dH O) O<|R.s O (s.alloc eT O O) fun b3=>?_
  refine R.s O (s.st 0 _ O O O O (.inl dH) O O O O) fun _=>?_
  refine R.nil<|R.reg O<|R.q (q.aP O iF O) O<|R.q (q.ld 0 O O au O) O<|?_
  by_cases h2:0<x1.ak
  .
   refine R.q (q.eM O O) O<|R.nil<|R.az O O<|R.reg O<|R.q (q.aP O bq O) O<|R.q (q.ld 2 O O cb O) O<|R.q (q.aP O iF O) O<|R.q (q.ld 0 O O au O) O<|R.s O (s.vU Jn O O (fun w hw=>qf _ ws x1.ak w (hw.bN 0 O) (by omega)) O) fun v1=>?_
   refine R.q (q.aP O bq O) O<|R.s O (s.fR 3 _ O O O (fun w hw=>Sl.cq (hw.row 0 O)) (.inr ⟨cb,rfl⟩) (fun w hw=>(af (Sl.one (hw.row 0 O)) aO)) O O O) fun _=>?_
   refine R.nil<|R.reg O<|R.q (q.bC (r:=((j+1:Nat):Int)) O O) O<|R.u 1 O<|R.nil<|R.mp (fun _ hw=>hw.cX 0 _ O O)<|R.back (j+1,v1,(without ws x1.ak)) O (by (exact ⟨by omega,by rw [xI hx1,if_pos (by omega),HW]⟩)) (by dsimp only;omega) (sF O) (aD [1,2,3] [0,2,3,4,5] O)
  refine R.q (q.ey O O) O<|R.nil<|R.aC O O<|R.reg O<|R.q (q.bC (r:=((j+1:Nat):Int)) O O) O<|R.u 1 O<|R.nil<|R.back (j+1,vw,ws) O (by (exact ⟨by omega,by rw [xI hx1,if_neg (by omega),HW]⟩)) (by dsimp only;omega) (sF O) (aD [1,2,3] gJ O)
 refine R.q (q.cU O O) O<|R.nil<|R.aC O O<|R.reg O<|R.q (q.aP O dv O) O<|R.s O (s.st 1 _ O O O O (.inr ⟨eB,rfl⟩) O O O O) fun _=>?_
 refine R.nil<|R.reg O<|R.q (q.cW 1 O O aj) O<|R.s O (s.pre (fun _ hw=>hw.a8 (α:=Note)) (s.aT [0,1,2] [1,3,4,0] _ _ _ O O O Jo O O (fun w own hw H=>sf vw bJ bK (nS) (⟨ws,r.Things,r.Held,[],r.ae,r.ah⟩:aB) w own H ‹_›) O)) ?_
 rintro ⟨z1,z2,z3,z4⟩
 dsimp only
 refine R.s O (s.fR 0 _ O O O (fun _ _=>rfl) (.inl aj) (fun w hw=>(af (Sl.one (hw.bN 0 O)) (af (Sl.one (hw.bN 1 O)) (af (Sl.one (hw.bN 2 O)) (af (Sl.one (hw.bN 3 O)) (af O (af O aO))))))) O O O) fun _=>?_
 refine R.nil ?_
 have hz:bm r=(dS (⟨ws,r.Things,r.Held,[],r.ae,r.ah⟩:aB)):=by (unfold bm;rw [HW,List.take_of_length_le (by omega)])
 rw [hz]
 exact R.w1 (z1,z2,z3,z4) [2] bI O Tryz.results23 (RV.cell 0 O O aj) O O O O
theorem zY (bU bJ bK bL:Value)(r:aB)(w:World)(own:List Nat)(H:HN w own [] [ag.ls bU r.ao,ag.ls bJ r.Things,ag.ls bK r.Held,ag.ls bL r.Notes])(hk:Ok r):RC Tryz.prog 53 #[.agg #[bU,bJ,bK,bL,iV r.ae,iV r.ah]] H (fun z:Value×Value×Value×Value => .agg #[z.1,z.2.1,z.2.2.1,z.2.2.2,iV r.ae,iV r.ah]) (fun _=>[]) (fun z=>[ag.ls z.1 r.ao,ag.ls z.2.1 r.Things,ag.ls z.2.2.1 r.Held,ag.ls z.2.2.2 r.Notes]):=by
 have eJ:=H.ck 0 rfl
 have dK:=H.ck 1 rfl
 have fI:=H.ck 2 rfl
 have eK:=H.ck 3 rfl
 have bw:=hk.wl;have bt:=hk.tl;have bh:=hk.hl;have bn:=hk.nl;have KV:=hk.w0;have KW:=hk.w1;have KX:=hk.t0;have KY:=hk.t1
 refine R.bD [(0,.agg #[bU,bJ,bK,bL,iV r.ae,iV r.ah])] Tryz.func53 O O O O H<|R.reg O<|R.s O (s.box O O O) fun b1=>?_
 refine R.s O (s.alloc dB O O) fun b2=>?_
 refine R.nil<|R.UI (fuel:=20) [0,1,2] [13,15,17,19] O O mixed O<|K.p (i:=0) O (.inr (aD [0,1,2] bI O)) O (fun w=>q.aP O bq O) O<|K.q (i:=1) O (aD [0,1,2] bI O) O (q.ld 1 O O cb O) O<|K.p (i:=3) O (.inr (aD [0,1,2] bI O)) O (fun w=>q.aP O du O) O<|K.q (i:=4) O (aD [0,1,2] bI O) O (q.ld 1 O O eR O) O<|K.p (i:=6) O (.inr (aD [0,1,2] bI O)) O (fun w=>q.aP O cQ O) O<|K.q (i:=7) O (aD [0,1,2] bI O) O (q.ld 1 O O dV O) O<|K.p (i:=9) O (.inr (aD [0,1,2] bI O)) O (fun w=>q.aP O dv O) O<|K.q (i:=10) O (aD [0,1,2] bI O) O (q.ld 1 O O eB O) O<|K.one (i:=2) O<|Ko.s (s.aT [0,1,2] [0] _ _ _ O O O wu O O (fun w own hw H=>jJ bU r.ao w own H (by first|omega|assumption|(simp;done)|(simp;omega))) O) (.inr fun _=>(aD [1,2,3] bI O)) (fun h=>by cases h) O fun z5=>?_
 refine K.p (i:=12) O (.inr (aD [1,2,3] bI O)) O (fun w=>q.aP O bq O) O<|K.one (i:=5) O<|Ko.s (s.aT bI [1] _ _ _ O O O wv O O (fun w own hw H=>ji bJ r.Things w own H (by first|omega|assumption|(simp;done)|(simp;omega))) O) (.inr fun _=>(aD [2,3,4] bI O)) (fun h=>by cases h) O fun z6=>?_
 refine K.one (i:=8) O<|Ko.s (s.aT gJ [2] _ _ _ O O O EI O O (fun w own hw H=>nn bK r.Held w own H (by first|omega|assumption|(simp;done)|(simp;omega))) O) (.inr fun _=>(aD [3,4,5] bI O)) (fun h=>by cases h) O fun z7=>?_
 refine K.one (i:=11) O<|Ko.s (s.aT rk [3] _ _ _ O O O oA O O (fun w own hw H=>fh bL r.Notes w own H (by first|omega|assumption|(simp;done)|(simp;omega))) O) (.inr fun _=>(aD [4,5,6] bI O)) (fun h=>by cases h) O fun z8=>?_
 refine K.one (i:=13) O<|Ko.s (s.fR 5 _ O O O (fun w hw=>Sl.cq (hw.row 3 O)) (.inr ⟨cb,rfl⟩) (fun w hw=>(af (Sl.one (hw.row 3 O)) aO)) O O O) (.inl O) (fun _=>by kernel_rfl) O fun _=>?_
 refine K.p (i:=14) O (.inl (by kernel_rfl)) O (fun w=>q.aP O du O) O<|K.one (i:=15) O<|Ko.s (s.fR 5 _ O O O (fun w hw=>Sl.cq (hw.row 2 O)) (.inr ⟨eR,rfl⟩) (fun w hw=>(af (Sl.one (hw.row 2 O)) aO)) O O O) (.inl O) (fun _=>by kernel_rfl) O fun _=>?_
 refine K.p (i:=16) O (.inl (by kernel_rfl)) O (fun w=>q.aP O cQ O) O<|K.one (i:=17) O<|Ko.s (s.fR 5 _ O O O (fun w hw=>Sl.cq (hw.row 1 O)) (.inr ⟨dV,rfl⟩) (fun w hw=>(af (Sl.one (hw.row 1 O)) aO)) O O O) (.inl O) (fun _=>by kernel_rfl) O fun _=>?_
 refine K.p (i:=18) O (.inl (by kernel_rfl)) O (fun w=>q.aP O dv O) O<|K.one (i:=19) O<|Ko.s (s.fR 5 _ O O O (fun w hw=>Sl.cq (hw.row 0 O)) (.inr ⟨eB,rfl⟩) (fun w hw=>(af (Sl.one (hw.row 0 O)) aO)) O O O) (.inl O) (fun _=>by kernel_rfl) O fun _=>?_
 refine K.done<|R.reg O<|R.q (q.cW 5 O O aj) O<|R.s O (s.fR 4 _ O O O (fun _ _=>rfl) (.inl aj) (fun w hw=>(af (Sl.one (hw.row 3 O)) (af (Sl.one (hw.row 2 O)) (af (Sl.one (hw.row 1 O)) (af (Sl.one (hw.row 0 O)) (af O (af O aO))))))) O O O) fun _=>?_
 exact R.nil<|R.mp (fun _ hw=>hw.cX 3 _ O O)<|R.mp (fun _ hw=>hw.cX 2 _ O O)<|R.mp (fun _ hw=>hw.cX 1 _ O O)<|R.mp (fun _ hw=>hw.cX 0 _ O O)<|R.w1 (z5,z6,z7,z8) [2] gj O Tryz.results53 (RV.cell 0 O O aj) O O O O
end
def tE (r:aB)(c:Change):aB:=(rowP r c).1
theorem GZ:∀ (l:List Change) (pv:Option ByteArray) (r:aB),(∀c∈l,sk pv c=true)->dr l->(∀c∈l,c.Gone=false /\ ∀s,(rowP s c).2=true)->pgo l pv r=some (l.foldl tE r)
 | [],_,r,_,_,_=>rfl
 | c::l,pv,r,h1,h2,h3=>by
  obtain ⟨hc,hl⟩:=List.pairwise_cons.1 h2
  have g:=h3 c (List.mem_cons_self ..)
  simp only [pgo]
  rw [if_pos (by rw [h1 c (List.mem_cons_self ..),g.1,g.2 r];rfl)]
  exact GZ l (some c.Key) _ (fun x hx=>hc x hx) hl (fun x hx=>h3 x (List.mem_cons_of_mem _ hx))
theorem Ln:∀ (hs:List Held) (r:aB),(∀h∈hs,aY h.Place=0/\0<=h.ak/\h.ak<10000)->(hs.map hrow).foldl tE r=⟨r.ao,r.Things,r.Held++hs,r.Notes,r.ae,r.ah⟩
 | [],r,_=>by rw [List.map_nil,List.foldl_nil,List.append_nil]
 | h::hs,r,k=>by
  obtain ⟨k1,k2,k3⟩:=k h (List.mem_cons_self ..)
  rw [List.map_cons,List.foldl_cons,show tE r (hrow h)=Iv r h by unfold tE;rw [La r k1 k2 k3],Ln hs _ (fun x hx=>k x (List.mem_cons_of_mem _ hx))]
  simp only [Iv,List.append_assoc,List.cons_append,List.nil_append]
structure Vf (t:aF):Prop where
  i0:0<=t.ID
  i9:t.ID<10000
  kd:t.Kind=1∨t.Kind=2/\t.Data.size=0
  ds:t.Data.size<=8
theorem Lp:∀ (ts:List aF) (r:aB),(∀t∈ts,Vf t)->(ts.map lZ).foldl tE r=⟨r.ao,r.Things++ts,r.Held,r.Notes,r.ae,r.ah⟩
 | [],r,_=>by rw [List.map_nil,List.foldl_nil,List.append_nil]
 | t::ts,r,k=>by
  obtain ⟨k1,k2,k3,k4⟩:=k t (List.mem_cons_self ..)
  rw [List.map_cons,List.foldl_cons,show tE r (lZ t)=Iw r t by unfold tE;rw [Lb r k1 k2 k3 k4],Lp ts _ (fun x hx=>k x (List.mem_cons_of_mem _ hx))]
  simp only [Iw,List.append_assoc,List.cons_append,List.nil_append]
theorem Lq:∀ (ws:List ak) (r:aB),(∀w∈ws,Rb w)->(ws.map oc).foldl tE r=⟨r.ao++ws,r.Things,r.Held,r.Notes,r.ae,r.ah⟩
 | [],r,_=>by rw [List.map_nil,List.foldl_nil,List.append_nil]
 | w::ws,r,k=>by
  rw [List.map_cons,List.foldl_cons,show tE r (oc w)=DR r w by unfold tE;rw [Lc r (k w (List.mem_cons_self ..))],Lq ws _ (fun x hx=>k x (List.mem_cons_of_mem _ hx))]
  simp only [DR,List.append_assoc,List.cons_append,List.nil_append]
theorem Iy {l:List ak}(h:cO l):l.Pairwise (fun a b=>a.ID<b.ID):=by
 have key:∀ (n i j:Nat) (x y:ak),j=i+n+1->l[i]? = some x->l[j]? = some y->x.ID<y.ID:=by
  intro n
  induction n with
  | zero =>
   intro i j x y e hx hy
   have hs:=h.steps j (List.getElem?_eq_some_iff.1 hy).1
   by_cases hlt:x.ID<y.ID
   .exact hlt
   .
    by_cases hf:cw y=0
    .rw [m4 hy hf (by omega) (by rw [show j-1=i by omega];exact hx) hlt] at hs;omega
    .rw [jf hy hf] at hs;omega
  | succ n ih =>
   intro i j x y e hx hy
   have hj:j-1<l.length:=by have:=(List.getElem?_eq_some_iff.1 hy).1;omega
   have hz:=List.getElem?_eq_getElem hj
   exact Int.lt_trans (ih i (j-1) x l[j-1] (by omega) hx hz) (by
    have hs:=h.steps j (List.getElem?_eq_some_iff.1 hy).1
    by_cases hlt:l[j-1].ID<y.ID
    .exact hlt
    .
     by_cases hf:cw y=0
     .rw [m4 hy hf (by omega) hz hlt] at hs;omega
     .rw [jf hy hf] at hs;omega)
 rw [List.pairwise_iff_getElem]
 intro i j hi hj hij
 exact key (j-i-1) i j _ _ (by omega) (List.getElem?_eq_getElem hi) (List.getElem?_eq_getElem hj)
theorem Inv.OC {r:aB}(h:Inv r){t:aF}(ht:t∈r.Things):Vf t:=by
 have a:=h.vG t ht;have b:=h.pz;have c:=h.jy t ht;have d:=h.jz t ht
 refine ⟨by omega,by omega,?_,d.1⟩
 rcases c with c|c
 .exact .inl c
 .exact .inr ⟨c,by rw [d.2 c];rfl⟩
theorem Inv.Iz {r:aB}(h:Inv r){x:Held}(hx:x∈r.Held):aY x.Place=0/\1<=x.ak/\x.ak<10000:=by
 obtain ⟨w,hw,e⟩:=h.eQ x hx
 have k:=h.tree.mem hw
 have:=k.id1;have:=k.Ov
 exact ⟨((Dy.1 h.good).2 x hx).1,by omega,by omega⟩
theorem yh {α β:Type}{R:β->β->Prop}{S:α->α->Prop}(f:α->β):∀ {l:List α},l.Pairwise S->(∀x∈l,∀y∈l,S x y->R (f x) (f y))->(l.map f).Pairwise R
 | [],_,_=>List.Pairwise.nil
 | a::l,h,k=>by
  obtain ⟨h1,h2⟩:=List.pairwise_cons.1 h
  refine List.pairwise_cons.2 ⟨fun y hy=>?_,yh f h2 (fun x hx y hy=>k x (List.mem_cons_of_mem _ hx) y (List.mem_cons_of_mem _ hy))⟩
  obtain ⟨x,hx,rfl⟩:=List.mem_map.1 hy
  exact k a (List.mem_cons_self ..) x (List.mem_cons_of_mem _ hx) (h1 x hx)
theorem zZ {r:aB}(h:Inv r):dr (rowsOf r):=by
 have hx:bl kX=[120]:=rfl
 have kh:∀x∈r.Held,bl (hrow x).Key=[104,d8 x.Place.aA.toNat,d8 x.Place.Slot.toNat]:=fun x hx=>hkey (h.Iz hx).1
 have kt:∀t∈r.Things,bl (lZ t).Key=116::Fx t.ID.toNat:=fun t ht=>tkey (h.OC ht).i0 (h.OC ht).i9
 have kw:∀w∈r.ao,bl (oc w).Key=119::Fx w.ID.toNat:=fun w hw=>by
  have:=(h.tree.mem hw).id1;have:=(h.tree.mem hw).Ov;exact K9 (by omega) (by omega)
 unfold dr rowsOf
 refine List.pairwise_append.2 ⟨List.pairwise_append.2 ⟨List.pairwise_append.2 ⟨?_,?_,?_⟩,?_,?_⟩,List.pairwise_singleton _ _,?_⟩
 .exact yh hrow (Dy.1 h.good).1 (fun x hx y hy hl=>M6 (h.Iz hx).1 (h.Iz hy).1 hl)
 .exact yh lZ h.jk (fun x hx y hy hl=>M7 (h.OC hx).i0 (h.OC hy).i9 hl)
 .
  intro a ha b hb
  obtain ⟨x,hx,rfl⟩:=List.mem_map.1 ha;obtain ⟨y,hy,rfl⟩:=List.mem_map.1 hb
  exact qZ (kh x hx) (kt y hy) (by decide)
 .exact yh oc (Iy h.tree) (fun x hx y hy hl=>by
   have:=(h.tree.mem hx).id1;have:=(h.tree.mem hy).Ov;exact M8 (by omega) (by omega) hl)
 .
  intro a ha b hb
  obtain ⟨y,hy,rfl⟩:=List.mem_map.1 hb
  rcases List.mem_append.1 ha with ha|ha
  .
   obtain ⟨x,hx,rfl⟩:=List.mem_map.1 ha
   exact qZ (kh x hx) (kw y hy) (by decide)
  .
   obtain ⟨x,hx,rfl⟩:=List.mem_map.1 ha
   exact qZ (kt x hx) (kw y hy) (by decide)
 .
  intro a ha b hb
  rw [List.mem_singleton.1 hb]
  rcases List.mem_append.1 ha with ha|ha
  .
   rcases List.mem_append.1 ha with ha|ha
   .
    obtain ⟨x,hx',rfl⟩:=List.mem_map.1 ha
    exact qZ (kh x hx') hx (by decide)
   .
    obtain ⟨x,hx',rfl⟩:=List.mem_map.1 ha
    exact qZ (kt x hx') hx (by decide)
  .
   obtain ⟨x,hx',rfl⟩:=List.mem_map.1 ha
   exact qZ (kw x hx') hx (by decide)
theorem IA {r:aB}(h:Inv r):∀c∈rowsOf r,c.Gone=false /\ ∀s,(rowP s c).2=true:=by
 have a1:=h.oS;have a2:=h.qX;have a3:=h.py;have a4:=h.pz
 intro c hc
 unfold rowsOf at hc
 rcases List.mem_append.1 hc with hc|hc
 .
  rcases List.mem_append.1 hc with hc|hc
  .
   rcases List.mem_append.1 hc with hc|hc
   .
    obtain ⟨x,hx,rfl⟩:=List.mem_map.1 hc
    have k:=h.Iz hx
    exact ⟨rfl,fun s=>by rw [La s k.1 (by omega) k.2.2]⟩
   .
    obtain ⟨x,hx,rfl⟩:=List.mem_map.1 hc
    have k:=h.OC hx
    exact ⟨rfl,fun s=>by rw [Lb s k.i0 k.i9 k.kd k.ds]⟩
  .
   obtain ⟨x,hx,rfl⟩:=List.mem_map.1 hc
   exact ⟨rfl,fun s=>by rw [Lc s (h.tree.mem hx)]⟩
 .
  rw [List.mem_singleton.1 hc]
  exact ⟨rfl,fun s=>by rw [Ld s r (by omega) (by omega)]⟩
theorem IB {r:aB}(h:Inv r)(hn:r.Notes=[]):(rowsOf r).foldl tE r0=r:=by
 have a1:=h.oS;have a2:=h.qX;have a3:=h.py;have a4:=h.pz
 unfold rowsOf
 rw [List.foldl_append,List.foldl_append,List.foldl_append,Ln _ _ (fun x hx=>⟨(h.Iz hx).1,by have:=(h.Iz hx).2.1;omega,(h.Iz hx).2.2⟩),Lp _ _ (fun t ht=>h.OC ht),Lq _ _ (fun w hw=>h.tree.mem hw)]
 rw [List.foldl_cons,List.foldl_nil]
 unfold tE
 rw [Ld _ r (by omega) (by omega)]
 obtain ⟨a,b,c,d,e,f⟩:=r
 simp only at hn
 subst hn
 simp [M4,r0]
theorem Aa:∀ (a b:List Int),a.Pairwise (· < ·)->b.Pairwise (· < ·)->(∀x,x∈a↔x∈b)->a=b
 | [],[],_,_,_=>rfl
 | [],y::b,_,_,h=>by have:=(h y).2 (List.mem_cons_self ..);cases this
 | x::a,[],_,_,h=>by have:=(h x).1 (List.mem_cons_self ..);cases this
 | x::a,y::b,ha,hb,h=>by
  obtain ⟨a1,a2⟩:=List.pairwise_cons.1 ha
  obtain ⟨b1,b2⟩:=List.pairwise_cons.1 hb
  have e:x=y:=by
   rcases List.mem_cons.1 ((h x).1 (List.mem_cons_self ..)) with e|h1
   .exact e
   .
    rcases List.mem_cons.1 ((h y).2 (List.mem_cons_self ..)) with e|h2
    .exact e.symm
    .have:=b1 x h1;have:=a1 y h2;omega
  subst e
  congr 1
  refine Aa a b a2 b2 (fun z=>?_)
  have hz:=h z
  simp only [List.mem_cons] at hz
  constructor
  .
   intro h1
   rcases hz.1 (.inr h1) with e|h2
   .have:=a1 z h1;omega
   .exact h2
  .
   intro h1
   rcases hz.2 (.inr h1) with e|h2
   .have:=b1 z h1;omega
   .exact h2
theorem DZ {l:List ak}(h:cO l):(bV l).Pairwise (· < ·):=by
 unfold bV;rw [zI h];exact (m6 l 999).1
theorem D1 {α:Type}{l:List α}{y:α}(hy:l.getLast? = some y):y∈l:=by
 obtain ⟨a,rfl⟩:=List.getLast?_eq_some_iff.1 hy;simp
theorem Inv.ids {r:aB}(h:Inv r):r.Things.map aF.ID=bV r.ao :=
 Aa _ _ (yh aF.ID h.jk (fun _ _ _ _ h=>h)) (DZ h.tree) fun x=>by
  rw [lf h.tree,List.mem_map]
  constructor
  .rintro ⟨t,ht,rfl⟩;exact h.used t ht
  .rintro ⟨w,hw,rfl⟩;exact h.thing w hw
theorem Inv.nodup {r:aB}(h:Inv r):(r.Held.map Held.ak).Nodup:=by
 rw [List.nodup_iff_count]
 intro a
 by_cases ha:∃w∈r.ao,w.ID=a
 .
  obtain ⟨w,hw,rfl⟩:=ha
  have:=h.once w hw
  have e:(r.Held.map Held.ak).count w.ID=cH r.Held w.ID:=by
   unfold cH;rw [List.count,List.countP_map];rfl
  omega
 .
  rw [List.count_eq_zero.2 (fun hm=>?_)]
  .omega
  .
   obtain ⟨x,hx,rfl⟩:=List.mem_map.1 hm
   exact ha (h.eQ x hx)
theorem Inv.whole {r:aB}(h:Inv r)(hl:r.Held.length=r.ao.length):Whole r where
 tree:=h.tree
 jl:=h.jl
 oS:=h.oS
 qX:=h.qX
 py:=h.py
 pz:=h.pz
 hlen:=hl
 eQ:=fun x hx=>by
  obtain ⟨w,hw,e⟩:=h.eQ x hx
  exact k9.2 ⟨w,hw,e⟩
 once:=h.nodup
 things:=h.ids
 Oy:=fun w hw=>h.si w (D1 hw)
 Oz:=fun t ht=>(h.vG t (D1 ht)).2
theorem FD {r:aB}(h:Inv r)(hn:r.Notes=[])(hl:r.Held.length=r.ao.length):bS (rowsOf r)=(r,0):=by
 have h1:=GZ (rowsOf r) none r0 (fun _ _=>rfl) (zZ h) (IA h)
 unfold bS
 rw [h1,IB h hn]
 dsimp only
 rw [if_pos (yc (h.whole hl))]
theorem uX {r:aB}(h:Inv r):bS (bg r)=(bm r,0):=by
 obtain ⟨h1,h2,h3,h4,h5⟩:=jv h
 exact FD h1 h2 h4
theorem lh {r:aB}(h:Inv r):(bg r).length<=60:=by
 obtain ⟨h1,h2,h3,h4,h5⟩:=jv h
 have a:=tC h1;have b:=h1.jl
 unfold bg rowsOf
 simp only [List.length_append,List.length_map,List.length_cons,List.length_nil]
 omega
section
open Go Go.RowKit
theorem iD (n:Int)(w:World)(ht:DV w)(hn : -9223372036854775808<=n/\n<=9223372036854775807):Calls Tryz.prog 131 #[iV n] w fun e w'=>e = .returned (.string (bM n))/\Ext w w':=by
 have il:=ye hn;have ip:=Lk n
 refine R.enter [] [(0,iV n)] Tryz.func131 O O O O<|R.nG (r:=ew) ht (BO ht)<|R.reg O<|R.u 1 O<|R.nil<|R.reg O<|R.u 1 O<|R.c (q.call EK O O (fun w hw=>(yd n w (by exact hw.okF ew (by repeat (exact List.Mem.head _))) ‹_›))) O<|R.u 1 O<|R.nil ?_
 refine R.reg O<|R.u 1 O<|R.q (q.iy O Tryz.underlying9) O<|R.q (q.lU (r:=4-((gQ n).size:Int)) O O) O<|R.q (q.max (r:=max 0 (4-((gQ n).size:Int))) O O O) O<|R.c (q.call Px O O (fun w hw=>(FA (⟨#[48]⟩) (max 0 (4-((gQ n).size:Int))) w O (by omega)))) O<|R.u 1 O<|R.q (q.cat O O (by (rw [GX];omega))) O<|R.u 1 O<|R.nil ?_
 exact R.rv O Tryz.results131 O (rS (by (unfold bM;rw [show (max 0 (4-((gQ n).size:Int))).toNat=4-(gQ n).size by omega])))
def numsL (s:ByteArray)(m:Nat):List Int:=(dY s m).getD []
def eG (s:ByteArray)(m:Nat):Bool:=(dY s m).isSome
theorem M9 {s:ByteArray}{m:Nat}(h:s.size<4*m):(numsL s m,eG s m)=([],false):=by unfold numsL eG dY;rw [if_pos h];rfl
theorem D2 {s:ByteArray}{m k:Nat}{l:List Int}(h:¬ s.size<4*m)(hk:k<m)(hl:jK s k=some l)(hn:vu (s.extract (4*k) (4*k+4))=none):(numsL s m,eG s m)=([],false):=by
 unfold numsL eG dY;rw [if_neg h,Ir hk hl hn];rfl
theorem Na {s:ByteArray}{m:Nat}{l:List Int}(h:¬ s.size<4*m)(hl:jK s m=some l):(numsL s m,eG s m)=(l,true):=by
 unfold numsL eG dY;rw [if_neg h,hl];rfl
theorem Nb {s:ByteArray}(h:¬ (Lib.atoi s.data.toList).isSome=true):vu s=none:=by
 unfold vu;cases hq:Lib.atoi s.data.toList with|none=>rfl|some n=>rw [hq] at h;exact absurd rfl h
theorem Nc {s:ByteArray}(h:¬ bM (aV s)=s):vu s=none:=by
 unfold vu;unfold aV at h
 cases hq:Lib.atoi s.data.toList with
 | none=>rfl
 | some n=>rw [hq] at h;dsimp only;exact if_neg h
theorem Lr {s:ByteArray}(h:(Lib.atoi s.data.toList).isSome=true)(he:bM (aV s)=s):vu s=some (aV s):=by
 unfold vu;unfold aV at he ⊢
 cases hq:Lib.atoi s.data.toList with
 | none=>rw [hq] at h;cases h
 | some n=>rw [hq] at he;dsimp only;exact if_pos he
theorem lH (sb:ByteArray)(m:Nat)(w:World)(own:List Nat)(H:HN w own [] [ew])(hs:sb.size<=1000000/\m<=4):RC Tryz.prog 150 #[.string sb,iV (m:Int)] H (fun z:Value => .tuple #[z,.bool (eG sb m)]) (fun z=>[ag.row 3 z (numsL sb m)]) (fun _=>[]):=by
 refine R.bD [(0,.string sb),(1,iV (m:Int))] Tryz.func150 O O O O H<|R.reg O<|R.u 2 O<|R.nil<|R.reg O<|R.u 1 O<|R.q (q.iy O Tryz.underlying9) O<|R.u 1 O<|R.q (q.vd (r:=((4*m:Nat):Int)) O O) O<|?_
 by_cases h1:sb.size<(4*m)
 .
  refine R.q (q.dD O O) O<|R.nil<|R.az O O<|R.reg O<|R.u 2 O<|R.nil<|R.row0 (α:=Int) 3 ?_
  have hz:(numsL sb m,eG sb m)=([],false):=by (exact M9 (by omega))
  have hz0:numsL sb m=[]:=congrArg (fun t_=>t_.1) hz
  rw [hz0]
  have hz1:eG sb m=false:=congrArg (fun t_=>t_.2) hz
  rw [hz1]
  exact R.w2 (nS) [0,1] [] O Tryz.results150 (RV.tmp O) (RV.tmp O) O O O (dy O O)
 refine R.q (q.cU O O) O<|R.nil<|R.aC O O<|R.reg O<|R.u 1 O<|R.nil<|R.reg O<|R.u 2 O<|R.nil<|R.row0 (α:=Int) 3<|R.loop (fun g_:Nat×Value×(List Int)=>[(0,.string sb),(6,g_.2.1),(15,iV (m:Int)),(16,iV (g_.1:Int))]) (fun g_=>[ag.row 3 g_.2.1 g_.2.2,ag.held w own]) (fun g_=>[ew]) (fun g_=>g_.1<=m/\jK sb g_.1=some g_.2.2) (fun g_=>m-g_.1) (0,(nS),[]) O (by exact ⟨by omega,rfl⟩) (sF O) (iz [0,1] [0] O) ?_
 rintro ⟨k,u,l⟩ ⟨hk,HL⟩
 dsimp only at *
 have ab:=Lj (s:=sb.extract (4*k) (4*k+4)) (by rw [ByteArray.size_extract];omega);have gl:=um HL
 refine R.reg O<|?_
 by_cases h2:k<m
 .
  refine R.q (q.dD O O) O<|R.nil<|R.az O O<|R.reg O<|R.u 2 O<|R.nil<|R.reg O<|R.u 2 O<|R.q (q.vd (r:=((4*k:Nat):Int)) O O) O<|R.u 1 O<|R.q (q.vd (r:=((4*k:Nat):Int)) O O) O<|R.q (q.bC (r:=(((4*k)+4:Nat):Int)) O O) O<|R.q (q.Cn (i:=(4*k)) (j:=((4*k)+4)) O O O Tryz.underlying9 O O (by omega) (by omega)) O<|?_
  by_cases h3:(Lib.atoi (sb.extract (4*k) ((4*k)+4)).data.toList).isSome=true
  .
   refine R.c (q.call JF O O (fun w hw=>(Lh (sb.extract (4*k) ((4*k)+4)) w ‹_› (by rw [ByteArray.size_extract];omega)))) O<|R.u 5 O<|R.nil ?_
   by_cases h4:bM (aV (sb.extract (4*k) ((4*k)+4)))=(sb.extract (4*k) ((4*k)+4))
   .
    refine R.fa O mixed (by kernel_rfl)<|Q.u 1 O<|Q.q (q.uC O O Tryz.underlying38) O<|Q.u 2 O<|Q.cg O (q.call lK O O (fun w hw=>(iD (aV (sb.extract (4*k) ((4*k)+4))) w (by exact hw.okF ew (by repeat (exact List.Mem.head _))) ‹_›))) O<|Q.u 2 O<|Q.qg O (q.vd (r:=((4*k:Nat):Int)) O O) O<|Q.u 1 O<|Q.qg O (q.vd (r:=((4*k:Nat):Int)) O O) O<|Q.qg O (q.bC (r:=(((4*k)+4:Nat):Int)) O O) O<|Q.qg O (q.Cn (i:=(4*k)) (j:=((4*k)+4)) O O O Tryz.underlying9 O O (by omega) (by omega)) O<|Q.qg O (q.uD O O h4) O<|Q.u 1 O<|Q.nil<|R.aC O O<|R.reg O<|R.u 2 O<|R.s O (s.bs (l:=([aV (sb.extract (4*k) ((4*k)+4))]:List Int)) dc lV O O O O O O O) fun b1=>?_
    refine R.s O (s.app 1 _ O O O (bE 0 O) nL (by (simp;omega)) (by (simp;omega)) (fun _=>rfl) O) fun v1=>?_
    refine R.u 1 O<|R.nil<|R.reg O<|R.q (q.bC (r:=((k+1:Nat):Int)) O O) O<|R.u 1 O<|R.nil<|R.back (k+1,v1,(l++([aV (sb.extract (4*k) ((4*k)+4))]))) O (by (exact ⟨by omega,Fw HL (Lr ‹_› ‹_›)⟩)) (by dsimp only;omega) (sF O) (aD [1,2] [0] O)
   refine R.fa O mixed (by kernel_rfl)<|Q.u 1 O<|Q.q (q.uC O O Tryz.underlying38) O<|Q.u 2 O<|Q.cg O (q.call lK O O (fun w hw=>(iD (aV (sb.extract (4*k) ((4*k)+4))) w (by exact hw.okF ew (by repeat (exact List.Mem.head _))) ‹_›))) O<|Q.u 2 O<|Q.qg O (q.vd (r:=((4*k:Nat):Int)) O O) O<|Q.u 1 O<|Q.qg O (q.vd (r:=((4*k:Nat):Int)) O O) O<|Q.qg O (q.bC (r:=(((4*k)+4:Nat):Int)) O O) O<|Q.qg O (q.Cn (i:=(4*k)) (j:=((4*k)+4)) O O O Tryz.underlying9 O O (by omega) (by omega)) O<|Q.qg O (q.yW O O h4) O<|Q.u 1 O<|Q.nil<|R.az O O<|R.reg O<|R.u 2 O<|R.nil<|R.row0 (α:=Int) 3 ?_
   have hz:(numsL sb m,eG sb m)=([],false):=by (exact D2 (by omega) (by omega) HL (Nc ‹_›))
   have hz0:numsL sb m=[]:=congrArg (fun t_=>t_.1) hz
   rw [hz0]
   have hz1:eG sb m=false:=congrArg (fun t_=>t_.2) hz
   rw [hz1]
   exact R.w2 (nS) [0,2] [] O Tryz.results150 (RV.tmp O) (RV.tmp O) O O O (dy O O)
  refine R.s O (s.aT [0,1] [0] _ _ _ O O O JF O O (fun w own hw H=>Li (sb.extract (4*k) ((4*k)+4)) w own H ‹_› (by rw [ByteArray.size_extract];omega)) O) fun z1=>?_
  refine R.u 5 O<|R.nil<|R.fa O mixed (by kernel_rfl)<|Q.u 1 O<|Q.q (q.NP O O Tryz.underlying38) O<|Q.u 12 O<|Q.nil<|R.az O O<|R.reg O<|R.u 2 O<|R.nil<|R.row0 (α:=Int) 3 ?_
  have hz:(numsL sb m,eG sb m)=([],false):=by (exact D2 (by omega) (by omega) HL (Nb ‹_›))
  have hz0:numsL sb m=[]:=congrArg (fun t_=>t_.1) hz
  rw [hz0]
  have hz1:eG sb m=false:=congrArg (fun t_=>t_.2) hz
  rw [hz1]
  exact R.w2 (nS) [0,2] [] O Tryz.results150 (RV.tmp O) (RV.tmp O) O O O (dy O O)
 refine R.q (q.cU O O) O<|R.nil<|R.aC O O<|R.reg O<|R.u 3 O<|R.nil ?_
 have hz:(numsL sb m,eG sb m)=(l,true):=by (have e:k=m:=(by omega);subst e;exact Na (by omega) HL)
 have hz0:numsL sb m=l:=congrArg (fun t_=>t_.1) hz
 rw [hz0]
 have hz1:eG sb m=true:=congrArg (fun t_=>t_.2) hz
 rw [hz1]
 exact R.w2 u [0,1] [] O Tryz.results150 (RV.tmp O) (RV.tmp O) O O O (dy O O)
theorem qp {α β:Type}(f:α->β){L:List α}{k:Nat}{x:α}(hx:L[k]? = some x):(L.take (k+1)).map f=(L.take k).map f++[f x]:=by
 rw [List.take_add_one,hx,List.map_append];rfl
theorem yi {α β:Type}(f:α->β){L:List α}{k:Nat}(h:L.length<=k):(L.take k).map f=L.map f:=by rw [List.take_of_length_le h]
structure Wg (q:aB):Prop where
  i:Inv q
  h:∀x∈q.Held,(gQ x.Place.aA).size<=21/\(gQ x.Place.Slot).size<=21/\(bM x.ak).size<=25/\0<=x.Place.aA/\x.Place.aA<=4/\0<=x.Place.Slot/\x.Place.Slot<=5/\0<=x.ak/\x.ak<=10000
  t:∀x∈q.Things,(bM x.ID).size<=25/\(bM x.Kind).size<=25/\x.Data.size<=8/\0<=x.ID/\x.ID<=10000/\0<=x.Kind/\x.Kind<=2
  w:∀x∈q.ao,((bM x.ID).size<=25/\(bM x.aF).size<=25/\(bM x.Rights).size<=25/\(bM x.aQ).size<=25/\(bM x.From).size<=25)/\0<=x.ID/\x.ID<=999/\0<=x.aF/\x.aF<=999/\0<=x.Rights/\x.Rights<=7/\0<=x.aQ/\x.aQ<=99/\0<=x.From/\x.From<=999
  n:(bM q.ae).size<=25/\(bM q.ah).size<=25
theorem lu {n:Int}(h:0<=n/\n<=10000):(bM n).size<=25:=Ll (by omega)
theorem G0 {n:Int}(h:0<=n/\n<=10000):(gQ n).size<=21:=ye (by omega)
theorem Inv.Wh {q:aB}(i:Inv q):Wg q where
 i:=i
 h:=fun x hx=>by
  have k:=i.Iz hx;have p:=cy k.1;have k1:=k.2.1;have k2:=k.2.2
  exact ⟨G0 (by omega),G0 (by omega),lu (by omega),by omega,by omega,by omega,by omega,by omega,by omega⟩
 t:=fun x hx=>by
  have k:=i.OC hx;have a:=k.i0;have b:=k.i9;have c:=k.kd;have d:=k.ds
  exact ⟨lu (by omega),lu (by omega),d,a,by omega,by omega,by omega⟩
 w:=fun x hx=>by
  have k:=i.tree.mem hx;have i1:=k.id1;have i9:=k.Ov;have t1:=k.Qj;have t9:=k.Qk;have a0:=k.Ql;have a9:=k.Qm;have f0:=k.Rc;have fl:=k.Qn;have q0:=k.KG;have q7:=k.KH
  exact ⟨⟨lu (by omega),lu (by omega),lu (by omega),lu (by omega),lu (by omega)⟩,by omega,by omega,by omega,by omega,by omega,by omega,by omega,by omega,by omega,by omega⟩
 n:=by
  have a1:=i.oS;have a2:=i.qX;have a3:=i.py;have a4:=i.pz
  exact ⟨lu (by omega),lu (by omega)⟩
theorem qq (bU bJ bK bL:Value)(r:aB)(w:World)(own:List Nat)(H:HN w own [] [ag.ls bU r.ao,ag.ls bJ r.Things,ag.ls bK r.Held,ag.ls bL r.Notes,ew])(hk:Ok r)(hI:Inv r):RC Tryz.prog 64 #[.agg #[bU,bJ,bK,bL,iV r.ae,iV r.ah]] H (fun z:Value=>z) (fun z=>[ag.row 117 z (bg r)]) (fun _=>[]):=by
 have eJ:=H.ck 0 rfl
 have dK:=H.ck 1 rfl
 have fI:=H.ck 2 rfl
 have eK:=H.ck 3 rfl
 have bw:=hk.wl;have bt:=hk.tl;have bh:=hk.hl;have bn:=hk.nl;have KV:=hk.w0;have KW:=hk.w1;have KX:=hk.t0;have KY:=hk.t1
 have hq:=(jv hI).1.Wh
 have hn:=hq.n;have oS:=hq.i.oS;have qX:=hq.i.qX;have py:=hq.i.py;have pz:=hq.i.pz;have hl0:=tC hq.i;have WB:=hq.i.jl;have WC:=(jv hI).2.2.2.1
 refine R.bD [(0,.agg #[bU,bJ,bK,bL,iV r.ae,iV r.ah])] Tryz.func64 O O O O H<|R.reg O<|R.s O (s.box O O O) fun b1=>?_
 refine R.u 1 O<|R.nil<|R.reg O<|R.q (q.cW 0 O O aj) O<|R.s O (s.aT [0,1] bI _ _ _ O O O RY O O (fun w own hw H=>FC bU bJ bK bL r w own H ‹_›) O) ?_
 rintro ⟨z1,z2,z3,z4⟩
 dsimp only
 refine R.s O (s.fR 0 _ O O O (fun _ _=>rfl) (.inl aj) (fun w hw=>(af (Sl.one (hw.bN 0 O)) (af (Sl.one (hw.bN 1 O)) (af (Sl.one (hw.bN 2 O)) (af (Sl.one (hw.bN 3 O)) (af O (af O aO))))))) O O O) fun _=>?_
 refine R.nil<|R.reg O<|R.u 1 O<|R.nil<|R.reg O<|R.q (q.aP O cQ O) O<|R.q (q.ld 0 O O dV O) O<|R.q (q.len' (dx 2 O) O Tryz.underlying45) O<|R.u 1 O<|R.nil<|R.row0 (α:=Change) 117<|R.loop (fun g_:Nat×Value×(List Change)=>[(1,.pointer (some ⟨b1,0,none⟩)),(3,g_.2.1),(13,z3),(14,iV ((bm r).Held.length:Int)),(15,iV (g_.1:Int))]) (fun g_=>[ag.row 117 g_.2.1 g_.2.2,ag.box b1 [z1,z2,z3,z4,iV (bm r).ae,iV (bm r).ah] 48,ag.held w own]) (fun g_=>[ag.ls z1 (bm r).ao,ag.ls z2 (bm r).Things,ag.ls z3 (bm r).Held,ag.ls z4 (bm r).Notes,ag.ls bU r.ao,ag.ls bJ r.Things,ag.ls bK r.Held,ag.ls bL r.Notes,ew]) (fun g_=>g_.1<=(bm r).Held.length/\g_.2.2=((bm r).Held.take g_.1).map hrow) (fun g_=>(bm r).Held.length-g_.1) (0,(nS),[]) O (by exact ⟨by omega,rfl⟩) (sF O) (iz [0,1,2] cj O) ?_
 rintro ⟨k,u,l⟩ ⟨hk,HL⟩
 dsimp only at *
 have ll:l.length<=24:=by rw [HL,List.length_map,List.length_take];omega
 refine R.reg O<|?_
 by_cases h1:k<(bm r).Held.length
 .
  refine R.q (q.dD O O) O<|R.nil<|R.az O O<|R.reg O<|?_
  obtain ⟨x1,hx1⟩:∃z,((bm r).Held)[k]? = some z:=⟨_,List.getElem?_eq_getElem (by omega)⟩
  have P2:=hq.h _ (List.mem_of_getElem? hx1)
  refine R.q (q.idx (i:=k) (dx 2 O) O O cM O hx1) O<|R.q (q.gk (ds:=pF x1) (dx 2 O) hx1 O gy O) O<|R.s O (s.alloc gW O O) fun b2=>?_
  refine R.s O (s.st 0 _ O O O O (.inl gy) O O O O) fun _=>?_
  refine R.nil<|R.fP (fuel:=18) [0,2,3] O O mixed O<|D.q (i:=0) O (aD [0,2,3] cj O) O (q.mv O) O<|D.q (i:=1) O (aD [0,2,3] cj O) O (q.aP O rO O) O<|D.q (i:=2) O (aD [0,2,3] cj O) O (q.aP O fw O) O<|D.q (i:=3) O (aD [0,2,3] cj O) O (q.ld 0 O O au O) O<|D.q (i:=6) O (aD [0,2,3] cj O) O (q.aP O rO O) O<|D.q (i:=7) O (aD [0,2,3] cj O) O (q.aP O nH O) O<|D.q (i:=8) O (aD [0,2,3] cj O) O (q.ld 0 O O au O) O<|D.q (i:=11) O (aD [0,2,3] cj O) O (q.aP O jQ O) O<|D.q (i:=12) O (aD [0,2,3] cj O) O (q.ld 0 O O au O) O<|D.one (i:=4) O<|Do.s (s.c (q.call EK O O (fun w hw=>(yd x1.Place.aA w (by exact hw.okF ew (by repeat (first|exact List.Mem.head _|refine List.Mem.tail _ ?_))) (by omega)))) O) (fun _=>(aD [0,2,3] cj O)) O fun _=>?_
  refine D.q (i:=5) O (aD [0,2,3] cj O) O (q.cat O O (by (simp only [ByteArray.size_append,aI,List.length_cons,List.length_nil];omega))) O<|D.one (i:=9) O<|Do.s (s.c (q.call EK O O (fun w hw=>(yd x1.Place.Slot w (by exact hw.okF ew (by repeat (first|exact List.Mem.head _|refine List.Mem.tail _ ?_))) (by omega)))) O) (fun _=>(aD [0,2,3] cj O)) O fun _=>?_
  refine D.q (i:=10) O (aD [0,2,3] cj O) O (q.cat O O (by (simp only [ByteArray.size_append,aI,List.length_cons,List.length_nil];omega))) O<|D.one (i:=13) O<|Do.s (s.c (q.call lK O O (fun w hw=>(iD x1.ak w (by exact hw.okF ew (by repeat (first|exact List.Mem.head _|refine List.Mem.tail _ ?_))) (by omega)))) O) (fun _=>(aD [0,2,3] cj O)) O fun _=>?_
  refine D.q (i:=14) O (aD [0,2,3] cj O) O (q.build kM O O) O<|D.one (i:=15) O<|Do.s (s.bs (l:=([(⟨((⟨#[104]⟩++gQ x1.Place.aA)++gQ x1.Place.Slot),bM x1.ak,false⟩:Change)]:List Change)) bW cG O O O O O O O) (fun _=>(aD [1,3,4] cj O)) O fun b3=>?_
  refine D.one (i:=16) O<|Do.s (s.app 2 _ O O O (bE 0 O) jr (by (simp;omega)) (by (simp;omega)) (fun _=>rfl) O) (fun _=>(aD [1,3,4] cj O)) O fun v1=>?_
  refine D.q (i:=17) O (aD [1,3,4] cj O) O (q.as O) O<|D.done<|R.reg O<|R.q (q.bC (r:=((k+1:Nat):Int)) O O) O<|R.u 1 O<|R.nil<|R.back (k+1,v1,(l++([(⟨((⟨#[104]⟩++gQ x1.Place.aA)++gQ x1.Place.Slot),bM x1.ak,false⟩:Change)]))) O (by (exact ⟨by omega,by rw [qp hrow hx1,<- HL];rfl⟩)) (by dsimp only;omega) (sF O) (aD [2,3,4] cj O)
 refine R.q (q.cU O O) O<|R.nil<|R.aC O O<|R.reg O<|R.q (q.aP O du O) O<|R.q (q.ld 1 O O eR O) O<|R.q (q.len' (dx 1 O) O Tryz.underlying44) O<|R.u 1 O<|R.nil<|R.loop (fun g_:Nat×Value×(List Change)=>[(1,.pointer (some ⟨b1,0,none⟩)),(3,g_.2.1),(38,z2),(39,iV ((bm r).Things.length:Int)),(40,iV (g_.1:Int))]) (fun g_=>[ag.row 117 g_.2.1 g_.2.2,ag.box b1 [z1,z2,z3,z4,iV (bm r).ae,iV (bm r).ah] 48,ag.held w own]) (fun g_=>[ag.ls z1 (bm r).ao,ag.ls z2 (bm r).Things,ag.ls z3 (bm r).Held,ag.ls z4 (bm r).Notes,ag.ls bU r.ao,ag.ls bJ r.Things,ag.ls bK r.Held,ag.ls bL r.Notes,ew]) (fun g_=>g_.1<=(bm r).Things.length/\g_.2.2=(bm r).Held.map hrow++((bm r).Things.take g_.1).map lZ) (fun g_=>(bm r).Things.length-g_.1) (0,u,l) O (by exact ⟨by omega,by rw [HL,yi _ (by omega)];exact (List.append_nil _).symm⟩) (sF O) (iz [0,1,2] cj O) ?_
 rintro ⟨j,u2,l2⟩ ⟨hj,HL2⟩
 dsimp only at *
 have Vg:l2.length<=34:=by rw [HL2,List.length_append,List.length_map,List.length_map,List.length_take];omega
 refine R.reg O<|?_
 by_cases h2:j<(bm r).Things.length
 .
  refine R.q (q.dD O O) O<|R.nil<|R.az O O<|R.reg O<|?_
  obtain ⟨x2,hx2⟩:∃z,((bm r).Things)[j]? = some z:=⟨_,List.getElem?_eq_getElem (by omega)⟩
  have Wi:=hq.t _ (List.mem_of_getElem? hx2)
  refine R.q (q.idx (i:=j) (dx 1 O) O O kg O hx2) O<|R.q (q.gk (ds:=vv x2) (dx 1 O) hx2 O jD O) O<|R.s O (s.alloc jo O O) fun b4=>?_
  refine R.s O (s.st 0 _ O O O O (.inl jD) O O O O) fun _=>?_
  refine R.nil<|R.fP (fuel:=15) [0,2,3] O O mixed O<|D.q (i:=0) O (aD [0,2,3] cj O) O (q.mv O) O<|D.q (i:=1) O (aD [0,2,3] cj O) O (q.aP O ou O) O<|D.q (i:=2) O (aD [0,2,3] cj O) O (q.ld 0 O O au O) O<|D.q (i:=5) O (aD [0,2,3] cj O) O (q.aP O wq O) O<|D.q (i:=6) O (aD [0,2,3] cj O) O (q.ld 0 O O au O) O<|D.q (i:=8) O (aD [0,2,3] cj O) O (q.aP O wt O) O<|D.q (i:=9) O (aD [0,2,3] cj O) O (q.ld 0 O O bF O) O<|D.one (i:=3) O<|Do.s (s.c (q.call lK O O (fun w hw=>(iD x2.ID w (by exact hw.okF ew (by repeat (first|exact List.Mem.head _|refine List.Mem.tail _ ?_))) (by omega)))) O) (fun _=>(aD [0,2,3] cj O)) O fun _=>?_
  refine D.q (i:=4) O (aD [0,2,3] cj O) O (q.cat O O (by (simp only [ByteArray.size_append,aI,List.length_cons,List.length_nil];omega))) O<|D.one (i:=7) O<|Do.s (s.c (q.call lK O O (fun w hw=>(iD x2.Kind w (by exact hw.okF ew (by repeat (first|exact List.Mem.head _|refine List.Mem.tail _ ?_))) (by omega)))) O) (fun _=>(aD [0,2,3] cj O)) O fun _=>?_
  refine D.q (i:=10) O (aD [0,2,3] cj O) O (q.cat O O (by omega)) O<|D.q (i:=11) O (aD [0,2,3] cj O) O (q.build kM O O) O<|D.one (i:=12) O<|Do.s (s.bs (l:=([(⟨(⟨#[116]⟩++bM x2.ID),(bM x2.Kind++x2.Data),false⟩:Change)]:List Change)) bW cG O O O O O O O) (fun _=>(aD [1,3,4] cj O)) O fun b5=>?_
  refine D.one (i:=13) O<|Do.s (s.app 2 _ O O O (bE 0 O) jr (by (simp;omega)) (by (simp;omega)) (fun _=>rfl) O) (fun _=>(aD [1,3,4] cj O)) O fun v2=>?_
  refine D.q (i:=14) O (aD [1,3,4] cj O) O (q.as O) O<|D.done<|R.reg O<|R.q (q.bC (r:=((j+1:Nat):Int)) O O) O<|R.u 1 O<|R.nil<|R.back (j+1,v2,(l2++([(⟨(⟨#[116]⟩++bM x2.ID),(bM x2.Kind++x2.Data),false⟩:Change)]))) O (by (exact ⟨by omega,by rw [qp lZ hx2,<- List.append_assoc,<- HL2];rfl⟩)) (by dsimp only;omega) (sF O) (aD [2,3,4] cj O)
 refine R.q (q.cU O O) O<|R.nil<|R.aC O O<|R.reg O<|R.q (q.aP O bq O) O<|R.q (q.ld 1 O O cb O) O<|R.q (q.len' (dx 0 O) O Tryz.underlying43) O<|R.u 1 O<|R.nil<|R.loop (fun g_:Nat×Value×(List Change)=>[(1,.pointer (some ⟨b1,0,none⟩)),(3,g_.2.1),(60,z1),(61,iV ((bm r).ao.length:Int)),(62,iV (g_.1:Int))]) (fun g_=>[ag.row 117 g_.2.1 g_.2.2,ag.box b1 [z1,z2,z3,z4,iV (bm r).ae,iV (bm r).ah] 48,ag.held w own]) (fun g_=>[ag.ls z1 (bm r).ao,ag.ls z2 (bm r).Things,ag.ls z3 (bm r).Held,ag.ls z4 (bm r).Notes,ag.ls bU r.ao,ag.ls bJ r.Things,ag.ls bK r.Held,ag.ls bL r.Notes,ew]) (fun g_=>g_.1<=(bm r).ao.length/\g_.2.2=(bm r).Held.map hrow++(bm r).Things.map lZ++((bm r).ao.take g_.1).map oc) (fun g_=>(bm r).ao.length-g_.1) (0,u2,l2) O (by exact ⟨by omega,by rw [HL2,yi _ (by omega)];exact (List.append_nil _).symm⟩) (sF O) (iz [0,1,2] cj O) ?_
 rintro ⟨i,u3,l3⟩ ⟨hi,UJ⟩
 dsimp only at *
 have WE:l3.length<=58:=by rw [UJ,List.length_append,List.length_append,List.length_map,List.length_map,List.length_map,List.length_take];omega
 refine R.reg O<|?_
 by_cases h3:i<(bm r).ao.length
 .
  refine R.q (q.dD O O) O<|R.nil<|R.az O O<|R.reg O<|?_
  obtain ⟨x3,hx3⟩:∃z,((bm r).ao)[i]? = some z:=⟨_,List.getElem?_eq_getElem (by omega)⟩
  have WG:=hq.w _ (List.mem_of_getElem? hx3)
  refine R.q (q.idx (i:=i) (dx 0 O) O O eu O hx3) O<|R.q (q.gk (ds:=jN x3) (dx 0 O) hx3 O aN O) O<|R.s O (s.alloc bR O O) fun b6=>?_
  refine R.s O (s.st 0 _ O O O O (.inl aN) O O O O) fun _=>?_
  refine R.nil<|R.fP (fuel:=24) [0,2,3] O O mixed O<|D.q (i:=0) O (aD [0,2,3] cj O) O (q.mv O) O<|D.q (i:=1) O (aD [0,2,3] cj O) O (q.aP O bX O) O<|D.q (i:=2) O (aD [0,2,3] cj O) O (q.ld 0 O O au O) O<|D.q (i:=5) O (aD [0,2,3] cj O) O (q.aP O fU O) O<|D.q (i:=6) O (aD [0,2,3] cj O) O (q.ld 0 O O au O) O<|D.q (i:=8) O (aD [0,2,3] cj O) O (q.aP O jR O) O<|D.q (i:=9) O (aD [0,2,3] cj O) O (q.ld 0 O O au O) O<|D.q (i:=12) O (aD [0,2,3] cj O) O (q.aP O iU O) O<|D.q (i:=13) O (aD [0,2,3] cj O) O (q.ld 0 O O au O) O<|D.q (i:=16) O (aD [0,2,3] cj O) O (q.aP O eZ O) O<|D.q (i:=17) O (aD [0,2,3] cj O) O (q.ld 0 O O au O) O<|D.one (i:=3) O<|Do.s (s.c (q.call lK O O (fun w hw=>(iD x3.ID w (by exact hw.okF ew (by repeat (first|exact List.Mem.head _|refine List.Mem.tail _ ?_))) (by omega)))) O) (fun _=>(aD [0,2,3] cj O)) O fun _=>?_
  refine D.q (i:=4) O (aD [0,2,3] cj O) O (q.cat O O (by (simp only [ByteArray.size_append,aI,List.length_cons,List.length_nil];omega))) O<|D.one (i:=7) O<|Do.s (s.c (q.call lK O O (fun w hw=>(iD x3.aF w (by exact hw.okF ew (by repeat (first|exact List.Mem.head _|refine List.Mem.tail _ ?_))) (by omega)))) O) (fun _=>(aD [0,2,3] cj O)) O fun _=>?_
  refine D.one (i:=10) O<|Do.s (s.c (q.call lK O O (fun w hw=>(iD x3.Rights w (by exact hw.okF ew (by repeat (first|exact List.Mem.head _|refine List.Mem.tail _ ?_))) (by omega)))) O) (fun _=>(aD [0,2,3] cj O)) O fun _=>?_
  refine D.q (i:=11) O (aD [0,2,3] cj O) O (q.cat O O (by omega)) O<|D.one (i:=14) O<|Do.s (s.c (q.call lK O O (fun w hw=>(iD x3.aQ w (by exact hw.okF ew (by repeat (first|exact List.Mem.head _|refine List.Mem.tail _ ?_))) (by omega)))) O) (fun _=>(aD [0,2,3] cj O)) O fun _=>?_
  refine D.q (i:=15) O (aD [0,2,3] cj O) O (q.cat O O (by (simp only [ByteArray.size_append,aI,List.length_cons,List.length_nil];omega))) O<|D.one (i:=18) O<|Do.s (s.c (q.call lK O O (fun w hw=>(iD x3.From w (by exact hw.okF ew (by repeat (first|exact List.Mem.head _|refine List.Mem.tail _ ?_))) (by omega)))) O) (fun _=>(aD [0,2,3] cj O)) O fun _=>?_
  refine D.q (i:=19) O (aD [0,2,3] cj O) O (q.cat O O (by (simp only [ByteArray.size_append,aI,List.length_cons,List.length_nil];omega))) O<|D.q (i:=20) O (aD [0,2,3] cj O) O (q.build kM O O) O<|D.one (i:=21) O<|Do.s (s.bs (l:=([(⟨(⟨#[119]⟩++bM x3.ID),(((bM x3.aF++bM x3.Rights)++bM x3.aQ)++bM x3.From),false⟩:Change)]:List Change)) bW cG O O O O O O O) (fun _=>(aD [1,3,4] cj O)) O fun b7=>?_
  refine D.one (i:=22) O<|Do.s (s.app 2 _ O O O (bE 0 O) jr (by (simp;omega)) (by (simp;omega)) (fun _=>rfl) O) (fun _=>(aD [1,3,4] cj O)) O fun v3=>?_
  refine D.q (i:=23) O (aD [1,3,4] cj O) O (q.as O) O<|D.done<|R.reg O<|R.q (q.bC (r:=((i+1:Nat):Int)) O O) O<|R.u 1 O<|R.nil<|R.back (i+1,v3,(l3++([(⟨(⟨#[119]⟩++bM x3.ID),(((bM x3.aF++bM x3.Rights)++bM x3.aQ)++bM x3.From),false⟩:Change)]))) O (by (exact ⟨by omega,by rw [qp oc hx3,<- List.append_assoc,<- UJ];rfl⟩)) (by dsimp only;omega) (sF O) (aD [2,3,4] cj O)
 refine R.q (q.cU O O) O<|R.nil<|R.aC O O<|R.fP (fuel:=12) [1,2] O O mixed O<|D.q (i:=0) O (aD [1,2] cj O) O (q.mv O) O<|D.q (i:=1) O (aD [1,2] cj O) O (q.aP O cR O) O<|D.q (i:=2) O (aD [1,2] cj O) O (q.ld 0 O O au O) O<|D.q (i:=4) O (aD [1,2] cj O) O (q.aP O eH O) O<|D.q (i:=5) O (aD [1,2] cj O) O (q.ld 0 O O au O) O<|D.one (i:=3) O<|Do.s (s.c (q.call lK O O (fun w hw=>(iD (bm r).ae w (by exact hw.okF ew (by repeat (first|exact List.Mem.head _|refine List.Mem.tail _ ?_))) (by omega)))) O) (fun _=>(aD [1,2] cj O)) O fun _=>?_
 refine D.one (i:=6) O<|Do.s (s.c (q.call lK O O (fun w hw=>(iD (bm r).ah w (by exact hw.okF ew (by repeat (first|exact List.Mem.head _|refine List.Mem.tail _ ?_))) (by omega)))) O) (fun _=>(aD [1,2] cj O)) O fun _=>?_
 refine D.q (i:=7) O (aD [1,2] cj O) O (q.cat O O (by omega)) O<|D.q (i:=8) O (aD [1,2] cj O) O (q.build kM O O) O<|D.one (i:=9) O<|Do.s (s.bs (l:=([(⟨⟨#[120]⟩,(bM (bm r).ae++bM (bm r).ah),false⟩:Change)]:List Change)) bW cG O O O O O O O) (fun _=>(aD [2,3] cj O)) O fun b8=>?_
 refine D.one (i:=10) O<|Do.s (s.app 1 _ O O O (bE 0 O) jr (by (simp;omega)) (by (simp;omega)) (fun _=>rfl) O) (fun _=>(aD [2,3] cj O)) O fun v4=>?_
 refine D.q (i:=11) O (aD [2,3] cj O) O (q.as O) O<|D.done<|?_
 have hz:bg r=(l3++([(⟨⟨#[120]⟩,(bM (bm r).ae++bM (bm r).ah),false⟩:Change)])):=by (unfold bg rowsOf;rw [UJ,yi _ (by omega)];rfl)
 rw [hz]
 exact R.w1 v4 [1,3] [] O Tryz.results64 (RV.tmp O) O O O O
theorem yj (Cd:Value)(a:List Int)(CB:Value)(b:List Int)(w:World)(CC:Sl w Cd a)(Hr:Sl w CB b):Calls Tryz.prog 153 #[Cd,CB] w fun e w'=>e = .returned (.bool (decide (a=b)))/\Ext w w':=by
 have LS:=CC.gV
 have VE:=Hr.gV
 refine R.enter [] [(0,Cd),(1,CB)] Tryz.func153 O O O O<|R.reg O<|R.u 1 O<|R.nil<|R.reg O<|R.u 1 O<|R.q (q.len' (fun _=>Wd.old CC) O Tryz.underlying159) O<|R.u 1 O<|R.q (q.len' (fun _=>Wd.old Hr) O Tryz.underlying159) O<|?_
 by_cases h1:a.length=b.length
 .
  refine R.q (q.nB O O) O<|R.nil<|R.aC O O<|R.reg O<|R.u 1 O<|R.q (q.len' (fun _=>Wd.old CC) O Tryz.underlying159) O<|R.u 1 O<|R.nil<|R.loop (fun k:Nat=>[(0,Cd),(1,CB),(12,iV (a.length:Int)),(13,iV (k:Int))]) (fun k:Nat=>[]) (fun k:Nat=>[]) (fun k:Nat=>k<=a.length /\ ∀j,j<k->a[j]? = b[j]?) (fun k:Nat=>a.length-k) 0 O (by exact ⟨by omega,fun j hj=>absurd hj (Nat.not_lt_zero _)⟩) (sF O) (iz [] [] O) ?_
  rintro k ⟨hk,HA⟩
  refine R.reg O<|?_
  by_cases h2:k<a.length
  .
   refine R.q (q.dD O O) O<|R.nil<|R.az O O<|R.reg O<|R.u 2 O<|R.nil ?_
   obtain ⟨x1,hx1⟩:∃z,a[k]? = some z:=⟨_,List.getElem?_eq_getElem (by omega)⟩
   obtain ⟨x2,hx2⟩:∃z,b[k]? = some z:=⟨_,List.getElem?_eq_getElem (by omega)⟩
   by_cases h3:x1=x2
   .
    refine R.fa O mixed (by kernel_rfl)<|Q.u 2 O<|Q.q (q.idx (i:=k) (fun _=>Wd.old CC) O O dc O hx1) O<|Q.q (q.lw (fun _=>Wd.old CC) hx1 O au O) O<|Q.u 2 O<|Q.q (q.idx (i:=k) (fun _=>Wd.old Hr) O O dc O hx2) O<|Q.q (q.lw (fun _=>Wd.old Hr) hx2 O au O) O<|Q.q (q.nB O O) O<|Q.nil<|R.aC O O<|R.reg O<|R.q (q.bC (r:=((k+1:Nat):Int)) O O) O<|R.u 1 O<|R.nil<|R.back (k+1) O (by (exact ⟨by omega,zh HA hx1 hx2 ‹_›⟩)) (by omega) (sF O) (iz [] [] O)
   exact R.fa O mixed (by kernel_rfl)<|Q.u 2 O<|Q.q (q.idx (i:=k) (fun _=>Wd.old CC) O O dc O hx1) O<|Q.q (q.lw (fun _=>Wd.old CC) hx1 O au O) O<|Q.u 2 O<|Q.q (q.idx (i:=k) (fun _=>Wd.old Hr) O O dc O hx2) O<|Q.q (q.lw (fun _=>Wd.old Hr) hx2 O au O) O<|Q.q (q.nA O O) O<|Q.nil<|R.az O O<|R.reg O<|R.u 1 O<|R.nil<|R.rv O Tryz.results153 O (rB (by (exact Cy hx1 hx2 ‹_›)))
  exact R.q (q.cU O O) O<|R.nil<|R.aC O O<|R.reg O<|R.u 1 O<|R.nil<|R.rv O Tryz.results153 O (rB (by (exact Cz ‹_› ‹_› HA)))
 exact R.q (q.nA O O) O<|R.nil<|R.az O O<|R.reg O<|R.u 1 O<|R.nil<|R.rv O Tryz.results153 O (rB (by (exact Cx ‹_›)))
end
end Go.Proofs.YtkbhcbipadkcaaaGreatDoor
