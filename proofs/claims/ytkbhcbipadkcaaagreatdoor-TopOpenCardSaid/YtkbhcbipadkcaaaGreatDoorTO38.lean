import Derived.Test.YtkbhcbipadkcaaaGreatDoorTO37
namespace Go.Proofs.YtkbhcbipadkcaaaGreatDoor
set_option linter.unusedVariables false
set_option linter.unusedSimpArgs false
section
open Go Go.RowKit
set_option maxRecDepth 100000
set_option maxHeartbeats 1000000
theorem ym (bH bB bC bD:Value)(r:aD)(w:World)(own:List Nat)(H:HN w own [] [af.ls bH r.aj,af.ls bB r.Things,af.ls bC r.Held,af.ls bD r.Notes])(hk:Ok r):RC Tryz.prog 23 #[.agg #[bH,bB,bC,bD,iV r.ae,iV r.ah]] H (fun z:Value×Value×Value×Value => .agg #[z.1,z.2.1,z.2.2.1,z.2.2.2,iV (aR r).ae,iV (aR r).ah]) (fun _=>[]) (fun z=>[af.ls z.1 (aR r).aj,af.ls z.2.1 (aR r).Things,af.ls z.2.2.1 (aR r).Held,af.ls z.2.2.2 (aR r).Notes]):=by
 have eJ:=H.cx 0 rfl
 have dM:=H.cx 1 rfl
 have fI:=H.cx 2 rfl
 have eK:=H.cx 3 rfl
 have bw:=hk.wl;have bt:=hk.tl;have bh:=hk.hl;have bn:=hk.nl;have KO:=hk.w0;have KP:=hk.w1;have KQ:=hk.t0;have KR:=hk.t1
 refine R.bF [(0,.agg #[bH,bB,bC,bD,iV r.ae,iV r.ah])] Tryz.func23 O O O O H<|R.reg O<|R.s O (s.box O O O) fun b1=>R.s O (s.alloc dQ O O) fun b2=>R.nil<|R.reg O<|R.q (q.aO O cI O) O<|R.q (q.ld 1 O O dw O) O<|R.q (q.len' (dr 3 O) O Tryz.underlying46) O<|R.u 1 O<|R.nil<|R.loop (fun g_:Nat×Value×(List ap)=>[(1,.pointer (some ⟨b1,0,none⟩)),(2,.pointer (some ⟨b2,0,none⟩)),(6,bD),(7,iV (r.Notes.length:Int)),(8,iV (g_.1:Int))]) (fun g_=>[af.box b2 rP 48,af.box b1 [g_.2.1,bB,bC,bD,iV r.ae,iV r.ah] 48,af.held w own]) (fun g_=>[af.ls g_.2.1 g_.2.2,af.ls bH r.aj,af.ls bB r.Things,af.ls bC r.Held,af.ls bD r.Notes]) (fun g_=>g_.1<=r.Notes.length/\g_.2.2=ia (r.Notes.take g_.1) r.aj) (fun g_=>r.Notes.length-g_.1) (0,bH,r.aj) O (by exact ⟨by omega,rfl⟩) (sF O) (fun _=>Wd.pick [0,1,2] [0,0,1,2,3] O O O) ?_
 rintro ⟨j,vw,ws⟩ ⟨hj1,HW⟩
 dsimp only at *
 have hws:ws.length<=2000:=by rw [HW];exact Nat.le_trans (xP _ _) hk.wl
 have hwr:∀w∈ws,0<=w.Rights/\w.Rights<=7:=by rw [HW];exact zS _ _ hk.ri
 have hok:Ok (⟨ws,r.Things,r.Held,[],r.ae,r.ah⟩:aD):=⟨hws,hk.tl,hk.hl,Nat.zero_le _,hwr,hk.w0,hk.w1,hk.t0,hk.t1⟩
 refine R.reg O<|?_
 by_cases h1:j<r.Notes.length
 .
  refine R.q (q.dy O O) O<|R.nil<|R.ay O O<|R.reg O<|?_
  obtain ⟨x1,hx1⟩:∃z,r.Notes[j]? = some z:=⟨_,List.getElem?_eq_getElem (by omega)⟩
  refine R.q (q.idx (i:=j) (dr 4 O) O O fA O hx1) O<|R.q (q.eV (ds:=mq x1) (dr 4 O) hx1 O di O) O<|R.s O (s.alloc eW O O) fun b3=>R.s O (s.st 0 _ O O O O (.inl di) O O O O) fun _=>R.nil<|R.reg O<|R.q (q.aO O iE O) O<|R.q (q.ld 0 O O av O) O<|?_
  by_cases h2:0<x1.ap
  .
   refine R.q (q.eL O O) O<|R.nil<|R.ay O O<|R.reg O<|R.q (q.aO O bg O) O<|R.q (q.ld 2 O O bV O) O<|R.q (q.aO O iE O) O<|R.q (q.ld 0 O O av O) O<|R.s O (s.vS Jf O O (fun w hw=>qj _ ws x1.ap w (hw.bT 0 O) (by omega)) O) fun v1=>R.q (q.aO O bg O) O<|R.s O (s.fZ 3 _ O O O (fun w hw=>Sl.cu (hw.row 0 O)) (.inr ⟨bV,rfl⟩) (fun w hw=>(ag (Sl.one (hw.row 0 O)) aP)) O O O) fun _=>R.nil<|R.reg O<|R.q (q.bA (r:=((j+1:Nat):Int)) O O) O<|R.u 1 O<|R.nil<|R.mp (fun _ hw=>hw.cX 0 _ O O)<|R.back (j+1,v1,(without ws x1.ap)) O (by (exact ⟨by omega,by rw [xO hx1,if_pos (by omega),HW]⟩)) (by dsimp only;omega) (sF O) (aC [1,2,3] [0,2,3,4,5] O O O)
  refine R.q (q.eu O O) O<|R.nil<|R.aB O O<|R.reg O<|R.q (q.bA (r:=((j+1:Nat):Int)) O O) O<|R.u 1 O<|R.nil<|R.back (j+1,vw,ws) O (by (exact ⟨by omega,by rw [xO hx1,if_neg (by omega),HW]⟩)) (by dsimp only;omega) (sF O) (aC [1,2,3] ig O O O)
 refine R.q (q.cW O O) O<|R.nil<|R.aB O O<|R.reg O<|R.q (q.aO O cI O) O<|R.s O (s.st 1 _ O O O O (.inr ⟨dw,rfl⟩) O O O O) fun _=>R.nil<|R.reg O<|R.q (q.dv 1 O O ar) O<|R.s O (s.pre (fun _ hw=>hw.a8 (α:=Note)) (s.aW [0,1,2] [1,3,4,0] _ _ _ O O O Jg O O (fun w own hw H=>si vw bB bC (nS) (⟨ws,r.Things,r.Held,[],r.ae,r.ah⟩:aD) w own H ‹_›) O)) ?_
 rintro ⟨z1,z2,z3,z4⟩
 dsimp only
 refine R.s O (s.fZ 0 _ O O O (fun _ _=>rfl) (.inl ar) (fun w hw=>(ag (Sl.one (hw.bT 0 O)) (ag (Sl.one (hw.bT 1 O)) (ag (Sl.one (hw.bT 2 O)) (ag (Sl.one (hw.bT 3 O)) (ag O (ag O aP))))))) O O O) fun _=>R.nil ?_
 have hz:aR r=(dS (⟨ws,r.Things,r.Held,[],r.ae,r.ah⟩:aD)):=by (unfold aR;rw [HW,List.take_of_length_le (by omega)])
 rw [hz]
 exact R.w1 (z1,z2,z3,z4) [2] bS O Tryz.results23 (RV.cell 0 O O ar) O O O O
theorem Ad (bH bB bC bD:Value)(r:aD)(w:World)(own:List Nat)(H:HN w own [] [af.ls bH r.aj,af.ls bB r.Things,af.ls bC r.Held,af.ls bD r.Notes])(hk:Ok r):RC Tryz.prog 53 #[.agg #[bH,bB,bC,bD,iV r.ae,iV r.ah]] H (fun z:Value×Value×Value×Value => .agg #[z.1,z.2.1,z.2.2.1,z.2.2.2,iV r.ae,iV r.ah]) (fun _=>[]) (fun z=>[af.ls z.1 r.aj,af.ls z.2.1 r.Things,af.ls z.2.2.1 r.Held,af.ls z.2.2.2 r.Notes]):=by
 have eJ:=H.cx 0 rfl
 have dM:=H.cx 1 rfl
 have fI:=H.cx 2 rfl
 have eK:=H.cx 3 rfl
 have bw:=hk.wl;have bt:=hk.tl;have bh:=hk.hl;have bn:=hk.nl;have KO:=hk.w0;have KP:=hk.w1;have KQ:=hk.t0;have KR:=hk.t1
 exact R.bF [(0,.agg #[bH,bB,bC,bD,iV r.ae,iV r.ah])] Tryz.func53 rfl rfl rfl rfl H<|R.reg rfl<|R.s rfl (s.box rfl rfl rfl) fun b1=>R.s rfl (s.alloc dQ rfl rfl) fun b2=>R.nil<|R.Us (fuel:=20) (Wd w (blks []++own) [af.box b2 rP 48,af.box b1 [bH,bB,bC,bD,iV r.ae,iV r.ah] 48,af.held w own] [af.ls bH r.aj,af.ls bB r.Things,af.ls bC r.Held,af.ls bD r.Notes]) [13,15,17,19] rfl mixed rfl<|K.p (i:=0) rfl (.inr (fun _=>Wd.cj [0,1,2] [0,1,2,3] rfl rfl rfl)) rfl (fun w=>q.aO rfl bg rfl) rfl<|K.q (i:=1) rfl (fun _=>Wd.cj [0,1,2] [0,1,2,3] rfl rfl rfl) rfl (q.ld 1 rfl rfl bV rfl) rfl<|K.p (i:=3) rfl (.inr (fun _=>Wd.cj [0,1,2] [0,1,2,3] rfl rfl rfl)) rfl (fun w=>q.aO rfl cF rfl) rfl<|K.q (i:=4) rfl (fun _=>Wd.cj [0,1,2] [0,1,2,3] rfl rfl rfl) rfl (q.ld 1 rfl rfl dD rfl) rfl<|K.p (i:=6) rfl (.inr (fun _=>Wd.cj [0,1,2] [0,1,2,3] rfl rfl rfl)) rfl (fun w=>q.aO rfl cG rfl) rfl<|K.q (i:=7) rfl (fun _=>Wd.cj [0,1,2] [0,1,2,3] rfl rfl rfl) rfl (q.ld 1 rfl rfl dE rfl) rfl<|K.p (i:=9) rfl (.inr (fun _=>Wd.cj [0,1,2] [0,1,2,3] rfl rfl rfl)) rfl (fun w=>q.aO rfl cI rfl) rfl<|K.q (i:=10) rfl (fun _=>Wd.cj [0,1,2] [0,1,2,3] rfl rfl rfl) rfl (q.ld 1 rfl rfl dw rfl) rfl<|K.one (i:=2) rfl<|Ko.s (s.aW [0,1,2] [0] _ _ _ rfl rfl rfl wu rfl rfl (fun w own hw H=>jL bH r.aj w own H (by first|omega|assumption|(simp;done)|(simp;omega))) rfl) (.inr fun _=>(fun _=>Wd.cj [1,2,3] [0,1,2,3] rfl rfl rfl)) (fun h=>by cases h) rfl fun z5=>K.p (i:=12) rfl (.inr (fun _=>Wd.cj [1,2,3] [0,1,2,3] rfl rfl rfl)) rfl (fun w=>q.aO rfl bg rfl) rfl<|K.one (i:=5) rfl<|Ko.s (s.aW [0,1,2,3] [1] _ _ _ rfl rfl rfl wv rfl rfl (fun w own hw H=>jl bB r.Things w own H (by first|omega|assumption|(simp;done)|(simp;omega))) rfl) (.inr fun _=>(fun _=>Wd.cj [2,3,4] [0,1,2,3] rfl rfl rfl)) (fun h=>by cases h) rfl fun z6=>K.one (i:=8) rfl<|Ko.s (s.aW [0,1,2,3,4] [2] _ _ _ rfl rfl rfl Ez rfl rfl (fun w own hw H=>nr bC r.Held w own H (by first|omega|assumption|(simp;done)|(simp;omega))) rfl) (.inr fun _=>(fun _=>Wd.cj [3,4,5] [0,1,2,3] rfl rfl rfl)) (fun h=>by cases h) rfl fun z7=>K.one (i:=11) rfl<|Ko.s (s.aW [0,1,2,3,4,5] [3] _ _ _ rfl rfl rfl oC rfl rfl (fun w own hw H=>fh bD r.Notes w own H (by first|omega|assumption|(simp;done)|(simp;omega))) rfl) (.inr fun _=>(fun _=>Wd.cj [4,5,6] [0,1,2,3] rfl rfl rfl)) (fun h=>by cases h) rfl fun z8=>K.one (i:=13) rfl<|Ko.s (s.fZ 5 _ rfl rfl rfl (fun w hw=>Sl.cu (hw.row 3 rfl)) (.inr ⟨bV,rfl⟩) (fun w hw=>(ag (Sl.one (hw.row 3 rfl)) aP)) rfl rfl rfl) (.inl rfl) (fun _=>by kernel_rfl) rfl fun _=>K.p (i:=14) rfl (.inl (by kernel_rfl)) rfl (fun w=>q.aO rfl cF rfl) rfl<|K.one (i:=15) rfl<|Ko.s (s.fZ 5 _ rfl rfl rfl (fun w hw=>Sl.cu (hw.row 2 rfl)) (.inr ⟨dD,rfl⟩) (fun w hw=>(ag (Sl.one (hw.row 2 rfl)) aP)) rfl rfl rfl) (.inl rfl) (fun _=>by kernel_rfl) rfl fun _=>K.p (i:=16) rfl (.inl (by kernel_rfl)) rfl (fun w=>q.aO rfl cG rfl) rfl<|K.one (i:=17) rfl<|Ko.s (s.fZ 5 _ rfl rfl rfl (fun w hw=>Sl.cu (hw.row 1 rfl)) (.inr ⟨dE,rfl⟩) (fun w hw=>(ag (Sl.one (hw.row 1 rfl)) aP)) rfl rfl rfl) (.inl rfl) (fun _=>by kernel_rfl) rfl fun _=>K.p (i:=18) rfl (.inl (by kernel_rfl)) rfl (fun w=>q.aO rfl cI rfl) rfl<|K.one (i:=19) rfl<|Ko.s (s.fZ 5 _ rfl rfl rfl (fun w hw=>Sl.cu (hw.row 0 rfl)) (.inr ⟨dw,rfl⟩) (fun w hw=>(ag (Sl.one (hw.row 0 rfl)) aP)) rfl rfl rfl) (.inl rfl) (fun _=>by kernel_rfl) rfl fun _=>K.done<|R.reg rfl<|R.q (q.dv 5 rfl rfl ar) rfl<|R.s rfl (s.fZ 4 _ rfl rfl rfl (fun _ _=>rfl) (.inl ar) (fun w hw=>(ag (Sl.one (hw.row 3 rfl)) (ag (Sl.one (hw.row 2 rfl)) (ag (Sl.one (hw.row 1 rfl)) (ag (Sl.one (hw.row 0 rfl)) (ag rfl (ag rfl aP))))))) rfl rfl rfl) fun _=>R.nil<|R.mp (fun _ hw=>hw.cX 3 _ rfl rfl)<|R.mp (fun _ hw=>hw.cX 2 _ rfl rfl)<|R.mp (fun _ hw=>hw.cX 1 _ rfl rfl)<|R.mp (fun _ hw=>hw.cX 0 _ rfl rfl)<|R.w1 (z5,z6,z7,z8) [2] [3,2,1,0] rfl Tryz.results53 (RV.cell 0 rfl rfl ar) rfl rfl rfl rfl
end
def tE (r:aD)(c:Change):aD:=(rowP r c).1
theorem GJ:∀ (l:List Change) (pv:Option ByteArray) (r:aD),(∀c∈l,su pv c=true)->dt l->(∀c∈l,c.Gone=false /\ ∀s,(rowP s c).2=true)->pgo l pv r=some (l.foldl tE r)
 | [],_,r,_,_,_=>rfl
 | c::l,pv,r,h1,h2,h3=>by
  obtain ⟨hc,hl⟩:=List.pairwise_cons.1 h2
  have g:=h3 c (List.mem_cons_self ..)
  simp only [pgo]
  rw [if_pos (by rw [h1 c (List.mem_cons_self ..),g.1,g.2 r];rfl)]
  exact GJ l (some c.Key) _ (fun x hx=>hc x hx) hl (fun x hx=>h3 x (List.mem_cons_of_mem _ hx))
theorem Lr:∀ (hs:List Held) (r:aD),(∀h∈hs,aY h.Place=0/\0<=h.ap/\h.ap<10000)->(hs.map hrow).foldl tE r=⟨r.aj,r.Things,r.Held++hs,r.Notes,r.ae,r.ah⟩
 | [],r,_=>by rw [List.map_nil,List.foldl_nil,List.append_nil]
 | h::hs,r,k=>by
  obtain ⟨k1,k2,k3⟩:=k h (List.mem_cons_self ..)
  rw [List.map_cons,List.foldl_cons,show tE r (hrow h)=Il r h by unfold tE;rw [Ld r k1 k2 k3],Lr hs _ (fun x hx=>k x (List.mem_cons_of_mem _ hx))]
  simp only [Il,List.append_assoc,List.cons_append,List.nil_append]
structure UZ (t:aE):Prop where
  i0:0<=t.ID
  i9:t.ID<10000
  kd:t.Kind=1\/t.Kind=2/\t.Data.size=0
  ds:t.Data.size<=8
theorem Ls:∀ (ts:List aE) (r:aD),(∀t∈ts,UZ t)->(ts.map l4).foldl tE r=⟨r.aj,r.Things++ts,r.Held,r.Notes,r.ae,r.ah⟩
 | [],r,_=>by rw [List.map_nil,List.foldl_nil,List.append_nil]
 | t::ts,r,k=>by
  obtain ⟨k1,k2,k3,k4⟩:=k t (List.mem_cons_self ..)
  rw [List.map_cons,List.foldl_cons,show tE r (l4 t)=Im r t by unfold tE;rw [Le r k1 k2 k3 k4],Ls ts _ (fun x hx=>k x (List.mem_cons_of_mem _ hx))]
  simp only [Im,List.append_assoc,List.cons_append,List.nil_append]
theorem Lt:∀ (ws:List ap) (r:aD),(∀w∈ws,Q6 w)->(ws.map od).foldl tE r=⟨r.aj++ws,r.Things,r.Held,r.Notes,r.ae,r.ah⟩
 | [],r,_=>by rw [List.map_nil,List.foldl_nil,List.append_nil]
 | w::ws,r,k=>by
  rw [List.map_cons,List.foldl_cons,show tE r (od w)=DJ r w by unfold tE;rw [Lf r (k w (List.mem_cons_self ..))],Lt ws _ (fun x hx=>k x (List.mem_cons_of_mem _ hx))]
  simp only [DJ,List.append_assoc,List.cons_append,List.nil_append]
theorem Ip {l:List ap}(h:cT l):l.Pairwise (fun a b=>a.ID<b.ID):=by
 have key:∀ (n i j:Nat) (x y:ap),j=i+n+1->l[i]? = some x->l[j]? = some y->x.ID<y.ID:=by
  intro n
  induction n with
  | zero =>
   intro i j x y e hx hy
   have hs:=h.steps j (List.getElem?_eq_some_iff.1 hy).1
   by_cases hlt:x.ID<y.ID
   .exact hlt
   .
    by_cases hf:cz y=0
    .rw [m7 hy hf (by omega) (by rw [show j-1=i by omega];exact hx) hlt] at hs;omega
    .rw [ji hy hf] at hs;omega
  | succ n ih =>
   intro i j x y e hx hy
   have hj:j-1<l.length:=by have:=(List.getElem?_eq_some_iff.1 hy).1;omega
   have hz:=List.getElem?_eq_getElem hj
   exact Int.lt_trans (ih i (j-1) x l[j-1] (by omega) hx hz) (by
    have hs:=h.steps j (List.getElem?_eq_some_iff.1 hy).1
    by_cases hlt:l[j-1].ID<y.ID
    .exact hlt
    .
     by_cases hf:cz y=0
     .rw [m7 hy hf (by omega) hz hlt] at hs;omega
     .rw [ji hy hf] at hs;omega)
 rw [List.pairwise_iff_getElem]
 intro i j hi hj hij
 exact key (j-i-1) i j _ _ (by omega) (List.getElem?_eq_getElem hi) (List.getElem?_eq_getElem hj)
theorem Inv.Oz {r:aD}(h:Inv r){t:aE}(ht:t∈r.Things):UZ t:=by
 have a:=h.vC t ht;have b:=h.pA;have c:=h.jA t ht;have d:=h.jB t ht
 refine ⟨by omega,by omega,?_,d.1⟩
 rcases c with c|c
 .exact .inl c
 .exact .inr ⟨c,by rw [d.2 c];rfl⟩
theorem Inv.Iq {r:aD}(h:Inv r){x:Held}(hx:x∈r.Held):aY x.Place=0/\1<=x.ap/\x.ap<10000:=by
 obtain ⟨w,hw,e⟩:=h.eQ x hx
 have k:=h.tree.mem hw
 have:=k.id1;have:=k.Oo
 exact ⟨((Du.1 h.good).2 x hx).1,by omega,by omega⟩
theorem yn {α β:Type}{R:β->β->Prop}{S:α->α->Prop}(f:α->β):∀ {l:List α},l.Pairwise S->(∀x∈l,∀y∈l,S x y->R (f x) (f y))->(l.map f).Pairwise R
 | [],_,_=>List.Pairwise.nil
 | a::l,h,k=>by
  obtain ⟨h1,h2⟩:=List.pairwise_cons.1 h
  refine List.pairwise_cons.2 ⟨fun y hy=>?_,yn f h2 (fun x hx y hy=>k x (List.mem_cons_of_mem _ hx) y (List.mem_cons_of_mem _ hy))⟩
  obtain ⟨x,hx,rfl⟩:=List.mem_map.1 hy
  exact k a (List.mem_cons_self ..) x (List.mem_cons_of_mem _ hx) (h1 x hx)
theorem Ae {r:aD}(h:Inv r):dt (rowsOf r):=by
 have hx:bl kX=[120]:=rfl
 have kh:∀x∈r.Held,bl (hrow x).Key=[104,d8 x.Place.az.toNat,d8 x.Place.Slot.toNat]:=fun x hx=>hkey (h.Iq hx).1
 have kt:∀t∈r.Things,bl (l4 t).Key=116::Fo t.ID.toNat:=fun t ht=>tkey (h.Oz ht).i0 (h.Oz ht).i9
 have kw:∀w∈r.aj,bl (od w).Key=119::Fo w.ID.toNat:=fun w hw=>by
  have:=(h.tree.mem hw).id1;have:=(h.tree.mem hw).Oo;exact Lc (by omega) (by omega)
 unfold dt rowsOf
 refine List.pairwise_append.2 ⟨List.pairwise_append.2 ⟨List.pairwise_append.2 ⟨?_,?_,?_⟩,?_,?_⟩,List.pairwise_singleton _ _,?_⟩
 .exact yn hrow (Du.1 h.good).1 (fun x hx y hy hl=>M6 (h.Iq hx).1 (h.Iq hy).1 hl)
 .exact yn l4 h.jo (fun x hx y hy hl=>M7 (h.Oz hx).i0 (h.Oz hy).i9 hl)
 .
  intro a ha b hb
  obtain ⟨x,hx,rfl⟩:=List.mem_map.1 ha;obtain ⟨y,hy,rfl⟩:=List.mem_map.1 hb
  exact rh (kh x hx) (kt y hy) (by decide)
 .exact yn od (Ip h.tree) (fun x hx y hy hl=>by
   have:=(h.tree.mem hx).id1;have:=(h.tree.mem hy).Oo;exact M8 (by omega) (by omega) hl)
 .
  intro a ha b hb
  obtain ⟨y,hy,rfl⟩:=List.mem_map.1 hb
  rcases List.mem_append.1 ha with ha|ha
  .
   obtain ⟨x,hx,rfl⟩:=List.mem_map.1 ha
   exact rh (kh x hx) (kw y hy) (by decide)
  .
   obtain ⟨x,hx,rfl⟩:=List.mem_map.1 ha
   exact rh (kt x hx) (kw y hy) (by decide)
 .
  intro a ha b hb
  rw [List.mem_singleton.1 hb]
  rcases List.mem_append.1 ha with ha|ha
  .
   rcases List.mem_append.1 ha with ha|ha
   .
    obtain ⟨x,hx',rfl⟩:=List.mem_map.1 ha
    exact rh (kh x hx') hx (by decide)
   .
    obtain ⟨x,hx',rfl⟩:=List.mem_map.1 ha
    exact rh (kt x hx') hx (by decide)
  .
   obtain ⟨x,hx',rfl⟩:=List.mem_map.1 ha
   exact rh (kw x hx') hx (by decide)
theorem Ir {r:aD}(h:Inv r):∀c∈rowsOf r,c.Gone=false /\ ∀s,(rowP s c).2=true:=by
 have a1:=h.oV;have a2:=h.qZ;have a3:=h.pz;have a4:=h.pA
 intro c hc
 unfold rowsOf at hc
 rcases List.mem_append.1 hc with hc|hc
 .
  rcases List.mem_append.1 hc with hc|hc
  .
   rcases List.mem_append.1 hc with hc|hc
   .
    obtain ⟨x,hx,rfl⟩:=List.mem_map.1 hc
    have k:=h.Iq hx
    exact ⟨rfl,fun s=>by rw [Ld s k.1 (by omega) k.2.2]⟩
   .
    obtain ⟨x,hx,rfl⟩:=List.mem_map.1 hc
    have k:=h.Oz hx
    exact ⟨rfl,fun s=>by rw [Le s k.i0 k.i9 k.kd k.ds]⟩
  .
   obtain ⟨x,hx,rfl⟩:=List.mem_map.1 hc
   exact ⟨rfl,fun s=>by rw [Lf s (h.tree.mem hx)]⟩
 .
  rw [List.mem_singleton.1 hc]
  exact ⟨rfl,fun s=>by rw [Lh s r (by omega) (by omega)]⟩
theorem Iu {r:aD}(h:Inv r)(hn:r.Notes=[]):(rowsOf r).foldl tE r0=r:=by
 have a1:=h.oV;have a2:=h.qZ;have a3:=h.pz;have a4:=h.pA
 unfold rowsOf
 rw [List.foldl_append,List.foldl_append,List.foldl_append,Lr _ _ (fun x hx=>⟨(h.Iq hx).1,by have:=(h.Iq hx).2.1;omega,(h.Iq hx).2.2⟩),Ls _ _ (fun t ht=>h.Oz ht),Lt _ _ (fun w hw=>h.tree.mem hw)]
 rw [List.foldl_cons,List.foldl_nil]
 unfold tE
 rw [Lh _ r (by omega) (by omega)]
 obtain ⟨a,b,c,d,e,f⟩:=r
 simp only at hn
 subst hn
 simp [M4,r0]
theorem Af:∀ (a b:List Int),a.Pairwise (· < ·)->b.Pairwise (· < ·)->(∀x,x∈a↔x∈b)->a=b
 | [],[],_,_,_=>rfl
 | [],y::b,_,_,h=>by have:=(h y).2 (List.mem_cons_self ..);cases this
 | x::a,[],_,_,h=>by have:=(h x).1 (List.mem_cons_self ..);cases this
 | x::a,y::b,ha,hb,h=>by
  obtain ⟨a1,a2⟩:=List.pairwise_cons.1 ha
  obtain ⟨b1,b2⟩:=List.pairwise_cons.1 hb
  have e:x=y:=by
   rcases List.mem_cons.1 ((h x).1 (List.mem_cons_self ..)) with e|h1
   .exact e
   .
    rcases List.mem_cons.1 ((h y).2 (List.mem_cons_self ..)) with e|h2
    .exact e.symm
    .have:=b1 x h1;have:=a1 y h2;omega
  subst e
  congr 1
  refine Af a b a2 b2 (fun z=>?_)
  have hz:=h z
  simp only [List.mem_cons] at hz
  constructor
  .
   intro h1
   rcases hz.1 (.inr h1) with e|h2
   .have:=a1 z h1;omega
   .exact h2
  .
   intro h1
   rcases hz.2 (.inr h1) with e|h2
   .have:=b1 z h1;omega
   .exact h2
theorem DV {l:List ap}(h:cT l):(bW l).Pairwise (· < ·):=by
 unfold bW;rw [zN h];exact (m9 l 999).1
theorem DW {α:Type}{l:List α}{y:α}(hy:l.getLast? = some y):y∈l:=by
 obtain ⟨a,rfl⟩:=List.getLast?_eq_some_iff.1 hy;simp
theorem Inv.ids {r:aD}(h:Inv r):r.Things.map aE.ID=bW r.aj :=
 Af _ _ (yn aE.ID h.jo (fun _ _ _ _ h=>h)) (DV h.tree) fun x=>by
  rw [kZ h.tree,List.mem_map]
  constructor
  .rintro ⟨t,ht,rfl⟩;exact h.used t ht
  .rintro ⟨w,hw,rfl⟩;exact h.thing w hw
theorem Inv.nodup {r:aD}(h:Inv r):(r.Held.map Held.ap).Nodup:=by
 rw [List.nodup_iff_count]
 intro a
 by_cases ha:∃w∈r.aj,w.ID=a
 .
  obtain ⟨w,hw,rfl⟩:=ha
  have:=h.once w hw
  have e:(r.Held.map Held.ap).count w.ID=cH r.Held w.ID:=by
   unfold cH;rw [List.count,List.countP_map];rfl
  omega
 .
  rw [List.count_eq_zero.2 (fun hm=>?_)]
  .omega
  .
   obtain ⟨x,hx,rfl⟩:=List.mem_map.1 hm
   exact ha (h.eQ x hx)
theorem Inv.whole {r:aD}(h:Inv r)(hl:r.Held.length=r.aj.length):Whole r where
 tree:=h.tree
 jq:=h.jq
 oV:=h.oV
 qZ:=h.qZ
 pz:=h.pz
 pA:=h.pA
 hlen:=hl
 eQ:=fun x hx=>by
  obtain ⟨w,hw,e⟩:=h.eQ x hx
  exact kY.2 ⟨w,hw,e⟩
 once:=h.nodup
 things:=h.ids
 Ov:=fun w hw=>h.sq w (DW hw)
 Ow:=fun t ht=>(h.vC t (DW ht)).2
theorem Fu {r:aD}(h:Inv r)(hn:r.Notes=[])(hl:r.Held.length=r.aj.length):cb (rowsOf r)=(r,0):=by
 have h1:=GJ (rowsOf r) none r0 (fun _ _=>rfl) (Ae h) (Ir h)
 unfold cb
 rw [h1,Iu h hn]
 dsimp only
 rw [if_pos (yi (h.whole hl))]
theorem uU {r:aD}(h:Inv r):cb (bL r)=(aR r,0):=by
 obtain ⟨h1,h2,h3,h4,h5⟩:=jy h
 exact Fu h1 h2 h4
theorem og {r:aD}(h:Inv r):(bL r).length<=60:=by
 obtain ⟨h1,h2,h3,h4,h5⟩:=jy h
 have a:=tC h1;have b:=h1.jq
 unfold bL rowsOf
 simp only [List.length_append,List.length_map,List.length_cons,List.length_nil]
 omega
end Go.Proofs.YtkbhcbipadkcaaaGreatDoor
