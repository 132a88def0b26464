import Derived.Test.YtkbhcbipadkcaaaGreatDoorTO37
namespace Go.Proofs.YtkbhcbipadkcaaaGreatDoor
set_option linter.unusedVariables false
set_option linter.unusedSimpArgs false
section
open Go Go.RowKit
set_option maxRecDepth 100000
set_option maxHeartbeats 90000000
theorem yn (bS bJ bK bL:Value)(r:aC)(w:World)(own:List Nat)(H:HN w own [] [ag.ls bS r.ak,ag.ls bJ r.Things,ag.ls bK r.Held,ag.ls bL r.Notes])(hk:Ok r):RC Tryz.prog 23 #[.agg #[bS,bJ,bK,bL,iV r.ae,iV r.ah]] H (fun z:Value×Value×Value×Value => .agg #[z.1,z.2.1,z.2.2.1,z.2.2.2,iV (aZ r).ae,iV (aZ r).ah]) (fun _=>[]) (fun z=>[ag.ls z.1 (aZ r).ak,ag.ls z.2.1 (aZ r).Things,ag.ls z.2.2.1 (aZ r).Held,ag.ls z.2.2.2 (aZ r).Notes]):=by
 have eK:=H.cq 0 rfl
 have dN:=H.cq 1 rfl
 have fG:=H.cq 2 rfl
 have eL:=H.cq 3 rfl
 have bw:=hk.wl;have bt:=hk.tl;have bh:=hk.hl;have bn:=hk.nl;have KS:=hk.w0;have KT:=hk.w1;have KU:=hk.t0;have KV:=hk.t1
 refine R.bD [(0,.agg #[bS,bJ,bK,bL,iV r.ae,iV r.ah])] Tryz.func23 O O O O H<|R.reg O<|R.s O (s.box O O O) fun b1=>?_
 refine R.s O (s.alloc dQ O O) fun b2=>?_
 refine R.nil<|R.reg O<|R.q (q.aO O cB O) O<|R.q (q.ld 1 O O dv O) O<|R.q (q.len' (dq 3 O) O Tryz.underlying46) O<|R.u 1 O<|R.nil<|R.loop (fun g_:Nat×Value×(List aj)=>[(1,.pointer (some ⟨b1,0,none⟩)),(2,.pointer (some ⟨b2,0,none⟩)),(6,bL),(7,iV (r.Notes.length:Int)),(8,iV (g_.1:Int))]) (fun g_=>[ag.box b2 G2 48,ag.box b1 [g_.2.1,bJ,bK,bL,iV r.ae,iV r.ah] 48,ag.held w own]) (fun g_=>[ag.ls g_.2.1 g_.2.2,ag.ls bS r.ak,ag.ls bJ r.Things,ag.ls bK r.Held,ag.ls bL r.Notes]) (fun g_=>g_.1<=r.Notes.length/\g_.2.2=hZ (r.Notes.take g_.1) r.ak) (fun g_=>r.Notes.length-g_.1) (0,bS,r.ak) O (by exact ⟨by omega,rfl⟩) (sF O) (ic [0,1,2] [0,0,1,2,3] O) ?_
 rintro ⟨j,vw,ws⟩ ⟨hj1,HW⟩
 dsimp only at *
 have hws:ws.length<=2000:=by rw [HW];exact Nat.le_trans (xQ _ _) hk.wl
 have hwr:∀w∈ws,0<=w.Rights/\w.Rights<=7:=by rw [HW];exact zS _ _ hk.ri
 have hok:Ok (⟨ws,r.Things,r.Held,[],r.ae,r.ah⟩:aC):=⟨hws,hk.tl,hk.hl,Nat.zero_le _,hwr,hk.w0,hk.w1,hk.t0,hk.t1⟩
 refine R.reg O<|?_
 by_cases h1:j<r.Notes.length
 .
  refine R.q (q.dx O O) O<|R.nil<|R.av O O<|R.reg O<|?_
  obtain ⟨x1,hx1⟩:∃z,r.Notes[j]? = some z:=⟨_,List.getElem?_eq_getElem (by omega)⟩
  refine R.q (q.idx (i:=j) (dq 4 O) O O fw O hx1) O<|R.q (q.eU (ds:=ov x1) (dq 4 O) hx1 O dh O) O<|R.s O (s.alloc eV O O) fun b3=>?_
  refine R.s O (s.st 0 _ O O O O (.inl dh) O O O O) fun _=>?_
  refine R.nil<|R.reg O<|R.q (q.aO O iG O) O<|R.q (q.ld 0 O O au O) O<|?_
  by_cases h2:0<x1.aj
  .
   refine R.q (q.eM O O) O<|R.nil<|R.av O O<|R.reg O<|R.q (q.aO O bg O) O<|R.q (q.ld 2 O O bT O) O<|R.q (q.aO O iG O) O<|R.q (q.ld 0 O O au O) O<|R.s O (s.vV Jh O O (fun w hw=>qm _ ws x1.aj w (hw.bQ 0 O) (by omega)) O) fun v1=>?_
   refine R.q (q.aO O bg O) O<|R.s O (s.fX 3 _ O O O (fun w hw=>Sl.cm (hw.row 0 O)) (.inr ⟨bT,rfl⟩) (fun w hw=>(af (Sl.one (hw.row 0 O)) aP)) O O O) fun _=>?_
   refine R.nil<|R.reg O<|R.q (q.bA (r:=((j+1:Nat):Int)) O O) O<|R.u 1 O<|R.nil<|R.mp (fun _ hw=>hw.cW 0 _ O O)<|R.back (j+1,v1,(without ws x1.aj)) O (by (exact ⟨by omega,by rw [xP hx1,if_pos (by omega),HW]⟩)) (by dsimp only;omega) (sF O) (aD [1,2,3] [0,2,3,4,5] O)
  refine R.q (q.eu O O) O<|R.nil<|R.aA O O<|R.reg O<|R.q (q.bA (r:=((j+1:Nat):Int)) O O) O<|R.u 1 O<|R.nil<|R.back (j+1,vw,ws) O (by (exact ⟨by omega,by rw [xP hx1,if_neg (by omega),HW]⟩)) (by dsimp only;omega) (sF O) (aD [1,2,3] gX O)
 refine R.q (q.cU O O) O<|R.nil<|R.aA O O<|R.reg O<|R.q (q.aO O cB O) O<|R.s O (s.st 1 _ O O O O (.inr ⟨dv,rfl⟩) O O O O) fun _=>?_
 refine R.nil<|R.reg O<|R.q (q.du 1 O O ao) O<|R.s O (s.pre (fun _ hw=>hw.a8 (α:=Note)) (s.aW [0,1,2] [1,3,4,0] _ _ _ O O O Ji O O (fun w own hw H=>sk vw bJ bK (nS) (⟨ws,r.Things,r.Held,[],r.ae,r.ah⟩:aC) w own H ‹_›) O)) ?_
 rintro ⟨z1,z2,z3,z4⟩
 dsimp only
 refine R.s O (s.fX 0 _ O O O (fun _ _=>rfl) (.inl ao) (fun w hw=>(af (Sl.one (hw.bQ 0 O)) (af (Sl.one (hw.bQ 1 O)) (af (Sl.one (hw.bQ 2 O)) (af (Sl.one (hw.bQ 3 O)) (af O (af O aP))))))) O O O) fun _=>?_
 refine R.nil ?_
 have hz:aZ r=(dS (⟨ws,r.Things,r.Held,[],r.ae,r.ah⟩:aC)):=by (unfold aZ;rw [HW,List.take_of_length_le (by omega)])
 rw [hz]
 exact R.w1 (z1,z2,z3,z4) [2] bC O Tryz.results23 (RV.cell 0 O O ao) O O O O
theorem Ad (bS bJ bK bL:Value)(r:aC)(w:World)(own:List Nat)(H:HN w own [] [ag.ls bS r.ak,ag.ls bJ r.Things,ag.ls bK r.Held,ag.ls bL r.Notes])(hk:Ok r):RC Tryz.prog 53 #[.agg #[bS,bJ,bK,bL,iV r.ae,iV r.ah]] H (fun z:Value×Value×Value×Value => .agg #[z.1,z.2.1,z.2.2.1,z.2.2.2,iV r.ae,iV r.ah]) (fun _=>[]) (fun z=>[ag.ls z.1 r.ak,ag.ls z.2.1 r.Things,ag.ls z.2.2.1 r.Held,ag.ls z.2.2.2 r.Notes]):=by
 have eK:=H.cq 0 rfl
 have dN:=H.cq 1 rfl
 have fG:=H.cq 2 rfl
 have eL:=H.cq 3 rfl
 have bw:=hk.wl;have bt:=hk.tl;have bh:=hk.hl;have bn:=hk.nl;have KS:=hk.w0;have KT:=hk.w1;have KU:=hk.t0;have KV:=hk.t1
 refine R.bD [(0,.agg #[bS,bJ,bK,bL,iV r.ae,iV r.ah])] Tryz.func53 O O O O H<|R.reg O<|R.s O (s.box O O O) fun b1=>?_
 refine R.s O (s.alloc dQ O O) fun b2=>?_
 refine R.nil<|R.Uz (fuel:=20) [0,1,2] [13,15,17,19] O O mixed O<|K.p (i:=0) O (.inr (aD [0,1,2] bC O)) O (fun w=>q.aO O bg O) O<|K.q (i:=1) O (aD [0,1,2] bC O) O (q.ld 1 O O bT O) O<|K.p (i:=3) O (.inr (aD [0,1,2] bC O)) O (fun w=>q.aO O cy O) O<|K.q (i:=4) O (aD [0,1,2] bC O) O (q.ld 1 O O dD O) O<|K.p (i:=6) O (.inr (aD [0,1,2] bC O)) O (fun w=>q.aO O cz O) O<|K.q (i:=7) O (aD [0,1,2] bC O) O (q.ld 1 O O dE O) O<|K.p (i:=9) O (.inr (aD [0,1,2] bC O)) O (fun w=>q.aO O cB O) O<|K.q (i:=10) O (aD [0,1,2] bC O) O (q.ld 1 O O dv O) O<|K.one (i:=2) O<|Ko.s (s.aW [0,1,2] [0] _ _ _ O O O wB O O (fun w own hw H=>jM bS r.ak w own H (by first|omega|assumption|(simp;done)|(simp;omega))) O) (.inr fun _=>(aD [1,2,3] bC O)) (fun h=>by cases h) O fun z5=>?_
 refine K.p (i:=12) O (.inr (aD [1,2,3] bC O)) O (fun w=>q.aO O bg O) O<|K.one (i:=5) O<|Ko.s (s.aW bC [1] _ _ _ O O O wC O O (fun w own hw H=>jm bJ r.Things w own H (by first|omega|assumption|(simp;done)|(simp;omega))) O) (.inr fun _=>(aD [2,3,4] bC O)) (fun h=>by cases h) O fun z6=>?_
 refine K.one (i:=8) O<|Ko.s (s.aW gX [2] _ _ _ O O O EB O O (fun w own hw H=>ny bK r.Held w own H (by first|omega|assumption|(simp;done)|(simp;omega))) O) (.inr fun _=>(aD [3,4,5] bC O)) (fun h=>by cases h) O fun z7=>?_
 refine K.one (i:=11) O<|Ko.s (s.aW rx [3] _ _ _ O O O oF O O (fun w own hw H=>ff bL r.Notes w own H (by first|omega|assumption|(simp;done)|(simp;omega))) O) (.inr fun _=>(aD [4,5,6] bC O)) (fun h=>by cases h) O fun z8=>?_
 refine K.one (i:=13) O<|Ko.s (s.fX 5 _ O O O (fun w hw=>Sl.cm (hw.row 3 O)) (.inr ⟨bT,rfl⟩) (fun w hw=>(af (Sl.one (hw.row 3 O)) aP)) O O O) (.inl O) (fun _=>by kernel_rfl) O fun _=>?_
 refine K.p (i:=14) O (.inl (by kernel_rfl)) O (fun w=>q.aO O cy O) O<|K.one (i:=15) O<|Ko.s (s.fX 5 _ O O O (fun w hw=>Sl.cm (hw.row 2 O)) (.inr ⟨dD,rfl⟩) (fun w hw=>(af (Sl.one (hw.row 2 O)) aP)) O O O) (.inl O) (fun _=>by kernel_rfl) O fun _=>?_
 refine K.p (i:=16) O (.inl (by kernel_rfl)) O (fun w=>q.aO O cz O) O<|K.one (i:=17) O<|Ko.s (s.fX 5 _ O O O (fun w hw=>Sl.cm (hw.row 1 O)) (.inr ⟨dE,rfl⟩) (fun w hw=>(af (Sl.one (hw.row 1 O)) aP)) O O O) (.inl O) (fun _=>by kernel_rfl) O fun _=>?_
 refine K.p (i:=18) O (.inl (by kernel_rfl)) O (fun w=>q.aO O cB O) O<|K.one (i:=19) O<|Ko.s (s.fX 5 _ O O O (fun w hw=>Sl.cm (hw.row 0 O)) (.inr ⟨dv,rfl⟩) (fun w hw=>(af (Sl.one (hw.row 0 O)) aP)) O O O) (.inl O) (fun _=>by kernel_rfl) O fun _=>?_
 refine K.done<|R.reg O<|R.q (q.du 5 O O ao) O<|R.s O (s.fX 4 _ O O O (fun _ _=>rfl) (.inl ao) (fun w hw=>(af (Sl.one (hw.row 3 O)) (af (Sl.one (hw.row 2 O)) (af (Sl.one (hw.row 1 O)) (af (Sl.one (hw.row 0 O)) (af O (af O aP))))))) O O O) fun _=>?_
 exact R.nil<|R.mp (fun _ hw=>hw.cW 3 _ O O)<|R.mp (fun _ hw=>hw.cW 2 _ O O)<|R.mp (fun _ hw=>hw.cW 1 _ O O)<|R.mp (fun _ hw=>hw.cW 0 _ O O)<|R.w1 (z5,z6,z7,z8) [2] gj O Tryz.results53 (RV.cell 0 O O ao) O O O O
end
def tG (r:aC)(c:Change):aC:=(rowP r c).1
theorem GL:∀ (l:List Change) (pv:Option ByteArray) (r:aC),(∀c∈l,sA pv c=true)->dr l->(∀c∈l,c.Gone=false /\ ∀s,(rowP s c).2=true)->pgo l pv r=some (l.foldl tG r)
 | [],_,r,_,_,_=>rfl
 | c::l,pv,r,h1,h2,h3=>by
  obtain ⟨hc,hl⟩:=List.pairwise_cons.1 h2
  have g:=h3 c (List.mem_cons_self ..)
  simp only [pgo]
  rw [if_pos (by rw [h1 c (List.mem_cons_self ..),g.1,g.2 r];rfl)]
  exact GL l (some c.Key) _ (fun x hx=>hc x hx) hl (fun x hx=>h3 x (List.mem_cons_of_mem _ hx))
theorem Lv:∀ (hs:List Held) (r:aC),(∀h∈hs,aY h.Place=0/\0<=h.aj/\h.aj<10000)->(hs.map hrow).foldl tG r=⟨r.ak,r.Things,r.Held++hs,r.Notes,r.ae,r.ah⟩
 | [],r,_=>by rw [List.map_nil,List.foldl_nil,List.append_nil]
 | h::hs,r,k=>by
  obtain ⟨k1,k2,k3⟩:=k h (List.mem_cons_self ..)
  rw [List.map_cons,List.foldl_cons,show tG r (hrow h)=Io r h by unfold tG;rw [Li r k1 k2 k3],Lv hs _ (fun x hx=>k x (List.mem_cons_of_mem _ hx))]
  simp only [Io,List.append_assoc,List.cons_append,List.nil_append]
structure U6 (t:aE):Prop where
  i0:0<=t.ID
  i9:t.ID<10000
  kd:t.Kind=1∨t.Kind=2/\t.Data.size=0
  ds:t.Data.size<=8
theorem Lw:∀ (ts:List aE) (r:aC),(∀t∈ts,U6 t)->(ts.map lY).foldl tG r=⟨r.ak,r.Things++ts,r.Held,r.Notes,r.ae,r.ah⟩
 | [],r,_=>by rw [List.map_nil,List.foldl_nil,List.append_nil]
 | t::ts,r,k=>by
  obtain ⟨k1,k2,k3,k4⟩:=k t (List.mem_cons_self ..)
  rw [List.map_cons,List.foldl_cons,show tG r (lY t)=Ip r t by unfold tG;rw [Lj r k1 k2 k3 k4],Lw ts _ (fun x hx=>k x (List.mem_cons_of_mem _ hx))]
  simp only [Ip,List.append_assoc,List.cons_append,List.nil_append]
theorem Lx:∀ (ws:List aj) (r:aC),(∀w∈ws,Rc w)->(ws.map om).foldl tG r=⟨r.ak++ws,r.Things,r.Held,r.Notes,r.ae,r.ah⟩
 | [],r,_=>by rw [List.map_nil,List.foldl_nil,List.append_nil]
 | w::ws,r,k=>by
  rw [List.map_cons,List.foldl_cons,show tG r (om w)=DI r w by unfold tG;rw [Lk r (k w (List.mem_cons_self ..))],Lx ws _ (fun x hx=>k x (List.mem_cons_of_mem _ hx))]
  simp only [DI,List.append_assoc,List.cons_append,List.nil_append]
theorem Ir {l:List aj}(h:cR l):l.Pairwise (fun a b=>a.ID<b.ID):=by
 have key:∀ (n i j:Nat) (x y:aj),j=i+n+1->l[i]? = some x->l[j]? = some y->x.ID<y.ID:=by
  intro n
  induction n with
  | zero =>
   intro i j x y e hx hy
   have hs:=h.steps j (List.getElem?_eq_some_iff.1 hy).1
   by_cases hlt:x.ID<y.ID
   .exact hlt
   .
    by_cases hf:cr y=0
    .rw [m9 hy hf (by omega) (by rw [show j-1=i by omega];exact hx) hlt] at hs;omega
    .rw [jj hy hf] at hs;omega
  | succ n ih =>
   intro i j x y e hx hy
   have hj:j-1<l.length:=by have:=(List.getElem?_eq_some_iff.1 hy).1;omega
   have hz:=List.getElem?_eq_getElem hj
   exact Int.lt_trans (ih i (j-1) x l[j-1] (by omega) hx hz) (by
    have hs:=h.steps j (List.getElem?_eq_some_iff.1 hy).1
    by_cases hlt:l[j-1].ID<y.ID
    .exact hlt
    .
     by_cases hf:cr y=0
     .rw [m9 hy hf (by omega) hz hlt] at hs;omega
     .rw [jj hy hf] at hs;omega)
 rw [List.pairwise_iff_getElem]
 intro i j hi hj hij
 exact key (j-i-1) i j _ _ (by omega) (List.getElem?_eq_getElem hi) (List.getElem?_eq_getElem hj)
theorem Inv.OE {r:aC}(h:Inv r){t:aE}(ht:t∈r.Things):U6 t:=by
 have a:=h.vH t ht;have b:=h.pD;have c:=h.jB t ht;have d:=h.jC t ht
 refine ⟨by omega,by omega,?_,d.1⟩
 rcases c with c|c
 .exact .inl c
 .exact .inr ⟨c,by rw [d.2 c];rfl⟩
theorem Inv.Iu {r:aC}(h:Inv r){x:Held}(hx:x∈r.Held):aY x.Place=0/\1<=x.aj/\x.aj<10000:=by
 obtain ⟨w,hw,e⟩:=h.eQ x hx
 have k:=h.tree.mem hw
 have:=k.id1;have:=k.Ow
 exact ⟨((Dt.1 h.good).2 x hx).1,by omega,by omega⟩
theorem yo {α β:Type}{R:β->β->Prop}{S:α->α->Prop}(f:α->β):∀ {l:List α},l.Pairwise S->(∀x∈l,∀y∈l,S x y->R (f x) (f y))->(l.map f).Pairwise R
 | [],_,_=>List.Pairwise.nil
 | a::l,h,k=>by
  obtain ⟨h1,h2⟩:=List.pairwise_cons.1 h
  refine List.pairwise_cons.2 ⟨fun y hy=>?_,yo f h2 (fun x hx y hy=>k x (List.mem_cons_of_mem _ hx) y (List.mem_cons_of_mem _ hy))⟩
  obtain ⟨x,hx,rfl⟩:=List.mem_map.1 hy
  exact k a (List.mem_cons_self ..) x (List.mem_cons_of_mem _ hx) (h1 x hx)
theorem Ae {r:aC}(h:Inv r):dr (rowsOf r):=by
 have hx:bl kX=[120]:=rfl
 have kh:∀x∈r.Held,bl (hrow x).Key=[104,d8 x.Place.aB.toNat,d8 x.Place.Slot.toNat]:=fun x hx=>hkey (h.Iu hx).1
 have kt:∀t∈r.Things,bl (lY t).Key=116::Fp t.ID.toNat:=fun t ht=>tkey (h.OE ht).i0 (h.OE ht).i9
 have kw:∀w∈r.ak,bl (om w).Key=119::Fp w.ID.toNat:=fun w hw=>by
  have:=(h.tree.mem hw).id1;have:=(h.tree.mem hw).Ow;exact Lh (by omega) (by omega)
 unfold dr rowsOf
 refine List.pairwise_append.2 ⟨List.pairwise_append.2 ⟨List.pairwise_append.2 ⟨?_,?_,?_⟩,?_,?_⟩,List.pairwise_singleton _ _,?_⟩
 .exact yo hrow (Dt.1 h.good).1 (fun x hx y hy hl=>Nb (h.Iu hx).1 (h.Iu hy).1 hl)
 .exact yo lY h.jq (fun x hx y hy hl=>Nc (h.OE hx).i0 (h.OE hy).i9 hl)
 .
  intro a ha b hb
  obtain ⟨x,hx,rfl⟩:=List.mem_map.1 ha;obtain ⟨y,hy,rfl⟩:=List.mem_map.1 hb
  exact rl (kh x hx) (kt y hy) (by decide)
 .exact yo om (Ir h.tree) (fun x hx y hy hl=>by
   have:=(h.tree.mem hx).id1;have:=(h.tree.mem hy).Ow;exact Nf (by omega) (by omega) hl)
 .
  intro a ha b hb
  obtain ⟨y,hy,rfl⟩:=List.mem_map.1 hb
  rcases List.mem_append.1 ha with ha|ha
  .
   obtain ⟨x,hx,rfl⟩:=List.mem_map.1 ha
   exact rl (kh x hx) (kw y hy) (by decide)
  .
   obtain ⟨x,hx,rfl⟩:=List.mem_map.1 ha
   exact rl (kt x hx) (kw y hy) (by decide)
 .
  intro a ha b hb
  rw [List.mem_singleton.1 hb]
  rcases List.mem_append.1 ha with ha|ha
  .
   rcases List.mem_append.1 ha with ha|ha
   .
    obtain ⟨x,hx',rfl⟩:=List.mem_map.1 ha
    exact rl (kh x hx') hx (by decide)
   .
    obtain ⟨x,hx',rfl⟩:=List.mem_map.1 ha
    exact rl (kt x hx') hx (by decide)
  .
   obtain ⟨x,hx',rfl⟩:=List.mem_map.1 ha
   exact rl (kw x hx') hx (by decide)
theorem Iv {r:aC}(h:Inv r):∀c∈rowsOf r,c.Gone=false /\ ∀s,(rowP s c).2=true:=by
 have a1:=h.oY;have a2:=h.rj;have a3:=h.pC;have a4:=h.pD
 intro c hc
 unfold rowsOf at hc
 rcases List.mem_append.1 hc with hc|hc
 .
  rcases List.mem_append.1 hc with hc|hc
  .
   rcases List.mem_append.1 hc with hc|hc
   .
    obtain ⟨x,hx,rfl⟩:=List.mem_map.1 hc
    have k:=h.Iu hx
    exact ⟨rfl,fun s=>by rw [Li s k.1 (by omega) k.2.2]⟩
   .
    obtain ⟨x,hx,rfl⟩:=List.mem_map.1 hc
    have k:=h.OE hx
    exact ⟨rfl,fun s=>by rw [Lj s k.i0 k.i9 k.kd k.ds]⟩
  .
   obtain ⟨x,hx,rfl⟩:=List.mem_map.1 hc
   exact ⟨rfl,fun s=>by rw [Lk s (h.tree.mem hx)]⟩
 .
  rw [List.mem_singleton.1 hc]
  exact ⟨rfl,fun s=>by rw [Ll s r (by omega) (by omega)]⟩
theorem Iw {r:aC}(h:Inv r)(hn:r.Notes=[]):(rowsOf r).foldl tG r0=r:=by
 have a1:=h.oY;have a2:=h.rj;have a3:=h.pC;have a4:=h.pD
 unfold rowsOf
 rw [List.foldl_append,List.foldl_append,List.foldl_append,Lv _ _ (fun x hx=>⟨(h.Iu hx).1,by have:=(h.Iu hx).2.1;omega,(h.Iu hx).2.2⟩),Lw _ _ (fun t ht=>h.OE ht),Lx _ _ (fun w hw=>h.tree.mem hw)]
 rw [List.foldl_cons,List.foldl_nil]
 unfold tG
 rw [Ll _ r (by omega) (by omega)]
 obtain ⟨a,b,c,d,e,f⟩:=r
 simp only at hn
 subst hn
 simp [M9,r0]
theorem Af:∀ (a b:List Int),a.Pairwise (· < ·)->b.Pairwise (· < ·)->(∀x,x∈a↔x∈b)->a=b
 | [],[],_,_,_=>rfl
 | [],y::b,_,_,h=>by have:=(h y).2 (List.mem_cons_self ..);cases this
 | x::a,[],_,_,h=>by have:=(h x).1 (List.mem_cons_self ..);cases this
 | x::a,y::b,ha,hb,h=>by
  obtain ⟨a1,a2⟩:=List.pairwise_cons.1 ha
  obtain ⟨b1,b2⟩:=List.pairwise_cons.1 hb
  have e:x=y:=by
   rcases List.mem_cons.1 ((h x).1 (List.mem_cons_self ..)) with e|h1
   .exact e
   .
    rcases List.mem_cons.1 ((h y).2 (List.mem_cons_self ..)) with e|h2
    .exact e.symm
    .have:=b1 x h1;have:=a1 y h2;omega
  subst e
  congr 1
  refine Af a b a2 b2 (fun z=>?_)
  have hz:=h z
  simp only [List.mem_cons] at hz
  constructor
  .
   intro h1
   rcases hz.1 (.inr h1) with e|h2
   .have:=a1 z h1;omega
   .exact h2
  .
   intro h1
   rcases hz.2 (.inr h1) with e|h2
   .have:=b1 z h1;omega
   .exact h2
theorem DU {l:List aj}(h:cR l):(bU l).Pairwise (· < ·):=by
 unfold bU;rw [zN h];exact (ng l 999).1
theorem DV {α:Type}{l:List α}{y:α}(hy:l.getLast? = some y):y∈l:=by
 obtain ⟨a,rfl⟩:=List.getLast?_eq_some_iff.1 hy;simp
theorem Inv.ids {r:aC}(h:Inv r):r.Things.map aE.ID=bU r.ak :=
 Af _ _ (yo aE.ID h.jq (fun _ _ _ _ h=>h)) (DU h.tree) fun x=>by
  rw [k9 h.tree,List.mem_map]
  constructor
  .rintro ⟨t,ht,rfl⟩;exact h.used t ht
  .rintro ⟨w,hw,rfl⟩;exact h.thing w hw
theorem Inv.nodup {r:aC}(h:Inv r):(r.Held.map Held.aj).Nodup:=by
 rw [List.nodup_iff_count]
 intro a
 by_cases ha:∃w∈r.ak,w.ID=a
 .
  obtain ⟨w,hw,rfl⟩:=ha
  have:=h.once w hw
  have e:(r.Held.map Held.aj).count w.ID=cH r.Held w.ID:=by
   unfold cH;rw [List.count,List.countP_map];rfl
  omega
 .
  rw [List.count_eq_zero.2 (fun hm=>?_)]
  .omega
  .
   obtain ⟨x,hx,rfl⟩:=List.mem_map.1 hm
   exact ha (h.eQ x hx)
theorem Inv.whole {r:aC}(h:Inv r)(hl:r.Held.length=r.ak.length):Whole r where
 tree:=h.tree
 jr:=h.jr
 oY:=h.oY
 rj:=h.rj
 pC:=h.pC
 pD:=h.pD
 hlen:=hl
 eQ:=fun x hx=>by
  obtain ⟨w,hw,e⟩:=h.eQ x hx
  exact kZ.2 ⟨w,hw,e⟩
 once:=h.nodup
 things:=h.ids
 OA:=fun w hw=>h.su w (DV hw)
 OB:=fun t ht=>(h.vH t (DV ht)).2
theorem Fv {r:aC}(h:Inv r)(hn:r.Notes=[])(hl:r.Held.length=r.ak.length):bY (rowsOf r)=(r,0):=by
 have h1:=GL (rowsOf r) none r0 (fun _ _=>rfl) (Ae h) (Iv h)
 unfold bY
 rw [h1,Iw h hn]
 dsimp only
 rw [if_pos (yj (h.whole hl))]
theorem uZ {r:aC}(h:Inv r):bY (bH r)=(aZ r,0):=by
 obtain ⟨h1,h2,h3,h4,h5⟩:=jz h
 exact Fv h1 h2 h4
theorem oo {r:aC}(h:Inv r):(bH r).length<=60:=by
 obtain ⟨h1,h2,h3,h4,h5⟩:=jz h
 have a:=tE h1;have b:=h1.jr
 unfold bH rowsOf
 simp only [List.length_append,List.length_map,List.length_cons,List.length_nil]
 omega
end Go.Proofs.YtkbhcbipadkcaaaGreatDoor
