import Derived.Test.YtkbhcbipadkcaaaGreatDoorTO37
namespace Go.Proofs.YtkbhcbipadkcaaaGreatDoor
set_option linter.unusedVariables false
set_option linter.unusedSimpArgs false
section
open Go Go.RowKit
set_option maxRecDepth 100000
set_option maxHeartbeats 90000000
theorem yi (bR bH bI bJ:Value)(r:aC)(w:World)(own:List Nat)(H:HN w own [] [ag.ls bR r.ak,ag.ls bH r.Things,ag.ls bI r.Held,ag.ls bJ r.Notes])(hk:Ok r):RC Tryz.prog 23 #[.agg #[bR,bH,bI,bJ,iV r.ae,iV r.ah]] H (fun z:Value×Value×Value×Value => .agg #[z.1,z.2.1,z.2.2.1,z.2.2.2,iV (aZ r).ae,iV (aZ r).ah]) (fun _=>[]) (fun z=>[ag.ls z.1 (aZ r).ak,ag.ls z.2.1 (aZ r).Things,ag.ls z.2.2.1 (aZ r).Held,ag.ls z.2.2.2 (aZ r).Notes]):=by
 have eJ:=H.cq 0 rfl
 have dM:=H.cq 1 rfl
 have fG:=H.cq 2 rfl
 have eK:=H.cq 3 rfl
 have bw:=hk.wl;have bt:=hk.tl;have bh:=hk.hl;have bn:=hk.nl;have KM:=hk.w0;have KN:=hk.w1;have KO:=hk.t0;have KP:=hk.t1
 refine R.bC [(0,.agg #[bR,bH,bI,bJ,iV r.ae,iV r.ah])] Tryz.func23 O O O O H<|R.reg O<|R.s O (s.box O O O) fun b1=>?_
 refine R.s O (s.alloc dP O O) fun b2=>?_
 refine R.nil<|R.reg O<|R.q (q.aO O cB O) O<|R.q (q.ld 1 O O du O) O<|R.q (q.len' (dw 3 O) O Tryz.underlying46) O<|R.u 1 O<|R.nil<|R.loop (fun g_:Nat×Value×(List aj)=>[(1,.pointer (some ⟨b1,0,none⟩)),(2,.pointer (some ⟨b2,0,none⟩)),(6,bJ),(7,iV (r.Notes.length:Int)),(8,iV (g_.1:Int))]) (fun g_=>[ag.box b2 GX 48,ag.box b1 [g_.2.1,bH,bI,bJ,iV r.ae,iV r.ah] 48,ag.held w own]) (fun g_=>[ag.ls g_.2.1 g_.2.2,ag.ls bR r.ak,ag.ls bH r.Things,ag.ls bI r.Held,ag.ls bJ r.Notes]) (fun g_=>g_.1<=r.Notes.length/\g_.2.2=hZ (r.Notes.take g_.1) r.ak) (fun g_=>r.Notes.length-g_.1) (0,bR,r.ak) O (by exact ⟨by omega,rfl⟩) (sF O) (ic [0,1,2] [0,0,1,2,3] O) ?_
 rintro ⟨j,vw,ws⟩ ⟨hj1,HW⟩
 dsimp only at *
 have hws:ws.length<=2000:=by rw [HW];exact Nat.le_trans (xK _ _) hk.wl
 have hwr:∀w∈ws,0<=w.Rights/\w.Rights<=7:=by rw [HW];exact zN _ _ hk.ri
 have hok:Ok (⟨ws,r.Things,r.Held,[],r.ae,r.ah⟩:aC):=⟨hws,hk.tl,hk.hl,Nat.zero_le _,hwr,hk.w0,hk.w1,hk.t0,hk.t1⟩
 refine R.reg O<|?_
 by_cases h1:j<r.Notes.length
 .
  refine R.q (q.dx O O) O<|R.nil<|R.av O O<|R.reg O<|?_
  obtain ⟨x1,hx1⟩:∃z,r.Notes[j]? = some z:=⟨_,List.getElem?_eq_getElem (by omega)⟩
  refine R.q (q.idx (i:=j) (dw 4 O) O O fu O hx1) O<|R.q (q.eS (ds:=ou x1) (dw 4 O) hx1 O dh O) O<|R.s O (s.alloc eU O O) fun b3=>?_
  refine R.s O (s.st 0 _ O O O O (.inl dh) O O O O) fun _=>?_
  refine R.nil<|R.reg O<|R.q (q.aO O iG O) O<|R.q (q.ld 0 O O au O) O<|?_
  by_cases h2:0<x1.aj
  .
   refine R.q (q.eL O O) O<|R.nil<|R.av O O<|R.reg O<|R.q (q.aO O bg O) O<|R.q (q.ld 2 O O bS O) O<|R.q (q.aO O iG O) O<|R.q (q.ld 0 O O au O) O<|R.s O (s.vQ Jb O O (fun w hw=>qj _ ws x1.aj w (hw.bP 0 O) (by omega)) O) fun v1=>?_
   refine R.q (q.aO O bg O) O<|R.s O (s.fX 3 _ O O O (fun w hw=>Sl.cm (hw.row 0 O)) (.inr ⟨bS,rfl⟩) (fun w hw=>(af (Sl.one (hw.row 0 O)) aP)) O O O) fun _=>?_
   refine R.nil<|R.reg O<|R.q (q.bA (r:=((j+1:Nat):Int)) O O) O<|R.u 1 O<|R.nil<|R.mp (fun _ hw=>hw.cW 0 _ O O)<|R.back (j+1,v1,(without ws x1.aj)) O (by (exact ⟨by omega,by rw [xJ hx1,if_pos (by omega),HW]⟩)) (by dsimp only;omega) (sF O) (aD [1,2,3] [0,2,3,4,5] O)
  refine R.q (q.eo O O) O<|R.nil<|R.aA O O<|R.reg O<|R.q (q.bA (r:=((j+1:Nat):Int)) O O) O<|R.u 1 O<|R.nil<|R.back (j+1,vw,ws) O (by (exact ⟨by omega,by rw [xJ hx1,if_neg (by omega),HW]⟩)) (by dsimp only;omega) (sF O) (aD [1,2,3] gX O)
 refine R.q (q.cU O O) O<|R.nil<|R.aA O O<|R.reg O<|R.q (q.aO O cB O) O<|R.s O (s.st 1 _ O O O O (.inr ⟨du,rfl⟩) O O O O) fun _=>?_
 refine R.nil<|R.reg O<|R.q (q.dt 1 O O ao) O<|R.s O (s.pre (fun _ hw=>hw.a8 (α:=Note)) (s.aW [0,1,2] [1,3,4,0] _ _ _ O O O Jc O O (fun w own hw H=>sg vw bH bI (nS) (⟨ws,r.Things,r.Held,[],r.ae,r.ah⟩:aC) w own H ‹_›) O)) ?_
 rintro ⟨z1,z2,z3,z4⟩
 dsimp only
 refine R.s O (s.fX 0 _ O O O (fun _ _=>rfl) (.inl ao) (fun w hw=>(af (Sl.one (hw.bP 0 O)) (af (Sl.one (hw.bP 1 O)) (af (Sl.one (hw.bP 2 O)) (af (Sl.one (hw.bP 3 O)) (af O (af O aP))))))) O O O) fun _=>?_
 refine R.nil ?_
 have hz:aZ r=(dR (⟨ws,r.Things,r.Held,[],r.ae,r.ah⟩:aC)):=by (unfold aZ;rw [HW,List.take_of_length_le (by omega)])
 rw [hz]
 exact R.w1 (z1,z2,z3,z4) [2] bL O Tryz.results23 (RV.cell 0 O O ao) O O O O
theorem zY (bR bH bI bJ:Value)(r:aC)(w:World)(own:List Nat)(H:HN w own [] [ag.ls bR r.ak,ag.ls bH r.Things,ag.ls bI r.Held,ag.ls bJ r.Notes])(hk:Ok r):RC Tryz.prog 53 #[.agg #[bR,bH,bI,bJ,iV r.ae,iV r.ah]] H (fun z:Value×Value×Value×Value => .agg #[z.1,z.2.1,z.2.2.1,z.2.2.2,iV r.ae,iV r.ah]) (fun _=>[]) (fun z=>[ag.ls z.1 r.ak,ag.ls z.2.1 r.Things,ag.ls z.2.2.1 r.Held,ag.ls z.2.2.2 r.Notes]):=by
 have eJ:=H.cq 0 rfl
 have dM:=H.cq 1 rfl
 have fG:=H.cq 2 rfl
 have eK:=H.cq 3 rfl
 have bw:=hk.wl;have bt:=hk.tl;have bh:=hk.hl;have bn:=hk.nl;have KM:=hk.w0;have KN:=hk.w1;have KO:=hk.t0;have KP:=hk.t1
 refine R.bC [(0,.agg #[bR,bH,bI,bJ,iV r.ae,iV r.ah])] Tryz.func53 O O O O H<|R.reg O<|R.s O (s.box O O O) fun b1=>?_
 refine R.s O (s.alloc dP O O) fun b2=>?_
 refine R.nil<|R.Us (fuel:=20) [0,1,2] [13,15,17,19] O O mixed O<|K.p (i:=0) O (.inr (aD [0,1,2] bL O)) O (fun w=>q.aO O bg O) O<|K.q (i:=1) O (aD [0,1,2] bL O) O (q.ld 1 O O bS O) O<|K.p (i:=3) O (.inr (aD [0,1,2] bL O)) O (fun w=>q.aO O cy O) O<|K.q (i:=4) O (aD [0,1,2] bL O) O (q.ld 1 O O dC O) O<|K.p (i:=6) O (.inr (aD [0,1,2] bL O)) O (fun w=>q.aO O cz O) O<|K.q (i:=7) O (aD [0,1,2] bL O) O (q.ld 1 O O dD O) O<|K.p (i:=9) O (.inr (aD [0,1,2] bL O)) O (fun w=>q.aO O cB O) O<|K.q (i:=10) O (aD [0,1,2] bL O) O (q.ld 1 O O du O) O<|K.one (i:=2) O<|Ko.s (s.aW [0,1,2] [0] _ _ _ O O O wq O O (fun w own hw H=>jM bR r.ak w own H (by first|omega|assumption|(simp;done)|(simp;omega))) O) (.inr fun _=>(aD [1,2,3] bL O)) (fun h=>by cases h) O fun z5=>?_
 refine K.p (i:=12) O (.inr (aD [1,2,3] bL O)) O (fun w=>q.aO O bg O) O<|K.one (i:=5) O<|Ko.s (s.aW bL [1] _ _ _ O O O wt O O (fun w own hw H=>jm bH r.Things w own H (by first|omega|assumption|(simp;done)|(simp;omega))) O) (.inr fun _=>(aD [2,3,4] bL O)) (fun h=>by cases h) O fun z6=>?_
 refine K.one (i:=8) O<|Ko.s (s.aW gX [2] _ _ _ O O O Ex O O (fun w own hw H=>nu bI r.Held w own H (by first|omega|assumption|(simp;done)|(simp;omega))) O) (.inr fun _=>(aD [3,4,5] bL O)) (fun h=>by cases h) O fun z7=>?_
 refine K.one (i:=11) O<|Ko.s (s.aW rm [3] _ _ _ O O O oE O O (fun w own hw H=>fe bJ r.Notes w own H (by first|omega|assumption|(simp;done)|(simp;omega))) O) (.inr fun _=>(aD [4,5,6] bL O)) (fun h=>by cases h) O fun z8=>?_
 refine K.one (i:=13) O<|Ko.s (s.fX 5 _ O O O (fun w hw=>Sl.cm (hw.row 3 O)) (.inr ⟨bS,rfl⟩) (fun w hw=>(af (Sl.one (hw.row 3 O)) aP)) O O O) (.inl O) (fun _=>by kernel_rfl) O fun _=>?_
 refine K.p (i:=14) O (.inl (by kernel_rfl)) O (fun w=>q.aO O cy O) O<|K.one (i:=15) O<|Ko.s (s.fX 5 _ O O O (fun w hw=>Sl.cm (hw.row 2 O)) (.inr ⟨dC,rfl⟩) (fun w hw=>(af (Sl.one (hw.row 2 O)) aP)) O O O) (.inl O) (fun _=>by kernel_rfl) O fun _=>?_
 refine K.p (i:=16) O (.inl (by kernel_rfl)) O (fun w=>q.aO O cz O) O<|K.one (i:=17) O<|Ko.s (s.fX 5 _ O O O (fun w hw=>Sl.cm (hw.row 1 O)) (.inr ⟨dD,rfl⟩) (fun w hw=>(af (Sl.one (hw.row 1 O)) aP)) O O O) (.inl O) (fun _=>by kernel_rfl) O fun _=>?_
 refine K.p (i:=18) O (.inl (by kernel_rfl)) O (fun w=>q.aO O cB O) O<|K.one (i:=19) O<|Ko.s (s.fX 5 _ O O O (fun w hw=>Sl.cm (hw.row 0 O)) (.inr ⟨du,rfl⟩) (fun w hw=>(af (Sl.one (hw.row 0 O)) aP)) O O O) (.inl O) (fun _=>by kernel_rfl) O fun _=>?_
 refine K.done<|R.reg O<|R.q (q.dt 5 O O ao) O<|R.s O (s.fX 4 _ O O O (fun _ _=>rfl) (.inl ao) (fun w hw=>(af (Sl.one (hw.row 3 O)) (af (Sl.one (hw.row 2 O)) (af (Sl.one (hw.row 1 O)) (af (Sl.one (hw.row 0 O)) (af O (af O aP))))))) O O O) fun _=>?_
 exact R.nil<|R.mp (fun _ hw=>hw.cW 3 _ O O)<|R.mp (fun _ hw=>hw.cW 2 _ O O)<|R.mp (fun _ hw=>hw.cW 1 _ O O)<|R.mp (fun _ hw=>hw.cW 0 _ O O)<|R.w1 (z5,z6,z7,z8) [2] gj O Tryz.results53 (RV.cell 0 O O ao) O O O O
end
def tC (r:aC)(c:Change):aC:=(rowP r c).1
theorem GG:∀ (l:List Change) (pv:Option ByteArray) (r:aC),(∀c∈l,sq pv c=true)->dq l->(∀c∈l,c.Gone=false /\ ∀s,(rowP s c).2=true)->pgo l pv r=some (l.foldl tC r)
 | [],_,r,_,_,_=>rfl
 | c::l,pv,r,h1,h2,h3=>by
  obtain ⟨hc,hl⟩:=List.pairwise_cons.1 h2
  have g:=h3 c (List.mem_cons_self ..)
  simp only [pgo]
  rw [if_pos (by rw [h1 c (List.mem_cons_self ..),g.1,g.2 r];rfl)]
  exact GG l (some c.Key) _ (fun x hx=>hc x hx) hl (fun x hx=>h3 x (List.mem_cons_of_mem _ hx))
theorem Lp:∀ (hs:List Held) (r:aC),(∀h∈hs,aY h.Place=0/\0<=h.aj/\h.aj<10000)->(hs.map hrow).foldl tC r=⟨r.ak,r.Things,r.Held++hs,r.Notes,r.ae,r.ah⟩
 | [],r,_=>by rw [List.map_nil,List.foldl_nil,List.append_nil]
 | h::hs,r,k=>by
  obtain ⟨k1,k2,k3⟩:=k h (List.mem_cons_self ..)
  rw [List.map_cons,List.foldl_cons,show tC r (hrow h)=Ii r h by unfold tC;rw [Lb r k1 k2 k3],Lp hs _ (fun x hx=>k x (List.mem_cons_of_mem _ hx))]
  simp only [Ii,List.append_assoc,List.cons_append,List.nil_append]
structure UZ (t:aE):Prop where
  i0:0<=t.ID
  i9:t.ID<10000
  kd:t.Kind=1∨t.Kind=2/\t.Data.size=0
  ds:t.Data.size<=8
theorem Lq:∀ (ts:List aE) (r:aC),(∀t∈ts,UZ t)->(ts.map lY).foldl tC r=⟨r.ak,r.Things++ts,r.Held,r.Notes,r.ae,r.ah⟩
 | [],r,_=>by rw [List.map_nil,List.foldl_nil,List.append_nil]
 | t::ts,r,k=>by
  obtain ⟨k1,k2,k3,k4⟩:=k t (List.mem_cons_self ..)
  rw [List.map_cons,List.foldl_cons,show tC r (lY t)=Ij r t by unfold tC;rw [Lc r k1 k2 k3 k4],Lq ts _ (fun x hx=>k x (List.mem_cons_of_mem _ hx))]
  simp only [Ij,List.append_assoc,List.cons_append,List.nil_append]
theorem Lr:∀ (ws:List aj) (r:aC),(∀w∈ws,Q5 w)->(ws.map og).foldl tC r=⟨r.ak++ws,r.Things,r.Held,r.Notes,r.ae,r.ah⟩
 | [],r,_=>by rw [List.map_nil,List.foldl_nil,List.append_nil]
 | w::ws,r,k=>by
  rw [List.map_cons,List.foldl_cons,show tC r (og w)=Dz r w by unfold tC;rw [Ld r (k w (List.mem_cons_self ..))],Lr ws _ (fun x hx=>k x (List.mem_cons_of_mem _ hx))]
  simp only [Dz,List.append_assoc,List.cons_append,List.nil_append]
theorem Il {l:List aj}(h:cR l):l.Pairwise (fun a b=>a.ID<b.ID):=by
 have key:∀ (n i j:Nat) (x y:aj),j=i+n+1->l[i]? = some x->l[j]? = some y->x.ID<y.ID:=by
  intro n
  induction n with
  | zero =>
   intro i j x y e hx hy
   have hs:=h.steps j (List.getElem?_eq_some_iff.1 hy).1
   by_cases hlt:x.ID<y.ID
   .exact hlt
   .
    by_cases hf:cr y=0
    .rw [m8 hy hf (by omega) (by rw [show j-1=i by omega];exact hx) hlt] at hs;omega
    .rw [jj hy hf] at hs;omega
  | succ n ih =>
   intro i j x y e hx hy
   have hj:j-1<l.length:=by have:=(List.getElem?_eq_some_iff.1 hy).1;omega
   have hz:=List.getElem?_eq_getElem hj
   exact Int.lt_trans (ih i (j-1) x l[j-1] (by omega) hx hz) (by
    have hs:=h.steps j (List.getElem?_eq_some_iff.1 hy).1
    by_cases hlt:l[j-1].ID<y.ID
    .exact hlt
    .
     by_cases hf:cr y=0
     .rw [m8 hy hf (by omega) hz hlt] at hs;omega
     .rw [jj hy hf] at hs;omega)
 rw [List.pairwise_iff_getElem]
 intro i j hi hj hij
 exact key (j-i-1) i j _ _ (by omega) (List.getElem?_eq_getElem hi) (List.getElem?_eq_getElem hj)
theorem Inv.Ox {r:aC}(h:Inv r){t:aE}(ht:t∈r.Things):UZ t:=by
 have a:=h.vC t ht;have b:=h.pB;have c:=h.jB t ht;have d:=h.jC t ht
 refine ⟨by omega,by omega,?_,d.1⟩
 rcases c with c|c
 .exact .inl c
 .exact .inr ⟨c,by rw [d.2 c];rfl⟩
theorem Inv.Im {r:aC}(h:Inv r){x:Held}(hx:x∈r.Held):aY x.Place=0/\1<=x.aj/\x.aj<10000:=by
 obtain ⟨w,hw,e⟩:=h.eP x hx
 have k:=h.tree.mem hw
 have:=k.id1;have:=k.Ol
 exact ⟨((Dp.1 h.good).2 x hx).1,by omega,by omega⟩
theorem yj {α β:Type}{R:β->β->Prop}{S:α->α->Prop}(f:α->β):∀ {l:List α},l.Pairwise S->(∀x∈l,∀y∈l,S x y->R (f x) (f y))->(l.map f).Pairwise R
 | [],_,_=>List.Pairwise.nil
 | a::l,h,k=>by
  obtain ⟨h1,h2⟩:=List.pairwise_cons.1 h
  refine List.pairwise_cons.2 ⟨fun y hy=>?_,yj f h2 (fun x hx y hy=>k x (List.mem_cons_of_mem _ hx) y (List.mem_cons_of_mem _ hy))⟩
  obtain ⟨x,hx,rfl⟩:=List.mem_map.1 hy
  exact k a (List.mem_cons_self ..) x (List.mem_cons_of_mem _ hx) (h1 x hx)
theorem zZ {r:aC}(h:Inv r):dq (rowsOf r):=by
 have hx:bl kX=[120]:=rfl
 have kh:∀x∈r.Held,bl (hrow x).Key=[104,d8 x.Place.aB.toNat,d8 x.Place.Slot.toNat]:=fun x hx=>hkey (h.Im hx).1
 have kt:∀t∈r.Things,bl (lY t).Key=116::Fh t.ID.toNat:=fun t ht=>tkey (h.Ox ht).i0 (h.Ox ht).i9
 have kw:∀w∈r.ak,bl (og w).Key=119::Fh w.ID.toNat:=fun w hw=>by
  have:=(h.tree.mem hw).id1;have:=(h.tree.mem hw).Ol;exact La (by omega) (by omega)
 unfold dq rowsOf
 refine List.pairwise_append.2 ⟨List.pairwise_append.2 ⟨List.pairwise_append.2 ⟨?_,?_,?_⟩,?_,?_⟩,List.pairwise_singleton _ _,?_⟩
 .exact yj hrow (Dp.1 h.good).1 (fun x hx y hy hl=>M5 (h.Im hx).1 (h.Im hy).1 hl)
 .exact yj lY h.jq (fun x hx y hy hl=>M6 (h.Ox hx).i0 (h.Ox hy).i9 hl)
 .
  intro a ha b hb
  obtain ⟨x,hx,rfl⟩:=List.mem_map.1 ha;obtain ⟨y,hy,rfl⟩:=List.mem_map.1 hb
  exact rh (kh x hx) (kt y hy) (by decide)
 .exact yj og (Il h.tree) (fun x hx y hy hl=>by
   have:=(h.tree.mem hx).id1;have:=(h.tree.mem hy).Ol;exact M7 (by omega) (by omega) hl)
 .
  intro a ha b hb
  obtain ⟨y,hy,rfl⟩:=List.mem_map.1 hb
  rcases List.mem_append.1 ha with ha|ha
  .
   obtain ⟨x,hx,rfl⟩:=List.mem_map.1 ha
   exact rh (kh x hx) (kw y hy) (by decide)
  .
   obtain ⟨x,hx,rfl⟩:=List.mem_map.1 ha
   exact rh (kt x hx) (kw y hy) (by decide)
 .
  intro a ha b hb
  rw [List.mem_singleton.1 hb]
  rcases List.mem_append.1 ha with ha|ha
  .
   rcases List.mem_append.1 ha with ha|ha
   .
    obtain ⟨x,hx',rfl⟩:=List.mem_map.1 ha
    exact rh (kh x hx') hx (by decide)
   .
    obtain ⟨x,hx',rfl⟩:=List.mem_map.1 ha
    exact rh (kt x hx') hx (by decide)
  .
   obtain ⟨x,hx',rfl⟩:=List.mem_map.1 ha
   exact rh (kw x hx') hx (by decide)
theorem Io {r:aC}(h:Inv r):∀c∈rowsOf r,c.Gone=false /\ ∀s,(rowP s c).2=true:=by
 have a1:=h.oX;have a2:=h.qZ;have a3:=h.pA;have a4:=h.pB
 intro c hc
 unfold rowsOf at hc
 rcases List.mem_append.1 hc with hc|hc
 .
  rcases List.mem_append.1 hc with hc|hc
  .
   rcases List.mem_append.1 hc with hc|hc
   .
    obtain ⟨x,hx,rfl⟩:=List.mem_map.1 hc
    have k:=h.Im hx
    exact ⟨rfl,fun s=>by rw [Lb s k.1 (by omega) k.2.2]⟩
   .
    obtain ⟨x,hx,rfl⟩:=List.mem_map.1 hc
    have k:=h.Ox hx
    exact ⟨rfl,fun s=>by rw [Lc s k.i0 k.i9 k.kd k.ds]⟩
  .
   obtain ⟨x,hx,rfl⟩:=List.mem_map.1 hc
   exact ⟨rfl,fun s=>by rw [Ld s (h.tree.mem hx)]⟩
 .
  rw [List.mem_singleton.1 hc]
  exact ⟨rfl,fun s=>by rw [Le s r (by omega) (by omega)]⟩
theorem Ip {r:aC}(h:Inv r)(hn:r.Notes=[]):(rowsOf r).foldl tC r0=r:=by
 have a1:=h.oX;have a2:=h.qZ;have a3:=h.pA;have a4:=h.pB
 unfold rowsOf
 rw [List.foldl_append,List.foldl_append,List.foldl_append,Lp _ _ (fun x hx=>⟨(h.Im hx).1,by have:=(h.Im hx).2.1;omega,(h.Im hx).2.2⟩),Lq _ _ (fun t ht=>h.Ox ht),Lr _ _ (fun w hw=>h.tree.mem hw)]
 rw [List.foldl_cons,List.foldl_nil]
 unfold tC
 rw [Le _ r (by omega) (by omega)]
 obtain ⟨a,b,c,d,e,f⟩:=r
 simp only at hn
 subst hn
 simp [M3,r0]
theorem Aa:∀ (a b:List Int),a.Pairwise (· < ·)->b.Pairwise (· < ·)->(∀x,x∈a↔x∈b)->a=b
 | [],[],_,_,_=>rfl
 | [],y::b,_,_,h=>by have:=(h y).2 (List.mem_cons_self ..);cases this
 | x::a,[],_,_,h=>by have:=(h x).1 (List.mem_cons_self ..);cases this
 | x::a,y::b,ha,hb,h=>by
  obtain ⟨a1,a2⟩:=List.pairwise_cons.1 ha
  obtain ⟨b1,b2⟩:=List.pairwise_cons.1 hb
  have e:x=y:=by
   rcases List.mem_cons.1 ((h x).1 (List.mem_cons_self ..)) with e|h1
   .exact e
   .
    rcases List.mem_cons.1 ((h y).2 (List.mem_cons_self ..)) with e|h2
    .exact e.symm
    .have:=b1 x h1;have:=a1 y h2;omega
  subst e
  congr 1
  refine Aa a b a2 b2 (fun z=>?_)
  have hz:=h z
  simp only [List.mem_cons] at hz
  constructor
  .
   intro h1
   rcases hz.1 (.inr h1) with e|h2
   .have:=a1 z h1;omega
   .exact h2
  .
   intro h1
   rcases hz.2 (.inr h1) with e|h2
   .have:=b1 z h1;omega
   .exact h2
theorem DL {l:List aj}(h:cR l):(bT l).Pairwise (· < ·):=by
 unfold bT;rw [zI h];exact (nf l 999).1
theorem DN {α:Type}{l:List α}{y:α}(hy:l.getLast? = some y):y∈l:=by
 obtain ⟨a,rfl⟩:=List.getLast?_eq_some_iff.1 hy;simp
theorem Inv.ids {r:aC}(h:Inv r):r.Things.map aE.ID=bT r.ak :=
 Aa _ _ (yj aE.ID h.jq (fun _ _ _ _ h=>h)) (DL h.tree) fun x=>by
  rw [lf h.tree,List.mem_map]
  constructor
  .rintro ⟨t,ht,rfl⟩;exact h.used t ht
  .rintro ⟨w,hw,rfl⟩;exact h.thing w hw
theorem Inv.nodup {r:aC}(h:Inv r):(r.Held.map Held.aj).Nodup:=by
 rw [List.nodup_iff_count]
 intro a
 by_cases ha:∃w∈r.ak,w.ID=a
 .
  obtain ⟨w,hw,rfl⟩:=ha
  have:=h.once w hw
  have e:(r.Held.map Held.aj).count w.ID=cH r.Held w.ID:=by
   unfold cH;rw [List.count,List.countP_map];rfl
  omega
 .
  rw [List.count_eq_zero.2 (fun hm=>?_)]
  .omega
  .
   obtain ⟨x,hx,rfl⟩:=List.mem_map.1 hm
   exact ha (h.eP x hx)
theorem Inv.whole {r:aC}(h:Inv r)(hl:r.Held.length=r.ak.length):Whole r where
 tree:=h.tree
 jr:=h.jr
 oX:=h.oX
 qZ:=h.qZ
 pA:=h.pA
 pB:=h.pB
 hlen:=hl
 eP:=fun x hx=>by
  obtain ⟨w,hw,e⟩:=h.eP x hx
  exact k9.2 ⟨w,hw,e⟩
 once:=h.nodup
 things:=h.ids
 Ot:=fun w hw=>h.sj w (DN hw)
 Ou:=fun t ht=>(h.vC t (DN ht)).2
theorem Fp {r:aC}(h:Inv r)(hn:r.Notes=[])(hl:r.Held.length=r.ak.length):bX (rowsOf r)=(r,0):=by
 have h1:=GG (rowsOf r) none r0 (fun _ _=>rfl) (zZ h) (Io h)
 unfold bX
 rw [h1,Ip h hn]
 dsimp only
 rw [if_pos (yd (h.whole hl))]
theorem uU {r:aC}(h:Inv r):bX (bF r)=(aZ r,0):=by
 obtain ⟨h1,h2,h3,h4,h5⟩:=jz h
 exact Fp h1 h2 h4
theorem om {r:aC}(h:Inv r):(bF r).length<=60:=by
 obtain ⟨h1,h2,h3,h4,h5⟩:=jz h
 have a:=tw h1;have b:=h1.jr
 unfold bF rowsOf
 simp only [List.length_append,List.length_map,List.length_cons,List.length_nil]
 omega
end Go.Proofs.YtkbhcbipadkcaaaGreatDoor
