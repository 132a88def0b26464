import Derived.Test.YtkbhcbipadkcaaaGreatDoorTW23
namespace Go.Proofs.YtkbhcbipadkcaaaGreatDoor
set_option linter.unusedVariables false
set_option linter.unusedSimpArgs false
set_option maxRecDepth 100000
set_option maxHeartbeats 90000000
section
open Go Go.RowKit
theorem Fw (bS bK bL bM:Value)(r:aC)(w:World)(own:List Nat)(H:HN w own [] [ag.ls bS r.ao,ag.ls bK r.Things,ag.ls bL r.Held,ag.ls bM r.Notes])(hk:Ok r):RC Tryz.prog 23 #[.agg #[bS,bK,bL,bM,iV r.ae,iV r.ah]] H (fun z:Value×Value×Value×Value => .agg #[z.1,z.2.1,z.2.2.1,z.2.2.2,iV (bj r).ae,iV (bj r).ah]) (fun _=>[]) (fun z=>[ag.ls z.1 (bj r).ao,ag.ls z.2.1 (bj r).Things,ag.ls z.2.2.1 (bj r).Held,ag.ls z.2.2.2 (bj r).Notes]):=by
 have eJ:=H.cq 0 rfl
 have dN:=H.cq 1 rfl
 have fH:=H.cq 2 rfl
 have eK:=H.cq 3 rfl
 have bw:=hk.wl;have bt:=hk.tl;have bh:=hk.hl;have bn:=hk.nl;have KV:=hk.w0;have KW:=hk.w1;have KX:=hk.t0;have KY:=hk.t1
 refine R.bD [(0,.agg #[bS,bK,bL,bM,iV r.ae,iV r.ah])] Tryz.func23 O O O O H<|R.reg O<|R.s O (s.box O O O) fun b1=>?_
 refine R.s O (s.alloc dI O O) fun b2=>?_
 refine R.nil<|R.reg O<|R.q (q.aO O cC O) O<|R.q (q.ld 1 O O dv O) O<|R.q (q.len' (dy 3 O) O Tryz.underlying46) O<|R.u 1 O<|R.nil<|R.loop (fun g_:Nat×Value×(List ak)=>[(1,.pointer (some ⟨b1,0,none⟩)),(2,.pointer (some ⟨b2,0,none⟩)),(6,bM),(7,iV (r.Notes.length:Int)),(8,iV (g_.1:Int))]) (fun g_=>[ag.box b2 G8 48,ag.box b1 [g_.2.1,bK,bL,bM,iV r.ae,iV r.ah] 48,ag.held w own]) (fun g_=>[ag.ls g_.2.1 g_.2.2,ag.ls bS r.ao,ag.ls bK r.Things,ag.ls bL r.Held,ag.ls bM r.Notes]) (fun g_=>g_.1<=r.Notes.length/\g_.2.2=hZ (r.Notes.take g_.1) r.ao) (fun g_=>r.Notes.length-g_.1) (0,bS,r.ao) O (by exact ⟨by omega,rfl⟩) (sF O) (ic [0,1,2] [0,0,1,2,3] O) ?_
 rintro ⟨j,vw,ws⟩ ⟨hj1,HW⟩
 dsimp only at *
 have hws:ws.length<=2000:=by rw [HW];exact Nat.le_trans (xR _ _) hk.wl
 have hwr:∀w∈ws,0<=w.Rights/\w.Rights<=7:=by rw [HW];exact zS _ _ hk.ri
 have hok:Ok (⟨ws,r.Things,r.Held,[],r.ae,r.ah⟩:aC):=⟨hws,hk.tl,hk.hl,Nat.zero_le _,hwr,hk.w0,hk.w1,hk.t0,hk.t1⟩
 refine R.reg O<|?_
 by_cases h1:j<r.Notes.length
 .
  refine R.q (q.dz O O) O<|R.nil<|R.av O O<|R.reg O<|?_
  obtain ⟨x1,hx1⟩:∃z,r.Notes[j]? = some z:=⟨_,List.getElem?_eq_getElem (by omega)⟩
  refine R.q (q.idx (i:=j) (dy 4 O) O O fw O hx1) O<|R.q (q.eS (ds:=ox x1) (dy 4 O) hx1 O dj O) O<|R.s O (s.alloc eU O O) fun b3=>?_
  refine R.s O (s.st 0 _ O O O O (.inl dj) O O O O) fun _=>?_
  refine R.nil<|R.reg O<|R.q (q.aO O iG O) O<|R.q (q.ld 0 O O au O) O<|?_
  by_cases h2:0<x1.ak
  .
   refine R.q (q.eL O O) O<|R.nil<|R.av O O<|R.reg O<|R.q (q.aO O bg O) O<|R.q (q.ld 2 O O bT O) O<|R.q (q.aO O iG O) O<|R.q (q.ld 0 O O au O) O<|R.s O (s.vW Jk O O (fun w hw=>qp _ ws x1.ak w (hw.bG 0 O) (by omega)) O) fun v1=>?_
   refine R.q (q.aO O bg O) O<|R.s O (s.fS 3 _ O O O (fun w hw=>Sl.cm (hw.row 0 O)) (.inr ⟨bT,rfl⟩) (fun w hw=>(af (Sl.one (hw.row 0 O)) aP)) O O O) fun _=>?_
   refine R.nil<|R.reg O<|R.q (q.bB (r:=((j+1:Nat):Int)) O O) O<|R.u 1 O<|R.nil<|R.mp (fun _ hw=>hw.cX 0 _ O O)<|R.back (j+1,v1,(without ws x1.ak)) O (by (exact ⟨by omega,by rw [xQ hx1,if_pos (by omega),HW]⟩)) (by dsimp only;omega) (sF O) (aD [1,2,3] [0,2,3,4,5] O)
  refine R.q (q.eo O O) O<|R.nil<|R.aB O O<|R.reg O<|R.q (q.bB (r:=((j+1:Nat):Int)) O O) O<|R.u 1 O<|R.nil<|R.back (j+1,vw,ws) O (by (exact ⟨by omega,by rw [xQ hx1,if_neg (by omega),HW]⟩)) (by dsimp only;omega) (sF O) (aD [1,2,3] gX O)
 refine R.q (q.cW O O) O<|R.nil<|R.aB O O<|R.reg O<|R.q (q.aO O cC O) O<|R.s O (s.st 1 _ O O O O (.inr ⟨dv,rfl⟩) O O O O) fun _=>?_
 refine R.nil<|R.reg O<|R.q (q.dh 1 O O aj) O<|R.s O (s.pre (fun _ hw=>hw.a8 (α:=Note)) (s.aW [0,1,2] [1,3,4,0] _ _ _ O O O Jl O O (fun w own hw H=>sq vw bK bL (nS) (⟨ws,r.Things,r.Held,[],r.ae,r.ah⟩:aC) w own H ‹_›) O)) ?_
 rintro ⟨z1,z2,z3,z4⟩
 dsimp only
 refine R.s O (s.fS 0 _ O O O (fun _ _=>rfl) (.inl aj) (fun w hw=>(af (Sl.one (hw.bG 0 O)) (af (Sl.one (hw.bG 1 O)) (af (Sl.one (hw.bG 2 O)) (af (Sl.one (hw.bG 3 O)) (af O (af O aP))))))) O O O) fun _=>?_
 refine R.nil ?_
 have hz:bj r=(dS (⟨ws,r.Things,r.Held,[],r.ae,r.ah⟩:aC)):=by (unfold bj;rw [HW,List.take_of_length_le (by omega)])
 rw [hz]
 exact R.w1 (z1,z2,z3,z4) [2] bJ O Tryz.results23 (RV.cell 0 O O aj) O O O O
theorem Ad (bS bK bL bM:Value)(r:aC)(w:World)(own:List Nat)(H:HN w own [] [ag.ls bS r.ao,ag.ls bK r.Things,ag.ls bL r.Held,ag.ls bM r.Notes])(hk:Ok r):RC Tryz.prog 53 #[.agg #[bS,bK,bL,bM,iV r.ae,iV r.ah]] H (fun z:Value×Value×Value×Value => .agg #[z.1,z.2.1,z.2.2.1,z.2.2.2,iV r.ae,iV r.ah]) (fun _=>[]) (fun z=>[ag.ls z.1 r.ao,ag.ls z.2.1 r.Things,ag.ls z.2.2.1 r.Held,ag.ls z.2.2.2 r.Notes]):=by
 have eJ:=H.cq 0 rfl
 have dN:=H.cq 1 rfl
 have fH:=H.cq 2 rfl
 have eK:=H.cq 3 rfl
 have bw:=hk.wl;have bt:=hk.tl;have bh:=hk.hl;have bn:=hk.nl;have KV:=hk.w0;have KW:=hk.w1;have KX:=hk.t0;have KY:=hk.t1
 refine R.bD [(0,.agg #[bS,bK,bL,bM,iV r.ae,iV r.ah])] Tryz.func53 O O O O H<|R.reg O<|R.s O (s.box O O O) fun b1=>?_
 refine R.s O (s.alloc dI O O) fun b2=>?_
 refine R.nil<|R.UC (fuel:=20) [0,1,2] [13,15,17,19] O O mixed O<|K.p (i:=0) O (.inr (aD [0,1,2] bJ O)) O (fun w=>q.aO O bg O) O<|K.q (i:=1) O (aD [0,1,2] bJ O) O (q.ld 1 O O bT O) O<|K.p (i:=3) O (.inr (aD [0,1,2] bJ O)) O (fun w=>q.aO O cz O) O<|K.q (i:=4) O (aD [0,1,2] bJ O) O (q.ld 1 O O dD O) O<|K.p (i:=6) O (.inr (aD [0,1,2] bJ O)) O (fun w=>q.aO O cB O) O<|K.q (i:=7) O (aD [0,1,2] bJ O) O (q.ld 1 O O dE O) O<|K.p (i:=9) O (.inr (aD [0,1,2] bJ O)) O (fun w=>q.aO O cC O) O<|K.q (i:=10) O (aD [0,1,2] bJ O) O (q.ld 1 O O dv O) O<|K.one (i:=2) O<|Ko.s (s.aW [0,1,2] [0] _ _ _ O O O wD O O (fun w own hw H=>jM bS r.ao w own H (by first|omega|assumption|(simp;done)|(simp;omega))) O) (.inr fun _=>(aD [1,2,3] bJ O)) (fun h=>by cases h) O fun z5=>?_
 refine K.p (i:=12) O (.inr (aD [1,2,3] bJ O)) O (fun w=>q.aO O bg O) O<|K.one (i:=5) O<|Ko.s (s.aW bJ [1] _ _ _ O O O wE O O (fun w own hw H=>jm bK r.Things w own H (by first|omega|assumption|(simp;done)|(simp;omega))) O) (.inr fun _=>(aD [2,3,4] bJ O)) (fun h=>by cases h) O fun z6=>?_
 refine K.one (i:=8) O<|Ko.s (s.aW gX [2] _ _ _ O O O EC O O (fun w own hw H=>ny bL r.Held w own H (by first|omega|assumption|(simp;done)|(simp;omega))) O) (.inr fun _=>(aD [3,4,5] bJ O)) (fun h=>by cases h) O fun z7=>?_
 refine K.one (i:=11) O<|Ko.s (s.aW rz [3] _ _ _ O O O oH O O (fun w own hw H=>ff bM r.Notes w own H (by first|omega|assumption|(simp;done)|(simp;omega))) O) (.inr fun _=>(aD [4,5,6] bJ O)) (fun h=>by cases h) O fun z8=>?_
 refine K.one (i:=13) O<|Ko.s (s.fS 5 _ O O O (fun w hw=>Sl.cm (hw.row 3 O)) (.inr ⟨bT,rfl⟩) (fun w hw=>(af (Sl.one (hw.row 3 O)) aP)) O O O) (.inl O) (fun _=>by kernel_rfl) O fun _=>?_
 refine K.p (i:=14) O (.inl (by kernel_rfl)) O (fun w=>q.aO O cz O) O<|K.one (i:=15) O<|Ko.s (s.fS 5 _ O O O (fun w hw=>Sl.cm (hw.row 2 O)) (.inr ⟨dD,rfl⟩) (fun w hw=>(af (Sl.one (hw.row 2 O)) aP)) O O O) (.inl O) (fun _=>by kernel_rfl) O fun _=>?_
 refine K.p (i:=16) O (.inl (by kernel_rfl)) O (fun w=>q.aO O cB O) O<|K.one (i:=17) O<|Ko.s (s.fS 5 _ O O O (fun w hw=>Sl.cm (hw.row 1 O)) (.inr ⟨dE,rfl⟩) (fun w hw=>(af (Sl.one (hw.row 1 O)) aP)) O O O) (.inl O) (fun _=>by kernel_rfl) O fun _=>?_
 refine K.p (i:=18) O (.inl (by kernel_rfl)) O (fun w=>q.aO O cC O) O<|K.one (i:=19) O<|Ko.s (s.fS 5 _ O O O (fun w hw=>Sl.cm (hw.row 0 O)) (.inr ⟨dv,rfl⟩) (fun w hw=>(af (Sl.one (hw.row 0 O)) aP)) O O O) (.inl O) (fun _=>by kernel_rfl) O fun _=>?_
 refine K.done<|R.reg O<|R.q (q.dh 5 O O aj) O<|R.s O (s.fS 4 _ O O O (fun _ _=>rfl) (.inl aj) (fun w hw=>(af (Sl.one (hw.row 3 O)) (af (Sl.one (hw.row 2 O)) (af (Sl.one (hw.row 1 O)) (af (Sl.one (hw.row 0 O)) (af O (af O aP))))))) O O O) fun _=>?_
 exact R.nil<|R.mp (fun _ hw=>hw.cX 3 _ O O)<|R.mp (fun _ hw=>hw.cX 2 _ O O)<|R.mp (fun _ hw=>hw.cX 1 _ O O)<|R.mp (fun _ hw=>hw.cX 0 _ O O)<|R.w1 (z5,z6,z7,z8) [2] gj O Tryz.results53 (RV.cell 0 O O aj) O O O O
end
def tJ (r:aC)(c:Change):aC:=(rowP r c).1
theorem GV:∀ (l:List Change) (pv:Option ByteArray) (r:aC),(∀c∈l,sB pv c=true)->dt l->(∀c∈l,c.Gone=false /\ ∀s,(rowP s c).2=true)->pgo l pv r=some (l.foldl tJ r)
 | [],_,r,_,_,_=>rfl
 | c::l,pv,r,h1,h2,h3=>by
  obtain ⟨hc,hl⟩:=List.pairwise_cons.1 h2
  have g:=h3 c (List.mem_cons_self ..)
  simp only [pgo]
  rw [if_pos (by rw [h1 c (List.mem_cons_self ..),g.1,g.2 r];rfl)]
  exact GV l (some c.Key) _ (fun x hx=>hc x hx) hl (fun x hx=>h3 x (List.mem_cons_of_mem _ hx))
theorem Lz:∀ (hs:List Held) (r:aC),(∀h∈hs,aZ h.Place=0/\0<=h.ak/\h.ak<10000)->(hs.map hrow).foldl tJ r=⟨r.ao,r.Things,r.Held++hs,r.Notes,r.ae,r.ah⟩
 | [],r,_=>by rw [List.map_nil,List.foldl_nil,List.append_nil]
 | h::hs,r,k=>by
  obtain ⟨k1,k2,k3⟩:=k h (List.mem_cons_self ..)
  rw [List.map_cons,List.foldl_cons,show tJ r (hrow h)=Iu r h by unfold tJ;rw [Lm r k1 k2 k3],Lz hs _ (fun x hx=>k x (List.mem_cons_of_mem _ hx))]
  simp only [Iu,List.append_assoc,List.cons_append,List.nil_append]
structure Va (t:aE):Prop where
  i0:0<=t.ID
  i9:t.ID<10000
  kd:t.Kind=1∨t.Kind=2/\t.Data.size=0
  ds:t.Data.size<=8
theorem LA:∀ (ts:List aE) (r:aC),(∀t∈ts,Va t)->(ts.map l5).foldl tJ r=⟨r.ao,r.Things++ts,r.Held,r.Notes,r.ae,r.ah⟩
 | [],r,_=>by rw [List.map_nil,List.foldl_nil,List.append_nil]
 | t::ts,r,k=>by
  obtain ⟨k1,k2,k3,k4⟩:=k t (List.mem_cons_self ..)
  rw [List.map_cons,List.foldl_cons,show tJ r (l5 t)=Iv r t by unfold tJ;rw [Ln r k1 k2 k3 k4],LA ts _ (fun x hx=>k x (List.mem_cons_of_mem _ hx))]
  simp only [Iv,List.append_assoc,List.cons_append,List.nil_append]
theorem LB:∀ (ws:List ak) (r:aC),(∀w∈ws,Ri w)->(ws.map oo).foldl tJ r=⟨r.ao++ws,r.Things,r.Held,r.Notes,r.ae,r.ah⟩
 | [],r,_=>by rw [List.map_nil,List.foldl_nil,List.append_nil]
 | w::ws,r,k=>by
  rw [List.map_cons,List.foldl_cons,show tJ r (oo w)=DK r w by unfold tJ;rw [Lp r (k w (List.mem_cons_self ..))],LB ws _ (fun x hx=>k x (List.mem_cons_of_mem _ hx))]
  simp only [DK,List.append_assoc,List.cons_append,List.nil_append]
theorem Ix {l:List ak}(h:cS l):l.Pairwise (fun a b=>a.ID<b.ID):=by
 have key:∀ (n i j:Nat) (x y:ak),j=i+n+1->l[i]? = some x->l[j]? = some y->x.ID<y.ID:=by
  intro n
  induction n with
  | zero =>
   intro i j x y e hx hy
   have hs:=h.steps j (List.getElem?_eq_some_iff.1 hy).1
   by_cases hlt:x.ID<y.ID
   .exact hlt
   .
    by_cases hf:ct y=0
    .rw [m9 hy hf (by omega) (by rw [show j-1=i by omega];exact hx) hlt] at hs;omega
    .rw [jj hy hf] at hs;omega
  | succ n ih =>
   intro i j x y e hx hy
   have hj:j-1<l.length:=by have:=(List.getElem?_eq_some_iff.1 hy).1;omega
   have hz:=List.getElem?_eq_getElem hj
   exact Int.lt_trans (ih i (j-1) x l[j-1] (by omega) hx hz) (by
    have hs:=h.steps j (List.getElem?_eq_some_iff.1 hy).1
    by_cases hlt:l[j-1].ID<y.ID
    .exact hlt
    .
     by_cases hf:ct y=0
     .rw [m9 hy hf (by omega) hz hlt] at hs;omega
     .rw [jj hy hf] at hs;omega)
 rw [List.pairwise_iff_getElem]
 intro i j hi hj hij
 exact key (j-i-1) i j _ _ (by omega) (List.getElem?_eq_getElem hi) (List.getElem?_eq_getElem hj)
theorem Inv.OL {r:aC}(h:Inv r){t:aE}(ht:t∈r.Things):Va t:=by
 have a:=h.vJ t ht;have b:=h.pH;have c:=h.jC t ht;have d:=h.jD t ht
 refine ⟨by omega,by omega,?_,d.1⟩
 rcases c with c|c
 .exact .inl c
 .exact .inr ⟨c,by rw [d.2 c];rfl⟩
theorem Inv.Iy {r:aC}(h:Inv r){x:Held}(hx:x∈r.Held):aZ x.Place=0/\1<=x.ak/\x.ak<10000:=by
 obtain ⟨w,hw,e⟩:=h.eP x hx
 have k:=h.tree.mem hw
 have:=k.id1;have:=k.OB
 exact ⟨((Dw.1 h.good).2 x hx).1,by omega,by omega⟩
theorem yp {α β:Type}{R:β->β->Prop}{S:α->α->Prop}(f:α->β):∀ {l:List α},l.Pairwise S->(∀x∈l,∀y∈l,S x y->R (f x) (f y))->(l.map f).Pairwise R
 | [],_,_=>List.Pairwise.nil
 | a::l,h,k=>by
  obtain ⟨h1,h2⟩:=List.pairwise_cons.1 h
  refine List.pairwise_cons.2 ⟨fun y hy=>?_,yp f h2 (fun x hx y hy=>k x (List.mem_cons_of_mem _ hx) y (List.mem_cons_of_mem _ hy))⟩
  obtain ⟨x,hx,rfl⟩:=List.mem_map.1 hy
  exact k a (List.mem_cons_self ..) x (List.mem_cons_of_mem _ hx) (h1 x hx)
theorem Ae {r:aC}(h:Inv r):dt (rowsOf r):=by
 have hx:bl kX=[120]:=rfl
 have kh:∀x∈r.Held,bl (hrow x).Key=[104,d8 x.Place.aA.toNat,d8 x.Place.Slot.toNat]:=fun x hx=>hkey (h.Iy hx).1
 have kt:∀t∈r.Things,bl (l5 t).Key=116::Fq t.ID.toNat:=fun t ht=>tkey (h.OL ht).i0 (h.OL ht).i9
 have kw:∀w∈r.ao,bl (oo w).Key=119::Fq w.ID.toNat:=fun w hw=>by
  have:=(h.tree.mem hw).id1;have:=(h.tree.mem hw).OB;exact Ll (by omega) (by omega)
 unfold dt rowsOf
 refine List.pairwise_append.2 ⟨List.pairwise_append.2 ⟨List.pairwise_append.2 ⟨?_,?_,?_⟩,?_,?_⟩,List.pairwise_singleton _ _,?_⟩
 .exact yp hrow (Dw.1 h.good).1 (fun x hx y hy hl=>Ni (h.Iy hx).1 (h.Iy hy).1 hl)
 .exact yp l5 h.jq (fun x hx y hy hl=>Nj (h.OL hx).i0 (h.OL hy).i9 hl)
 .
  intro a ha b hb
  obtain ⟨x,hx,rfl⟩:=List.mem_map.1 ha;obtain ⟨y,hy,rfl⟩:=List.mem_map.1 hb
  exact rq (kh x hx) (kt y hy) (by decide)
 .exact yp oo (Ix h.tree) (fun x hx y hy hl=>by
   have:=(h.tree.mem hx).id1;have:=(h.tree.mem hy).OB;exact Nk (by omega) (by omega) hl)
 .
  intro a ha b hb
  obtain ⟨y,hy,rfl⟩:=List.mem_map.1 hb
  rcases List.mem_append.1 ha with ha|ha
  .
   obtain ⟨x,hx,rfl⟩:=List.mem_map.1 ha
   exact rq (kh x hx) (kw y hy) (by decide)
  .
   obtain ⟨x,hx,rfl⟩:=List.mem_map.1 ha
   exact rq (kt x hx) (kw y hy) (by decide)
 .
  intro a ha b hb
  rw [List.mem_singleton.1 hb]
  rcases List.mem_append.1 ha with ha|ha
  .
   rcases List.mem_append.1 ha with ha|ha
   .
    obtain ⟨x,hx',rfl⟩:=List.mem_map.1 ha
    exact rq (kh x hx') hx (by decide)
   .
    obtain ⟨x,hx',rfl⟩:=List.mem_map.1 ha
    exact rq (kt x hx') hx (by decide)
  .
   obtain ⟨x,hx',rfl⟩:=List.mem_map.1 ha
   exact rq (kw x hx') hx (by decide)
theorem Iz {r:aC}(h:Inv r):∀c∈rowsOf r,c.Gone=false /\ ∀s,(rowP s c).2=true:=by
 have a1:=h.o0;have a2:=h.rl;have a3:=h.pG;have a4:=h.pH
 intro c hc
 unfold rowsOf at hc
 rcases List.mem_append.1 hc with hc|hc
 .
  rcases List.mem_append.1 hc with hc|hc
  .
   rcases List.mem_append.1 hc with hc|hc
   .
    obtain ⟨x,hx,rfl⟩:=List.mem_map.1 hc
    have k:=h.Iy hx
    exact ⟨rfl,fun s=>by rw [Lm s k.1 (by omega) k.2.2]⟩
   .
    obtain ⟨x,hx,rfl⟩:=List.mem_map.1 hc
    have k:=h.OL hx
    exact ⟨rfl,fun s=>by rw [Ln s k.i0 k.i9 k.kd k.ds]⟩
  .
   obtain ⟨x,hx,rfl⟩:=List.mem_map.1 hc
   exact ⟨rfl,fun s=>by rw [Lp s (h.tree.mem hx)]⟩
 .
  rw [List.mem_singleton.1 hc]
  exact ⟨rfl,fun s=>by rw [Lq s r (by omega) (by omega)]⟩
theorem IA {r:aC}(h:Inv r)(hn:r.Notes=[]):(rowsOf r).foldl tJ r0=r:=by
 have a1:=h.o0;have a2:=h.rl;have a3:=h.pG;have a4:=h.pH
 unfold rowsOf
 rw [List.foldl_append,List.foldl_append,List.foldl_append,Lz _ _ (fun x hx=>⟨(h.Iy hx).1,by have:=(h.Iy hx).2.1;omega,(h.Iy hx).2.2⟩),LA _ _ (fun t ht=>h.OL ht),LB _ _ (fun w hw=>h.tree.mem hw)]
 rw [List.foldl_cons,List.foldl_nil]
 unfold tJ
 rw [Lq _ r (by omega) (by omega)]
 obtain ⟨a,b,c,d,e,f⟩:=r
 simp only at hn
 subst hn
 simp [Ng,r0]
theorem Af:∀ (a b:List Int),a.Pairwise (· < ·)->b.Pairwise (· < ·)->(∀x,x∈a↔x∈b)->a=b
 | [],[],_,_,_=>rfl
 | [],y::b,_,_,h=>by have:=(h y).2 (List.mem_cons_self ..);cases this
 | x::a,[],_,_,h=>by have:=(h x).1 (List.mem_cons_self ..);cases this
 | x::a,y::b,ha,hb,h=>by
  obtain ⟨a1,a2⟩:=List.pairwise_cons.1 ha
  obtain ⟨b1,b2⟩:=List.pairwise_cons.1 hb
  have e:x=y:=by
   rcases List.mem_cons.1 ((h x).1 (List.mem_cons_self ..)) with e|h1
   .exact e
   .
    rcases List.mem_cons.1 ((h y).2 (List.mem_cons_self ..)) with e|h2
    .exact e.symm
    .have:=b1 x h1;have:=a1 y h2;omega
  subst e
  congr 1
  refine Af a b a2 b2 (fun z=>?_)
  have hz:=h z
  simp only [List.mem_cons] at hz
  constructor
  .
   intro h1
   rcases hz.1 (.inr h1) with e|h2
   .have:=a1 z h1;omega
   .exact h2
  .
   intro h1
   rcases hz.2 (.inr h1) with e|h2
   .have:=b1 z h1;omega
   .exact h2
theorem DW {l:List ak}(h:cS l):(bU l).Pairwise (· < ·):=by
 unfold bU;rw [zN h];exact (ng l 999).1
theorem DX {α:Type}{l:List α}{y:α}(hy:l.getLast? = some y):y∈l:=by
 obtain ⟨a,rfl⟩:=List.getLast?_eq_some_iff.1 hy;simp
theorem Inv.ids {r:aC}(h:Inv r):r.Things.map aE.ID=bU r.ao :=
 Af _ _ (yp aE.ID h.jq (fun _ _ _ _ h=>h)) (DW h.tree) fun x=>by
  rw [lh h.tree,List.mem_map]
  constructor
  .rintro ⟨t,ht,rfl⟩;exact h.used t ht
  .rintro ⟨w,hw,rfl⟩;exact h.thing w hw
theorem Inv.nodup {r:aC}(h:Inv r):(r.Held.map Held.ak).Nodup:=by
 rw [List.nodup_iff_count]
 intro a
 by_cases ha:∃w∈r.ao,w.ID=a
 .
  obtain ⟨w,hw,rfl⟩:=ha
  have:=h.once w hw
  have e:(r.Held.map Held.ak).count w.ID=cH r.Held w.ID:=by
   unfold cH;rw [List.count,List.countP_map];rfl
  omega
 .
  rw [List.count_eq_zero.2 (fun hm=>?_)]
  .omega
  .
   obtain ⟨x,hx,rfl⟩:=List.mem_map.1 hm
   exact ha (h.eP x hx)
theorem Inv.whole {r:aC}(h:Inv r)(hl:r.Held.length=r.ao.length):Whole r where
 tree:=h.tree
 jr:=h.jr
 o0:=h.o0
 rl:=h.rl
 pG:=h.pG
 pH:=h.pH
 hlen:=hl
 eP:=fun x hx=>by
  obtain ⟨w,hw,e⟩:=h.eP x hx
  exact lf.2 ⟨w,hw,e⟩
 once:=h.nodup
 things:=h.ids
 OG:=fun w hw=>h.sy w (DX hw)
 OH:=fun t ht=>(h.vJ t (DX ht)).2
theorem Fx {r:aC}(h:Inv r)(hn:r.Notes=[])(hl:r.Held.length=r.ao.length):cr (rowsOf r)=(r,0):=by
 have h1:=GV (rowsOf r) none r0 (fun _ _=>rfl) (Ae h) (Iz h)
 unfold cr
 rw [h1,IA h hn]
 dsimp only
 rw [if_pos (yl (h.whole hl))]
theorem u6 {r:aC}(h:Inv r):cr (bH r)=(bj r,0):=by
 obtain ⟨h1,h2,h3,h4,h5⟩:=jz h
 exact Fx h1 h2 h4
theorem oq {r:aC}(h:Inv r):(bH r).length<=60:=by
 obtain ⟨h1,h2,h3,h4,h5⟩:=jz h
 have a:=tH h1;have b:=h1.jr
 unfold bH rowsOf
 simp only [List.length_append,List.length_map,List.length_cons,List.length_nil]
 omega
section
open Go Go.RowKit
theorem iE (n:Int)(w:World)(ht:DR w)(hn : -9223372036854775808<=n/\n<=9223372036854775807):Calls Tryz.prog 131 #[iV n] w fun e w'=>e = .returned (.string (bN n))/\Ext w w':=by
 have il:=yn hn;have ip:=Lw n
 refine R.enter [] [(0,iV n)] Tryz.func131 O O O O<|R.nK (r:=eC) ht (BS ht)<|R.reg O<|R.u 1 O<|R.nil<|R.reg O<|R.u 1 O<|R.c (q.call EE O O (fun w hw=>(ym n w (by exact hw.okF eC (by repeat (exact List.Mem.head _))) ‹_›))) O<|R.u 1 O<|R.nil ?_
 refine R.reg O<|R.u 1 O<|R.q (q.iA O Tryz.underlying9) O<|R.q (q.lV (r:=4-((gS n).size:Int)) O O) O<|R.q (q.max (r:=max 0 (4-((gS n).size:Int))) O O O) O<|R.c (q.call PG O O (fun w hw=>(Fu (⟨#[48]⟩) (max 0 (4-((gS n).size:Int))) w O (by omega)))) O<|R.u 1 O<|R.q (q.cat O O (by (rw [GR];omega))) O<|R.u 1 O<|R.nil ?_
 exact R.rv O Tryz.results131 O (rS (by (unfold bN;rw [show (max 0 (4-((gS n).size:Int))).toNat=4-(gS n).size by omega])))
def numsL (s:ByteArray)(m:Nat):List Int:=(dW s m).getD []
def eD (s:ByteArray)(m:Nat):Bool:=(dW s m).isSome
theorem Nl {s:ByteArray}{m:Nat}(h:s.size<4*m):(numsL s m,eD s m)=([],false):=by unfold numsL eD dW;rw [if_pos h];rfl
theorem DY {s:ByteArray}{m k:Nat}{l:List Int}(h:¬ s.size<4*m)(hk:k<m)(hl:jN s k=some l)(hn:vz (s.extract (4*k) (4*k+4))=none):(numsL s m,eD s m)=([],false):=by
 unfold numsL eD dW;rw [if_neg h,Iq hk hl hn];rfl
theorem Nm {s:ByteArray}{m:Nat}{l:List Int}(h:¬ s.size<4*m)(hl:jN s m=some l):(numsL s m,eD s m)=(l,true):=by
 unfold numsL eD dW;rw [if_neg h,hl];rfl
theorem Nn {s:ByteArray}(h:¬ (Lib.atoi s.data.toList).isSome=true):vz s=none:=by
 unfold vz;cases hq:Lib.atoi s.data.toList with|none=>rfl|some n=>rw [hq] at h;exact absurd rfl h
theorem Np {s:ByteArray}(h:¬ bN (aV s)=s):vz s=none:=by
 unfold vz;unfold aV at h
 cases hq:Lib.atoi s.data.toList with
 | none=>rfl
 | some n=>rw [hq] at h;dsimp only;exact if_neg h
theorem LC {s:ByteArray}(h:(Lib.atoi s.data.toList).isSome=true)(he:bN (aV s)=s):vz s=some (aV s):=by
 unfold vz;unfold aV at he ⊢
 cases hq:Lib.atoi s.data.toList with
 | none=>rw [hq] at h;cases h
 | some n=>rw [hq] at he;dsimp only;exact if_pos he
theorem lH (sb:ByteArray)(m:Nat)(w:World)(own:List Nat)(H:HN w own [] [eC])(hs:sb.size<=1000000/\m<=4):RC Tryz.prog 150 #[.string sb,iV (m:Int)] H (fun z:Value => .tuple #[z,.bool (eD sb m)]) (fun z=>[ag.row 3 z (numsL sb m)]) (fun _=>[]):=by
 refine R.bD [(0,.string sb),(1,iV (m:Int))] Tryz.func150 O O O O H<|R.reg O<|R.u 2 O<|R.nil<|R.reg O<|R.u 1 O<|R.q (q.iA O Tryz.underlying9) O<|R.u 1 O<|R.q (q.vg (r:=((4*m:Nat):Int)) O O) O<|?_
 by_cases h1:sb.size<(4*m)
 .
  refine R.q (q.dz O O) O<|R.nil<|R.av O O<|R.reg O<|R.u 2 O<|R.nil<|R.row0 (α:=Int) 3 ?_
  have hz:(numsL sb m,eD sb m)=([],false):=by (exact Nl (by omega))
  have hz0:numsL sb m=[]:=congrArg (fun t_=>t_.1) hz
  rw [hz0]
  have hz1:eD sb m=false:=congrArg (fun t_=>t_.2) hz
  rw [hz1]
  exact R.w2 (nS) [0,1] [] O Tryz.results150 (RV.tmp O) (RV.tmp O) O O O (dA O O)
 refine R.q (q.cW O O) O<|R.nil<|R.aB O O<|R.reg O<|R.u 1 O<|R.nil<|R.reg O<|R.u 2 O<|R.nil<|R.row0 (α:=Int) 3<|R.loop (fun g_:Nat×Value×(List Int)=>[(0,.string sb),(6,g_.2.1),(15,iV (m:Int)),(16,iV (g_.1:Int))]) (fun g_=>[ag.row 3 g_.2.1 g_.2.2,ag.held w own]) (fun g_=>[eC]) (fun g_=>g_.1<=m/\jN sb g_.1=some g_.2.2) (fun g_=>m-g_.1) (0,(nS),[]) O (by exact ⟨by omega,rfl⟩) (sF O) (ic [0,1] [0] O) ?_
 rintro ⟨k,u,l⟩ ⟨hk,HL⟩
 dsimp only at *
 have ab:=Lv (s:=sb.extract (4*k) (4*k+4)) (by rw [ByteArray.size_extract];omega);have gl:=uu HL
 refine R.reg O<|?_
 by_cases h2:k<m
 .
  refine R.q (q.dz O O) O<|R.nil<|R.av O O<|R.reg O<|R.u 2 O<|R.nil<|R.reg O<|R.u 2 O<|R.q (q.vg (r:=((4*k:Nat):Int)) O O) O<|R.u 1 O<|R.q (q.vg (r:=((4*k:Nat):Int)) O O) O<|R.q (q.bB (r:=(((4*k)+4:Nat):Int)) O O) O<|R.q (q.Cr (i:=(4*k)) (j:=((4*k)+4)) O O O Tryz.underlying9 O O (by omega) (by omega)) O<|?_
  by_cases h3:(Lib.atoi (sb.extract (4*k) ((4*k)+4)).data.toList).isSome=true
  .
   refine R.c (q.call JD O O (fun w hw=>(Lt (sb.extract (4*k) ((4*k)+4)) w ‹_› (by rw [ByteArray.size_extract];omega)))) O<|R.u 5 O<|R.nil ?_
   by_cases h4:bN (aV (sb.extract (4*k) ((4*k)+4)))=(sb.extract (4*k) ((4*k)+4))
   .
    refine R.eu O mixed (by kernel_rfl)<|Q.u 1 O<|Q.q (q.vY O O Tryz.underlying38) O<|Q.u 2 O<|Q.cg O (q.call lN O O (fun w hw=>(iE (aV (sb.extract (4*k) ((4*k)+4))) w (by exact hw.okF eC (by repeat (exact List.Mem.head _))) ‹_›))) O<|Q.u 2 O<|Q.qg O (q.vg (r:=((4*k:Nat):Int)) O O) O<|Q.u 1 O<|Q.qg O (q.vg (r:=((4*k:Nat):Int)) O O) O<|Q.qg O (q.bB (r:=(((4*k)+4:Nat):Int)) O O) O<|Q.qg O (q.Cr (i:=(4*k)) (j:=((4*k)+4)) O O O Tryz.underlying9 O O (by omega) (by omega)) O<|Q.qg O (q.uG O O h4) O<|Q.u 1 O<|Q.nil<|R.aB O O<|R.reg O<|R.u 2 O<|R.s O (s.bs (l:=([aV (sb.extract (4*k) ((4*k)+4))]:List Int)) df lW O O O O O O O) fun b1=>?_
    refine R.s O (s.app 1 _ O O O (bC 0 O) nQ (by (simp;omega)) (by (simp;omega)) (fun _=>rfl) O) fun v1=>?_
    refine R.u 1 O<|R.nil<|R.reg O<|R.q (q.bB (r:=((k+1:Nat):Int)) O O) O<|R.u 1 O<|R.nil<|R.back (k+1,v1,(l++([aV (sb.extract (4*k) ((4*k)+4))]))) O (by (exact ⟨by omega,Fp HL (LC ‹_› ‹_›)⟩)) (by dsimp only;omega) (sF O) (aD [1,2] [0] O)
   refine R.eu O mixed (by kernel_rfl)<|Q.u 1 O<|Q.q (q.vY O O Tryz.underlying38) O<|Q.u 2 O<|Q.cg O (q.call lN O O (fun w hw=>(iE (aV (sb.extract (4*k) ((4*k)+4))) w (by exact hw.okF eC (by repeat (exact List.Mem.head _))) ‹_›))) O<|Q.u 2 O<|Q.qg O (q.vg (r:=((4*k:Nat):Int)) O O) O<|Q.u 1 O<|Q.qg O (q.vg (r:=((4*k:Nat):Int)) O O) O<|Q.qg O (q.bB (r:=(((4*k)+4:Nat):Int)) O O) O<|Q.qg O (q.Cr (i:=(4*k)) (j:=((4*k)+4)) O O O Tryz.underlying9 O O (by omega) (by omega)) O<|Q.qg O (q.zd O O h4) O<|Q.u 1 O<|Q.nil<|R.av O O<|R.reg O<|R.u 2 O<|R.nil<|R.row0 (α:=Int) 3 ?_
   have hz:(numsL sb m,eD sb m)=([],false):=by (exact DY (by omega) (by omega) HL (Np ‹_›))
   have hz0:numsL sb m=[]:=congrArg (fun t_=>t_.1) hz
   rw [hz0]
   have hz1:eD sb m=false:=congrArg (fun t_=>t_.2) hz
   rw [hz1]
   exact R.w2 (nS) [0,2] [] O Tryz.results150 (RV.tmp O) (RV.tmp O) O O O (dA O O)
  refine R.s O (s.aW [0,1] [0] _ _ _ O O O JD O O (fun w own hw H=>Lu (sb.extract (4*k) ((4*k)+4)) w own H ‹_› (by rw [ByteArray.size_extract];omega)) O) fun z1=>?_
  refine R.u 5 O<|R.nil<|R.eu O mixed (by kernel_rfl)<|Q.u 1 O<|Q.q (q.NQ O O Tryz.underlying38) O<|Q.u 12 O<|Q.nil<|R.av O O<|R.reg O<|R.u 2 O<|R.nil<|R.row0 (α:=Int) 3 ?_
  have hz:(numsL sb m,eD sb m)=([],false):=by (exact DY (by omega) (by omega) HL (Nn ‹_›))
  have hz0:numsL sb m=[]:=congrArg (fun t_=>t_.1) hz
  rw [hz0]
  have hz1:eD sb m=false:=congrArg (fun t_=>t_.2) hz
  rw [hz1]
  exact R.w2 (nS) [0,2] [] O Tryz.results150 (RV.tmp O) (RV.tmp O) O O O (dA O O)
 refine R.q (q.cW O O) O<|R.nil<|R.aB O O<|R.reg O<|R.u 3 O<|R.nil ?_
 have hz:(numsL sb m,eD sb m)=(l,true):=by (have e:k=m:=(by omega);subst e;exact Nm (by omega) HL)
 have hz0:numsL sb m=l:=congrArg (fun t_=>t_.1) hz
 rw [hz0]
 have hz1:eD sb m=true:=congrArg (fun t_=>t_.2) hz
 rw [hz1]
 exact R.w2 u [0,1] [] O Tryz.results150 (RV.tmp O) (RV.tmp O) O O O (dA O O)
theorem qy {α β:Type}(f:α->β){L:List α}{k:Nat}{x:α}(hx:L[k]? = some x):(L.take (k+1)).map f=(L.take k).map f++[f x]:=by
 rw [List.take_add_one,hx,List.map_append];rfl
theorem yq {α β:Type}(f:α->β){L:List α}{k:Nat}(h:L.length<=k):(L.take k).map f=L.map f:=by rw [List.take_of_length_le h]
structure Wa (q:aC):Prop where
  i:Inv q
  h:∀x∈q.Held,(gS x.Place.aA).size<=21/\(gS x.Place.Slot).size<=21/\(bN x.ak).size<=25/\0<=x.Place.aA/\x.Place.aA<=4/\0<=x.Place.Slot/\x.Place.Slot<=5/\0<=x.ak/\x.ak<=10000
  t:∀x∈q.Things,(bN x.ID).size<=25/\(bN x.Kind).size<=25/\x.Data.size<=8/\0<=x.ID/\x.ID<=10000/\0<=x.Kind/\x.Kind<=2
  w:∀x∈q.ao,((bN x.ID).size<=25/\(bN x.aE).size<=25/\(bN x.Rights).size<=25/\(bN x.aQ).size<=25/\(bN x.From).size<=25)/\0<=x.ID/\x.ID<=999/\0<=x.aE/\x.aE<=999/\0<=x.Rights/\x.Rights<=7/\0<=x.aQ/\x.aQ<=99/\0<=x.From/\x.From<=999
  n:(bN q.ae).size<=25/\(bN q.ah).size<=25
theorem lu {n:Int}(h:0<=n/\n<=10000):(bN n).size<=25:=Lx (by omega)
theorem GX {n:Int}(h:0<=n/\n<=10000):(gS n).size<=21:=yn (by omega)
theorem Inv.Wb {q:aC}(i:Inv q):Wa q where
 i:=i
 h:=fun x hx=>by
  have k:=i.Iy hx;have p:=cw k.1;have k1:=k.2.1;have k2:=k.2.2
  exact ⟨GX (by omega),GX (by omega),lu (by omega),by omega,by omega,by omega,by omega,by omega,by omega⟩
 t:=fun x hx=>by
  have k:=i.OL hx;have a:=k.i0;have b:=k.i9;have c:=k.kd;have d:=k.ds
  exact ⟨lu (by omega),lu (by omega),d,a,by omega,by omega,by omega⟩
 w:=fun x hx=>by
  have k:=i.tree.mem hx;have i1:=k.id1;have i9:=k.OB;have t1:=k.Qp;have t9:=k.Qq;have a0:=k.Qr;have a9:=k.Qs;have f0:=k.Rj;have fl:=k.Qu;have q0:=k.KG;have q7:=k.KH
  exact ⟨⟨lu (by omega),lu (by omega),lu (by omega),lu (by omega),lu (by omega)⟩,by omega,by omega,by omega,by omega,by omega,by omega,by omega,by omega,by omega,by omega⟩
 n:=by
  have a1:=i.o0;have a2:=i.rl;have a3:=i.pG;have a4:=i.pH
  exact ⟨lu (by omega),lu (by omega)⟩
theorem yr (bS bK bL bM:Value)(r:aC)(w:World)(own:List Nat)(H:HN w own [] [ag.ls bS r.ao,ag.ls bK r.Things,ag.ls bL r.Held,ag.ls bM r.Notes,eC])(hk:Ok r)(hI:Inv r):RC Tryz.prog 64 #[.agg #[bS,bK,bL,bM,iV r.ae,iV r.ah]] H (fun z:Value=>z) (fun z=>[ag.row 117 z (bH r)]) (fun _=>[]):=by
 have eJ:=H.cq 0 rfl
 have dN:=H.cq 1 rfl
 have fH:=H.cq 2 rfl
 have eK:=H.cq 3 rfl
 have bw:=hk.wl;have bt:=hk.tl;have bh:=hk.hl;have bn:=hk.nl;have KV:=hk.w0;have KW:=hk.w1;have KX:=hk.t0;have KY:=hk.t1
 have hq:=(jz hI).1.Wb
 have hn:=hq.n;have o0:=hq.i.o0;have rl:=hq.i.rl;have pG:=hq.i.pG;have pH:=hq.i.pH;have hl0:=tH hq.i;have Wx:=hq.i.jr;have Wy:=(jz hI).2.2.2.1
 refine R.bD [(0,.agg #[bS,bK,bL,bM,iV r.ae,iV r.ah])] Tryz.func64 O O O O H<|R.reg O<|R.s O (s.box O O O) fun b1=>?_
 refine R.u 1 O<|R.nil<|R.reg O<|R.q (q.dh 0 O O aj) O<|R.s O (s.aW [0,1] bJ _ _ _ O O O RX O O (fun w own hw H=>Fw bS bK bL bM r w own H ‹_›) O) ?_
 rintro ⟨z1,z2,z3,z4⟩
 dsimp only
 refine R.s O (s.fS 0 _ O O O (fun _ _=>rfl) (.inl aj) (fun w hw=>(af (Sl.one (hw.bG 0 O)) (af (Sl.one (hw.bG 1 O)) (af (Sl.one (hw.bG 2 O)) (af (Sl.one (hw.bG 3 O)) (af O (af O aP))))))) O O O) fun _=>?_
 refine R.nil<|R.reg O<|R.u 1 O<|R.nil<|R.reg O<|R.q (q.aO O cB O) O<|R.q (q.ld 0 O O dE O) O<|R.q (q.len' (dy 2 O) O Tryz.underlying45) O<|R.u 1 O<|R.nil<|R.row0 (α:=Change) 117<|R.loop (fun g_:Nat×Value×(List Change)=>[(1,.pointer (some ⟨b1,0,none⟩)),(3,g_.2.1),(13,z3),(14,iV ((bj r).Held.length:Int)),(15,iV (g_.1:Int))]) (fun g_=>[ag.row 117 g_.2.1 g_.2.2,ag.box b1 [z1,z2,z3,z4,iV (bj r).ae,iV (bj r).ah] 48,ag.held w own]) (fun g_=>[ag.ls z1 (bj r).ao,ag.ls z2 (bj r).Things,ag.ls z3 (bj r).Held,ag.ls z4 (bj r).Notes,ag.ls bS r.ao,ag.ls bK r.Things,ag.ls bL r.Held,ag.ls bM r.Notes,eC]) (fun g_=>g_.1<=(bj r).Held.length/\g_.2.2=((bj r).Held.take g_.1).map hrow) (fun g_=>(bj r).Held.length-g_.1) (0,(nS),[]) O (by exact ⟨by omega,rfl⟩) (sF O) (ic [0,1,2] bZ O) ?_
 rintro ⟨k,u,l⟩ ⟨hk,HL⟩
 dsimp only at *
 have ll:l.length<=24:=by rw [HL,List.length_map,List.length_take];omega
 refine R.reg O<|?_
 by_cases h1:k<(bj r).Held.length
 .
  refine R.q (q.dz O O) O<|R.nil<|R.av O O<|R.reg O<|?_
  obtain ⟨x1,hx1⟩:∃z,((bj r).Held)[k]? = some z:=⟨_,List.getElem?_eq_getElem (by omega)⟩
  have P8:=hq.h _ (List.mem_of_getElem? hx1)
  refine R.q (q.idx (i:=k) (dy 2 O) O O cK O hx1) O<|R.q (q.eS (ds:=lJ x1) (dy 2 O) hx1 O eV O) O<|R.s O (s.alloc gY O O) fun b2=>?_
  refine R.s O (s.st 0 _ O O O O (.inl eV) O O O O) fun _=>?_
  refine R.nil<|R.fP (fuel:=18) [0,2,3] O O mixed O<|D.q (i:=0) O (aD [0,2,3] bZ O) O (q.mv O) O<|D.q (i:=1) O (aD [0,2,3] bZ O) O (q.aO O rV O) O<|D.q (i:=2) O (aD [0,2,3] bZ O) O (q.aO O ft O) O<|D.q (i:=3) O (aD [0,2,3] bZ O) O (q.ld 0 O O au O) O<|D.q (i:=6) O (aD [0,2,3] bZ O) O (q.aO O rV O) O<|D.q (i:=7) O (aD [0,2,3] bZ O) O (q.aO O nL O) O<|D.q (i:=8) O (aD [0,2,3] bZ O) O (q.ld 0 O O au O) O<|D.q (i:=11) O (aD [0,2,3] bZ O) O (q.aO O jS O) O<|D.q (i:=12) O (aD [0,2,3] bZ O) O (q.ld 0 O O au O) O<|D.one (i:=4) O<|Do.s (s.c (q.call EE O O (fun w hw=>(ym x1.Place.aA w (by exact hw.okF eC (by repeat (first|exact List.Mem.head _|refine List.Mem.tail _ ?_))) (by omega)))) O) (fun _=>(aD [0,2,3] bZ O)) O fun _=>?_
  refine D.q (i:=5) O (aD [0,2,3] bZ O) O (q.cat O O (by (simp only [ByteArray.size_append,aI,List.length_cons,List.length_nil];omega))) O<|D.one (i:=9) O<|Do.s (s.c (q.call EE O O (fun w hw=>(ym x1.Place.Slot w (by exact hw.okF eC (by repeat (first|exact List.Mem.head _|refine List.Mem.tail _ ?_))) (by omega)))) O) (fun _=>(aD [0,2,3] bZ O)) O fun _=>?_
  refine D.q (i:=10) O (aD [0,2,3] bZ O) O (q.cat O O (by (simp only [ByteArray.size_append,aI,List.length_cons,List.length_nil];omega))) O<|D.one (i:=13) O<|Do.s (s.c (q.call lN O O (fun w hw=>(iE x1.ak w (by exact hw.okF eC (by repeat (first|exact List.Mem.head _|refine List.Mem.tail _ ?_))) (by omega)))) O) (fun _=>(aD [0,2,3] bZ O)) O fun _=>?_
  refine D.q (i:=14) O (aD [0,2,3] bZ O) O (q.build kM O O) O<|D.one (i:=15) O<|Do.s (s.bs (l:=([(⟨((⟨#[104]⟩++gS x1.Place.aA)++gS x1.Place.Slot),bN x1.ak,false⟩:Change)]:List Change)) cd cI O O O O O O O) (fun _=>(aD [1,3,4] bZ O)) O fun b3=>?_
  refine D.one (i:=16) O<|Do.s (s.app 2 _ O O O (bC 0 O) jw (by (simp;omega)) (by (simp;omega)) (fun _=>rfl) O) (fun _=>(aD [1,3,4] bZ O)) O fun v1=>?_
  refine D.q (i:=17) O (aD [1,3,4] bZ O) O (q.as O) O<|D.done<|R.reg O<|R.q (q.bB (r:=((k+1:Nat):Int)) O O) O<|R.u 1 O<|R.nil<|R.back (k+1,v1,(l++([(⟨((⟨#[104]⟩++gS x1.Place.aA)++gS x1.Place.Slot),bN x1.ak,false⟩:Change)]))) O (by (exact ⟨by omega,by rw [qy hrow hx1,<- HL];rfl⟩)) (by dsimp only;omega) (sF O) (aD [2,3,4] bZ O)
 refine R.q (q.cW O O) O<|R.nil<|R.aB O O<|R.reg O<|R.q (q.aO O cz O) O<|R.q (q.ld 1 O O dD O) O<|R.q (q.len' (dy 1 O) O Tryz.underlying44) O<|R.u 1 O<|R.nil<|R.loop (fun g_:Nat×Value×(List Change)=>[(1,.pointer (some ⟨b1,0,none⟩)),(3,g_.2.1),(38,z2),(39,iV ((bj r).Things.length:Int)),(40,iV (g_.1:Int))]) (fun g_=>[ag.row 117 g_.2.1 g_.2.2,ag.box b1 [z1,z2,z3,z4,iV (bj r).ae,iV (bj r).ah] 48,ag.held w own]) (fun g_=>[ag.ls z1 (bj r).ao,ag.ls z2 (bj r).Things,ag.ls z3 (bj r).Held,ag.ls z4 (bj r).Notes,ag.ls bS r.ao,ag.ls bK r.Things,ag.ls bL r.Held,ag.ls bM r.Notes,eC]) (fun g_=>g_.1<=(bj r).Things.length/\g_.2.2=(bj r).Held.map hrow++((bj r).Things.take g_.1).map l5) (fun g_=>(bj r).Things.length-g_.1) (0,u,l) O (by exact ⟨by omega,by rw [HL,yq _ (by omega)];exact (List.append_nil _).symm⟩) (sF O) (ic [0,1,2] bZ O) ?_
 rintro ⟨j,u2,l2⟩ ⟨hj,HL2⟩
 dsimp only at *
 have Vb:l2.length<=34:=by rw [HL2,List.length_append,List.length_map,List.length_map,List.length_take];omega
 refine R.reg O<|?_
 by_cases h2:j<(bj r).Things.length
 .
  refine R.q (q.dz O O) O<|R.nil<|R.av O O<|R.reg O<|?_
  obtain ⟨x2,hx2⟩:∃z,((bj r).Things)[j]? = some z:=⟨_,List.getElem?_eq_getElem (by omega)⟩
  have Wc:=hq.t _ (List.mem_of_getElem? hx2)
  refine R.q (q.idx (i:=j) (dy 1 O) O O iM O hx2) O<|R.q (q.eS (ds:=mU x2) (dy 1 O) hx2 O gx O) O<|R.s O (s.alloc ju O O) fun b4=>?_
  refine R.s O (s.st 0 _ O O O O (.inl gx) O O O O) fun _=>?_
  refine R.nil<|R.fP (fuel:=15) [0,2,3] O O mixed O<|D.q (i:=0) O (aD [0,2,3] bZ O) O (q.mv O) O<|D.q (i:=1) O (aD [0,2,3] bZ O) O (q.aO O oB O) O<|D.q (i:=2) O (aD [0,2,3] bZ O) O (q.ld 0 O O au O) O<|D.q (i:=5) O (aD [0,2,3] bZ O) O (q.aO O wB O) O<|D.q (i:=6) O (aD [0,2,3] bZ O) O (q.ld 0 O O au O) O<|D.q (i:=8) O (aD [0,2,3] bZ O) O (q.aO O wC O) O<|D.q (i:=9) O (aD [0,2,3] bZ O) O (q.ld 0 O O bF O) O<|D.one (i:=3) O<|Do.s (s.c (q.call lN O O (fun w hw=>(iE x2.ID w (by exact hw.okF eC (by repeat (first|exact List.Mem.head _|refine List.Mem.tail _ ?_))) (by omega)))) O) (fun _=>(aD [0,2,3] bZ O)) O fun _=>?_
  refine D.q (i:=4) O (aD [0,2,3] bZ O) O (q.cat O O (by (simp only [ByteArray.size_append,aI,List.length_cons,List.length_nil];omega))) O<|D.one (i:=7) O<|Do.s (s.c (q.call lN O O (fun w hw=>(iE x2.Kind w (by exact hw.okF eC (by repeat (first|exact List.Mem.head _|refine List.Mem.tail _ ?_))) (by omega)))) O) (fun _=>(aD [0,2,3] bZ O)) O fun _=>?_
  refine D.q (i:=10) O (aD [0,2,3] bZ O) O (q.cat O O (by omega)) O<|D.q (i:=11) O (aD [0,2,3] bZ O) O (q.build kM O O) O<|D.one (i:=12) O<|Do.s (s.bs (l:=([(⟨(⟨#[116]⟩++bN x2.ID),(bN x2.Kind++x2.Data),false⟩:Change)]:List Change)) cd cI O O O O O O O) (fun _=>(aD [1,3,4] bZ O)) O fun b5=>?_
  refine D.one (i:=13) O<|Do.s (s.app 2 _ O O O (bC 0 O) jw (by (simp;omega)) (by (simp;omega)) (fun _=>rfl) O) (fun _=>(aD [1,3,4] bZ O)) O fun v2=>?_
  refine D.q (i:=14) O (aD [1,3,4] bZ O) O (q.as O) O<|D.done<|R.reg O<|R.q (q.bB (r:=((j+1:Nat):Int)) O O) O<|R.u 1 O<|R.nil<|R.back (j+1,v2,(l2++([(⟨(⟨#[116]⟩++bN x2.ID),(bN x2.Kind++x2.Data),false⟩:Change)]))) O (by (exact ⟨by omega,by rw [qy l5 hx2,<- List.append_assoc,<- HL2];rfl⟩)) (by dsimp only;omega) (sF O) (aD [2,3,4] bZ O)
 refine R.q (q.cW O O) O<|R.nil<|R.aB O O<|R.reg O<|R.q (q.aO O bg O) O<|R.q (q.ld 1 O O bT O) O<|R.q (q.len' (dy 0 O) O Tryz.underlying43) O<|R.u 1 O<|R.nil<|R.loop (fun g_:Nat×Value×(List Change)=>[(1,.pointer (some ⟨b1,0,none⟩)),(3,g_.2.1),(60,z1),(61,iV ((bj r).ao.length:Int)),(62,iV (g_.1:Int))]) (fun g_=>[ag.row 117 g_.2.1 g_.2.2,ag.box b1 [z1,z2,z3,z4,iV (bj r).ae,iV (bj r).ah] 48,ag.held w own]) (fun g_=>[ag.ls z1 (bj r).ao,ag.ls z2 (bj r).Things,ag.ls z3 (bj r).Held,ag.ls z4 (bj r).Notes,ag.ls bS r.ao,ag.ls bK r.Things,ag.ls bL r.Held,ag.ls bM r.Notes,eC]) (fun g_=>g_.1<=(bj r).ao.length/\g_.2.2=(bj r).Held.map hrow++(bj r).Things.map l5++((bj r).ao.take g_.1).map oo) (fun g_=>(bj r).ao.length-g_.1) (0,u2,l2) O (by exact ⟨by omega,by rw [HL2,yq _ (by omega)];exact (List.append_nil _).symm⟩) (sF O) (ic [0,1,2] bZ O) ?_
 rintro ⟨i,u3,l3⟩ ⟨hi,UD⟩
 dsimp only at *
 have Wz:l3.length<=58:=by rw [UD,List.length_append,List.length_append,List.length_map,List.length_map,List.length_map,List.length_take];omega
 refine R.reg O<|?_
 by_cases h3:i<(bj r).ao.length
 .
  refine R.q (q.dz O O) O<|R.nil<|R.av O O<|R.reg O<|?_
  obtain ⟨x3,hx3⟩:∃z,((bj r).ao)[i]? = some z:=⟨_,List.getElem?_eq_getElem (by omega)⟩
  have WA:=hq.w _ (List.mem_of_getElem? hx3)
  refine R.q (q.idx (i:=i) (dy 0 O) O O dK O hx3) O<|R.q (q.eS (ds:=im x3) (dy 0 O) hx3 O aM O) O<|R.s O (s.alloc bQ O O) fun b6=>?_
  refine R.s O (s.st 0 _ O O O O (.inl aM) O O O O) fun _=>?_
  refine R.nil<|R.fP (fuel:=24) [0,2,3] O O mixed O<|D.q (i:=0) O (aD [0,2,3] bZ O) O (q.mv O) O<|D.q (i:=1) O (aD [0,2,3] bZ O) O (q.aO O bV O) O<|D.q (i:=2) O (aD [0,2,3] bZ O) O (q.ld 0 O O au O) O<|D.q (i:=5) O (aD [0,2,3] bZ O) O (q.aO O fU O) O<|D.q (i:=6) O (aD [0,2,3] bZ O) O (q.ld 0 O O au O) O<|D.q (i:=8) O (aD [0,2,3] bZ O) O (q.aO O jT O) O<|D.q (i:=9) O (aD [0,2,3] bZ O) O (q.ld 0 O O au O) O<|D.q (i:=12) O (aD [0,2,3] bZ O) O (q.aO O iZ O) O<|D.q (i:=13) O (aD [0,2,3] bZ O) O (q.ld 0 O O au O) O<|D.q (i:=16) O (aD [0,2,3] bZ O) O (q.aO O eX O) O<|D.q (i:=17) O (aD [0,2,3] bZ O) O (q.ld 0 O O au O) O<|D.one (i:=3) O<|Do.s (s.c (q.call lN O O (fun w hw=>(iE x3.ID w (by exact hw.okF eC (by repeat (first|exact List.Mem.head _|refine List.Mem.tail _ ?_))) (by omega)))) O) (fun _=>(aD [0,2,3] bZ O)) O fun _=>?_
  refine D.q (i:=4) O (aD [0,2,3] bZ O) O (q.cat O O (by (simp only [ByteArray.size_append,aI,List.length_cons,List.length_nil];omega))) O<|D.one (i:=7) O<|Do.s (s.c (q.call lN O O (fun w hw=>(iE x3.aE w (by exact hw.okF eC (by repeat (first|exact List.Mem.head _|refine List.Mem.tail _ ?_))) (by omega)))) O) (fun _=>(aD [0,2,3] bZ O)) O fun _=>?_
  refine D.one (i:=10) O<|Do.s (s.c (q.call lN O O (fun w hw=>(iE x3.Rights w (by exact hw.okF eC (by repeat (first|exact List.Mem.head _|refine List.Mem.tail _ ?_))) (by omega)))) O) (fun _=>(aD [0,2,3] bZ O)) O fun _=>?_
  refine D.q (i:=11) O (aD [0,2,3] bZ O) O (q.cat O O (by omega)) O<|D.one (i:=14) O<|Do.s (s.c (q.call lN O O (fun w hw=>(iE x3.aQ w (by exact hw.okF eC (by repeat (first|exact List.Mem.head _|refine List.Mem.tail _ ?_))) (by omega)))) O) (fun _=>(aD [0,2,3] bZ O)) O fun _=>?_
  refine D.q (i:=15) O (aD [0,2,3] bZ O) O (q.cat O O (by (simp only [ByteArray.size_append,aI,List.length_cons,List.length_nil];omega))) O<|D.one (i:=18) O<|Do.s (s.c (q.call lN O O (fun w hw=>(iE x3.From w (by exact hw.okF eC (by repeat (first|exact List.Mem.head _|refine List.Mem.tail _ ?_))) (by omega)))) O) (fun _=>(aD [0,2,3] bZ O)) O fun _=>?_
  refine D.q (i:=19) O (aD [0,2,3] bZ O) O (q.cat O O (by (simp only [ByteArray.size_append,aI,List.length_cons,List.length_nil];omega))) O<|D.q (i:=20) O (aD [0,2,3] bZ O) O (q.build kM O O) O<|D.one (i:=21) O<|Do.s (s.bs (l:=([(⟨(⟨#[119]⟩++bN x3.ID),(((bN x3.aE++bN x3.Rights)++bN x3.aQ)++bN x3.From),false⟩:Change)]:List Change)) cd cI O O O O O O O) (fun _=>(aD [1,3,4] bZ O)) O fun b7=>?_
  refine D.one (i:=22) O<|Do.s (s.app 2 _ O O O (bC 0 O) jw (by (simp;omega)) (by (simp;omega)) (fun _=>rfl) O) (fun _=>(aD [1,3,4] bZ O)) O fun v3=>?_
  refine D.q (i:=23) O (aD [1,3,4] bZ O) O (q.as O) O<|D.done<|R.reg O<|R.q (q.bB (r:=((i+1:Nat):Int)) O O) O<|R.u 1 O<|R.nil<|R.back (i+1,v3,(l3++([(⟨(⟨#[119]⟩++bN x3.ID),(((bN x3.aE++bN x3.Rights)++bN x3.aQ)++bN x3.From),false⟩:Change)]))) O (by (exact ⟨by omega,by rw [qy oo hx3,<- List.append_assoc,<- UD];rfl⟩)) (by dsimp only;omega) (sF O) (aD [2,3,4] bZ O)
 refine R.q (q.cW O O) O<|R.nil<|R.aB O O<|R.fP (fuel:=12) [1,2] O O mixed O<|D.q (i:=0) O (aD [1,2] bZ O) O (q.mv O) O<|D.q (i:=1) O (aD [1,2] bZ O) O (q.aO O cL O) O<|D.q (i:=2) O (aD [1,2] bZ O) O (q.ld 0 O O au O) O<|D.q (i:=4) O (aD [1,2] bZ O) O (q.aO O dP O) O<|D.q (i:=5) O (aD [1,2] bZ O) O (q.ld 0 O O au O) O<|D.one (i:=3) O<|Do.s (s.c (q.call lN O O (fun w hw=>(iE (bj r).ae w (by exact hw.okF eC (by repeat (first|exact List.Mem.head _|refine List.Mem.tail _ ?_))) (by omega)))) O) (fun _=>(aD [1,2] bZ O)) O fun _=>?_
 refine D.one (i:=6) O<|Do.s (s.c (q.call lN O O (fun w hw=>(iE (bj r).ah w (by exact hw.okF eC (by repeat (first|exact List.Mem.head _|refine List.Mem.tail _ ?_))) (by omega)))) O) (fun _=>(aD [1,2] bZ O)) O fun _=>?_
 refine D.q (i:=7) O (aD [1,2] bZ O) O (q.cat O O (by omega)) O<|D.q (i:=8) O (aD [1,2] bZ O) O (q.build kM O O) O<|D.one (i:=9) O<|Do.s (s.bs (l:=([(⟨⟨#[120]⟩,(bN (bj r).ae++bN (bj r).ah),false⟩:Change)]:List Change)) cd cI O O O O O O O) (fun _=>(aD [2,3] bZ O)) O fun b8=>?_
 refine D.one (i:=10) O<|Do.s (s.app 1 _ O O O (bC 0 O) jw (by (simp;omega)) (by (simp;omega)) (fun _=>rfl) O) (fun _=>(aD [2,3] bZ O)) O fun v4=>?_
 refine D.q (i:=11) O (aD [2,3] bZ O) O (q.as O) O<|D.done<|?_
 have hz:bH r=(l3++([(⟨⟨#[120]⟩,(bN (bj r).ae++bN (bj r).ah),false⟩:Change)])):=by (unfold bH rowsOf;rw [UD,yq _ (by omega)];rfl)
 rw [hz]
 exact R.w1 v4 [1,3] [] O Tryz.results64 (RV.tmp O) O O O O
theorem yt (wM:Value)(a:List Int)(yD:Value)(b:List Int)(w:World)(vj:Sl w wM a)(zq:Sl w yD b):Calls Tryz.prog 153 #[wM,yD] w fun e w'=>e = .returned (.bool (decide (a=b)))/\Ext w w':=by
 have JJ:=vj.fB
 have UQ:=zq.fB
 refine R.enter [] [(0,wM),(1,yD)] Tryz.func153 O O O O<|R.reg O<|R.u 1 O<|R.nil<|R.reg O<|R.u 1 O<|R.q (q.len' (fun _=>Wd.old vj) O Tryz.underlying159) O<|R.u 1 O<|R.q (q.len' (fun _=>Wd.old zq) O Tryz.underlying159) O<|?_
 by_cases h1:a.length=b.length
 .
  refine R.q (q.lL O O) O<|R.nil<|R.aB O O<|R.reg O<|R.u 1 O<|R.q (q.len' (fun _=>Wd.old vj) O Tryz.underlying159) O<|R.u 1 O<|R.nil<|R.loop (fun k:Nat=>[(0,wM),(1,yD),(12,iV (a.length:Int)),(13,iV (k:Int))]) (fun k:Nat=>[]) (fun k:Nat=>[]) (fun k:Nat=>k<=a.length /\ ∀j,j<k->a[j]? = b[j]?) (fun k:Nat=>a.length-k) 0 O (by exact ⟨by omega,fun j hj=>absurd hj (Nat.not_lt_zero _)⟩) (sF O) (ic [] [] O) ?_
  rintro k ⟨hk,HA⟩
  refine R.reg O<|?_
  by_cases h2:k<a.length
  .
   refine R.q (q.dz O O) O<|R.nil<|R.av O O<|R.reg O<|R.u 2 O<|R.nil ?_
   obtain ⟨x1,hx1⟩:∃z,a[k]? = some z:=⟨_,List.getElem?_eq_getElem (by omega)⟩
   obtain ⟨x2,hx2⟩:∃z,b[k]? = some z:=⟨_,List.getElem?_eq_getElem (by omega)⟩
   by_cases h3:x1=x2
   .
    refine R.eu O mixed (by kernel_rfl)<|Q.u 2 O<|Q.q (q.idx (i:=k) (fun _=>Wd.old vj) O O df O hx1) O<|Q.q (q.lw (fun _=>Wd.old vj) hx1 O au O) O<|Q.u 2 O<|Q.q (q.idx (i:=k) (fun _=>Wd.old zq) O O df O hx2) O<|Q.q (q.lw (fun _=>Wd.old zq) hx2 O au O) O<|Q.q (q.lL O O) O<|Q.nil<|R.aB O O<|R.reg O<|R.q (q.bB (r:=((k+1:Nat):Int)) O O) O<|R.u 1 O<|R.nil<|R.back (k+1) O (by (exact ⟨by omega,nT HA hx1 hx2 ‹_›⟩)) (by omega) (sF O) (ic [] [] O)
   exact R.eu O mixed (by kernel_rfl)<|Q.u 2 O<|Q.q (q.idx (i:=k) (fun _=>Wd.old vj) O O df O hx1) O<|Q.q (q.lw (fun _=>Wd.old vj) hx1 O au O) O<|Q.u 2 O<|Q.q (q.idx (i:=k) (fun _=>Wd.old zq) O O df O hx2) O<|Q.q (q.lw (fun _=>Wd.old zq) hx2 O au O) O<|Q.q (q.lK O O) O<|Q.nil<|R.av O O<|R.reg O<|R.u 1 O<|R.nil<|R.rv O Tryz.results153 O (rB (by (exact wL hx1 hx2 ‹_›)))
  exact R.q (q.cW O O) O<|R.nil<|R.aB O O<|R.reg O<|R.u 1 O<|R.nil<|R.rv O Tryz.results153 O (rB (by (exact pZ ‹_› ‹_› HA)))
 exact R.q (q.lK O O) O<|R.nil<|R.av O O<|R.reg O<|R.u 1 O<|R.nil<|R.rv O Tryz.results153 O (rB (by (exact wK ‹_›)))
end
end Go.Proofs.YtkbhcbipadkcaaaGreatDoor
