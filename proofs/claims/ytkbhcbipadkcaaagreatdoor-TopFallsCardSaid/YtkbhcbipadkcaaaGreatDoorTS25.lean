import Derived.Test.YtkbhcbipadkcaaaGreatDoorTS24
namespace Go.Proofs.YtkbhcbipadkcaaaGreatDoor
set_option linter.unusedVariables false
set_option linter.unusedSimpArgs false
set_option maxRecDepth 100000
set_option maxHeartbeats 90000000
section
open Go Go.RowKit
theorem Fw (bU bK bL bM:Value)(r:aB)(w:World)(own:List Nat)(H:HN w own [] [ag.ls bU r.ao,ag.ls bK r.Things,ag.ls bL r.Held,ag.ls bM r.Notes])(hk:Ok r):RC Tryz.prog 23 #[.agg #[bU,bK,bL,bM,iV r.af,iV r.ah]] H (fun z:Value×Value×Value×Value => .agg #[z.1,z.2.1,z.2.2.1,z.2.2.2,iV (bm r).af,iV (bm r).ah]) (fun _=>[]) (fun z=>[ag.ls z.1 (bm r).ao,ag.ls z.2.1 (bm r).Things,ag.ls z.2.2.1 (bm r).Held,ag.ls z.2.2.2 (bm r).Notes]):=by
 have eK:=H.cq 0 rfl
 have dJ:=H.cq 1 rfl
 have fG:=H.cq 2 rfl
 have eL:=H.cq 3 rfl
 have bw:=hk.wl;have bt:=hk.tl;have bh:=hk.hl;have bn:=hk.nl;have KN:=hk.w0;have KO:=hk.w1;have KP:=hk.t0;have KQ:=hk.t1
 refine R.bF [(0,.agg #[bU,bK,bL,bM,iV r.af,iV r.ah])] Tryz.func23 O O O O H<|R.reg O<|R.s O (s.box O O O) fun b1=>?_
 refine R.s O (s.alloc dq O O) fun b2=>?_
 refine R.nil<|R.reg O<|R.q (q.aP O dv O) O<|R.q (q.ld 1 O O eC O) O<|R.q (q.len' (dh 3 O) O Tryz.underlying46) O<|R.u 1 O<|R.nil<|R.loop (fun g_:Nat×Value×(List ak)=>[(1,.pointer (some ⟨b1,0,none⟩)),(2,.pointer (some ⟨b2,0,none⟩)),(6,bM),(7,iV (r.Notes.length:Int)),(8,iV (g_.1:Int))]) (fun g_=>[ag.box b2 G0 48,ag.box b1 [g_.2.1,bK,bL,bM,iV r.af,iV r.ah] 48,ag.held w own]) (fun g_=>[ag.ls g_.2.1 g_.2.2,ag.ls bU r.ao,ag.ls bK r.Things,ag.ls bL r.Held,ag.ls bM r.Notes]) (fun g_=>g_.1<=r.Notes.length/\g_.2.2=hY (r.Notes.take g_.1) r.ao) (fun g_=>r.Notes.length-g_.1) (0,bU,r.ao) O (by exact ⟨by omega,rfl⟩) (sF O) (iz [0,1,2] [0,0,1,2,3] O) ?_
 rintro ⟨j,vw,ws⟩ ⟨hj1,HW⟩
 dsimp only at *
 have hws:ws.length<=2000:=by rw [HW];exact Nat.le_trans (xG _ _) hk.wl
 have hwr:∀w∈ws,0<=w.Rights/\w.Rights<=7:=by rw [HW];exact zJ _ _ hk.ri
 have hok:Ok (⟨ws,r.Things,r.Held,[],r.af,r.ah⟩:aB):=⟨hws,hk.tl,hk.hl,Nat.zero_le _,hwr,hk.w0,hk.w1,hk.t0,hk.t1⟩
 refine R.reg O<|?_
 by_cases h1:j<r.Notes.length
 .
  refine R.q (q.dC O O) O<|R.nil<|R.az O O<|R.reg O<|?_
  obtain ⟨x1,hx1⟩:∃z,r.Notes[j]? = some z:=⟨_,List.getElem?_eq_getElem (by omega)⟩
  refine R.q (q.idx (i:=j) (dh 4 O) O O gJ O hx1) O<|R.q (q.gh (ds:=vO x1) (dh 4 O) hx1 O dG O) O<|R.s O (s.alloc eS O O) fun b3=>?_
  refine R.s O (s.st 0 _ O O O O (.inl dG) O O O O) fun _=>?_
  refine R.nil<|R.reg O<|R.q (q.aP O iG O) O<|R.q (q.ld 0 O O ap O) O<|?_
  by_cases h2:0<x1.ak
  .
   refine R.q (q.eM O O) O<|R.nil<|R.az O O<|R.reg O<|R.q (q.aP O bq O) O<|R.q (q.ld 2 O O cd O) O<|R.q (q.aP O iG O) O<|R.q (q.ld 0 O O ap O) O<|R.s O (s.vT Je O O (fun w hw=>qe _ ws x1.ak w (hw.bO 0 O) (by omega)) O) fun v1=>?_
   refine R.q (q.aP O bq O) O<|R.s O (s.fP 3 _ O O O (fun w hw=>Sl.cr (hw.row 0 O)) (.inr ⟨cd,rfl⟩) (fun w hw=>(ae (Sl.one (hw.row 0 O)) aO)) O O O) fun _=>?_
   refine R.nil<|R.reg O<|R.q (q.bA (r:=((j+1:Nat):Int)) O O) O<|R.u 1 O<|R.nil<|R.mp (fun _ hw=>hw.cW 0 _ O O)<|R.back (j+1,v1,(without ws x1.ak)) O (by (exact ⟨by omega,by rw [xF hx1,if_pos (by omega),HW]⟩)) (by dsimp only;omega) (sF O) (aA [1,2,3] [0,2,3,4,5] O)
  refine R.q (q.ey O O) O<|R.nil<|R.aD O O<|R.reg O<|R.q (q.bA (r:=((j+1:Nat):Int)) O O) O<|R.u 1 O<|R.nil<|R.back (j+1,vw,ws) O (by (exact ⟨by omega,by rw [xF hx1,if_neg (by omega),HW]⟩)) (by dsimp only;omega) (sF O) (aA [1,2,3] gV O)
 refine R.q (q.cS O O) O<|R.nil<|R.aD O O<|R.reg O<|R.q (q.aP O dv O) O<|R.s O (s.st 1 _ O O O O (.inr ⟨eC,rfl⟩) O O O O) fun _=>?_
 refine R.nil<|R.reg O<|R.q (q.cT 1 O O aj) O<|R.s O (s.pre (fun _ hw=>hw.bg (α:=Note)) (s.aT [0,1,2] [1,3,4,0] _ _ _ O O O Jf O O (fun w own hw H=>r5 vw bK bL (nS) (⟨ws,r.Things,r.Held,[],r.af,r.ah⟩:aB) w own H ‹_›) O)) ?_
 rintro ⟨z1,z2,z3,z4⟩
 dsimp only
 refine R.s O (s.fP 0 _ O O O (fun _ _=>rfl) (.inl aj) (fun w hw=>(ae (Sl.one (hw.bO 0 O)) (ae (Sl.one (hw.bO 1 O)) (ae (Sl.one (hw.bO 2 O)) (ae (Sl.one (hw.bO 3 O)) (ae O (ae O aO))))))) O O O) fun _=>?_
 refine R.nil ?_
 have hz:bm r=(dN (⟨ws,r.Things,r.Held,[],r.af,r.ah⟩:aB)):=by (unfold bm;rw [HW,List.take_of_length_le (by omega)])
 rw [hz]
 exact R.w1 (z1,z2,z3,z4) [2] bJ O Tryz.results23 (RV.cell 0 O O aj) O O O O
theorem zU (bU bK bL bM:Value)(r:aB)(w:World)(own:List Nat)(H:HN w own [] [ag.ls bU r.ao,ag.ls bK r.Things,ag.ls bL r.Held,ag.ls bM r.Notes])(hk:Ok r):RC Tryz.prog 53 #[.agg #[bU,bK,bL,bM,iV r.af,iV r.ah]] H (fun z:Value×Value×Value×Value => .agg #[z.1,z.2.1,z.2.2.1,z.2.2.2,iV r.af,iV r.ah]) (fun _=>[]) (fun z=>[ag.ls z.1 r.ao,ag.ls z.2.1 r.Things,ag.ls z.2.2.1 r.Held,ag.ls z.2.2.2 r.Notes]):=by
 have eK:=H.cq 0 rfl
 have dJ:=H.cq 1 rfl
 have fG:=H.cq 2 rfl
 have eL:=H.cq 3 rfl
 have bw:=hk.wl;have bt:=hk.tl;have bh:=hk.hl;have bn:=hk.nl;have KN:=hk.w0;have KO:=hk.w1;have KP:=hk.t0;have KQ:=hk.t1
 refine R.bF [(0,.agg #[bU,bK,bL,bM,iV r.af,iV r.ah])] Tryz.func53 O O O O H<|R.reg O<|R.s O (s.box O O O) fun b1=>?_
 refine R.s O (s.alloc dq O O) fun b2=>?_
 refine R.nil<|R.UE (fuel:=20) [0,1,2] [13,15,17,19] O O mixed O<|K.p (i:=0) O (.inr (aA [0,1,2] bJ O)) O (fun w=>q.aP O bq O) O<|K.q (i:=1) O (aA [0,1,2] bJ O) O (q.ld 1 O O cd O) O<|K.p (i:=3) O (.inr (aA [0,1,2] bJ O)) O (fun w=>q.aP O du O) O<|K.q (i:=4) O (aA [0,1,2] bJ O) O (q.ld 1 O O eQ O) O<|K.p (i:=6) O (.inr (aA [0,1,2] bJ O)) O (fun w=>q.aP O cM O) O<|K.q (i:=7) O (aA [0,1,2] bJ O) O (q.ld 1 O O dP O) O<|K.p (i:=9) O (.inr (aA [0,1,2] bJ O)) O (fun w=>q.aP O dv O) O<|K.q (i:=10) O (aA [0,1,2] bJ O) O (q.ld 1 O O eC O) O<|K.one (i:=2) O<|Ko.s (s.aT [0,1,2] [0] _ _ _ O O O wq O O (fun w own hw H=>jK bU r.ao w own H (by first|omega|assumption|(simp;done)|(simp;omega))) O) (.inr fun _=>(aA [1,2,3] bJ O)) (fun h=>by cases h) O fun z5=>?_
 refine K.p (i:=12) O (.inr (aA [1,2,3] bJ O)) O (fun w=>q.aP O bq O) O<|K.one (i:=5) O<|Ko.s (s.aT bJ [1] _ _ _ O O O wt O O (fun w own hw H=>ji bK r.Things w own H (by first|omega|assumption|(simp;done)|(simp;omega))) O) (.inr fun _=>(aA [2,3,4] bJ O)) (fun h=>by cases h) O fun z6=>?_
 refine K.one (i:=8) O<|Ko.s (s.aT gV [2] _ _ _ O O O EB O O (fun w own hw H=>ni bL r.Held w own H (by first|omega|assumption|(simp;done)|(simp;omega))) O) (.inr fun _=>(aA [3,4,5] bJ O)) (fun h=>by cases h) O fun z7=>?_
 refine K.one (i:=11) O<|Ko.s (s.aT qY [3] _ _ _ O O O ox O O (fun w own hw H=>fc bM r.Notes w own H (by first|omega|assumption|(simp;done)|(simp;omega))) O) (.inr fun _=>(aA [4,5,6] bJ O)) (fun h=>by cases h) O fun z8=>?_
 refine K.one (i:=13) O<|Ko.s (s.fP 5 _ O O O (fun w hw=>Sl.cr (hw.row 3 O)) (.inr ⟨cd,rfl⟩) (fun w hw=>(ae (Sl.one (hw.row 3 O)) aO)) O O O) (.inl O) (fun _=>by kernel_rfl) O fun _=>?_
 refine K.p (i:=14) O (.inl (by kernel_rfl)) O (fun w=>q.aP O du O) O<|K.one (i:=15) O<|Ko.s (s.fP 5 _ O O O (fun w hw=>Sl.cr (hw.row 2 O)) (.inr ⟨eQ,rfl⟩) (fun w hw=>(ae (Sl.one (hw.row 2 O)) aO)) O O O) (.inl O) (fun _=>by kernel_rfl) O fun _=>?_
 refine K.p (i:=16) O (.inl (by kernel_rfl)) O (fun w=>q.aP O cM O) O<|K.one (i:=17) O<|Ko.s (s.fP 5 _ O O O (fun w hw=>Sl.cr (hw.row 1 O)) (.inr ⟨dP,rfl⟩) (fun w hw=>(ae (Sl.one (hw.row 1 O)) aO)) O O O) (.inl O) (fun _=>by kernel_rfl) O fun _=>?_
 refine K.p (i:=18) O (.inl (by kernel_rfl)) O (fun w=>q.aP O dv O) O<|K.one (i:=19) O<|Ko.s (s.fP 5 _ O O O (fun w hw=>Sl.cr (hw.row 0 O)) (.inr ⟨eC,rfl⟩) (fun w hw=>(ae (Sl.one (hw.row 0 O)) aO)) O O O) (.inl O) (fun _=>by kernel_rfl) O fun _=>?_
 refine K.done<|R.reg O<|R.q (q.cT 5 O O aj) O<|R.s O (s.fP 4 _ O O O (fun _ _=>rfl) (.inl aj) (fun w hw=>(ae (Sl.one (hw.row 3 O)) (ae (Sl.one (hw.row 2 O)) (ae (Sl.one (hw.row 1 O)) (ae (Sl.one (hw.row 0 O)) (ae O (ae O aO))))))) O O O) fun _=>?_
 exact R.nil<|R.mp (fun _ hw=>hw.cW 3 _ O O)<|R.mp (fun _ hw=>hw.cW 2 _ O O)<|R.mp (fun _ hw=>hw.cW 1 _ O O)<|R.mp (fun _ hw=>hw.cW 0 _ O O)<|R.w1 (z5,z6,z7,z8) [2] gk O Tryz.results53 (RV.cell 0 O O aj) O O O O
end
def tu (r:aB)(c:Change):aB:=(rowP r c).1
theorem GL:∀ (l:List Change) (pv:Option ByteArray) (r:aB),(∀c∈l,sg pv c=true)->dr l->(∀c∈l,c.Gone=false /\ ∀s,(rowP s c).2=true)->pgo l pv r=some (l.foldl tu r)
 | [],_,r,_,_,_=>rfl
 | c::l,pv,r,h1,h2,h3=>by
  obtain ⟨hc,hl⟩:=List.pairwise_cons.1 h2
  have g:=h3 c (List.mem_cons_self ..)
  simp only [pgo]
  rw [if_pos (by rw [h1 c (List.mem_cons_self ..),g.1,g.2 r];rfl)]
  exact GL l (some c.Key) _ (fun x hx=>hc x hx) hl (fun x hx=>h3 x (List.mem_cons_of_mem _ hx))
theorem Lf:∀ (hs:List Held) (r:aB),(∀h∈hs,aZ h.Place=0/\0<=h.ak/\h.ak<10000)->(hs.map hrow).foldl tu r=⟨r.ao,r.Things,r.Held++hs,r.Notes,r.af,r.ah⟩
 | [],r,_=>by rw [List.map_nil,List.foldl_nil,List.append_nil]
 | h::hs,r,k=>by
  obtain ⟨k1,k2,k3⟩:=k h (List.mem_cons_self ..)
  rw [List.map_cons,List.foldl_cons,show tu r (hrow h)=Io r h by unfold tu;rw [K3 r k1 k2 k3],Lf hs _ (fun x hx=>k x (List.mem_cons_of_mem _ hx))]
  simp only [Io,List.append_assoc,List.cons_append,List.nil_append]
structure Vd (t:aE):Prop where
  i0:0<=t.ID
  i9:t.ID<10000
  kd:t.Kind=1∨t.Kind=2/\t.Data.size=0
  ds:t.Data.size<=8
theorem Lh:∀ (ts:List aE) (r:aB),(∀t∈ts,Vd t)->(ts.map lW).foldl tu r=⟨r.ao,r.Things++ts,r.Held,r.Notes,r.af,r.ah⟩
 | [],r,_=>by rw [List.map_nil,List.foldl_nil,List.append_nil]
 | t::ts,r,k=>by
  obtain ⟨k1,k2,k3,k4⟩:=k t (List.mem_cons_self ..)
  rw [List.map_cons,List.foldl_cons,show tu r (lW t)=Ip r t by unfold tu;rw [K4 r k1 k2 k3 k4],Lh ts _ (fun x hx=>k x (List.mem_cons_of_mem _ hx))]
  simp only [Ip,List.append_assoc,List.cons_append,List.nil_append]
theorem Li:∀ (ws:List ak) (r:aB),(∀w∈ws,QW w)->(ws.map nX).foldl tu r=⟨r.ao++ws,r.Things,r.Held,r.Notes,r.af,r.ah⟩
 | [],r,_=>by rw [List.map_nil,List.foldl_nil,List.append_nil]
 | w::ws,r,k=>by
  rw [List.map_cons,List.foldl_cons,show tu r (nX w)=DN r w by unfold tu;rw [K5 r (k w (List.mem_cons_self ..))],Li ws _ (fun x hx=>k x (List.mem_cons_of_mem _ hx))]
  simp only [DN,List.append_assoc,List.cons_append,List.nil_append]
theorem Ir {l:List ak}(h:cL l):l.Pairwise (fun a b=>a.ID<b.ID):=by
 have key:∀ (n i j:Nat) (x y:ak),j=i+n+1->l[i]? = some x->l[j]? = some y->x.ID<y.ID:=by
  intro n
  induction n with
  | zero =>
   intro i j x y e hx hy
   have hs:=h.steps j (List.getElem?_eq_some_iff.1 hy).1
   by_cases hlt:x.ID<y.ID
   .exact hlt
   .
    by_cases hf:cu y=0
    .rw [mW hy hf (by omega) (by rw [show j-1=i by omega];exact hx) hlt] at hs;omega
    .rw [jf hy hf] at hs;omega
  | succ n ih =>
   intro i j x y e hx hy
   have hj:j-1<l.length:=by have:=(List.getElem?_eq_some_iff.1 hy).1;omega
   have hz:=List.getElem?_eq_getElem hj
   exact Int.lt_trans (ih i (j-1) x l[j-1] (by omega) hx hz) (by
    have hs:=h.steps j (List.getElem?_eq_some_iff.1 hy).1
    by_cases hlt:l[j-1].ID<y.ID
    .exact hlt
    .
     by_cases hf:cu y=0
     .rw [mW hy hf (by omega) hz hlt] at hs;omega
     .rw [jf hy hf] at hs;omega)
 rw [List.pairwise_iff_getElem]
 intro i j hi hj hij
 exact key (j-i-1) i j _ _ (by omega) (List.getElem?_eq_getElem hi) (List.getElem?_eq_getElem hj)
theorem Inv.Oq {r:aB}(h:Inv r){t:aE}(ht:t∈r.Things):Vd t:=by
 have a:=h.vE t ht;have b:=h.pn;have c:=h.jz t ht;have d:=h.jA t ht
 refine ⟨by omega,by omega,?_,d.1⟩
 rcases c with c|c
 .exact .inl c
 .exact .inr ⟨c,by rw [d.2 c];rfl⟩
theorem Inv.Iu {r:aB}(h:Inv r){x:Held}(hx:x∈r.Held):aZ x.Place=0/\1<=x.ak/\x.ak<10000:=by
 obtain ⟨w,hw,e⟩:=h.eP x hx
 have k:=h.tree.mem hw
 have:=k.id1;have:=k.Og
 exact ⟨((Dx.1 h.good).2 x hx).1,by omega,by omega⟩
theorem ye {α β:Type}{R:β->β->Prop}{S:α->α->Prop}(f:α->β):∀ {l:List α},l.Pairwise S->(∀x∈l,∀y∈l,S x y->R (f x) (f y))->(l.map f).Pairwise R
 | [],_,_=>List.Pairwise.nil
 | a::l,h,k=>by
  obtain ⟨h1,h2⟩:=List.pairwise_cons.1 h
  refine List.pairwise_cons.2 ⟨fun y hy=>?_,ye f h2 (fun x hx y hy=>k x (List.mem_cons_of_mem _ hx) y (List.mem_cons_of_mem _ hy))⟩
  obtain ⟨x,hx,rfl⟩:=List.mem_map.1 hy
  exact k a (List.mem_cons_self ..) x (List.mem_cons_of_mem _ hx) (h1 x hx)
theorem zV {r:aB}(h:Inv r):dr (rowsOf r):=by
 have hx:bl kX=[120]:=rfl
 have kh:∀x∈r.Held,bl (hrow x).Key=[104,d8 x.Place.aC.toNat,d8 x.Place.Slot.toNat]:=fun x hx=>hkey (h.Iu hx).1
 have kt:∀t∈r.Things,bl (lW t).Key=116::Fq t.ID.toNat:=fun t ht=>tkey (h.Oq ht).i0 (h.Oq ht).i9
 have kw:∀w∈r.ao,bl (nX w).Key=119::Fq w.ID.toNat:=fun w hw=>by
  have:=(h.tree.mem hw).id1;have:=(h.tree.mem hw).Og;exact K2 (by omega) (by omega)
 unfold dr rowsOf
 refine List.pairwise_append.2 ⟨List.pairwise_append.2 ⟨List.pairwise_append.2 ⟨?_,?_,?_⟩,?_,?_⟩,List.pairwise_singleton _ _,?_⟩
 .exact ye hrow (Dx.1 h.good).1 (fun x hx y hy hl=>MX (h.Iu hx).1 (h.Iu hy).1 hl)
 .exact ye lW h.jk (fun x hx y hy hl=>MY (h.Oq hx).i0 (h.Oq hy).i9 hl)
 .
  intro a ha b hb
  obtain ⟨x,hx,rfl⟩:=List.mem_map.1 ha;obtain ⟨y,hy,rfl⟩:=List.mem_map.1 hb
  exact qU (kh x hx) (kt y hy) (by decide)
 .exact ye nX (Ir h.tree) (fun x hx y hy hl=>by
   have:=(h.tree.mem hx).id1;have:=(h.tree.mem hy).Og;exact MZ (by omega) (by omega) hl)
 .
  intro a ha b hb
  obtain ⟨y,hy,rfl⟩:=List.mem_map.1 hb
  rcases List.mem_append.1 ha with ha|ha
  .
   obtain ⟨x,hx,rfl⟩:=List.mem_map.1 ha
   exact qU (kh x hx) (kw y hy) (by decide)
  .
   obtain ⟨x,hx,rfl⟩:=List.mem_map.1 ha
   exact qU (kt x hx) (kw y hy) (by decide)
 .
  intro a ha b hb
  rw [List.mem_singleton.1 hb]
  rcases List.mem_append.1 ha with ha|ha
  .
   rcases List.mem_append.1 ha with ha|ha
   .
    obtain ⟨x,hx',rfl⟩:=List.mem_map.1 ha
    exact qU (kh x hx') hx (by decide)
   .
    obtain ⟨x,hx',rfl⟩:=List.mem_map.1 ha
    exact qU (kt x hx') hx (by decide)
  .
   obtain ⟨x,hx',rfl⟩:=List.mem_map.1 ha
   exact qU (kw x hx') hx (by decide)
theorem Iv {r:aB}(h:Inv r):∀c∈rowsOf r,c.Gone=false /\ ∀s,(rowP s c).2=true:=by
 have a1:=h.oN;have a2:=h.qS;have a3:=h.pj;have a4:=h.pn
 intro c hc
 unfold rowsOf at hc
 rcases List.mem_append.1 hc with hc|hc
 .
  rcases List.mem_append.1 hc with hc|hc
  .
   rcases List.mem_append.1 hc with hc|hc
   .
    obtain ⟨x,hx,rfl⟩:=List.mem_map.1 hc
    have k:=h.Iu hx
    exact ⟨rfl,fun s=>by rw [K3 s k.1 (by omega) k.2.2]⟩
   .
    obtain ⟨x,hx,rfl⟩:=List.mem_map.1 hc
    have k:=h.Oq hx
    exact ⟨rfl,fun s=>by rw [K4 s k.i0 k.i9 k.kd k.ds]⟩
  .
   obtain ⟨x,hx,rfl⟩:=List.mem_map.1 hc
   exact ⟨rfl,fun s=>by rw [K5 s (h.tree.mem hx)]⟩
 .
  rw [List.mem_singleton.1 hc]
  exact ⟨rfl,fun s=>by rw [K6 s r (by omega) (by omega)]⟩
theorem Iw {r:aB}(h:Inv r)(hn:r.Notes=[]):(rowsOf r).foldl tu r0=r:=by
 have a1:=h.oN;have a2:=h.qS;have a3:=h.pj;have a4:=h.pn
 unfold rowsOf
 rw [List.foldl_append,List.foldl_append,List.foldl_append,Lf _ _ (fun x hx=>⟨(h.Iu hx).1,by have:=(h.Iu hx).2.1;omega,(h.Iu hx).2.2⟩),Lh _ _ (fun t ht=>h.Oq ht),Li _ _ (fun w hw=>h.tree.mem hw)]
 rw [List.foldl_cons,List.foldl_nil]
 unfold tu
 rw [K6 _ r (by omega) (by omega)]
 obtain ⟨a,b,c,d,e,f⟩:=r
 simp only at hn
 subst hn
 simp [MV,r0]
theorem zW:∀ (a b:List Int),a.Pairwise (· < ·)->b.Pairwise (· < ·)->(∀x,x∈a↔x∈b)->a=b
 | [],[],_,_,_=>rfl
 | [],y::b,_,_,h=>by have:=(h y).2 (List.mem_cons_self ..);cases this
 | x::a,[],_,_,h=>by have:=(h x).1 (List.mem_cons_self ..);cases this
 | x::a,y::b,ha,hb,h=>by
  obtain ⟨a1,a2⟩:=List.pairwise_cons.1 ha
  obtain ⟨b1,b2⟩:=List.pairwise_cons.1 hb
  have e:x=y:=by
   rcases List.mem_cons.1 ((h x).1 (List.mem_cons_self ..)) with e|h1
   .exact e
   .
    rcases List.mem_cons.1 ((h y).2 (List.mem_cons_self ..)) with e|h2
    .exact e.symm
    .have:=b1 x h1;have:=a1 y h2;omega
  subst e
  congr 1
  refine zW a b a2 b2 (fun z=>?_)
  have hz:=h z
  simp only [List.mem_cons] at hz
  constructor
  .
   intro h1
   rcases hz.1 (.inr h1) with e|h2
   .have:=a1 z h1;omega
   .exact h2
  .
   intro h1
   rcases hz.2 (.inr h1) with e|h2
   .have:=b1 z h1;omega
   .exact h2
theorem DY {l:List ak}(h:cL l):(bV l).Pairwise (· < ·):=by
 unfold bV;rw [zE h];exact (mY l 999).1
theorem DZ {α:Type}{l:List α}{y:α}(hy:l.getLast? = some y):y∈l:=by
 obtain ⟨a,rfl⟩:=List.getLast?_eq_some_iff.1 hy;simp
theorem Inv.ids {r:aB}(h:Inv r):r.Things.map aE.ID=bV r.ao :=
 zW _ _ (ye aE.ID h.jk (fun _ _ _ _ h=>h)) (DY h.tree) fun x=>by
  rw [lh h.tree,List.mem_map]
  constructor
  .rintro ⟨t,ht,rfl⟩;exact h.used t ht
  .rintro ⟨w,hw,rfl⟩;exact h.thing w hw
theorem Inv.nodup {r:aB}(h:Inv r):(r.Held.map Held.ak).Nodup:=by
 rw [List.nodup_iff_count]
 intro a
 by_cases ha:∃w∈r.ao,w.ID=a
 .
  obtain ⟨w,hw,rfl⟩:=ha
  have:=h.once w hw
  have e:(r.Held.map Held.ak).count w.ID=cH r.Held w.ID:=by
   unfold cH;rw [List.count,List.countP_map];rfl
  omega
 .
  rw [List.count_eq_zero.2 (fun hm=>?_)]
  .omega
  .
   obtain ⟨x,hx,rfl⟩:=List.mem_map.1 hm
   exact ha (h.eP x hx)
theorem Inv.whole {r:aB}(h:Inv r)(hl:r.Held.length=r.ao.length):Whole r where
 tree:=h.tree
 jl:=h.jl
 oN:=h.oN
 qS:=h.qS
 pj:=h.pj
 pn:=h.pn
 hlen:=hl
 eP:=fun x hx=>by
  obtain ⟨w,hw,e⟩:=h.eP x hx
  exact lf.2 ⟨w,hw,e⟩
 once:=h.nodup
 things:=h.ids
 Oj:=fun w hw=>h.r9 w (DZ hw)
 Ol:=fun t ht=>(h.vE t (DZ ht)).2
theorem Fx {r:aB}(h:Inv r)(hn:r.Notes=[])(hl:r.Held.length=r.ao.length):bE (rowsOf r)=(r,0):=by
 have h1:=GL (rowsOf r) none r0 (fun _ _=>rfl) (zV h) (Iv h)
 unfold bE
 rw [h1,Iw h hn]
 dsimp only
 rw [if_pos (ya (h.whole hl))]
theorem uS {r:aB}(h:Inv r):bE (bf r)=(bm r,0):=by
 obtain ⟨h1,h2,h3,h4,h5⟩:=jw h
 exact Fx h1 h2 h4
theorem lj {r:aB}(h:Inv r):(bf r).length<=60:=by
 obtain ⟨h1,h2,h3,h4,h5⟩:=jw h
 have a:=tq h1;have b:=h1.jl
 unfold bf rowsOf
 simp only [List.length_append,List.length_map,List.length_cons,List.length_nil]
 omega
section
open Go Go.RowKit
theorem iD (n:Int)(w:World)(ht:DU w)(hn : -9223372036854775808<=n/\n<=9223372036854775807):Calls Tryz.prog 131 #[iV n] w fun e w'=>e = .returned (.string (bN n))/\Ext w w':=by
 have il:=yc hn;have ip:=Lc n
 refine R.enter [] [(0,iV n)] Tryz.func131 O O O O<|R.nC (r:=ew) ht (BN ht)<|R.reg O<|R.u 1 O<|R.nil<|R.reg O<|R.u 1 O<|R.c (q.call ED O O (fun w hw=>(yb n w (by exact hw.okF ew (by repeat (exact List.Mem.head _))) ‹_›))) O<|R.u 1 O<|R.nil ?_
 refine R.reg O<|R.u 1 O<|R.q (q.iy O Tryz.underlying9) O<|R.q (q.lS (r:=4-((gQ n).size:Int)) O O) O<|R.q (q.max (r:=max 0 (4-((gQ n).size:Int))) O O O) O<|R.c (q.call Pq O O (fun w hw=>(Fu (⟨#[48]⟩) (max 0 (4-((gQ n).size:Int))) w O (by omega)))) O<|R.u 1 O<|R.q (q.cat O O (by (rw [GJ];omega))) O<|R.u 1 O<|R.nil ?_
 exact R.rv O Tryz.results131 O (rS (by (unfold bN;rw [show (max 0 (4-((gQ n).size:Int))).toNat=4-(gQ n).size by omega])))
def numsL (s:ByteArray)(m:Nat):List Int:=(dR s m).getD []
def eH (s:ByteArray)(m:Nat):Bool:=(dR s m).isSome
theorem M0 {s:ByteArray}{m:Nat}(h:s.size<4*m):(numsL s m,eH s m)=([],false):=by unfold numsL eH dR;rw [if_pos h];rfl
theorem D1 {s:ByteArray}{m k:Nat}{l:List Int}(h:¬ s.size<4*m)(hk:k<m)(hl:jL s k=some l)(hn:vq (s.extract (4*k) (4*k+4))=none):(numsL s m,eH s m)=([],false):=by
 unfold numsL eH dR;rw [if_neg h,Il hk hl hn];rfl
theorem M1 {s:ByteArray}{m:Nat}{l:List Int}(h:¬ s.size<4*m)(hl:jL s m=some l):(numsL s m,eH s m)=(l,true):=by
 unfold numsL eH dR;rw [if_neg h,hl];rfl
theorem M3 {s:ByteArray}(h:¬ (Lib.atoi s.data.toList).isSome=true):vq s=none:=by
 unfold vq;cases hq:Lib.atoi s.data.toList with|none=>rfl|some n=>rw [hq] at h;exact absurd rfl h
theorem M4 {s:ByteArray}(h:¬ bN (aV s)=s):vq s=none:=by
 unfold vq;unfold aV at h
 cases hq:Lib.atoi s.data.toList with
 | none=>rfl
 | some n=>rw [hq] at h;dsimp only;exact if_neg h
theorem Lj {s:ByteArray}(h:(Lib.atoi s.data.toList).isSome=true)(he:bN (aV s)=s):vq s=some (aV s):=by
 unfold vq;unfold aV at he ⊢
 cases hq:Lib.atoi s.data.toList with
 | none=>rw [hq] at h;cases h
 | some n=>rw [hq] at he;dsimp only;exact if_pos he
theorem lH (sb:ByteArray)(m:Nat)(w:World)(own:List Nat)(H:HN w own [] [ew])(hs:sb.size<=1000000/\m<=4):RC Tryz.prog 150 #[.string sb,iV (m:Int)] H (fun z:Value => .tuple #[z,.bool (eH sb m)]) (fun z=>[ag.row 3 z (numsL sb m)]) (fun _=>[]):=by
 refine R.bF [(0,.string sb),(1,iV (m:Int))] Tryz.func150 O O O O H<|R.reg O<|R.u 2 O<|R.nil<|R.reg O<|R.u 1 O<|R.q (q.iy O Tryz.underlying9) O<|R.u 1 O<|R.q (q.uZ (r:=((4*m:Nat):Int)) O O) O<|?_
 by_cases h1:sb.size<(4*m)
 .
  refine R.q (q.dC O O) O<|R.nil<|R.az O O<|R.reg O<|R.u 2 O<|R.nil<|R.row0 (α:=Int) 3 ?_
  have hz:(numsL sb m,eH sb m)=([],false):=by (exact M0 (by omega))
  have hz0:numsL sb m=[]:=congrArg (fun t_=>t_.1) hz
  rw [hz0]
  have hz1:eH sb m=false:=congrArg (fun t_=>t_.2) hz
  rw [hz1]
  exact R.w2 (nS) [0,1] [] O Tryz.results150 (RV.tmp O) (RV.tmp O) O O O (dy O O)
 refine R.q (q.cS O O) O<|R.nil<|R.aD O O<|R.reg O<|R.u 1 O<|R.nil<|R.reg O<|R.u 2 O<|R.nil<|R.row0 (α:=Int) 3<|R.loop (fun g_:Nat×Value×(List Int)=>[(0,.string sb),(6,g_.2.1),(15,iV (m:Int)),(16,iV (g_.1:Int))]) (fun g_=>[ag.row 3 g_.2.1 g_.2.2,ag.held w own]) (fun g_=>[ew]) (fun g_=>g_.1<=m/\jL sb g_.1=some g_.2.2) (fun g_=>m-g_.1) (0,(nS),[]) O (by exact ⟨by omega,rfl⟩) (sF O) (iz [0,1] [0] O) ?_
 rintro ⟨k,u,l⟩ ⟨hk,HL⟩
 dsimp only at *
 have ab:=Lb (s:=sb.extract (4*k) (4*k+4)) (by rw [ByteArray.size_extract];omega);have gl:=ug HL
 refine R.reg O<|?_
 by_cases h2:k<m
 .
  refine R.q (q.dC O O) O<|R.nil<|R.az O O<|R.reg O<|R.u 2 O<|R.nil<|R.reg O<|R.u 2 O<|R.q (q.uZ (r:=((4*k:Nat):Int)) O O) O<|R.u 1 O<|R.q (q.uZ (r:=((4*k:Nat):Int)) O O) O<|R.q (q.bA (r:=(((4*k)+4:Nat):Int)) O O) O<|R.q (q.Cp (i:=(4*k)) (j:=((4*k)+4)) O O O Tryz.underlying9 O O (by omega) (by omega)) O<|?_
  by_cases h3:(Lib.atoi (sb.extract (4*k) ((4*k)+4)).data.toList).isSome=true
  .
   refine R.c (q.call Jw O O (fun w hw=>(K9 (sb.extract (4*k) ((4*k)+4)) w ‹_› (by rw [ByteArray.size_extract];omega)))) O<|R.u 5 O<|R.nil ?_
   by_cases h4:bN (aV (sb.extract (4*k) ((4*k)+4)))=(sb.extract (4*k) ((4*k)+4))
   .
    refine R.eZ O mixed (by kernel_rfl)<|Q.u 1 O<|Q.q (q.ux O O Tryz.underlying38) O<|Q.u 2 O<|Q.cg O (q.call lK O O (fun w hw=>(iD (aV (sb.extract (4*k) ((4*k)+4))) w (by exact hw.okF ew (by repeat (exact List.Mem.head _))) ‹_›))) O<|Q.u 2 O<|Q.qg O (q.uZ (r:=((4*k:Nat):Int)) O O) O<|Q.u 1 O<|Q.qg O (q.uZ (r:=((4*k:Nat):Int)) O O) O<|Q.qg O (q.bA (r:=(((4*k)+4:Nat):Int)) O O) O<|Q.qg O (q.Cp (i:=(4*k)) (j:=((4*k)+4)) O O O Tryz.underlying9 O O (by omega) (by omega)) O<|Q.qg O (q.uy O O h4) O<|Q.u 1 O<|Q.nil<|R.aD O O<|R.reg O<|R.u 2 O<|R.s O (s.bs (l:=([aV (sb.extract (4*k) ((4*k)+4))]:List Int)) da lT O O O O O O O) fun b1=>?_
    refine R.s O (s.app 1 _ O O O (bD 0 O) nH (by (simp;omega)) (by (simp;omega)) (fun _=>rfl) O) fun v1=>?_
    refine R.u 1 O<|R.nil<|R.reg O<|R.q (q.bA (r:=((k+1:Nat):Int)) O O) O<|R.u 1 O<|R.nil<|R.back (k+1,v1,(l++([aV (sb.extract (4*k) ((4*k)+4))]))) O (by (exact ⟨by omega,Fp HL (Lj ‹_› ‹_›)⟩)) (by dsimp only;omega) (sF O) (aA [1,2] [0] O)
   refine R.eZ O mixed (by kernel_rfl)<|Q.u 1 O<|Q.q (q.ux O O Tryz.underlying38) O<|Q.u 2 O<|Q.cg O (q.call lK O O (fun w hw=>(iD (aV (sb.extract (4*k) ((4*k)+4))) w (by exact hw.okF ew (by repeat (exact List.Mem.head _))) ‹_›))) O<|Q.u 2 O<|Q.qg O (q.uZ (r:=((4*k:Nat):Int)) O O) O<|Q.u 1 O<|Q.qg O (q.uZ (r:=((4*k:Nat):Int)) O O) O<|Q.qg O (q.bA (r:=(((4*k)+4:Nat):Int)) O O) O<|Q.qg O (q.Cp (i:=(4*k)) (j:=((4*k)+4)) O O O Tryz.underlying9 O O (by omega) (by omega)) O<|Q.qg O (q.yU O O h4) O<|Q.u 1 O<|Q.nil<|R.az O O<|R.reg O<|R.u 2 O<|R.nil<|R.row0 (α:=Int) 3 ?_
   have hz:(numsL sb m,eH sb m)=([],false):=by (exact D1 (by omega) (by omega) HL (M4 ‹_›))
   have hz0:numsL sb m=[]:=congrArg (fun t_=>t_.1) hz
   rw [hz0]
   have hz1:eH sb m=false:=congrArg (fun t_=>t_.2) hz
   rw [hz1]
   exact R.w2 (nS) [0,2] [] O Tryz.results150 (RV.tmp O) (RV.tmp O) O O O (dy O O)
  refine R.s O (s.aT [0,1] [0] _ _ _ O O O Jw O O (fun w own hw H=>La (sb.extract (4*k) ((4*k)+4)) w own H ‹_› (by rw [ByteArray.size_extract];omega)) O) fun z1=>?_
  refine R.u 5 O<|R.nil<|R.eZ O mixed (by kernel_rfl)<|Q.u 1 O<|Q.q (q.NG O O Tryz.underlying38) O<|Q.u 12 O<|Q.nil<|R.az O O<|R.reg O<|R.u 2 O<|R.nil<|R.row0 (α:=Int) 3 ?_
  have hz:(numsL sb m,eH sb m)=([],false):=by (exact D1 (by omega) (by omega) HL (M3 ‹_›))
  have hz0:numsL sb m=[]:=congrArg (fun t_=>t_.1) hz
  rw [hz0]
  have hz1:eH sb m=false:=congrArg (fun t_=>t_.2) hz
  rw [hz1]
  exact R.w2 (nS) [0,2] [] O Tryz.results150 (RV.tmp O) (RV.tmp O) O O O (dy O O)
 refine R.q (q.cS O O) O<|R.nil<|R.aD O O<|R.reg O<|R.u 3 O<|R.nil ?_
 have hz:(numsL sb m,eH sb m)=(l,true):=by (have e:k=m:=(by omega);subst e;exact M1 (by omega) HL)
 have hz0:numsL sb m=l:=congrArg (fun t_=>t_.1) hz
 rw [hz0]
 have hz1:eH sb m=true:=congrArg (fun t_=>t_.2) hz
 rw [hz1]
 exact R.w2 u [0,1] [] O Tryz.results150 (RV.tmp O) (RV.tmp O) O O O (dy O O)
theorem qn {α β:Type}(f:α->β){L:List α}{k:Nat}{x:α}(hx:L[k]? = some x):(L.take (k+1)).map f=(L.take k).map f++[f x]:=by
 rw [List.take_add_one,hx,List.map_append];rfl
theorem yg {α β:Type}(f:α->β){L:List α}{k:Nat}(h:L.length<=k):(L.take k).map f=L.map f:=by rw [List.take_of_length_le h]
structure Wb (q:aB):Prop where
  i:Inv q
  h:∀x∈q.Held,(gQ x.Place.aC).size<=21/\(gQ x.Place.Slot).size<=21/\(bN x.ak).size<=25/\0<=x.Place.aC/\x.Place.aC<=4/\0<=x.Place.Slot/\x.Place.Slot<=5/\0<=x.ak/\x.ak<=10000
  t:∀x∈q.Things,(bN x.ID).size<=25/\(bN x.Kind).size<=25/\x.Data.size<=8/\0<=x.ID/\x.ID<=10000/\0<=x.Kind/\x.Kind<=2
  w:∀x∈q.ao,((bN x.ID).size<=25/\(bN x.aE).size<=25/\(bN x.Rights).size<=25/\(bN x.aQ).size<=25/\(bN x.From).size<=25)/\0<=x.ID/\x.ID<=999/\0<=x.aE/\x.aE<=999/\0<=x.Rights/\x.Rights<=7/\0<=x.aQ/\x.aQ<=99/\0<=x.From/\x.From<=999
  n:(bN q.af).size<=25/\(bN q.ah).size<=25
theorem lw {n:Int}(h:0<=n/\n<=10000):(bN n).size<=25:=Ld (by omega)
theorem GM {n:Int}(h:0<=n/\n<=10000):(gQ n).size<=21:=yc (by omega)
theorem Inv.Wc {q:aB}(i:Inv q):Wb q where
 i:=i
 h:=fun x hx=>by
  have k:=i.Iu hx;have p:=cx k.1;have k1:=k.2.1;have k2:=k.2.2
  exact ⟨GM (by omega),GM (by omega),lw (by omega),by omega,by omega,by omega,by omega,by omega,by omega⟩
 t:=fun x hx=>by
  have k:=i.Oq hx;have a:=k.i0;have b:=k.i9;have c:=k.kd;have d:=k.ds
  exact ⟨lw (by omega),lw (by omega),d,a,by omega,by omega,by omega⟩
 w:=fun x hx=>by
  have k:=i.tree.mem hx;have i1:=k.id1;have i9:=k.Og;have t1:=k.Qc;have t9:=k.Qd;have a0:=k.Qe;have a9:=k.Qf;have f0:=k.QX;have fl:=k.Qg;have q0:=k.Ky;have q7:=k.Kz
  exact ⟨⟨lw (by omega),lw (by omega),lw (by omega),lw (by omega),lw (by omega)⟩,by omega,by omega,by omega,by omega,by omega,by omega,by omega,by omega,by omega,by omega⟩
 n:=by
  have a1:=i.oN;have a2:=i.qS;have a3:=i.pj;have a4:=i.pn
  exact ⟨lw (by omega),lw (by omega)⟩
theorem qp (bU bK bL bM:Value)(r:aB)(w:World)(own:List Nat)(H:HN w own [] [ag.ls bU r.ao,ag.ls bK r.Things,ag.ls bL r.Held,ag.ls bM r.Notes,ew])(hk:Ok r)(hI:Inv r):RC Tryz.prog 64 #[.agg #[bU,bK,bL,bM,iV r.af,iV r.ah]] H (fun z:Value=>z) (fun z=>[ag.row 117 z (bf r)]) (fun _=>[]):=by
 have eK:=H.cq 0 rfl
 have dJ:=H.cq 1 rfl
 have fG:=H.cq 2 rfl
 have eL:=H.cq 3 rfl
 have bw:=hk.wl;have bt:=hk.tl;have bh:=hk.hl;have bn:=hk.nl;have KN:=hk.w0;have KO:=hk.w1;have KP:=hk.t0;have KQ:=hk.t1
 have hq:=(jw hI).1.Wc
 have hn:=hq.n;have oN:=hq.i.oN;have qS:=hq.i.qS;have pj:=hq.i.pj;have pn:=hq.i.pn;have hl0:=tq hq.i;have Wz:=hq.i.jl;have WA:=(jw hI).2.2.2.1
 refine R.bF [(0,.agg #[bU,bK,bL,bM,iV r.af,iV r.ah])] Tryz.func64 O O O O H<|R.reg O<|R.s O (s.box O O O) fun b1=>?_
 refine R.u 1 O<|R.nil<|R.reg O<|R.q (q.cT 0 O O aj) O<|R.s O (s.aT [0,1] bJ _ _ _ O O O RJ O O (fun w own hw H=>Fw bU bK bL bM r w own H ‹_›) O) ?_
 rintro ⟨z1,z2,z3,z4⟩
 dsimp only
 refine R.s O (s.fP 0 _ O O O (fun _ _=>rfl) (.inl aj) (fun w hw=>(ae (Sl.one (hw.bO 0 O)) (ae (Sl.one (hw.bO 1 O)) (ae (Sl.one (hw.bO 2 O)) (ae (Sl.one (hw.bO 3 O)) (ae O (ae O aO))))))) O O O) fun _=>?_
 refine R.nil<|R.reg O<|R.u 1 O<|R.nil<|R.reg O<|R.q (q.aP O cM O) O<|R.q (q.ld 0 O O dP O) O<|R.q (q.len' (dh 2 O) O Tryz.underlying45) O<|R.u 1 O<|R.nil<|R.row0 (α:=Change) 117<|R.loop (fun g_:Nat×Value×(List Change)=>[(1,.pointer (some ⟨b1,0,none⟩)),(3,g_.2.1),(13,z3),(14,iV ((bm r).Held.length:Int)),(15,iV (g_.1:Int))]) (fun g_=>[ag.row 117 g_.2.1 g_.2.2,ag.box b1 [z1,z2,z3,z4,iV (bm r).af,iV (bm r).ah] 48,ag.held w own]) (fun g_=>[ag.ls z1 (bm r).ao,ag.ls z2 (bm r).Things,ag.ls z3 (bm r).Held,ag.ls z4 (bm r).Notes,ag.ls bU r.ao,ag.ls bK r.Things,ag.ls bL r.Held,ag.ls bM r.Notes,ew]) (fun g_=>g_.1<=(bm r).Held.length/\g_.2.2=((bm r).Held.take g_.1).map hrow) (fun g_=>(bm r).Held.length-g_.1) (0,(nS),[]) O (by exact ⟨by omega,rfl⟩) (sF O) (iz [0,1,2] bZ O) ?_
 rintro ⟨k,u,l⟩ ⟨hk,HL⟩
 dsimp only at *
 have ll:l.length<=24:=by rw [HL,List.length_map,List.length_take];omega
 refine R.reg O<|?_
 by_cases h1:k<(bm r).Held.length
 .
  refine R.q (q.dC O O) O<|R.nil<|R.az O O<|R.reg O<|?_
  obtain ⟨x1,hx1⟩:∃z,((bm r).Held)[k]? = some z:=⟨_,List.getElem?_eq_getElem (by omega)⟩
  have PU:=hq.h _ (List.mem_of_getElem? hx1)
  refine R.q (q.idx (i:=k) (dh 2 O) O O cK O hx1) O<|R.q (q.gh (ds:=pE x1) (dh 2 O) hx1 O gy O) O<|R.s O (s.alloc gX O O) fun b2=>?_
  refine R.s O (s.st 0 _ O O O O (.inl gy) O O O O) fun _=>?_
  refine R.nil<|R.fJ (fuel:=18) [0,2,3] O O mixed O<|D.q (i:=0) O (aA [0,2,3] bZ O) O (q.mv O) O<|D.q (i:=1) O (aA [0,2,3] bZ O) O (q.aP O rK O) O<|D.q (i:=2) O (aA [0,2,3] bZ O) O (q.aP O fu O) O<|D.q (i:=3) O (aA [0,2,3] bZ O) O (q.ld 0 O O ap O) O<|D.q (i:=6) O (aA [0,2,3] bZ O) O (q.aP O rK O) O<|D.q (i:=7) O (aA [0,2,3] bZ O) O (q.aP O nD O) O<|D.q (i:=8) O (aA [0,2,3] bZ O) O (q.ld 0 O O ap O) O<|D.q (i:=11) O (aA [0,2,3] bZ O) O (q.aP O jS O) O<|D.q (i:=12) O (aA [0,2,3] bZ O) O (q.ld 0 O O ap O) O<|D.one (i:=4) O<|Do.s (s.c (q.call ED O O (fun w hw=>(yb x1.Place.aC w (by exact hw.okF ew (by repeat (first|exact List.Mem.head _|refine List.Mem.tail _ ?_))) (by omega)))) O) (fun _=>(aA [0,2,3] bZ O)) O fun _=>?_
  refine D.q (i:=5) O (aA [0,2,3] bZ O) O (q.cat O O (by (simp only [ByteArray.size_append,aI,List.length_cons,List.length_nil];omega))) O<|D.one (i:=9) O<|Do.s (s.c (q.call ED O O (fun w hw=>(yb x1.Place.Slot w (by exact hw.okF ew (by repeat (first|exact List.Mem.head _|refine List.Mem.tail _ ?_))) (by omega)))) O) (fun _=>(aA [0,2,3] bZ O)) O fun _=>?_
  refine D.q (i:=10) O (aA [0,2,3] bZ O) O (q.cat O O (by (simp only [ByteArray.size_append,aI,List.length_cons,List.length_nil];omega))) O<|D.one (i:=13) O<|Do.s (s.c (q.call lK O O (fun w hw=>(iD x1.ak w (by exact hw.okF ew (by repeat (first|exact List.Mem.head _|refine List.Mem.tail _ ?_))) (by omega)))) O) (fun _=>(aA [0,2,3] bZ O)) O fun _=>?_
  refine D.q (i:=14) O (aA [0,2,3] bZ O) O (q.build kM O O) O<|D.one (i:=15) O<|Do.s (s.bs (l:=([(⟨((⟨#[104]⟩++gQ x1.Place.aC)++gQ x1.Place.Slot),bN x1.ak,false⟩:Change)]:List Change)) bW cC O O O O O O O) (fun _=>(aA [1,3,4] bZ O)) O fun b3=>?_
  refine D.one (i:=16) O<|Do.s (s.app 2 _ O O O (bD 0 O) jt (by (simp;omega)) (by (simp;omega)) (fun _=>rfl) O) (fun _=>(aA [1,3,4] bZ O)) O fun v1=>?_
  refine D.q (i:=17) O (aA [1,3,4] bZ O) O (q.as O) O<|D.done<|R.reg O<|R.q (q.bA (r:=((k+1:Nat):Int)) O O) O<|R.u 1 O<|R.nil<|R.back (k+1,v1,(l++([(⟨((⟨#[104]⟩++gQ x1.Place.aC)++gQ x1.Place.Slot),bN x1.ak,false⟩:Change)]))) O (by (exact ⟨by omega,by rw [qn hrow hx1,<- HL];rfl⟩)) (by dsimp only;omega) (sF O) (aA [2,3,4] bZ O)
 refine R.q (q.cS O O) O<|R.nil<|R.aD O O<|R.reg O<|R.q (q.aP O du O) O<|R.q (q.ld 1 O O eQ O) O<|R.q (q.len' (dh 1 O) O Tryz.underlying44) O<|R.u 1 O<|R.nil<|R.loop (fun g_:Nat×Value×(List Change)=>[(1,.pointer (some ⟨b1,0,none⟩)),(3,g_.2.1),(38,z2),(39,iV ((bm r).Things.length:Int)),(40,iV (g_.1:Int))]) (fun g_=>[ag.row 117 g_.2.1 g_.2.2,ag.box b1 [z1,z2,z3,z4,iV (bm r).af,iV (bm r).ah] 48,ag.held w own]) (fun g_=>[ag.ls z1 (bm r).ao,ag.ls z2 (bm r).Things,ag.ls z3 (bm r).Held,ag.ls z4 (bm r).Notes,ag.ls bU r.ao,ag.ls bK r.Things,ag.ls bL r.Held,ag.ls bM r.Notes,ew]) (fun g_=>g_.1<=(bm r).Things.length/\g_.2.2=(bm r).Held.map hrow++((bm r).Things.take g_.1).map lW) (fun g_=>(bm r).Things.length-g_.1) (0,u,l) O (by exact ⟨by omega,by rw [HL,yg _ (by omega)];exact (List.append_nil _).symm⟩) (sF O) (iz [0,1,2] bZ O) ?_
 rintro ⟨j,u2,l2⟩ ⟨hj,HL2⟩
 dsimp only at *
 have Ve:l2.length<=34:=by rw [HL2,List.length_append,List.length_map,List.length_map,List.length_take];omega
 refine R.reg O<|?_
 by_cases h2:j<(bm r).Things.length
 .
  refine R.q (q.dC O O) O<|R.nil<|R.az O O<|R.reg O<|?_
  obtain ⟨x2,hx2⟩:∃z,((bm r).Things)[j]? = some z:=⟨_,List.getElem?_eq_getElem (by omega)⟩
  have Wg:=hq.t _ (List.mem_of_getElem? hx2)
  refine R.q (q.idx (i:=j) (dh 1 O) O O kg O hx2) O<|R.q (q.gh (ds:=vt x2) (dh 1 O) hx2 O jE O) O<|R.s O (s.alloc jq O O) fun b4=>?_
  refine R.s O (s.st 0 _ O O O O (.inl jE) O O O O) fun _=>?_
  refine R.nil<|R.fJ (fuel:=15) [0,2,3] O O mixed O<|D.q (i:=0) O (aA [0,2,3] bZ O) O (q.mv O) O<|D.q (i:=1) O (aA [0,2,3] bZ O) O (q.aP O oo O) O<|D.q (i:=2) O (aA [0,2,3] bZ O) O (q.ld 0 O O ap O) O<|D.q (i:=5) O (aA [0,2,3] bZ O) O (q.aP O wm O) O<|D.q (i:=6) O (aA [0,2,3] bZ O) O (q.ld 0 O O ap O) O<|D.q (i:=8) O (aA [0,2,3] bZ O) O (q.aP O wn O) O<|D.q (i:=9) O (aA [0,2,3] bZ O) O (q.ld 0 O O bG O) O<|D.one (i:=3) O<|Do.s (s.c (q.call lK O O (fun w hw=>(iD x2.ID w (by exact hw.okF ew (by repeat (first|exact List.Mem.head _|refine List.Mem.tail _ ?_))) (by omega)))) O) (fun _=>(aA [0,2,3] bZ O)) O fun _=>?_
  refine D.q (i:=4) O (aA [0,2,3] bZ O) O (q.cat O O (by (simp only [ByteArray.size_append,aI,List.length_cons,List.length_nil];omega))) O<|D.one (i:=7) O<|Do.s (s.c (q.call lK O O (fun w hw=>(iD x2.Kind w (by exact hw.okF ew (by repeat (first|exact List.Mem.head _|refine List.Mem.tail _ ?_))) (by omega)))) O) (fun _=>(aA [0,2,3] bZ O)) O fun _=>?_
  refine D.q (i:=10) O (aA [0,2,3] bZ O) O (q.cat O O (by omega)) O<|D.q (i:=11) O (aA [0,2,3] bZ O) O (q.build kM O O) O<|D.one (i:=12) O<|Do.s (s.bs (l:=([(⟨(⟨#[116]⟩++bN x2.ID),(bN x2.Kind++x2.Data),false⟩:Change)]:List Change)) bW cC O O O O O O O) (fun _=>(aA [1,3,4] bZ O)) O fun b5=>?_
  refine D.one (i:=13) O<|Do.s (s.app 2 _ O O O (bD 0 O) jt (by (simp;omega)) (by (simp;omega)) (fun _=>rfl) O) (fun _=>(aA [1,3,4] bZ O)) O fun v2=>?_
  refine D.q (i:=14) O (aA [1,3,4] bZ O) O (q.as O) O<|D.done<|R.reg O<|R.q (q.bA (r:=((j+1:Nat):Int)) O O) O<|R.u 1 O<|R.nil<|R.back (j+1,v2,(l2++([(⟨(⟨#[116]⟩++bN x2.ID),(bN x2.Kind++x2.Data),false⟩:Change)]))) O (by (exact ⟨by omega,by rw [qn lW hx2,<- List.append_assoc,<- HL2];rfl⟩)) (by dsimp only;omega) (sF O) (aA [2,3,4] bZ O)
 refine R.q (q.cS O O) O<|R.nil<|R.aD O O<|R.reg O<|R.q (q.aP O bq O) O<|R.q (q.ld 1 O O cd O) O<|R.q (q.len' (dh 0 O) O Tryz.underlying43) O<|R.u 1 O<|R.nil<|R.loop (fun g_:Nat×Value×(List Change)=>[(1,.pointer (some ⟨b1,0,none⟩)),(3,g_.2.1),(60,z1),(61,iV ((bm r).ao.length:Int)),(62,iV (g_.1:Int))]) (fun g_=>[ag.row 117 g_.2.1 g_.2.2,ag.box b1 [z1,z2,z3,z4,iV (bm r).af,iV (bm r).ah] 48,ag.held w own]) (fun g_=>[ag.ls z1 (bm r).ao,ag.ls z2 (bm r).Things,ag.ls z3 (bm r).Held,ag.ls z4 (bm r).Notes,ag.ls bU r.ao,ag.ls bK r.Things,ag.ls bL r.Held,ag.ls bM r.Notes,ew]) (fun g_=>g_.1<=(bm r).ao.length/\g_.2.2=(bm r).Held.map hrow++(bm r).Things.map lW++((bm r).ao.take g_.1).map nX) (fun g_=>(bm r).ao.length-g_.1) (0,u2,l2) O (by exact ⟨by omega,by rw [HL2,yg _ (by omega)];exact (List.append_nil _).symm⟩) (sF O) (iz [0,1,2] bZ O) ?_
 rintro ⟨i,u3,l3⟩ ⟨hi,UF⟩
 dsimp only at *
 have WB:l3.length<=58:=by rw [UF,List.length_append,List.length_append,List.length_map,List.length_map,List.length_map,List.length_take];omega
 refine R.reg O<|?_
 by_cases h3:i<(bm r).ao.length
 .
  refine R.q (q.dC O O) O<|R.nil<|R.az O O<|R.reg O<|?_
  obtain ⟨x3,hx3⟩:∃z,((bm r).ao)[i]? = some z:=⟨_,List.getElem?_eq_getElem (by omega)⟩
  have WC:=hq.w _ (List.mem_of_getElem? hx3)
  refine R.q (q.idx (i:=i) (dh 0 O) O O eu O hx3) O<|R.q (q.gh (ds:=jP x3) (dh 0 O) hx3 O aN O) O<|R.s O (s.alloc bQ O O) fun b6=>?_
  refine R.s O (s.st 0 _ O O O O (.inl aN) O O O O) fun _=>?_
  refine R.nil<|R.fJ (fuel:=24) [0,2,3] O O mixed O<|D.q (i:=0) O (aA [0,2,3] bZ O) O (q.mv O) O<|D.q (i:=1) O (aA [0,2,3] bZ O) O (q.aP O bX O) O<|D.q (i:=2) O (aA [0,2,3] bZ O) O (q.ld 0 O O ap O) O<|D.q (i:=5) O (aA [0,2,3] bZ O) O (q.aP O fU O) O<|D.q (i:=6) O (aA [0,2,3] bZ O) O (q.ld 0 O O ap O) O<|D.q (i:=8) O (aA [0,2,3] bZ O) O (q.aP O jT O) O<|D.q (i:=9) O (aA [0,2,3] bZ O) O (q.ld 0 O O ap O) O<|D.q (i:=12) O (aA [0,2,3] bZ O) O (q.aP O iU O) O<|D.q (i:=13) O (aA [0,2,3] bZ O) O (q.ld 0 O O ap O) O<|D.q (i:=16) O (aA [0,2,3] bZ O) O (q.aP O eW O) O<|D.q (i:=17) O (aA [0,2,3] bZ O) O (q.ld 0 O O ap O) O<|D.one (i:=3) O<|Do.s (s.c (q.call lK O O (fun w hw=>(iD x3.ID w (by exact hw.okF ew (by repeat (first|exact List.Mem.head _|refine List.Mem.tail _ ?_))) (by omega)))) O) (fun _=>(aA [0,2,3] bZ O)) O fun _=>?_
  refine D.q (i:=4) O (aA [0,2,3] bZ O) O (q.cat O O (by (simp only [ByteArray.size_append,aI,List.length_cons,List.length_nil];omega))) O<|D.one (i:=7) O<|Do.s (s.c (q.call lK O O (fun w hw=>(iD x3.aE w (by exact hw.okF ew (by repeat (first|exact List.Mem.head _|refine List.Mem.tail _ ?_))) (by omega)))) O) (fun _=>(aA [0,2,3] bZ O)) O fun _=>?_
  refine D.one (i:=10) O<|Do.s (s.c (q.call lK O O (fun w hw=>(iD x3.Rights w (by exact hw.okF ew (by repeat (first|exact List.Mem.head _|refine List.Mem.tail _ ?_))) (by omega)))) O) (fun _=>(aA [0,2,3] bZ O)) O fun _=>?_
  refine D.q (i:=11) O (aA [0,2,3] bZ O) O (q.cat O O (by omega)) O<|D.one (i:=14) O<|Do.s (s.c (q.call lK O O (fun w hw=>(iD x3.aQ w (by exact hw.okF ew (by repeat (first|exact List.Mem.head _|refine List.Mem.tail _ ?_))) (by omega)))) O) (fun _=>(aA [0,2,3] bZ O)) O fun _=>?_
  refine D.q (i:=15) O (aA [0,2,3] bZ O) O (q.cat O O (by (simp only [ByteArray.size_append,aI,List.length_cons,List.length_nil];omega))) O<|D.one (i:=18) O<|Do.s (s.c (q.call lK O O (fun w hw=>(iD x3.From w (by exact hw.okF ew (by repeat (first|exact List.Mem.head _|refine List.Mem.tail _ ?_))) (by omega)))) O) (fun _=>(aA [0,2,3] bZ O)) O fun _=>?_
  refine D.q (i:=19) O (aA [0,2,3] bZ O) O (q.cat O O (by (simp only [ByteArray.size_append,aI,List.length_cons,List.length_nil];omega))) O<|D.q (i:=20) O (aA [0,2,3] bZ O) O (q.build kM O O) O<|D.one (i:=21) O<|Do.s (s.bs (l:=([(⟨(⟨#[119]⟩++bN x3.ID),(((bN x3.aE++bN x3.Rights)++bN x3.aQ)++bN x3.From),false⟩:Change)]:List Change)) bW cC O O O O O O O) (fun _=>(aA [1,3,4] bZ O)) O fun b7=>?_
  refine D.one (i:=22) O<|Do.s (s.app 2 _ O O O (bD 0 O) jt (by (simp;omega)) (by (simp;omega)) (fun _=>rfl) O) (fun _=>(aA [1,3,4] bZ O)) O fun v3=>?_
  refine D.q (i:=23) O (aA [1,3,4] bZ O) O (q.as O) O<|D.done<|R.reg O<|R.q (q.bA (r:=((i+1:Nat):Int)) O O) O<|R.u 1 O<|R.nil<|R.back (i+1,v3,(l3++([(⟨(⟨#[119]⟩++bN x3.ID),(((bN x3.aE++bN x3.Rights)++bN x3.aQ)++bN x3.From),false⟩:Change)]))) O (by (exact ⟨by omega,by rw [qn nX hx3,<- List.append_assoc,<- UF];rfl⟩)) (by dsimp only;omega) (sF O) (aA [2,3,4] bZ O)
 refine R.q (q.cS O O) O<|R.nil<|R.aD O O<|R.fJ (fuel:=12) [1,2] O O mixed O<|D.q (i:=0) O (aA [1,2] bZ O) O (q.mv O) O<|D.q (i:=1) O (aA [1,2] bZ O) O (q.aP O cO O) O<|D.q (i:=2) O (aA [1,2] bZ O) O (q.ld 0 O O ap O) O<|D.q (i:=4) O (aA [1,2] bZ O) O (q.aP O eI O) O<|D.q (i:=5) O (aA [1,2] bZ O) O (q.ld 0 O O ap O) O<|D.one (i:=3) O<|Do.s (s.c (q.call lK O O (fun w hw=>(iD (bm r).af w (by exact hw.okF ew (by repeat (first|exact List.Mem.head _|refine List.Mem.tail _ ?_))) (by omega)))) O) (fun _=>(aA [1,2] bZ O)) O fun _=>?_
 refine D.one (i:=6) O<|Do.s (s.c (q.call lK O O (fun w hw=>(iD (bm r).ah w (by exact hw.okF ew (by repeat (first|exact List.Mem.head _|refine List.Mem.tail _ ?_))) (by omega)))) O) (fun _=>(aA [1,2] bZ O)) O fun _=>?_
 refine D.q (i:=7) O (aA [1,2] bZ O) O (q.cat O O (by omega)) O<|D.q (i:=8) O (aA [1,2] bZ O) O (q.build kM O O) O<|D.one (i:=9) O<|Do.s (s.bs (l:=([(⟨⟨#[120]⟩,(bN (bm r).af++bN (bm r).ah),false⟩:Change)]:List Change)) bW cC O O O O O O O) (fun _=>(aA [2,3] bZ O)) O fun b8=>?_
 refine D.one (i:=10) O<|Do.s (s.app 1 _ O O O (bD 0 O) jt (by (simp;omega)) (by (simp;omega)) (fun _=>rfl) O) (fun _=>(aA [2,3] bZ O)) O fun v4=>?_
 refine D.q (i:=11) O (aA [2,3] bZ O) O (q.as O) O<|D.done<|?_
 have hz:bf r=(l3++([(⟨⟨#[120]⟩,(bN (bm r).af++bN (bm r).ah),false⟩:Change)])):=by (unfold bf rowsOf;rw [UF,yg _ (by omega)];rfl)
 rw [hz]
 exact R.w1 v4 [1,3] [] O Tryz.results64 (RV.tmp O) O O O O
theorem yh (Cd:Value)(a:List Int)(CC:Value)(b:List Int)(w:World)(EG:Sl w Cd a)(Hl:Sl w CC b):Calls Tryz.prog 153 #[Cd,CC] w fun e w'=>e = .returned (.bool (decide (a=b)))/\Ext w w':=by
 have LN:=EG.gW
 have VB:=Hl.gW
 refine R.enter [] [(0,Cd),(1,CC)] Tryz.func153 O O O O<|R.reg O<|R.u 1 O<|R.nil<|R.reg O<|R.u 1 O<|R.q (q.len' (fun _=>Wd.old EG) O Tryz.underlying159) O<|R.u 1 O<|R.q (q.len' (fun _=>Wd.old Hl) O Tryz.underlying159) O<|?_
 by_cases h1:a.length=b.length
 .
  refine R.q (q.ny O O) O<|R.nil<|R.aD O O<|R.reg O<|R.u 1 O<|R.q (q.len' (fun _=>Wd.old EG) O Tryz.underlying159) O<|R.u 1 O<|R.nil<|R.loop (fun k:Nat=>[(0,Cd),(1,CC),(12,iV (a.length:Int)),(13,iV (k:Int))]) (fun k:Nat=>[]) (fun k:Nat=>[]) (fun k:Nat=>k<=a.length /\ ∀j,j<k->a[j]? = b[j]?) (fun k:Nat=>a.length-k) 0 O (by exact ⟨by omega,fun j hj=>absurd hj (Nat.not_lt_zero _)⟩) (sF O) (iz [] [] O) ?_
  rintro k ⟨hk,HA⟩
  refine R.reg O<|?_
  by_cases h2:k<a.length
  .
   refine R.q (q.dC O O) O<|R.nil<|R.az O O<|R.reg O<|R.u 2 O<|R.nil ?_
   obtain ⟨x1,hx1⟩:∃z,a[k]? = some z:=⟨_,List.getElem?_eq_getElem (by omega)⟩
   obtain ⟨x2,hx2⟩:∃z,b[k]? = some z:=⟨_,List.getElem?_eq_getElem (by omega)⟩
   by_cases h3:x1=x2
   .
    refine R.eZ O mixed (by kernel_rfl)<|Q.u 2 O<|Q.q (q.idx (i:=k) (fun _=>Wd.old EG) O O da O hx1) O<|Q.q (q.ln (fun _=>Wd.old EG) hx1 O ap O) O<|Q.u 2 O<|Q.q (q.idx (i:=k) (fun _=>Wd.old Hl) O O da O hx2) O<|Q.q (q.ln (fun _=>Wd.old Hl) hx2 O ap O) O<|Q.q (q.ny O O) O<|Q.nil<|R.aD O O<|R.reg O<|R.q (q.bA (r:=((k+1:Nat):Int)) O O) O<|R.u 1 O<|R.nil<|R.back (k+1) O (by (exact ⟨by omega,zd HA hx1 hx2 ‹_›⟩)) (by omega) (sF O) (iz [] [] O)
   exact R.eZ O mixed (by kernel_rfl)<|Q.u 2 O<|Q.q (q.idx (i:=k) (fun _=>Wd.old EG) O O da O hx1) O<|Q.q (q.ln (fun _=>Wd.old EG) hx1 O ap O) O<|Q.u 2 O<|Q.q (q.idx (i:=k) (fun _=>Wd.old Hl) O O da O hx2) O<|Q.q (q.ln (fun _=>Wd.old Hl) hx2 O ap O) O<|Q.q (q.nu O O) O<|Q.nil<|R.az O O<|R.reg O<|R.u 1 O<|R.nil<|R.rv O Tryz.results153 O (rB (by (exact Cz hx1 hx2 ‹_›)))
  exact R.q (q.cS O O) O<|R.nil<|R.aD O O<|R.reg O<|R.u 1 O<|R.nil<|R.rv O Tryz.results153 O (rB (by (exact CB ‹_› ‹_› HA)))
 exact R.q (q.nu O O) O<|R.nil<|R.az O O<|R.reg O<|R.u 1 O<|R.nil<|R.rv O Tryz.results153 O (rB (by (exact Cy ‹_›)))
end
end Go.Proofs.YtkbhcbipadkcaaaGreatDoor
