import Derived.Test.YtnmpibjlnninjaaGreatDoorKT26
namespace Go.Proofs.YtnmpibjlnninjaaGreatDoor
set_option linter.unusedVariables false
set_option linter.unusedSimpArgs false
set_option maxRecDepth 100000
set_option maxHeartbeats 90000000
open Go Go.RowKit
attribute [local irreducible] Run Rg Rq Qt Qa Stp Dg Do Dm bN
theorem V1 {r:Int}(h0:0<=r)(h7:r<=7):gj r 4=decide (4<=r):=by
 have h:r=0∨r=1∨r=2∨r=3∨r=4∨r=5∨r=6∨r=7:=ae
 rcases h with rfl|rfl|rfl|rfl|rfl|rfl|rfl|rfl <;> decide
theorem mD {r:Int}(h0:0<=r/\r<=7)(h:¬ r<4):gj r 4=true:=by rw [V1 h0.1 h0.2];exact decide_eq_true ae
theorem II {r:Int}(h0:0<=r/\r<=7)(h:r<4):gj r 4=false:=by rw [V1 h0.1 h0.2];exact decide_eq_false ae
theorem PF {l:List Int}{n x:Int}{k:Nat}(hx:l[k]? = some x)(h:x=n):true=decide (n∈l):=by
 subst h;exact (decide_eq_true (List.mem_of_getElem? hx)).symm
theorem Nr {l:List Int}{n:Int}(h:∀ (j:Nat) x,j<l.length->l[j]? = some x->¬ x=n):false=decide (n∈l):=by
 refine (decide_eq_false fun hm=>?_).symm
 obtain ⟨j,hj⟩:=List.mem_iff_getElem?.1 hm
 exact h j _ (List.getElem?_eq_some_iff.1 hj).1 hj rfl
theorem mE {α:Type}{f:α->Bool}{l:List α}{k:Nat}{x:α}(hx:l[k]? = some x)(h:f x=true):(l.take (k+1)).filter f=(l.take k).filter f++[x]:=by
 rw [List.take_add_one,hx];simp [List.filter_append,h]
theorem vd {α:Type}{f:α->Bool}{l:List α}{k:Nat}{x:α}(hx:l[k]? = some x)(h:f x=false):(l.take (k+1)).filter f=(l.take k).filter f:=by
 rw [List.take_add_one,hx];simp [List.filter_append,h]
def fX (r:aA)(w:ak):aA:=⟨r.aj++[w],r.Things,r.Held,r.Notes,r.ag+1,r.ai⟩
theorem ve {α:Type}(f:α->Bool)(l:List α)(k:Nat):((l.take k).filter f).length<=k:=Nat.le_trans (List.length_filter_le _ _) (by rw [List.length_take];omega)
theorem CW (bA:Value)(l:List Held)(p:Place)(w:World)(fC:Sl w bA l)(hg:Good l):Calls Tryz.prog 150 #[bA,.agg #[.int .i64 p.aB,.int .i64 p.Slot]] w fun e w'=>e = .returned (.int .i64 (lY l p))/\Ext w w':=by
 rw [at_eq (gA hg)];exact AU bA l p w fC
theorem Ka (bA:Value)(l:List Held)(h:Int)(w:World)(fC:Sl w bA l)(hg:Good l):Calls Tryz.prog 95 #[bA,.int .i64 h] w fun e w'=>e = .returned (.int .i64 (fj l h))/\Ext w w':=by
 rw [free_eq (gA hg)];exact EK bA l h w fC
theorem mF (bA:Value)(l:List Held)(p:Place)(id:Int)(w:World)(own:List Nat)(H:Wd w (blks []++own) ([]++[ah.held w own]) [ah.ls bA (l:List Held)] w)(hl:l.length<=100000)(hg:Good l):Calls Tryz.prog 88 #[bA,.agg #[.int .i64 p.aB,.int .i64 p.Slot],.int .i64 id] w fun e w' => ∃z:Value,e = .returned (z)/\Wd w (blks []++own) ([ah.row 124 z (eY l p id:List Held)]++[ah.held w own]) [] w':=by
 rw [put_eq (gA hg)];exact Gv bA l p id w own H hl
theorem FD (bA:Value)(l:List ak)(w:World)(fC:Sl w bA l)(hT:cb l):Calls Tryz.prog 148 #[bA] w fun e w' => ∃u,e = .returned u/\Own w.heap.size 3 w' u (a8 l)/\Ext w w':=by
 unfold a8;rw [uy hT];exact zQ bA l w fC
theorem lK (bA:Value)(l:List ak)(id:Int)(w:World)(fC:Sl w bA l)(hl:l.length<=1000000)(hT:cb l):Calls Tryz.prog 84 #[bA,.int .i64 id] w fun e w' => ∃u,e = .returned u/\Own w.heap.size 126 w' u (without l id)/\Ext w w':=by
 rw [<- K6 hT];exact zb bA l id w fC hl
theorem CX (bA:Value)(l:List ak)(id:Int)(w:World)(fC:Sl w bA l)(hT:cb l)(hl:l.length<=1000000):Calls Tryz.prog 92 #[bA,.int .i64 id] w fun e w' => ∃u,e = .returned u/\Own w.heap.size 3 w' u (im id l)/\Ext w w':=by
 rw [Ht hT];exact zc bA l id w fC hT hl
theorem nj (bA:Value)(l:List Int)(n:Int)(w:World)(fC:Sl w bA l):Calls Tryz.prog 93 #[bA,iV n] w fun e w'=>e = .returned (.bool (decide (n∈l)))/\Ext w w':=by
 have uO:=fC.dY
 refine R.eV ?_
 refine R.loop (fun k:Nat=>[(0,bA),(1,iV n),(5,iV (k:Int))]) (fun k:Nat=>[]) (fun k:Nat=>[]) (fun k:Nat=>k<=l.length /\ ∀ (j:Nat) x,j<k->l[j]? = some x->¬ x=n) (fun k:Nat=>l.length-k) 0 O (by exact ⟨ae,fun j x hj=>absurd hj (Nat.not_lt_zero _)⟩) (sF O) (dE [] [] O) ?_
 rintro k ⟨hk,HA⟩
 refine U ?_
 refine C (k<l.length) ?_ ?_ <;> intro h1
 .
  obtain ⟨x1,hx1⟩:=gE l k
  refine U ?_
  refine C (x1=n) ?_ ?_ <;> intro h2
  .
   refine R.rt ?_
   (exact PF hx1 af)
  refine R.back (k+1) O (by exact ⟨ae,fun j x hj hx=>if e:j=k then by subst e;rw [hx1] at hx;injection hx with hx;subst hx;assumption else HA j x ae hx⟩) ae (sF O) (dE [] [] O)
 refine R.rt ?_
 (exact Nr (fun j x hj=>HA j x ae))
theorem om (aW aS aT aU:Value)(r:aA)(p:Place)(w:World)(pG:Sl w aW r.aj)(zR:Sl w aS r.Things)(tY:Sl w aT r.Held)(Fg:Sl w aU r.Notes)(hk:Ok r)(hI:Inv r):Calls Tryz.prog 89 #[.agg #[aW,aS,aT,aU,iV r.ag,iV r.ai],.agg #[iV p.aB,iV p.Slot]] w fun e w'=>e = .returned (.tuple #[ak.val (aL r p).1,iV (aL r p).2])/\Ext w w':=by
 have b1:=hk.hl
 have pf:=kD p
 refine R.eV ?_
 refine R.nb fun b1=>?_
 refine R.nb fun b2=>?_
 refine R.nb fun b3=>?_
 refine R.kc O O (fun w hw=>m8 p w)<|U ?_
 refine C (0<aY p) ?_ ?_ <;> intro h1
 .exact R.rT O Tryz.results89 (RV.cell 0 O O bM) (RV.tmp O) (congrArg ak.val (show (⟨0,0,0,0,0⟩:ak)=(aL r p).1 from by (rw [pZ ae];rfl))) (rI (by rw [pZ ae];done))
 rcases dv r.aj (lY r.Held p) with ⟨eW,CK⟩ | ⟨vP,lz,eW,ub,QS⟩
 .
  refine R.cG O mixed ao<|U ?_
  refine Q.c (q.call Mh O O (fun w hw=>CW _ r.Held p w ((fun _=>Wd.old tY) w hw) (by exact hI.good))) O<|Q.c (q.call Cp O O (fun w hw=>cv (congrArg (Value.int .i64) eW) (fQ _ r.aj (lY r.Held p) w ((fun _=>Wd.old pG) w hw)))) O<|U ?_
  exact R.rT O Tryz.results89 (RV.cell 0 O O bM) (RV.tmp O) (congrArg ak.val (show (⟨0,0,0,0,0⟩:ak)=(aL r p).1 from by (rw [qF ae eW];rfl))) (rI (by rw [qF ae eW];done))
 refine R.cG O mixed ao<|U ?_
 refine Q.c (q.call Mh O O (fun w hw=>CW _ r.Held p w ((fun _=>Wd.old tY) w hw) (by exact hI.good))) O<|Q.c (q.call Cp O O (fun w hw=>cv (congrArg (Value.int .i64) eW) (fQ _ r.aj (lY r.Held p) w ((fun _=>Wd.old pG) w hw)))) O<|U ?_
 refine R.q (q.idx (i:=vP) (fun _=>Wd.old pG) O O fF O (List.getElem?_eq_getElem lz)) O ?_
 refine R.q (q.KA (ds:=rQ (r.aj[vP])) (fun _=>Wd.old pG) (List.getElem?_eq_getElem lz) O bM O) O ?_
 refine U ?_
 exact R.rT O Tryz.results89 (RV.cell 0 O O bM) (RV.tmp O) (congrArg ak.val (show (r.aj[vP])=(aL r p).1 from by (rw [tf ae eW (List.getElem?_eq_getElem lz)];done))) (rI (by rw [tf ae eW (List.getElem?_eq_getElem lz)];done))
theorem rl (aW aS aT aU:Value)(r:aA)(p:Place)(w:World)(pG:Sl w aW r.aj)(zR:Sl w aS r.Things)(tY:Sl w aT r.Held)(Fg:Sl w aU r.Notes)(hk:Ok r)(hI:Inv r):Calls Tryz.prog 86 #[.agg #[aW,aS,aT,aU,iV r.ag,iV r.ai],.agg #[iV p.aB,iV p.Slot]] w fun e w'=>e = .returned (iV (eG r p))/\Ext w w':=by
 have b1:=hk.hl
 have pf:=kD p
 refine R.eV ?_
 refine R.nb fun b1=>?_
 refine R.nb fun b2=>?_
 refine R.kc O O (fun w hw=>m8 p w)<|U ?_
 refine C (0<aY p) ?_ ?_ <;> intro h1
 .
  refine R.rt ?_
  (unfold eG;(rw [if_neg ae];done))
 refine R.kc O O (fun w hw=>CW _ r.Held p w ((fun _=>Wd.old tY) w hw) (by exact hI.good))<|C (lY r.Held p=0) ?_ ?_ <;> intro h2
 .
  refine R.rt ?_
  (unfold eG;(rw [if_pos ae,if_pos af];done))
 refine R.rt ?_
 (unfold eG;(rw [if_pos ae,if_neg af];done))
theorem zp (aW aS aT aU:Value)(r:aA)(p:Place)(kind:Int)(rights:Int)(w:World)(pG:Sl w aW r.aj)(zR:Sl w aS r.Things)(tY:Sl w aT r.Held)(Fg:Sl w aU r.Notes)(hk:Ok r)(hI:Inv r)(hr:0<=rights/\rights<=7):Calls Tryz.prog 94 #[.agg #[aW,aS,aT,aU,iV r.ag,iV r.ai],.agg #[iV p.aB,iV p.Slot],iV kind,iV rights] w fun e w'=>e = .returned (.tuple #[ak.val (bJ r p kind rights).1,iV (bJ r p kind rights).2.1,iV (bJ r p kind rights).2.2])/\Ext w w':=by
 have bw:=hk.wl;have bt:=hk.tl;have bh:=hk.hl;have bn:=hk.nl;have wN:=hk.w0;have wO:=hk.w1;have wP:=hk.t0;have wQ:=hk.t1
 have gn:=eB r p
 refine R.eV ?_
 refine R.nb fun b1=>?_
 refine R.nb fun b2=>?_
 refine R.nb fun b3=>?_
 refine R.kc O O (fun w hw=>om _ _ _ _ r p w ((fun _=>Wd.old pG) w hw) ((fun _=>Wd.old zR) w hw) ((fun _=>Wd.old tY) w hw) ((fun _=>Wd.old Fg) w hw) af af)<|U ?_
 refine R.nb fun b4=>?_
 refine C (0<(aL r p).2) ?_ ?_ <;> intro h1
 .exact R.NC O Tryz.results94 (RV.cell 1 O O bM) (RV.tmp O) (RV.tmp O) (congrArg ak.val (show (⟨0,0,0,0,0⟩:ak)=(bJ r p kind rights).1 from by (rw [l7 ae];rfl))) (rI (by rw [l7 ae];done)) (rI (by rw [l7 ae];done))
 have Yj:=hk.get (r:=r) (p:=p) ae
 refine U ?_
 refine R.loop (fun k:Nat=>[(2,iV kind),(3,iV rights),(4,pV b1),(8,pV b3),(11,pV b4),(13,iV (k:Int))]) (fun k:Nat=>[ah.box b4 [iV (aL r p).1.ID,iV (aL r p).1.av,iV (aL r p).1.Rights,iV (aL r p).1.aO,iV (aL r p).1.From] 126,ah.box b3 Wq 126,ah.box b1 [aW,aS,aT,aU,iV r.ag,iV r.ai] 48]) (fun k:Nat=>[]) (fun k:Nat=>k<=r.Things.length /\ ∀ (j:Nat) y,j<k->r.Things[j]? = some y->(y.ID==(aL r p).1.av)=false) (fun k:Nat=>r.Things.length-k) 0 O (by exact ⟨ae,fun j x hj=>absurd hj (Nat.not_lt_zero _)⟩) (sF O) (dE [0,1,3] [] O) ?_
 rintro k ⟨hk1,HA⟩
 refine U ?_
 refine C (k<r.Things.length) ?_ ?_ <;> intro h2
 .
  obtain ⟨x1,hx1⟩:=gE r.Things k
  refine C (x1.ID=(aL r p).1.av) ?_ ?_ <;> intro h3
  .
   refine R.cG O mixed ao<|U ?_
   refine C (x1.Kind=kind) ?_ ?_ <;> intro h4
   .
    rcases Bool.eq_false_or_eq_true (gj (aL r p).1.Rights rights) with h5|h5
    .
     refine R.kc O O (fun w hw=>cv (congrArg Value.bool h5) (o0 (aL r p).1.Rights rights w ae ae))<|U ?_
     exact R.NC O Tryz.results94 (RV.cell 1 O O bM) (RV.tmp O) (RV.tmp O) (congrArg ak.val (show (aL r p).1=(bJ r p kind rights).1 from by (rw [oB ae hx1 (beq_iff_eq.2 ae) HA ae af];done))) (rI (by rw [oB ae hx1 (beq_iff_eq.2 ae) HA ae af];done)) (rI (by rw [oB ae hx1 (beq_iff_eq.2 ae) HA ae af];done))
    refine R.kc O O (fun w hw=>cv (congrArg Value.bool h5) (o0 (aL r p).1.Rights rights w ae ae))<|U ?_
    exact R.NC O Tryz.results94 (RV.cell 1 O O bM) (RV.tmp O) (RV.tmp O) (congrArg ak.val (show (⟨0,0,0,0,0⟩:ak)=(bJ r p kind rights).1 from by (rw [jj ae hx1 (beq_iff_eq.2 ae) HA ae af];rfl))) (rI (by rw [jj ae hx1 (beq_iff_eq.2 ae) HA ae af];done)) (rI (by rw [jj ae hx1 (beq_iff_eq.2 ae) HA ae af];done))
   exact R.NC O Tryz.results94 (RV.cell 1 O O bM) (RV.tmp O) (RV.tmp O) (congrArg ak.val (show (⟨0,0,0,0,0⟩:ak)=(bJ r p kind rights).1 from by (rw [ki ae hx1 (beq_iff_eq.2 ae) HA ae];rfl))) (rI (by rw [ki ae hx1 (beq_iff_eq.2 ae) HA ae];done)) (rI (by rw [ki ae hx1 (beq_iff_eq.2 ae) HA ae];done))
  refine R.cG O mixed ao<|U ?_
  refine R.back (k+1) O (by exact ⟨ae,jy (p:=fun y=>y.ID==(aL r p).1.av) HA hx1 (beq_eq_false_iff_ne.2 ae)⟩) ae (sF O) (dE [0,1,2] [] O)
 exact R.NC O Tryz.results94 (RV.cell 1 O O bM) (RV.tmp O) (RV.tmp O) (congrArg ak.val (show (⟨0,0,0,0,0⟩:ak)=(bJ r p kind rights).1 from by (rw [kg ae (fun x hx=>by obtain ⟨j,hj⟩:=List.mem_iff_getElem?.1 hx;exact HA j x (by have:=(List.getElem?_eq_some_iff.1 hj).1;omega) hj)];rfl))) (rI (by rw [kg ae (fun x hx=>by obtain ⟨j,hj⟩:=List.mem_iff_getElem?.1 hx;exact HA j x (by have:=(List.getElem?_eq_some_iff.1 hj).1;omega) hj)];done)) (rI (by rw [kg ae (fun x hx=>by obtain ⟨j,hj⟩:=List.mem_iff_getElem?.1 hx;exact HA j x (by have:=(List.getElem?_eq_some_iff.1 hj).1;omega) hj)];done))
theorem oo (aW aS aT aU:Value)(r:aA)(w:World)(own:List Nat)(H:HN w own [] [ah.ls aW r.aj,ah.ls aS r.Things,ah.ls aT r.Held,ah.ls aU r.Notes])(hk:Ok r):RC Tryz.prog 91 #[.agg #[aW,aS,aT,aU,iV r.ag,iV r.ai]] H (fun z:Value×Value×Value×Value => .agg #[z.1,z.2.1,z.2.2.1,z.2.2.2,iV r.ag,iV r.ai]) (fun z=>[ah.row 126 z.1 r.aj,ah.row 103 z.2.1 r.Things,ah.row 124 z.2.2.1 r.Held,ah.row 91 z.2.2.2 r.Notes]) (fun _=>[]):=by
 have bS:=H.aZ 0 rfl
 have bH:=H.aZ 1 rfl
 have cu:=H.aZ 2 rfl
 have bT:=H.aZ 3 rfl
 have bw:=hk.wl;have bt:=hk.tl;have bh:=hk.hl;have bn:=hk.nl;have wN:=hk.w0;have wO:=hk.w1;have wP:=hk.t0;have wQ:=hk.t1
 refine R.eN H ?_
 refine R.nb fun b1=>?_
 refine R.nb fun b2=>?_
 refine R.s O (s.app0 O O (zw 0 O) m6 ae ae O) fun v1=>U ?_
 refine R.s O (s.app0 O O (zw 1 O) oS ae ae O) fun v2=>U ?_
 refine R.s O (s.app0 O O (zw 2 O) m7 ae ae O) fun v3=>U ?_
 refine R.s O (s.app0 O O (zw 3 O) dO ae ae O) fun v4=>U ?_
 exact R.x1 (v1,v2,v3,v4) [3,2,1,0,6] []
theorem qC (aW aS aT aU:Value)(r:aA)(w0:ak)(w:World)(own:List Nat)(H:HN w own [] [ah.ls aW r.aj,ah.ls aS r.Things,ah.ls aT r.Held,ah.ls aU r.Notes])(hk:Ok r):RS Tryz.prog 87 #[.agg #[aW,aS,aT,aU,iV r.ag,iV r.ai],.agg #[iV w0.ID,iV w0.av,iV w0.Rights,iV w0.aO,iV w0.From]] H (fX r w0) (fun s (z:Value×Value×Value×Value) => .agg #[z.1,z.2.1,z.2.2.1,z.2.2.2,iV s.ag,iV s.ai]) (fun s z=>[ah.row 126 z.1 s.aj,ah.row 103 z.2.1 s.Things,ah.row 124 z.2.2.1 s.Held,ah.row 91 z.2.2.2 s.Notes]) (fun _ _=>[]):=by
 have bS:=H.aZ 0 rfl
 have bH:=H.aZ 1 rfl
 have cu:=H.aZ 2 rfl
 have bT:=H.aZ 3 rfl
 have bw:=hk.wl;have bt:=hk.tl;have bh:=hk.hl;have bn:=hk.nl;have wN:=hk.w0;have wO:=hk.w1;have wP:=hk.t0;have wQ:=hk.t1
 refine R.eN H ?_
 refine R.nb fun b1=>?_
 refine R.nb fun b2=>?_
 refine R.nb fun b3=>?_
 refine R.s O (s.aJ aX aX _ _ _ O O O ED O O (fun w own hw H=>oo aW aS aT aU r w own H af) O) ?_
 rintro ⟨z1,z2,z3,z4⟩
 dsimp only
 refine U ?_
 refine R.s O (s.bs (l:=([w0]:List ak)) fF dK O O O O O O O) fun b4=>?_
 refine R.s O (s.app 1 _ O O O (cm 0 O) m6 aE aE (fun _=>rfl) O) fun v1=>U ?_
 have hz:fX r w0=(⟨r.aj++([w0]),r.Things,r.Held,r.Notes,r.ag+1,r.ai⟩:aA):=by (rfl)
 rw [hz]
 exact R.x1 (v1,z2,z3,z4) [1,2,3,4,8] []
theorem Kc (w:World)(own:List Nat)(H:HN w own [] []):RC Tryz.prog 25 #[] H (fun z:Value×Value×Value×Value => .agg #[z.1,z.2.1,z.2.2.1,z.2.2.2,iV (⟨[],[],[],[],1,1⟩:aA).ag,iV (⟨[],[],[],[],1,1⟩:aA).ai]) (fun _=>[]) (fun z=>[ah.ls z.1 ((⟨[],[],[],[],1,1⟩:aA).aj:List ak),ah.ls z.2.1 ((⟨[],[],[],[],1,1⟩:aA).Things:List av),ah.ls z.2.2.1 ((⟨[],[],[],[],1,1⟩:aA).Held:List Held),ah.ls z.2.2.2 ((⟨[],[],[],[],1,1⟩:aA).Notes:List Note)]):=by
 refine R.eN H ?_
 refine R.nb fun b1=>?_
 exact R.g9 ak av Held Note<|R.x1 (nS,nS,nS,nS) [1] [3,2,1,0]
theorem Kd (aW aS aT aU:Value)(r:aA)(p:Place)(kind:Int)(w:World)(own:List Nat)(H:HN w own [] [ah.ls aW r.aj,ah.ls aS r.Things,ah.ls aT r.Held,ah.ls aU r.Notes])(hk:Ok r)(hI:Inv r):RS Tryz.prog 33 #[.agg #[aW,aS,aT,aU,iV r.ag,iV r.ai],.agg #[iV p.aB,iV p.Slot],iV kind] H (cQ r p kind) (fun s (z:Value×Value×Value×Value) => .tuple #[.agg #[z.1,z.2.1,z.2.2.1,z.2.2.2,iV s.1.ag,iV s.1.ai],iV s.2]) (fun _ _=>[]) (fun s z=>[ah.ls z.1 s.1.aj,ah.ls z.2.1 s.1.Things,ah.ls z.2.2.1 s.1.Held,ah.ls z.2.2.2 s.1.Notes]):=by
 have bS:=H.aZ 0 rfl
 have bH:=H.aZ 1 rfl
 have cu:=H.aZ 2 rfl
 have bT:=H.aZ 3 rfl
 have bw:=hk.wl;have bt:=hk.tl;have bh:=hk.hl;have bn:=hk.nl;have wN:=hk.w0;have wO:=hk.w1;have wP:=hk.t0;have wQ:=hk.t1
 refine R.eN H ?_
 refine R.nb fun b1=>?_
 refine R.nb fun b2=>?_
 refine R.nb fun b3=>?_
 refine C (kind=1) ?_ ?_ <;> intro h1
 .
  refine R.kc O O (fun w hw=>rl _ _ _ _ r p w (hw.cq 0 O) (hw.cq 1 O) (hw.cq 2 O) (hw.cq 3 O) af af)<|U ?_
  refine C (0<eG r p) ?_ ?_ <;> intro h2
  .
   refine R.g9 ak av Held Note ?_
   rw [show cQ r p kind=_ from by unfold cQ;exact iE]
   exact R.x2 (nS,nS,nS,nS) [3] [3,2,1,0]
  have fq:eG r p=0:=by have:=fe r p;omega
  have fz:=bG (gP fq).1
  refine U ?_
  refine C (r.Things.length=10) ?_ ?_ <;> intro h3
  .
   refine R.g9 ak av Held Note ?_
   rw [show cQ r p kind=_ from by unfold cQ;exact iE]
   exact R.x2 (nS,nS,nS,nS) [3] [3,2,1,0]
  refine C (999<r.ai) ?_ ?_ <;> intro h4
  .
   refine R.g9 ak av Held Note ?_
   rw [show cQ r p kind=_ from by unfold cQ;exact iE]
   exact R.x2 (nS,nS,nS,nS) [3] [3,2,1,0]
  refine C (999<r.ag) ?_ ?_ <;> intro h5
  .
   refine R.g9 ak av Held Note ?_
   rw [show cQ r p kind=_ from by unfold cQ;exact iE]
   exact R.x2 (nS,nS,nS,nS) [3] [3,2,1,0]
  refine R.nb fun b4=>?_
  refine R.s O (s.aJ ct aX _ _ _ O O O EC O O (fun w own hw H=>qC aW aS aT aU r (⟨r.ag,r.ai,7,0,0⟩:ak) w own H af) O) ?_
  rintro ⟨z1,z2,z3,z4⟩
  dsimp only
  refine U ?_
  refine R.s O (s.bs (l:=([(⟨(fX r (⟨r.ag,r.ai,7,0,0⟩:ak)).ai,kind,⟨#[]⟩⟩:av)]:List av)) kv gT O O O O O O O) fun b5=>?_
  refine R.s O (s.app 2 _ O O O (cm 0 O) oS (by simp [fX];omega) (by simp [fX];omega) (fun _=>rfl) O) fun v1=>U ?_
  have ZB:(fX r (⟨r.ag,r.ai,7,0,0⟩:ak)).ai=r.ai:=rfl
  refine U ?_
  refine R.s O (s.pre (fun _ hw=>hw.aR 3 _ O O) (s.aJ cy [0] _ _ _ O O O yr O O (fun w own hw H=>mF z3 (fX r (⟨r.ag,r.ai,7,0,0⟩:ak)).Held p r.ag w own H (by dsimp only [fX];omega) (by exact hI.good)) O)) fun z5=>U ?_
  refine R.mp (fun _ hw=>hw.aR 2 _ O O)<|R.mp (fun _ hw=>hw.aR 2 _ O O)<|R.mp (fun _ hw=>hw.aR 0 _ O O)<|R.mp (fun _ hw=>hw.aR 1 _ O O) ?_
  have hz:cQ r p kind=((⟨(fX r (⟨r.ag,r.ai,7,0,0⟩:ak)).aj,(fX r (⟨r.ag,r.ai,7,0,0⟩:ak)).Things++([(⟨(fX r (⟨r.ag,r.ai,7,0,0⟩:ak)).ai,kind,⟨#[]⟩⟩:av)]),eY (fX r (⟨r.ag,r.ai,7,0,0⟩:ak)).Held p r.ag,(fX r (⟨r.ag,r.ai,7,0,0⟩:ak)).Notes,(fX r (⟨r.ag,r.ai,7,0,0⟩:ak)).ag,(fX r (⟨r.ag,r.ai,7,0,0⟩:ak)).ai+1⟩:aA),0):=by (unfold cQ jH;rw [if_pos ae,if_pos fq,if_neg ae];dsimp only;rw [if_pos ae];(try rfl))
  rw [hz]
  exact R.x2 (z1,v1,z5,z4) [5] [3,2,1,0]
 refine C (kind=2) ?_ ?_ <;> intro h6
 .
  refine R.kc O O (fun w hw=>rl _ _ _ _ r p w (hw.cq 0 O) (hw.cq 1 O) (hw.cq 2 O) (hw.cq 3 O) af af)<|U ?_
  refine C (0<eG r p) ?_ ?_ <;> intro h7
  .
   refine R.g9 ak av Held Note ?_
   rw [show cQ r p kind=_ from by unfold cQ;exact iE]
   exact R.x2 (nS,nS,nS,nS) [3] [3,2,1,0]
  have fq:eG r p=0:=by have:=fe r p;omega
  have fz:=bG (gP fq).1
  refine U ?_
  refine C (r.Things.length=10) ?_ ?_ <;> intro h8
  .
   refine R.g9 ak av Held Note ?_
   rw [show cQ r p kind=_ from by unfold cQ;exact iE]
   exact R.x2 (nS,nS,nS,nS) [3] [3,2,1,0]
  refine C (999<r.ai) ?_ ?_ <;> intro h9
  .
   refine R.g9 ak av Held Note ?_
   rw [show cQ r p kind=_ from by unfold cQ;exact iE]
   exact R.x2 (nS,nS,nS,nS) [3] [3,2,1,0]
  refine C (999<r.ag) ?_ ?_ <;> intro h10
  .
   refine R.g9 ak av Held Note ?_
   rw [show cQ r p kind=_ from by unfold cQ;exact iE]
   exact R.x2 (nS,nS,nS,nS) [3] [3,2,1,0]
  refine R.nb fun b6=>?_
  refine R.s O (s.aJ ct aX _ _ _ O O O EC O O (fun w own hw H=>qC aW aS aT aU r (⟨r.ag,r.ai,7,0,0⟩:ak) w own H af) O) ?_
  rintro ⟨z6,z7,z8,z9⟩
  dsimp only
  refine U ?_
  refine R.s O (s.bs (l:=([(⟨(fX r (⟨r.ag,r.ai,7,0,0⟩:ak)).ai,kind,⟨#[]⟩⟩:av)]:List av)) kv gT O O O O O O O) fun b7=>?_
  refine R.s O (s.app 2 _ O O O (cm 0 O) oS (by simp [fX];omega) (by simp [fX];omega) (fun _=>rfl) O) fun v2=>U ?_
  have ZB:(fX r (⟨r.ag,r.ai,7,0,0⟩:ak)).ai=r.ai:=rfl
  refine U ?_
  refine R.s O (s.pre (fun _ hw=>hw.aR 3 _ O O) (s.aJ cy [0] _ _ _ O O O yr O O (fun w own hw H=>mF z8 (fX r (⟨r.ag,r.ai,7,0,0⟩:ak)).Held p r.ag w own H (by dsimp only [fX];omega) (by exact hI.good)) O)) fun lu=>U ?_
  refine R.mp (fun _ hw=>hw.aR 2 _ O O)<|R.mp (fun _ hw=>hw.aR 2 _ O O)<|R.mp (fun _ hw=>hw.aR 0 _ O O)<|R.mp (fun _ hw=>hw.aR 1 _ O O) ?_
  have hz:cQ r p kind=((⟨(fX r (⟨r.ag,r.ai,7,0,0⟩:ak)).aj,(fX r (⟨r.ag,r.ai,7,0,0⟩:ak)).Things++([(⟨(fX r (⟨r.ag,r.ai,7,0,0⟩:ak)).ai,kind,⟨#[]⟩⟩:av)]),eY (fX r (⟨r.ag,r.ai,7,0,0⟩:ak)).Held p r.ag,(fX r (⟨r.ag,r.ai,7,0,0⟩:ak)).Notes,(fX r (⟨r.ag,r.ai,7,0,0⟩:ak)).ag,(fX r (⟨r.ag,r.ai,7,0,0⟩:ak)).ai+1⟩:aA),0):=by (unfold cQ jH;rw [if_pos ae,if_pos fq,if_neg ae];dsimp only;rw [if_pos ae];(try rfl))
  rw [hz]
  exact R.x2 (z6,v2,lu,z9) [5] [3,2,1,0]
 refine R.g9 ak av Held Note ?_
 rw [show cQ r p kind=_ from by unfold cQ;exact iE]
 exact R.x2 (nS,nS,nS,nS) [3] [3,2,1,0]
theorem Ke (aW aS aT aU:Value)(r:aA)(p:Place)(t:Place)(rights:Int)(cB:Int)(w:World)(own:List Nat)(H:HN w own [] [ah.ls aW r.aj,ah.ls aS r.Things,ah.ls aT r.Held,ah.ls aU r.Notes])(hk:Ok r)(hI:Inv r):RS Tryz.prog 34 #[.agg #[aW,aS,aT,aU,iV r.ag,iV r.ai],.agg #[iV p.aB,iV p.Slot],.agg #[iV t.aB,iV t.Slot],iV rights,iV cB] H (dA r p t rights cB) (fun s (z:Value×Value×Value×Value) => .tuple #[.agg #[z.1,z.2.1,z.2.2.1,z.2.2.2,iV s.1.ag,iV s.1.ai],iV s.2]) (fun _ _=>[]) (fun s z=>[ah.ls z.1 s.1.aj,ah.ls z.2.1 s.1.Things,ah.ls z.2.2.1 s.1.Held,ah.ls z.2.2.2 s.1.Notes]):=by
 have bS:=H.aZ 0 rfl
 have bH:=H.aZ 1 rfl
 have cu:=H.aZ 2 rfl
 have bT:=H.aZ 3 rfl
 have bw:=hk.wl;have bt:=hk.tl;have bh:=hk.hl;have bn:=hk.nl;have wN:=hk.w0;have wO:=hk.w1;have wP:=hk.t0;have wQ:=hk.t1
 have gn:=eB r p
 have dc:=gO (aL r p).1 r.ag rights cB
 refine R.eN H ?_
 refine R.nb fun b1=>?_
 refine R.nb fun b2=>?_
 refine R.nb fun b3=>?_
 refine R.nb fun b4=>?_
 refine R.kc O O (fun w hw=>om _ _ _ _ r p w (hw.cq 0 O) (hw.cq 1 O) (hw.cq 2 O) (hw.cq 3 O) af af)<|U ?_
 refine R.nb fun b5=>?_
 refine C (0<(aL r p).2) ?_ ?_ <;> intro h1
 .
  refine R.g9 ak av Held Note ?_
  rw [show dA r p t rights cB=_ from by (unfold dA;rewrite [if_neg ae]) <;> rfl]
  exact R.x2 (nS,nS,nS,nS) [5] [3,2,1,0]
 have gz:(aL r p).2=0:=ae
 have gr:=hk.get gz
 refine U ?_
 refine R.kc O O (fun w hw=>rl _ _ _ _ r t w (hw.cq 0 O) (hw.cq 1 O) (hw.cq 2 O) (hw.cq 3 O) af af)<|U ?_
 refine C (0<eG r t) ?_ ?_ <;> intro h2
 .
  refine R.g9 ak av Held Note ?_
  rw [show dA r p t rights cB=_ from by (unfold dA;rewrite [if_pos gz,if_neg (by have:=fe r t;omega)]) <;> rfl]
  exact R.x2 (nS,nS,nS,nS) [5] [3,2,1,0]
 have fq:eG r t=0:=by have:=fe r t;omega
 have fz:=bG (gP fq).1
 refine U ?_
 refine C (p.aB=t.aB) ?_ ?_ <;> intro h3
 .
  refine C (999<r.ag) ?_ ?_ <;> intro h4
  .
   refine R.g9 ak av Held Note ?_
   rw [show dA r p t rights cB=_ from by (unfold dA;rewrite [if_pos gz,if_pos fq,if_pos (by exact .inl af),if_pos ae]) <;> rfl]
   exact R.x2 (nS,nS,nS,nS) [5] [3,2,1,0]
  refine R.kc O O (fun w hw=>my (aL r p).1 r.ag rights cB w ae)<|U ?_
  refine R.nb fun b6=>?_
  refine C (0<(derived (aL r p).1 r.ag rights cB).2) ?_ ?_ <;> intro h5
  .
   refine R.g9 ak av Held Note ?_
   rw [show dA r p t rights cB=_ from by (unfold dA;rewrite [if_pos gz,if_pos fq,if_pos (by exact .inl af),if_neg ae,if_neg ae]) <;> rfl]
   exact R.x2 (nS,nS,nS,nS) [6] [3,2,1,0]
  have dz:(derived (aL r p).1 r.ag rights cB).2=0:=by have:=gO (aL r p).1 r.ag rights cB;omega
  have di:=(lC dz).2.2.2.2.2.1
  refine U ?_
  refine R.s O (s.aJ jF aX _ _ _ O O O EC O O (fun w own hw H=>qC aW aS aT aU r (derived (aL r p).1 r.ag rights cB).1 w own H af) O) ?_
  rintro ⟨z1,z2,z3,z4⟩
  dsimp only
  refine U ?_
  refine R.s O (s.pre (fun _ hw=>hw.aR 2 _ O O) (s.aJ j1 [0] _ _ _ O O O yr O O (fun w own hw H=>mF z3 (fX r (derived (aL r p).1 r.ag rights cB).1).Held t (derived (aL r p).1 r.ag rights cB).1.ID w own H (by dsimp only [fX];omega) (by exact hI.good)) O)) fun z5=>U ?_
  refine R.mp (fun _ hw=>hw.aR 1 _ O O)<|R.mp (fun _ hw=>hw.aR 1 _ O O)<|R.mp (fun _ hw=>hw.aR 0 _ O O)<|R.mp (fun _ hw=>hw.aR 0 _ O O) ?_
  rw [show dA r p t rights cB=_ from by (unfold dA;rewrite [if_pos gz,if_pos fq,if_pos (by exact .inl af),if_neg ae,if_pos dz];unfold jH;rewrite [if_pos ae]) <;> rfl]
  exact R.x2 (z1,z2,z5,z4) [6] [3,2,1,0]
 refine C ((aL r p).1.Rights<4) ?_ ?_ <;> intro h6
 .
  refine R.g9 ak av Held Note ?_
  rw [show dA r p t rights cB=_ from by (unfold dA;rewrite [if_pos gz,if_pos fq,if_neg (by rintro (hh|hh) <;> first|contradiction|(rewrite [II gr ae] at hh;cases hh))]) <;> rfl]
  exact R.x2 (nS,nS,nS,nS) [5] [3,2,1,0]
 refine C (999<r.ag) ?_ ?_ <;> intro h7
 .
  refine R.g9 ak av Held Note ?_
  rw [show dA r p t rights cB=_ from by (unfold dA;rewrite [if_pos gz,if_pos fq,if_pos (by exact .inr (mD gr ae)),if_pos ae]) <;> rfl]
  exact R.x2 (nS,nS,nS,nS) [5] [3,2,1,0]
 refine R.kc O O (fun w hw=>my (aL r p).1 r.ag rights cB w ae)<|U ?_
 refine R.nb fun b7=>?_
 refine C (0<(derived (aL r p).1 r.ag rights cB).2) ?_ ?_ <;> intro h8
 .
  refine R.g9 ak av Held Note ?_
  rw [show dA r p t rights cB=_ from by (unfold dA;rewrite [if_pos gz,if_pos fq,if_pos (by exact .inr (mD gr ae)),if_neg ae,if_neg ae]) <;> rfl]
  exact R.x2 (nS,nS,nS,nS) [6] [3,2,1,0]
 have dz:(derived (aL r p).1 r.ag rights cB).2=0:=by have:=gO (aL r p).1 r.ag rights cB;omega
 have di:=(lC dz).2.2.2.2.2.1
 refine U ?_
 refine R.s O (s.aJ jF aX _ _ _ O O O EC O O (fun w own hw H=>qC aW aS aT aU r (derived (aL r p).1 r.ag rights cB).1 w own H af) O) ?_
 rintro ⟨z6,z7,z8,z9⟩
 dsimp only
 refine U ?_
 refine R.s O (s.pre (fun _ hw=>hw.aR 2 _ O O) (s.aJ j1 [0] _ _ _ O O O yr O O (fun w own hw H=>mF z8 (fX r (derived (aL r p).1 r.ag rights cB).1).Held t (derived (aL r p).1 r.ag rights cB).1.ID w own H (by dsimp only [fX];omega) (by exact hI.good)) O)) fun lu=>U ?_
 refine R.mp (fun _ hw=>hw.aR 1 _ O O)<|R.mp (fun _ hw=>hw.aR 1 _ O O)<|R.mp (fun _ hw=>hw.aR 0 _ O O)<|R.mp (fun _ hw=>hw.aR 0 _ O O) ?_
 rw [show dA r p t rights cB=_ from by (unfold dA;rewrite [if_pos gz,if_pos fq,if_pos (by exact .inr (mD gr ae)),if_neg ae,if_pos dz];unfold jH;rewrite [if_pos ae]) <;> rfl]
 exact R.x2 (z6,z7,lu,z9) [6] [3,2,1,0]
theorem Kf (aW aS aT aU:Value)(r:aA)(p:Place)(slot:Int)(w:World)(own:List Nat)(H:HN w own [] [ah.ls aW r.aj,ah.ls aS r.Things,ah.ls aT r.Held,ah.ls aU r.Notes])(hk:Ok r)(hI:Inv r):RS Tryz.prog 35 #[.agg #[aW,aS,aT,aU,iV r.ag,iV r.ai],.agg #[iV p.aB,iV p.Slot],iV slot] H (iK r p slot) (fun s (z:Value×Value×Value×Value) => .tuple #[.agg #[z.1,z.2.1,z.2.2.1,z.2.2.2,iV s.1.ag,iV s.1.ai],iV s.2]) (fun _ _=>[]) (fun s z=>[ah.ls z.1 s.1.aj,ah.ls z.2.1 s.1.Things,ah.ls z.2.2.1 s.1.Held,ah.ls z.2.2.2 s.1.Notes]):=by
 have bS:=H.aZ 0 rfl
 have bH:=H.aZ 1 rfl
 have cu:=H.aZ 2 rfl
 have bT:=H.aZ 3 rfl
 have bw:=hk.wl;have bt:=hk.tl;have bh:=hk.hl;have bn:=hk.nl;have wN:=hk.w0;have wO:=hk.w1;have wP:=hk.t0;have wQ:=hk.t1
 have gn:=eB r p
 have bp:=lZ r.Held p 0
 refine R.eN H ?_
 refine R.nb fun b1=>?_
 refine R.nb fun b2=>?_
 refine R.nb fun b3=>?_
 refine R.kc O O (fun w hw=>om _ _ _ _ r p w (hw.cq 0 O) (hw.cq 1 O) (hw.cq 2 O) (hw.cq 3 O) af af)<|U ?_
 refine R.nb fun b4=>?_
 refine C (0<(aL r p).2) ?_ ?_ <;> intro h1
 .
  refine R.g9 ak av Held Note ?_
  rw [show iK r p slot=_ from by (unfold iK;rewrite [if_neg ae]) <;> rfl]
  exact R.x2 (nS,nS,nS,nS) [4] [3,2,1,0]
 have gz:(aL r p).2=0:=ae
 have gr:=hk.get gz;have gp:=kQ (id:=0) hI.good (qG gz).1
 refine U ?_
 refine R.nb fun b5=>?_
 refine R.kc O O (fun w hw=>rl _ _ _ _ r (⟨p.aB,slot⟩:Place) w (hw.cq 0 O) (hw.cq 1 O) (hw.cq 2 O) (hw.cq 3 O) af af)<|U ?_
 refine C (0<eG r (⟨p.aB,slot⟩:Place)) ?_ ?_ <;> intro h2
 .
  refine R.g9 ak av Held Note ?_
  rw [show iK r p slot=_ from by (unfold iK;rewrite [if_pos gz,if_neg (by have:=fe r (⟨p.aB,slot⟩:Place);omega)]) <;> rfl]
  exact R.x2 (nS,nS,nS,nS) [5] [3,2,1,0]
 have fq:eG r (⟨p.aB,slot⟩:Place)=0:=by have:=fe r (⟨p.aB,slot⟩:Place);omega
 have fz:=bG (gP fq).1
 refine U ?_
 refine R.s O (s.aJ mH aX _ _ _ O O O ED O O (fun w own hw H=>oo aW aS aT aU r w own H af) O) ?_
 rintro ⟨z1,z2,z3,z4⟩
 dsimp only
 refine U ?_
 refine R.dC (fuel:=10) [0,1,3,4,5,6,7,9] O O mixed O<|D.l [0,2,4,5,6] [0,1,3,4,5,6,7,9] aX O<|U ?_
 refine D.k 1 O [0,1,3,4,5,6,7,9] aX (q.ld 8 O O hX O) ?_
 refine D.p 3 O G8 [1,2,3,4] (s.pre (fun _ hw=>hw.aR 2 _ O O) (s.aJ cy [0] _ _ _ O O O yr O O (fun w own hw H=>mF z3 r.Held p 0 w own H ae (by exact hI.good)) O)) fun z7=>?_
 refine D.p 7 O G8 [2,3,4,5] (s.pre (fun _ hw=>hw.aR 0 _ O O) (s.aJ cy [0] _ _ _ O O O yr O O (fun w own hw H=>mF z7 (eY r.Held p 0) (⟨p.aB,slot⟩:Place) (aL r p).1.ID w own H ae af) O)) fun z8=>?_
 refine D.l [8] G8 [2,3,4,5] O<|U ?_
 refine D.p 9 O G8 [2,3,4,5] (s.lr 8 _ O O O (fun w hw=>Sl.cL (hw.row 0 O)) (.inr ⟨hX,rfl⟩) (fun w hw=>br (Sl.one (hw.row 0 O)) bV) O O O) fun _=>?_
 refine D.done<|U ?_
 refine R.mp (fun _ hw=>hw.aR 1 _ O O)<|R.mp (fun _ hw=>hw.aR 1 _ O O)<|R.mp (fun _ hw=>hw.aR 0 _ O O)<|R.mp (fun _ hw=>hw.aR 0 _ O O) ?_
 rw [show iK r p slot=_ from by (unfold iK;rewrite [if_pos gz,if_pos fq]) <;> rfl]
 exact R.x2 (z1,z2,z8,z4) [5] [3,2,1,0]
end Go.Proofs.YtnmpibjlnninjaaGreatDoor
