import Derived.Test.YtnmpibjlnninjaaGreatDoorKS27
namespace Go.Proofs.YtnmpibjlnninjaaGreatDoor
set_option linter.unusedVariables false
set_option linter.unusedSimpArgs false
set_option maxRecDepth 100000
set_option maxHeartbeats 90000000
open Go Go.RowKit
attribute [local irreducible] Run Rg Rq Qt Qa Stp Dg Do Dm cD
theorem Yc {r:Int}(h0:0<=r)(h7:r<=7):hZ r 4=decide (4<=r):=by
 have h:r=0∨r=1∨r=2∨r=3∨r=4∨r=5∨r=6∨r=7:=ae
 rcases h with rfl|rfl|rfl|rfl|rfl|rfl|rfl|rfl <;> decide
theorem ny {r:Int}(h0:0<=r/\r<=7)(h:¬ r<4):hZ r 4=true:=by rw [Yc h0.1 h0.2];exact decide_eq_true ae
theorem Kl {r:Int}(h0:0<=r/\r<=7)(h:r<4):hZ r 4=false:=by rw [Yc h0.1 h0.2];exact decide_eq_false ae
theorem Ry {l:List Int}{n x:Int}{k:Nat}(hx:l[k]? = some x)(h:x=n):true=decide (n∈l):=by
 subst h;exact (decide_eq_true (List.mem_of_getElem? hx)).symm
theorem Pz {l:List Int}{n:Int}(h:∀ (j:Nat) x,j<l.length->l[j]? = some x->¬ x=n):false=decide (n∈l):=by
 refine (decide_eq_false fun hm=>?_).symm
 obtain ⟨j,hj⟩:=List.mem_iff_getElem?.1 hm
 exact h j _ (List.getElem?_eq_some_iff.1 hj).1 hj rfl
theorem nz {α:Type}{f:α->Bool}{l:List α}{k:Nat}{x:α}(hx:l[k]? = some x)(h:f x=true):(l.take (k+1)).filter f=(l.take k).filter f++[x]:=by
 rw [List.take_add_one,hx];simp [List.filter_append,h]
theorem wJ {α:Type}{f:α->Bool}{l:List α}{k:Nat}{x:α}(hx:l[k]? = some x)(h:f x=false):(l.take (k+1)).filter f=(l.take k).filter f:=by
 rw [List.take_add_one,hx];simp [List.filter_append,h]
def aL (r:av)(w:ap):av:=⟨r.ao++[w],r.Things,r.Held,r.Notes,r.ag+1,r.ah⟩
theorem wK {α:Type}(f:α->Bool)(l:List α)(k:Nat):((l.take k).filter f).length<=k:=Nat.le_trans (List.length_filter_le _ _) (by rw [List.length_take];omega)
theorem Er (bL:Value)(l:List Held)(p:Place)(w:World)(dK:Sl w bL l)(hg:Good l):Calls Tryz.prog 150 #[bL,.agg #[.int .i64 p.ay,.int .i64 p.Slot]] w fun e w'=>e = .returned (.int .i64 (mG l p))/\Ext w w':=by
 rw [at_eq (iw hg)];exact Cv bL l p w dK
theorem LS (bL:Value)(l:List Held)(h:Int)(w:World)(dK:Sl w bL l)(hg:Good l):Calls Tryz.prog 95 #[bL,.int .i64 h] w fun e w'=>e = .returned (.int .i64 (gq l h))/\Ext w w':=by
 rw [free_eq (iw hg)];exact Gb bL l h w dK
theorem nC (bL:Value)(l:List Held)(p:Place)(id:Int)(w:World)(own:List Nat)(H:Wd w (blks []++own) ([]++[aj.held w own]) [aj.ls bL (l:List Held)] w)(hl:l.length<=100000)(hg:Good l):Calls Tryz.prog 88 #[bL,.agg #[.int .i64 p.ay,.int .i64 p.Slot],.int .i64 id] w fun e w' => ∃z:Value,e = .returned (z)/\Wd w (blks []++own) ([aj.row 124 z (eW l p id:List Held)]++[aj.held w own]) [] w':=by
 rw [put_eq (iw hg)];exact IB bL l p id w own H hl
theorem G4 (bL:Value)(l:List ap)(w:World)(dK:Sl w bL l)(hT:cS l):Calls Tryz.prog 148 #[bL] w fun e w' => ∃u,e = .returned u/\Own w.heap.size 3 w' u (bC l)/\Ext w w':=by
 unfold bC;rw [vB hT];exact Bf bL l w dK
theorem mF (bL:Value)(l:List ap)(id:Int)(w:World)(dK:Sl w bL l)(hl:l.length<=1000000)(hT:cS l):Calls Tryz.prog 84 #[bL,.int .i64 id] w fun e w' => ∃u,e = .returned u/\Own w.heap.size 126 w' u (without l id)/\Ext w w':=by
 rw [<- MI hT];exact Ao bL l id w dK hl
theorem Es (bL:Value)(l:List ap)(id:Int)(w:World)(dK:Sl w bL l)(hT:cS l)(hl:l.length<=1000000):Calls Tryz.prog 92 #[bL,.int .i64 id] w fun e w' => ∃u,e = .returned u/\Own w.heap.size 3 w' u (jd id l)/\Ext w w':=by
 rw [Jp hT];exact Ap bL l id w dK hT hl
theorem oB (bL:Value)(l:List Int)(n:Int)(w:World)(dK:Sl w bL l):Calls Tryz.prog 93 #[bL,iV n] w fun e w'=>e = .returned (.bool (decide (n∈l)))/\Ext w w':=by
 have wk:=dK.eV
 refine R.enter [] [(0,bL),(1,iV n)] Tryz.func93 O O O O<|U ?_
 refine R.loop (fun k:Nat=>[(0,bL),(1,iV n),(5,iV (k:Int))]) (fun k:Nat=>[]) (fun k:Nat=>[]) (fun k:Nat=>k<=l.length /\ ∀ (j:Nat) x,j<k->l[j]? = some x->¬ x=n) (fun k:Nat=>l.length-k) 0 O (by exact ⟨ae,fun j x hj=>absurd hj (Nat.not_lt_zero _)⟩) (sF O) (eI [] [] O) ?_
 rintro k ⟨hk,HA⟩
 refine U ?_
 by_cases h1:k<l.length
 .
  refine U ?_
  obtain ⟨x1,hx1⟩:=gE l k
  refine R.q (q.idx (i:=k) (fun _=>Wd.old dK) O O dD O hx1) O<|R.q (q.gh (fun _=>Wd.old dK) hx1 O bg O) O<|U ?_
  by_cases h2:x1=n
  .
   refine U ?_
   exact R.rv O Tryz.results93 O (rB (by (exact Ry hx1 af)))
  refine U ?_
  refine R.q (q.aL (r:=((k+1:Nat):Int)) O O) O<|U ?_
  refine R.back (k+1) O (by (exact ⟨ae,fun j x hj hx=>if e:j=k then by subst e;rw [hx1] at hx;injection hx with hx;subst hx;assumption else HA j x ae hx⟩)) ae (sF O) (eI [] [] O)
 refine U ?_
 exact R.rv O Tryz.results93 O (rB (by (exact Pz (fun j x hj=>HA j x ae))))
theorem pj (a8 aW aX aZ:Value)(r:av)(p:Place)(w:World)(qy:Sl w a8 r.ao)(nK:Sl w aW r.Things)(uZ:Sl w aX r.Held)(GI:Sl w aZ r.Notes)(hk:Ok r)(hI:Inv r):Calls Tryz.prog 89 #[.agg #[a8,aW,aX,aZ,iV r.ag,iV r.ah],.agg #[iV p.ay,iV p.Slot]] w fun e w'=>e = .returned (.tuple #[ap.val (aM r p).1,iV (aM r p).2])/\Ext w w':=by
 have b1:=hk.hl
 have pf:=lD p
 refine R.enter [] [(0,.agg #[a8,aW,aX,aZ,iV r.ag,iV r.ah]),(1,.agg #[iV p.ay,iV p.Slot])] Tryz.func89 O O O O<|U ?_
 refine R.s O (s.box O O O) fun b1=>?_
 refine R.s O (s.box O O O) fun b2=>?_
 refine R.s O (s.alloc br O O) fun b3=>U ?_
 refine R.c (q.call NV O O (fun w hw=>(ov p w ))) O<|U ?_
 by_cases h1:0<bB p
 .
  refine U ?_
  refine R.s O (s.st 0 _ O O O O (.inl aH) O O O O) fun _=>U ?_
  exact R.s7 O Tryz.results89 (RV.cell 0 O O aH) (RV.tmp O) (congrArg ap.val (show (⟨0,0,0,0,0⟩:ap)=(aM r p).1 from by (rw [qQ ae];rfl))) (rI (by (rw [qQ ae];done)))
 refine U ?_
 rcases eh r.ao (mG r.Held p) with ⟨fS,Eh⟩ | ⟨wE,kv,fS,vj,S3⟩
 .
  refine R.dA O mixed ai<|U ?_
  refine Q.c (q.call DN O O (fun w hw=>(Er _ r.Held p w ((fun _=>Wd.old uZ) w hw) (by exact hI.good)))) O<|Q.c (q.call pW O O (fun w hw=>(cv (congrArg (Value.int .i64) fS) (gP _ r.ao (mG r.Held p) w ((fun _=>Wd.old qy) w hw) )))) O<|U ?_
  refine R.s O (s.st 0 _ O O O O (.inl aH) O O O O) fun _=>U ?_
  exact R.s7 O Tryz.results89 (RV.cell 0 O O aH) (RV.tmp O) (congrArg ap.val (show (⟨0,0,0,0,0⟩:ap)=(aM r p).1 from by (rw [rO ae fS];rfl))) (rI (by (rw [rO ae fS];done)))
 refine R.dA O mixed ai<|U ?_
 refine Q.c (q.call DN O O (fun w hw=>(Er _ r.Held p w ((fun _=>Wd.old uZ) w hw) (by exact hI.good)))) O<|Q.c (q.call pW O O (fun w hw=>(cv (congrArg (Value.int .i64) fS) (gP _ r.ao (mG r.Held p) w ((fun _=>Wd.old qy) w hw) )))) O<|U ?_
 refine R.q (q.idx (i:=wE) (fun _=>Wd.old qy) O O cR O (List.getElem?_eq_getElem kv)) O ?_
 refine R.q (q.dj (ds:=fY (r.ao[wE])) (fun _=>Wd.old qy) (List.getElem?_eq_getElem kv) O aH O) O ?_
 refine R.s O (s.st 0 _ O O O O (.inl aH) O O O O) fun _=>U ?_
 exact R.s7 O Tryz.results89 (RV.cell 0 O O aH) (RV.tmp O) (congrArg ap.val (show (r.ao[wE])=(aM r p).1 from by (rw [uu ae fS (List.getElem?_eq_getElem kv)];done))) (rI (by (rw [uu ae fS (List.getElem?_eq_getElem kv)];done)))
theorem sB (a8 aW aX aZ:Value)(r:av)(p:Place)(w:World)(qy:Sl w a8 r.ao)(nK:Sl w aW r.Things)(uZ:Sl w aX r.Held)(GI:Sl w aZ r.Notes)(hk:Ok r)(hI:Inv r):Calls Tryz.prog 86 #[.agg #[a8,aW,aX,aZ,iV r.ag,iV r.ah],.agg #[iV p.ay,iV p.Slot]] w fun e w'=>e = .returned (iV (eD r p))/\Ext w w':=by
 have b1:=hk.hl
 have pf:=lD p
 refine R.enter [] [(0,.agg #[a8,aW,aX,aZ,iV r.ag,iV r.ah]),(1,.agg #[iV p.ay,iV p.Slot])] Tryz.func86 O O O O<|U ?_
 refine R.s O (s.box O O O) fun b1=>?_
 refine R.s O (s.box O O O) fun b2=>U ?_
 refine R.c (q.call NV O O (fun w hw=>(ov p w ))) O<|U ?_
 by_cases h1:0<bB p
 .
  refine U ?_
  exact R.rv O Tryz.results86 O (rI (by (unfold eD;(rw [if_neg ae];done))))
 refine U ?_
 refine R.c (q.call DN O O (fun w hw=>(Er _ r.Held p w ((fun _=>Wd.old uZ) w hw) (by exact hI.good)))) O ?_
 by_cases h2:mG r.Held p=0
 .
  refine U ?_
  exact R.rv O Tryz.results86 O (rI (by (unfold eD;(rw [if_pos ae,if_pos af];done))))
 refine U ?_
 exact R.rv O Tryz.results86 O (rI (by (unfold eD;(rw [if_pos ae,if_neg af];done))))
theorem AA (a8 aW aX aZ:Value)(r:av)(p:Place)(kind:Int)(rights:Int)(w:World)(qy:Sl w a8 r.ao)(nK:Sl w aW r.Things)(uZ:Sl w aX r.Held)(GI:Sl w aZ r.Notes)(hk:Ok r)(hI:Inv r)(hr:0<=rights/\rights<=7):Calls Tryz.prog 94 #[.agg #[a8,aW,aX,aZ,iV r.ag,iV r.ah],.agg #[iV p.ay,iV p.Slot],iV kind,iV rights] w fun e w'=>e = .returned (.tuple #[ap.val (bQ r p kind rights).1,iV (bQ r p kind rights).2.1,iV (bQ r p kind rights).2.2])/\Ext w w':=by
 have bw:=hk.wl;have bt:=hk.tl;have bh:=hk.hl;have bn:=hk.nl;have ya:=hk.w0;have yb:=hk.w1;have yc:=hk.t0;have yd:=hk.t1
 have gn:=ft r p
 refine R.enter [] [(0,.agg #[a8,aW,aX,aZ,iV r.ag,iV r.ah]),(1,.agg #[iV p.ay,iV p.Slot]),(2,iV kind),(3,iV rights)] Tryz.func94 O O O O<|U ?_
 refine R.s O (s.box O O O) fun b1=>?_
 refine R.s O (s.box O O O) fun b2=>?_
 refine R.s O (s.alloc br O O) fun b3=>U ?_
 refine R.c (q.call Co O O (fun w hw=>(pj _ _ _ _ r p w ((fun _=>Wd.old qy) w hw) ((fun _=>Wd.old nK) w hw) ((fun _=>Wd.old uZ) w hw) ((fun _=>Wd.old GI) w hw) af af))) O<|U ?_
 refine R.s O (s.alloc br O O) fun b4=>?_
 refine R.s O (s.st 0 _ O O O O (.inl aH) O O O O) fun _=>U ?_
 by_cases h1:0<(aM r p).2
 .
  refine U ?_
  refine R.s O (s.st 1 _ O O O O (.inl aH) O O O O) fun _=>U ?_
  exact R.PO O Tryz.results94 (RV.cell 1 O O aH) (RV.tmp O) (RV.tmp O) (congrArg ap.val (show (⟨0,0,0,0,0⟩:ap)=(bQ r p kind rights).1 from by (rw [mY ae];rfl))) (rI (by (rw [mY ae];done))) (rI (by (rw [mY ae];done)))
 have gh1:=hk.get (r:=r) (p:=p) ae
 refine U ?_
 refine R.loop (fun k:Nat=>[(2,iV kind),(3,iV rights),(4,.pointer (some ⟨b1,0,none⟩)),(8,.pointer (some ⟨b3,0,none⟩)),(11,.pointer (some ⟨b4,0,none⟩)),(13,iV (k:Int))]) (fun k:Nat=>[aj.box b4 [iV (aM r p).1.ID,iV (aM r p).1.aA,iV (aM r p).1.Rights,iV (aM r p).1.aU,iV (aM r p).1.From] 126,aj.box b3 YC 126,aj.box b1 [a8,aW,aX,aZ,iV r.ag,iV r.ah] 48]) (fun k:Nat=>[]) (fun k:Nat=>k<=r.Things.length /\ ∀ (j:Nat) y,j<k->r.Things[j]? = some y->(y.ID==(aM r p).1.aA)=false) (fun k:Nat=>r.Things.length-k) 0 O (by exact ⟨ae,fun j x hj=>absurd hj (Nat.not_lt_zero _)⟩) (sF O) (eI [0,1,3] [] O) ?_
 rintro k ⟨hk1,HA⟩
 refine U ?_
 by_cases h2:k<r.Things.length
 .
  refine U ?_
  obtain ⟨x1,hx1⟩:=gE r.Things k
  by_cases h3:x1.ID=(aM r p).1.aA
  .
   refine R.dA O mixed ai<|U ?_
   refine Q.q (q.idx (i:=k) (fun _=>Wd.old nK) O O eZ O hx1) O<|Q.q (q.ew (j':=0) (fun _=>Wd.old nK) hx1 O pS O) O<|Q.q (q.gh (fun _=>Wd.old nK) hx1 O bg O) O<|U ?_
   refine R.q (q.idx (i:=k) (fun _=>Wd.old nK) O O eZ O hx1) O<|R.q (q.ew (j':=1) (fun _=>Wd.old nK) hx1 O tG O) O<|R.q (q.gh (fun _=>Wd.old nK) hx1 O bg O) O<|U ?_
   by_cases h4:x1.Kind=kind
   .
    refine U ?_
    rcases Bool.eq_false_or_eq_true (hZ (aM r p).1.Rights rights) with h5|h5
    .
     refine R.c (q.call DR O O (fun w hw=>(cv (congrArg Value.bool h5) (qa (aM r p).1.Rights rights w ae ae)))) O<|U ?_
     refine R.s O (s.st 1 _ O O O O (.inl aH) O O O O) fun _=>U ?_
     exact R.PO O Tryz.results94 (RV.cell 1 O O aH) (RV.tmp O) (RV.tmp O) (congrArg ap.val (show (aM r p).1=(bQ r p kind rights).1 from by (rw [pC ae hx1 (beq_iff_eq.2 ae) HA ae af];done))) (rI (by (rw [pC ae hx1 (beq_iff_eq.2 ae) HA ae af];done))) (rI (by (rw [pC ae hx1 (beq_iff_eq.2 ae) HA ae af];done)))
    refine R.c (q.call DR O O (fun w hw=>(cv (congrArg Value.bool h5) (qa (aM r p).1.Rights rights w ae ae)))) O<|U ?_
    refine R.s O (s.st 1 _ O O O O (.inl aH) O O O O) fun _=>U ?_
    exact R.PO O Tryz.results94 (RV.cell 1 O O aH) (RV.tmp O) (RV.tmp O) (congrArg ap.val (show (⟨0,0,0,0,0⟩:ap)=(bQ r p kind rights).1 from by (rw [jU ae hx1 (beq_iff_eq.2 ae) HA ae af];rfl))) (rI (by (rw [jU ae hx1 (beq_iff_eq.2 ae) HA ae af];done))) (rI (by (rw [jU ae hx1 (beq_iff_eq.2 ae) HA ae af];done)))
   refine U ?_
   refine R.s O (s.st 1 _ O O O O (.inl aH) O O O O) fun _=>U ?_
   exact R.PO O Tryz.results94 (RV.cell 1 O O aH) (RV.tmp O) (RV.tmp O) (congrArg ap.val (show (⟨0,0,0,0,0⟩:ap)=(bQ r p kind rights).1 from by (rw [ln ae hx1 (beq_iff_eq.2 ae) HA ae];rfl))) (rI (by (rw [ln ae hx1 (beq_iff_eq.2 ae) HA ae];done))) (rI (by (rw [ln ae hx1 (beq_iff_eq.2 ae) HA ae];done)))
  refine R.dA O mixed ai<|U ?_
  refine Q.q (q.idx (i:=k) (fun _=>Wd.old nK) O O eZ O hx1) O<|Q.q (q.ew (j':=0) (fun _=>Wd.old nK) hx1 O pS O) O<|Q.q (q.gh (fun _=>Wd.old nK) hx1 O bg O) O<|U ?_
  refine R.q (q.aL (r:=((k+1:Nat):Int)) O O) O<|U ?_
  refine R.back (k+1) O (by (exact ⟨ae,j8 (p:=fun y=>y.ID==(aM r p).1.aA) HA hx1 (beq_eq_false_iff_ne.2 ae)⟩)) ae (sF O) (eI [0,1,2] [] O)
 refine U ?_
 refine R.s O (s.st 1 _ O O O O (.inl aH) O O O O) fun _=>U ?_
 exact R.PO O Tryz.results94 (RV.cell 1 O O aH) (RV.tmp O) (RV.tmp O) (congrArg ap.val (show (⟨0,0,0,0,0⟩:ap)=(bQ r p kind rights).1 from by (rw [lj ae (fun x hx=>by obtain ⟨j,hj⟩:=List.mem_iff_getElem?.1 hx;exact HA j x (by have:=(List.getElem?_eq_some_iff.1 hj).1;omega) hj)];rfl))) (rI (by (rw [lj ae (fun x hx=>by obtain ⟨j,hj⟩:=List.mem_iff_getElem?.1 hx;exact HA j x (by have:=(List.getElem?_eq_some_iff.1 hj).1;omega) hj)];done))) (rI (by (rw [lj ae (fun x hx=>by obtain ⟨j,hj⟩:=List.mem_iff_getElem?.1 hx;exact HA j x (by have:=(List.getElem?_eq_some_iff.1 hj).1;omega) hj)];done)))
theorem pn (a8 aW aX aZ:Value)(r:av)(w:World)(own:List Nat)(H:HN w own [] [aj.ls a8 r.ao,aj.ls aW r.Things,aj.ls aX r.Held,aj.ls aZ r.Notes])(hk:Ok r):RC Tryz.prog 91 #[.agg #[a8,aW,aX,aZ,iV r.ag,iV r.ah]] H (fun z:Value×Value×Value×Value => .agg #[z.1,z.2.1,z.2.2.1,z.2.2.2,iV r.ag,iV r.ah]) (fun z=>[aj.row 126 z.1 r.ao,aj.row 103 z.2.1 r.Things,aj.row 124 z.2.2.1 r.Held,aj.row 91 z.2.2.2 r.Notes]) (fun _=>[]):=by
 have cB:=H.bD 0 rfl
 have cd:=H.bD 1 rfl
 have df:=H.bD 2 rfl
 have cC:=H.bD 3 rfl
 have bw:=hk.wl;have bt:=hk.tl;have bh:=hk.hl;have bn:=hk.nl;have ya:=hk.w0;have yb:=hk.w1;have yc:=hk.t0;have yd:=hk.t1
 refine R.bE [(0,.agg #[a8,aW,aX,aZ,iV r.ag,iV r.ah])] Tryz.func91 O O O O H<|U ?_
 refine R.s O (s.box O O O) fun b1=>?_
 refine R.s O (s.alloc cw O O) fun b2=>U ?_
 refine R.s O (s.app0 O O (cb 0 O) g9 ae ae O) fun v1=>U ?_
 refine R.s O (s.dE 2 _ O O O (fun w hw=>Sl.bF (hw.row 0 O)) (.inr ⟨eF,rfl⟩) (fun w hw=>(aJ (Sl.one (hw.row 0 O)) bq)) O O O) fun _=>U ?_
 refine R.s O (s.app0 O O (cb 1 O) lI ae ae O) fun v2=>U ?_
 refine R.s O (s.dE 3 _ O O O (fun w hw=>Sl.bF (hw.row 0 O)) (.inr ⟨gC,rfl⟩) (fun w hw=>(aJ (Sl.one (hw.row 0 O)) bq)) O O O) fun _=>U ?_
 refine R.s O (s.app0 O O (cb 2 O) eH ae ae O) fun v3=>U ?_
 refine R.s O (s.dE 4 _ O O O (fun w hw=>Sl.bF (hw.row 0 O)) (.inr ⟨eG,rfl⟩) (fun w hw=>(aJ (Sl.one (hw.row 0 O)) bq)) O O O) fun _=>U ?_
 refine R.s O (s.app0 O O (cb 3 O) ea ae ae O) fun v4=>U ?_
 refine R.s O (s.dE 5 _ O O O (fun w hw=>Sl.bF (hw.row 0 O)) (.inr ⟨cQ,rfl⟩) (fun w hw=>(aJ (Sl.one (hw.row 0 O)) bq)) O O O) fun _=>U ?_
 refine R.s O (s.dE 4 _ O O O (fun _ _=>rfl) (.inl ak) (fun w hw=>(dx (hw.row 3 O) (hw.row 2 O) (hw.row 1 O) (hw.row 0 O) O O)) O O O) fun _=>U ?_
 exact R.w1 (v1,v2,v3,v4) [3,2,1,0,6] [] O Tryz.results91 (RV.cell 4 O O ak) O O O O
theorem rL (a8 aW aX aZ:Value)(r:av)(w0:ap)(w:World)(own:List Nat)(H:HN w own [] [aj.ls a8 r.ao,aj.ls aW r.Things,aj.ls aX r.Held,aj.ls aZ r.Notes])(hk:Ok r):RC Tryz.prog 87 #[.agg #[a8,aW,aX,aZ,iV r.ag,iV r.ah],.agg #[iV w0.ID,iV w0.aA,iV w0.Rights,iV w0.aU,iV w0.From]] H (fun z:Value×Value×Value×Value => .agg #[z.1,z.2.1,z.2.2.1,z.2.2.2,iV (aL r w0).ag,iV (aL r w0).ah]) (fun z=>[aj.row 126 z.1 (aL r w0).ao,aj.row 103 z.2.1 (aL r w0).Things,aj.row 124 z.2.2.1 (aL r w0).Held,aj.row 91 z.2.2.2 (aL r w0).Notes]) (fun _=>[]):=by
 have cB:=H.bD 0 rfl
 have cd:=H.bD 1 rfl
 have df:=H.bD 2 rfl
 have cC:=H.bD 3 rfl
 have bw:=hk.wl;have bt:=hk.tl;have bh:=hk.hl;have bn:=hk.nl;have ya:=hk.w0;have yb:=hk.w1;have yc:=hk.t0;have yd:=hk.t1
 refine R.bE [(0,.agg #[a8,aW,aX,aZ,iV r.ag,iV r.ah]),(1,.agg #[iV w0.ID,iV w0.aA,iV w0.Rights,iV w0.aU,iV w0.From])] Tryz.func87 O O O O H<|U ?_
 refine R.s O (s.box O O O) fun b1=>?_
 refine R.s O (s.box O O O) fun b2=>?_
 refine R.s O (s.alloc cw O O) fun b3=>U ?_
 refine R.s O (s.aT bm bm _ _ _ O O O FW O O (fun w own hw H=>pn a8 aW aX aZ r w own H af) O) ?_
 rintro ⟨z1,z2,z3,z4⟩
 dsimp only
 refine R.s O (s.dE 6 _ O O O (fun _ _=>rfl) (.inl ak) (fun w hw=>(dx (hw.row 0 O) (hw.row 1 O) (hw.row 2 O) (hw.row 3 O) O O)) O O O) fun _=>U ?_
 refine R.s O (s.bs (l:=([w0]:List ap)) cR br O O O O O O O) fun b4=>?_
 refine R.s O (s.app 1 _ O O O (bH 0 O) g9 az az (fun _=>rfl) O) fun v1=>U ?_
 refine R.s O (s.dE 7 _ O O O (fun w hw=>Sl.bF (hw.row 1 O)) (.inr ⟨eF,rfl⟩) (fun w hw=>(aJ (Sl.one (hw.row 1 O)) bq)) O O O) fun _=>U ?_
 refine R.q (q.aL (r:=r.ag+1) O O) O<|U ?_
 refine R.s O (s.st 7 _ O O O O (.inr ⟨bg,rfl⟩) O O O O) fun _=>U ?_
 refine R.s O (s.dE 5 _ O O O (fun _ _=>rfl) (.inl ak) (fun w hw=>(dx (hw.row 1 O) (hw.row 2 O) (hw.row 3 O) (hw.row 4 O) O O)) O O O) fun _=>U ?_
 have hz:aL r w0=(⟨r.ao++([w0]),r.Things,r.Held,r.Notes,r.ag+1,r.ah⟩:av):=by (rfl)
 rw [hz]
 exact R.w1 (v1,z2,z3,z4) [1,2,3,4,8] [] O Tryz.results87 (RV.cell 5 O O ak) O O O O
theorem LU (w:World)(own:List Nat)(H:HN w own [] []):RC Tryz.prog 25 #[] H (fun z:Value×Value×Value×Value => .agg #[z.1,z.2.1,z.2.2.1,z.2.2.2,iV (⟨[],[],[],[],1,1⟩:av).ag,iV (⟨[],[],[],[],1,1⟩:av).ah]) (fun _=>[]) (fun z=>[aj.ls z.1 ((⟨[],[],[],[],1,1⟩:av).ao:List ap),aj.ls z.2.1 ((⟨[],[],[],[],1,1⟩:av).Things:List aA),aj.ls z.2.2.1 ((⟨[],[],[],[],1,1⟩:av).Held:List Held),aj.ls z.2.2.2 ((⟨[],[],[],[],1,1⟩:av).Notes:List Note)]):=by
 refine R.bE [] Tryz.func25 O O O O H<|U ?_
 refine R.s O (s.alloc cw O O) fun b1=>U ?_
 refine R.s O (s.st 0 _ O O O O (.inl ak) O O O O) fun _=>U ?_
 exact R.iY ap aA Held Note<|R.w1 ((nS),nS,nS,(nS)) [1] dh O Tryz.results25 (RV.cell 0 O O ak) O O O O
theorem LV (a8 aW aX aZ:Value)(r:av)(p:Place)(kind:Int)(w:World)(own:List Nat)(H:HN w own [] [aj.ls a8 r.ao,aj.ls aW r.Things,aj.ls aX r.Held,aj.ls aZ r.Notes])(hk:Ok r)(hI:Inv r):RC Tryz.prog 33 #[.agg #[a8,aW,aX,aZ,iV r.ag,iV r.ah],.agg #[iV p.ay,iV p.Slot],iV kind] H (fun z:Value×Value×Value×Value => .tuple #[.agg #[z.1,z.2.1,z.2.2.1,z.2.2.2,iV (cE r p kind).1.ag,iV (cE r p kind).1.ah],iV (cE r p kind).2]) (fun _=>[]) (fun z=>[aj.ls z.1 (cE r p kind).1.ao,aj.ls z.2.1 (cE r p kind).1.Things,aj.ls z.2.2.1 (cE r p kind).1.Held,aj.ls z.2.2.2 (cE r p kind).1.Notes]):=by
 have cB:=H.bD 0 rfl
 have cd:=H.bD 1 rfl
 have df:=H.bD 2 rfl
 have cC:=H.bD 3 rfl
 have bw:=hk.wl;have bt:=hk.tl;have bh:=hk.hl;have bn:=hk.nl;have ya:=hk.w0;have yb:=hk.w1;have yc:=hk.t0;have yd:=hk.t1
 refine R.bE [(0,.agg #[a8,aW,aX,aZ,iV r.ag,iV r.ah]),(1,.agg #[iV p.ay,iV p.Slot]),(2,iV kind)] Tryz.func33 O O O O H<|U ?_
 refine R.s O (s.box O O O) fun b1=>?_
 refine R.s O (s.box O O O) fun b2=>?_
 refine R.s O (s.alloc cw O O) fun b3=>U ?_
 by_cases h1:kind=1
 .
  refine U ?_
  refine R.c (q.call J5 O O (fun w hw=>(sB _ _ _ _ r p w (hw.bz 0 O) (hw.bz 1 O) (hw.bz 2 O) (hw.bz 3 O) af af))) O<|U ?_
  by_cases h2:0<eD r p
  .
   refine U ?_
   refine R.s O (s.st 0 _ O O O O (.inl ak) O O O O) fun _=>U ?_
   refine R.iY ap aA Held Note ?_
   have hz:cE r p kind=((⟨[],[],[],[],0,0⟩:av),eD r p):=by (unfold cE;(repeat' split) <;> first|rfl|(exfalso;omega)|(simp_all;done))
   rw [hz]
   exact R.w2 ((nS),nS,nS,(nS)) [3] dh O Tryz.results33 (RV.cell 0 O O ak) (RV.tmp O) O O O (cq O O)
  have fq:eD r p=0:=by have:=gj r p;omega
  have fz:=bY (iM fq).1
  refine U ?_
  by_cases h3:r.Things.length=10
  .
   refine U ?_
   refine R.s O (s.st 0 _ O O O O (.inl ak) O O O O) fun _=>U ?_
   refine R.iY ap aA Held Note ?_
   have hz:cE r p kind=((⟨[],[],[],[],0,0⟩:av),9):=by (unfold cE;(repeat' split) <;> first|rfl|(exfalso;omega)|(simp_all;done))
   rw [hz]
   exact R.w2 ((nS),nS,nS,(nS)) [3] dh O Tryz.results33 (RV.cell 0 O O ak) (RV.tmp O) O O O (cq O O)
  refine U ?_
  by_cases h4:999<r.ah
  .
   refine U ?_
   refine R.s O (s.st 0 _ O O O O (.inl ak) O O O O) fun _=>U ?_
   refine R.iY ap aA Held Note ?_
   have hz:cE r p kind=((⟨[],[],[],[],0,0⟩:av),9):=by (unfold cE;(repeat' split) <;> first|rfl|(exfalso;omega)|(simp_all;done))
   rw [hz]
   exact R.w2 ((nS),nS,nS,(nS)) [3] dh O Tryz.results33 (RV.cell 0 O O ak) (RV.tmp O) O O O (cq O O)
  refine U ?_
  by_cases h5:999<r.ag
  .
   refine U ?_
   refine R.s O (s.st 0 _ O O O O (.inl ak) O O O O) fun _=>U ?_
   refine R.iY ap aA Held Note ?_
   have hz:cE r p kind=((⟨[],[],[],[],0,0⟩:av),9):=by (unfold cE;(repeat' split) <;> first|rfl|(exfalso;omega)|(simp_all;done))
   rw [hz]
   exact R.w2 ((nS),nS,nS,(nS)) [3] dh O Tryz.results33 (RV.cell 0 O O ak) (RV.tmp O) O O O (cq O O)
  refine U ?_
  refine R.s O (s.alloc br O O) fun b4=>?_
  refine R.s O (s.st 0 _ O O O O (.inl aH) O O O O) fun _=>U ?_
  refine R.s O (s.aT da bm _ _ _ O O O FV O O (fun w own hw H=>rL a8 aW aX aZ r (⟨r.ag,r.ah,7,0,0⟩:ap) w own H af) O) ?_
  rintro ⟨z1,z2,z3,z4⟩
  dsimp only
  refine R.s O (s.dE 7 _ O O O (fun _ _=>rfl) (.inl ak) (fun w hw=>(dx (hw.row 0 O) (hw.row 1 O) (hw.row 2 O) (hw.row 3 O) O O)) O O O) fun _=>U ?_
  refine R.s O (s.bs (l:=([(⟨(aL r (⟨r.ag,r.ah,7,0,0⟩:ap)).ah,kind,⟨#[]⟩⟩:aA)]:List aA)) eZ fP O O O O O O O) fun b5=>?_
  refine R.s O (s.app 2 _ O O O (bH 0 O) lI (by (simp [aL];omega)) (by (simp [aL];omega)) (fun _=>rfl) O) fun v1=>U ?_
  refine R.s O (s.dE 8 _ O O O (fun w hw=>Sl.bF (hw.row 2 O)) (.inr ⟨gC,rfl⟩) (fun w hw=>(aJ (Sl.one (hw.row 2 O)) bq)) O O O) fun _=>U ?_
  have a1_:(aL r (⟨r.ag,r.ah,7,0,0⟩:ap)).ah=r.ah:=rfl
  refine U ?_
  refine R.q (q.aL (r:=(aL r (⟨r.ag,r.ah,7,0,0⟩:ap)).ah+1) O O) O<|U ?_
  refine R.s O (s.st 8 _ O O O O (.inr ⟨bg,rfl⟩) O O O O) fun _=>U ?_
  refine R.s O (s.pre (fun _ hw=>hw.bu 3 _ O O) (s.aT dQ [0] _ _ _ O O O zE O O (fun w own hw H=>nC z3 (aL r (⟨r.ag,r.ah,7,0,0⟩:ap)).Held p r.ag w own H (by (dsimp only [aL];omega)) (by exact hI.good)) O)) fun z5=>U ?_
  refine R.s O (s.dE 8 _ O O O (fun w hw=>Sl.bF (hw.row 0 O)) (.inr ⟨eG,rfl⟩) (fun w hw=>(aJ (Sl.one (hw.row 0 O)) bq)) O O O) fun _=>U ?_
  refine R.s O (s.dE 6 _ O O O (fun _ _=>rfl) (.inl ak) (fun w hw=>(dx (hw.row 2 O) (hw.row 3 O) (hw.row 0 O) (hw.row 4 O) O O)) O O O) fun _=>U ?_
  refine R.mp (fun _ hw=>hw.bu 2 _ O O)<|R.mp (fun _ hw=>hw.bu 2 _ O O)<|R.mp (fun _ hw=>hw.bu 0 _ O O)<|R.mp (fun _ hw=>hw.bu 1 _ O O) ?_
  have hz:cE r p kind=((⟨(aL r (⟨r.ag,r.ah,7,0,0⟩:ap)).ao,(aL r (⟨r.ag,r.ah,7,0,0⟩:ap)).Things++([(⟨(aL r (⟨r.ag,r.ah,7,0,0⟩:ap)).ah,kind,⟨#[]⟩⟩:aA)]),eW (aL r (⟨r.ag,r.ah,7,0,0⟩:ap)).Held p r.ag,(aL r (⟨r.ag,r.ah,7,0,0⟩:ap)).Notes,(aL r (⟨r.ag,r.ah,7,0,0⟩:ap)).ag,(aL r (⟨r.ag,r.ah,7,0,0⟩:ap)).ah+1⟩:av),0):=by (unfold cE fB;rw [if_pos ae,if_pos fq,if_neg ae];dsimp only;rw [if_pos ae];(try rfl))
  rw [hz]
  exact R.w2 (z1,v1,z5,z4) [5] dh O Tryz.results33 (RV.cell 2 O O ak) (RV.tmp O) O O O (cq O O)
 refine U ?_
 by_cases h6:kind=2
 .
  refine U ?_
  refine R.c (q.call J5 O O (fun w hw=>(sB _ _ _ _ r p w (hw.bz 0 O) (hw.bz 1 O) (hw.bz 2 O) (hw.bz 3 O) af af))) O<|U ?_
  by_cases h7:0<eD r p
  .
   refine U ?_
   refine R.s O (s.st 0 _ O O O O (.inl ak) O O O O) fun _=>U ?_
   refine R.iY ap aA Held Note ?_
   have hz:cE r p kind=((⟨[],[],[],[],0,0⟩:av),eD r p):=by (unfold cE;(repeat' split) <;> first|rfl|(exfalso;omega)|(simp_all;done))
   rw [hz]
   exact R.w2 ((nS),nS,nS,(nS)) [3] dh O Tryz.results33 (RV.cell 0 O O ak) (RV.tmp O) O O O (cq O O)
  have fq:eD r p=0:=by have:=gj r p;omega
  have fz:=bY (iM fq).1
  refine U ?_
  by_cases h8:r.Things.length=10
  .
   refine U ?_
   refine R.s O (s.st 0 _ O O O O (.inl ak) O O O O) fun _=>U ?_
   refine R.iY ap aA Held Note ?_
   have hz:cE r p kind=((⟨[],[],[],[],0,0⟩:av),9):=by (unfold cE;(repeat' split) <;> first|rfl|(exfalso;omega)|(simp_all;done))
   rw [hz]
   exact R.w2 ((nS),nS,nS,(nS)) [3] dh O Tryz.results33 (RV.cell 0 O O ak) (RV.tmp O) O O O (cq O O)
  refine U ?_
  by_cases h9:999<r.ah
  .
   refine U ?_
   refine R.s O (s.st 0 _ O O O O (.inl ak) O O O O) fun _=>U ?_
   refine R.iY ap aA Held Note ?_
   have hz:cE r p kind=((⟨[],[],[],[],0,0⟩:av),9):=by (unfold cE;(repeat' split) <;> first|rfl|(exfalso;omega)|(simp_all;done))
   rw [hz]
   exact R.w2 ((nS),nS,nS,(nS)) [3] dh O Tryz.results33 (RV.cell 0 O O ak) (RV.tmp O) O O O (cq O O)
  refine U ?_
  by_cases h10:999<r.ag
  .
   refine U ?_
   refine R.s O (s.st 0 _ O O O O (.inl ak) O O O O) fun _=>U ?_
   refine R.iY ap aA Held Note ?_
   have hz:cE r p kind=((⟨[],[],[],[],0,0⟩:av),9):=by (unfold cE;(repeat' split) <;> first|rfl|(exfalso;omega)|(simp_all;done))
   rw [hz]
   exact R.w2 ((nS),nS,nS,(nS)) [3] dh O Tryz.results33 (RV.cell 0 O O ak) (RV.tmp O) O O O (cq O O)
  refine U ?_
  refine R.s O (s.alloc br O O) fun b6=>?_
  refine R.s O (s.st 0 _ O O O O (.inl aH) O O O O) fun _=>U ?_
  refine R.s O (s.aT da bm _ _ _ O O O FV O O (fun w own hw H=>rL a8 aW aX aZ r (⟨r.ag,r.ah,7,0,0⟩:ap) w own H af) O) ?_
  rintro ⟨z6,z7,z8,z9⟩
  dsimp only
  refine R.s O (s.dE 7 _ O O O (fun _ _=>rfl) (.inl ak) (fun w hw=>(dx (hw.row 0 O) (hw.row 1 O) (hw.row 2 O) (hw.row 3 O) O O)) O O O) fun _=>U ?_
  refine R.s O (s.bs (l:=([(⟨(aL r (⟨r.ag,r.ah,7,0,0⟩:ap)).ah,kind,⟨#[]⟩⟩:aA)]:List aA)) eZ fP O O O O O O O) fun b7=>?_
  refine R.s O (s.app 2 _ O O O (bH 0 O) lI (by (simp [aL];omega)) (by (simp [aL];omega)) (fun _=>rfl) O) fun v2=>U ?_
  refine R.s O (s.dE 8 _ O O O (fun w hw=>Sl.bF (hw.row 2 O)) (.inr ⟨gC,rfl⟩) (fun w hw=>(aJ (Sl.one (hw.row 2 O)) bq)) O O O) fun _=>U ?_
  have a1_:(aL r (⟨r.ag,r.ah,7,0,0⟩:ap)).ah=r.ah:=rfl
  refine U ?_
  refine R.q (q.aL (r:=(aL r (⟨r.ag,r.ah,7,0,0⟩:ap)).ah+1) O O) O<|U ?_
  refine R.s O (s.st 8 _ O O O O (.inr ⟨bg,rfl⟩) O O O O) fun _=>U ?_
  refine R.s O (s.pre (fun _ hw=>hw.bu 3 _ O O) (s.aT dQ [0] _ _ _ O O O zE O O (fun w own hw H=>nC z8 (aL r (⟨r.ag,r.ah,7,0,0⟩:ap)).Held p r.ag w own H (by (dsimp only [aL];omega)) (by exact hI.good)) O)) fun l7=>U ?_
  refine R.s O (s.dE 8 _ O O O (fun w hw=>Sl.bF (hw.row 0 O)) (.inr ⟨eG,rfl⟩) (fun w hw=>(aJ (Sl.one (hw.row 0 O)) bq)) O O O) fun _=>U ?_
  refine R.s O (s.dE 6 _ O O O (fun _ _=>rfl) (.inl ak) (fun w hw=>(dx (hw.row 2 O) (hw.row 3 O) (hw.row 0 O) (hw.row 4 O) O O)) O O O) fun _=>U ?_
  refine R.mp (fun _ hw=>hw.bu 2 _ O O)<|R.mp (fun _ hw=>hw.bu 2 _ O O)<|R.mp (fun _ hw=>hw.bu 0 _ O O)<|R.mp (fun _ hw=>hw.bu 1 _ O O) ?_
  have hz:cE r p kind=((⟨(aL r (⟨r.ag,r.ah,7,0,0⟩:ap)).ao,(aL r (⟨r.ag,r.ah,7,0,0⟩:ap)).Things++([(⟨(aL r (⟨r.ag,r.ah,7,0,0⟩:ap)).ah,kind,⟨#[]⟩⟩:aA)]),eW (aL r (⟨r.ag,r.ah,7,0,0⟩:ap)).Held p r.ag,(aL r (⟨r.ag,r.ah,7,0,0⟩:ap)).Notes,(aL r (⟨r.ag,r.ah,7,0,0⟩:ap)).ag,(aL r (⟨r.ag,r.ah,7,0,0⟩:ap)).ah+1⟩:av),0):=by (unfold cE fB;rw [if_pos ae,if_pos fq,if_neg ae];dsimp only;rw [if_pos ae];(try rfl))
  rw [hz]
  exact R.w2 (z6,v2,l7,z9) [5] dh O Tryz.results33 (RV.cell 2 O O ak) (RV.tmp O) O O O (cq O O)
 refine U ?_
 refine R.s O (s.st 0 _ O O O O (.inl ak) O O O O) fun _=>U ?_
 refine R.iY ap aA Held Note ?_
 have hz:cE r p kind=((⟨[],[],[],[],0,0⟩:av),8):=by (unfold cE;(repeat' split) <;> first|rfl|(exfalso;omega)|(simp_all;done))
 rw [hz]
 exact R.w2 ((nS),nS,nS,(nS)) [3] dh O Tryz.results33 (RV.cell 0 O O ak) (RV.tmp O) O O O (cq O O)
theorem LW (a8 aW aX aZ:Value)(r:av)(p:Place)(t:Place)(rights:Int)(bU:Int)(w:World)(own:List Nat)(H:HN w own [] [aj.ls a8 r.ao,aj.ls aW r.Things,aj.ls aX r.Held,aj.ls aZ r.Notes])(hk:Ok r)(hI:Inv r):RC Tryz.prog 34 #[.agg #[a8,aW,aX,aZ,iV r.ag,iV r.ah],.agg #[iV p.ay,iV p.Slot],.agg #[iV t.ay,iV t.Slot],iV rights,iV bU] H (fun z:Value×Value×Value×Value => .tuple #[.agg #[z.1,z.2.1,z.2.2.1,z.2.2.2,iV (dq r p t rights bU).1.ag,iV (dq r p t rights bU).1.ah],iV (dq r p t rights bU).2]) (fun _=>[]) (fun z=>[aj.ls z.1 (dq r p t rights bU).1.ao,aj.ls z.2.1 (dq r p t rights bU).1.Things,aj.ls z.2.2.1 (dq r p t rights bU).1.Held,aj.ls z.2.2.2 (dq r p t rights bU).1.Notes]):=by
 have cB:=H.bD 0 rfl
 have cd:=H.bD 1 rfl
 have df:=H.bD 2 rfl
 have cC:=H.bD 3 rfl
 have bw:=hk.wl;have bt:=hk.tl;have bh:=hk.hl;have bn:=hk.nl;have ya:=hk.w0;have yb:=hk.w1;have yc:=hk.t0;have yd:=hk.t1
 have gn:=ft r p
 have dc:=iL (aM r p).1 r.ag rights bU
 refine R.bE [(0,.agg #[a8,aW,aX,aZ,iV r.ag,iV r.ah]),(1,.agg #[iV p.ay,iV p.Slot]),(2,.agg #[iV t.ay,iV t.Slot]),(3,iV rights),(4,iV bU)] Tryz.func34 O O O O H<|U ?_
 refine R.s O (s.box O O O) fun b1=>?_
 refine R.s O (s.box O O O) fun b2=>?_
 refine R.s O (s.box O O O) fun b3=>?_
 refine R.s O (s.alloc cw O O) fun b4=>U ?_
 refine R.c (q.call Co O O (fun w hw=>(pj _ _ _ _ r p w (hw.bz 0 O) (hw.bz 1 O) (hw.bz 2 O) (hw.bz 3 O) af af))) O<|U ?_
 refine R.s O (s.alloc br O O) fun b5=>?_
 refine R.s O (s.st 0 _ O O O O (.inl aH) O O O O) fun _=>U ?_
 by_cases h1:0<(aM r p).2
 .
  refine U ?_
  refine R.s O (s.st 1 _ O O O O (.inl ak) O O O O) fun _=>U ?_
  refine R.iY ap aA Held Note ?_
  have hz:dq r p t rights bU=((⟨[],[],[],[],0,0⟩:av),(aM r p).2):=by (unfold dq;rw [if_neg ae];(try rfl))
  rw [hz]
  exact R.w2 ((nS),nS,nS,(nS)) [5] dh O Tryz.results34 (RV.cell 1 O O ak) (RV.tmp O) O O O (cq O O)
 have gz:(aM r p).2=0:=ae
 have gr:=hk.get gz
 refine U ?_
 refine R.c (q.call J5 O O (fun w hw=>(sB _ _ _ _ r t w (hw.bz 0 O) (hw.bz 1 O) (hw.bz 2 O) (hw.bz 3 O) af af))) O<|U ?_
 by_cases h2:0<eD r t
 .
  refine U ?_
  refine R.s O (s.st 1 _ O O O O (.inl ak) O O O O) fun _=>U ?_
  refine R.iY ap aA Held Note ?_
  have hz:dq r p t rights bU=((⟨[],[],[],[],0,0⟩:av),eD r t):=by (unfold dq;rw [if_pos gz,if_neg (by have:=gj r t;omega)];(try rfl))
  rw [hz]
  exact R.w2 ((nS),nS,nS,(nS)) [5] dh O Tryz.results34 (RV.cell 1 O O ak) (RV.tmp O) O O O (cq O O)
 have fq:eD r t=0:=by have:=gj r t;omega
 have fz:=bY (iM fq).1
 refine U ?_
 by_cases h3:p.ay=t.ay
 .
  refine U ?_
  by_cases h4:999<r.ag
  .
   refine U ?_
   refine R.s O (s.st 1 _ O O O O (.inl ak) O O O O) fun _=>U ?_
   refine R.iY ap aA Held Note ?_
   have hz:dq r p t rights bU=((⟨[],[],[],[],0,0⟩:av),9):=by (unfold dq;rw [if_pos gz,if_pos fq,if_pos (by exact .inl af),if_pos ae];(try rfl))
   rw [hz]
   exact R.w2 ((nS),nS,nS,(nS)) [5] dh O Tryz.results34 (RV.cell 1 O O ak) (RV.tmp O) O O O (cq O O)
  refine U ?_
  refine R.c (q.call NN O O (fun w hw=>(np (aM r p).1 r.ag rights bU w ae))) O<|U ?_
  refine R.s O (s.alloc br O O) fun b6=>?_
  refine R.s O (s.st 0 _ O O O O (.inl aH) O O O O) fun _=>U ?_
  by_cases h5:0<(derived (aM r p).1 r.ag rights bU).2
  .
   refine U ?_
   refine R.s O (s.st 2 _ O O O O (.inl ak) O O O O) fun _=>U ?_
   refine R.iY ap aA Held Note ?_
   have hz:dq r p t rights bU=((⟨[],[],[],[],0,0⟩:av),(derived (aM r p).1 r.ag rights bU).2):=by (unfold dq;rw [if_pos gz,if_pos fq,if_pos (by exact .inl af),if_neg ae,if_neg ae];(try rfl))
   rw [hz]
   exact R.w2 ((nS),nS,nS,(nS)) [6] dh O Tryz.results34 (RV.cell 2 O O ak) (RV.tmp O) O O O (cq O O)
  have dz:(derived (aM r p).1 r.ag rights bU).2=0:=by have:=iL (aM r p).1 r.ag rights bU;omega
  have di:=(mo dz).2.2.2.2.2.1
  refine U ?_
  refine R.s O (s.aT kj bm _ _ _ O O O FV O O (fun w own hw H=>rL a8 aW aX aZ r (derived (aM r p).1 r.ag rights bU).1 w own H af) O) ?_
  rintro ⟨z1,z2,z3,z4⟩
  dsimp only
  refine R.s O (s.dE 9 _ O O O (fun _ _=>rfl) (.inl ak) (fun w hw=>(dx (hw.row 0 O) (hw.row 1 O) (hw.row 2 O) (hw.row 3 O) O O)) O O O) fun _=>U ?_
  refine R.s O (s.pre (fun _ hw=>hw.bu 2 _ O O) (s.aT nD [0] _ _ _ O O O zE O O (fun w own hw H=>nC z3 (aL r (derived (aM r p).1 r.ag rights bU).1).Held t (derived (aM r p).1 r.ag rights bU).1.ID w own H (by (dsimp only [aL];omega)) (by exact hI.good)) O)) fun z5=>U ?_
  refine R.s O (s.dE 9 _ O O O (fun w hw=>Sl.bF (hw.row 0 O)) (.inr ⟨eG,rfl⟩) (fun w hw=>(aJ (Sl.one (hw.row 0 O)) bq)) O O O) fun _=>U ?_
  refine R.s O (s.dE 6 _ O O O (fun _ _=>rfl) (.inl ak) (fun w hw=>(dx (hw.row 1 O) (hw.row 2 O) (hw.row 0 O) (hw.row 3 O) O O)) O O O) fun _=>U ?_
  refine R.mp (fun _ hw=>hw.bu 1 _ O O)<|R.mp (fun _ hw=>hw.bu 1 _ O O)<|R.mp (fun _ hw=>hw.bu 0 _ O O)<|R.mp (fun _ hw=>hw.bu 0 _ O O) ?_
  have hz:dq r p t rights bU=((⟨(aL r (derived (aM r p).1 r.ag rights bU).1).ao,(aL r (derived (aM r p).1 r.ag rights bU).1).Things,eW (aL r (derived (aM r p).1 r.ag rights bU).1).Held t (derived (aM r p).1 r.ag rights bU).1.ID,(aL r (derived (aM r p).1 r.ag rights bU).1).Notes,(aL r (derived (aM r p).1 r.ag rights bU).1).ag,(aL r (derived (aM r p).1 r.ag rights bU).1).ah⟩:av),0):=by (unfold dq;rw [if_pos gz,if_pos fq,if_pos (by exact .inl af),if_neg ae,if_pos dz];unfold fB;rw [if_pos ae];(try rfl))
  rw [hz]
  exact R.w2 (z1,z2,z5,z4) [6] dh O Tryz.results34 (RV.cell 2 O O ak) (RV.tmp O) O O O (cq O O)
 refine U ?_
 by_cases h6:(aM r p).1.Rights<4
 .
  refine U ?_
  refine R.s O (s.st 1 _ O O O O (.inl ak) O O O O) fun _=>U ?_
  refine R.iY ap aA Held Note ?_
  have hz:dq r p t rights bU=((⟨[],[],[],[],0,0⟩:av),7):=by (unfold dq;rw [if_pos gz,if_pos fq,if_neg (by rintro (hh|hh) <;> first|contradiction|(rw [Kl gr ae] at hh;cases hh))];(try rfl))
  rw [hz]
  exact R.w2 ((nS),nS,nS,(nS)) [5] dh O Tryz.results34 (RV.cell 1 O O ak) (RV.tmp O) O O O (cq O O)
 refine U ?_
 by_cases h7:999<r.ag
 .
  refine U ?_
  refine R.s O (s.st 1 _ O O O O (.inl ak) O O O O) fun _=>U ?_
  refine R.iY ap aA Held Note ?_
  have hz:dq r p t rights bU=((⟨[],[],[],[],0,0⟩:av),9):=by (unfold dq;rw [if_pos gz,if_pos fq,if_pos (by exact .inr (ny gr ae)),if_pos ae];(try rfl))
  rw [hz]
  exact R.w2 ((nS),nS,nS,(nS)) [5] dh O Tryz.results34 (RV.cell 1 O O ak) (RV.tmp O) O O O (cq O O)
 refine U ?_
 refine R.c (q.call NN O O (fun w hw=>(np (aM r p).1 r.ag rights bU w ae))) O<|U ?_
 refine R.s O (s.alloc br O O) fun b7=>?_
 refine R.s O (s.st 0 _ O O O O (.inl aH) O O O O) fun _=>U ?_
 by_cases h8:0<(derived (aM r p).1 r.ag rights bU).2
 .
  refine U ?_
  refine R.s O (s.st 2 _ O O O O (.inl ak) O O O O) fun _=>U ?_
  refine R.iY ap aA Held Note ?_
  have hz:dq r p t rights bU=((⟨[],[],[],[],0,0⟩:av),(derived (aM r p).1 r.ag rights bU).2):=by (unfold dq;rw [if_pos gz,if_pos fq,if_pos (by exact .inr (ny gr ae)),if_neg ae,if_neg ae];(try rfl))
  rw [hz]
  exact R.w2 ((nS),nS,nS,(nS)) [6] dh O Tryz.results34 (RV.cell 2 O O ak) (RV.tmp O) O O O (cq O O)
 have dz:(derived (aM r p).1 r.ag rights bU).2=0:=by have:=iL (aM r p).1 r.ag rights bU;omega
 have di:=(mo dz).2.2.2.2.2.1
 refine U ?_
 refine R.s O (s.aT kj bm _ _ _ O O O FV O O (fun w own hw H=>rL a8 aW aX aZ r (derived (aM r p).1 r.ag rights bU).1 w own H af) O) ?_
 rintro ⟨z6,z7,z8,z9⟩
 dsimp only
 refine R.s O (s.dE 9 _ O O O (fun _ _=>rfl) (.inl ak) (fun w hw=>(dx (hw.row 0 O) (hw.row 1 O) (hw.row 2 O) (hw.row 3 O) O O)) O O O) fun _=>U ?_
 refine R.s O (s.pre (fun _ hw=>hw.bu 2 _ O O) (s.aT nD [0] _ _ _ O O O zE O O (fun w own hw H=>nC z8 (aL r (derived (aM r p).1 r.ag rights bU).1).Held t (derived (aM r p).1 r.ag rights bU).1.ID w own H (by (dsimp only [aL];omega)) (by exact hI.good)) O)) fun l7=>U ?_
 refine R.s O (s.dE 9 _ O O O (fun w hw=>Sl.bF (hw.row 0 O)) (.inr ⟨eG,rfl⟩) (fun w hw=>(aJ (Sl.one (hw.row 0 O)) bq)) O O O) fun _=>U ?_
 refine R.s O (s.dE 6 _ O O O (fun _ _=>rfl) (.inl ak) (fun w hw=>(dx (hw.row 1 O) (hw.row 2 O) (hw.row 0 O) (hw.row 3 O) O O)) O O O) fun _=>U ?_
 refine R.mp (fun _ hw=>hw.bu 1 _ O O)<|R.mp (fun _ hw=>hw.bu 1 _ O O)<|R.mp (fun _ hw=>hw.bu 0 _ O O)<|R.mp (fun _ hw=>hw.bu 0 _ O O) ?_
 have hz:dq r p t rights bU=((⟨(aL r (derived (aM r p).1 r.ag rights bU).1).ao,(aL r (derived (aM r p).1 r.ag rights bU).1).Things,eW (aL r (derived (aM r p).1 r.ag rights bU).1).Held t (derived (aM r p).1 r.ag rights bU).1.ID,(aL r (derived (aM r p).1 r.ag rights bU).1).Notes,(aL r (derived (aM r p).1 r.ag rights bU).1).ag,(aL r (derived (aM r p).1 r.ag rights bU).1).ah⟩:av),0):=by (unfold dq;rw [if_pos gz,if_pos fq,if_pos (by exact .inr (ny gr ae)),if_neg ae,if_pos dz];unfold fB;rw [if_pos ae];(try rfl))
 rw [hz]
 exact R.w2 (z6,z7,l7,z9) [6] dh O Tryz.results34 (RV.cell 2 O O ak) (RV.tmp O) O O O (cq O O)
theorem LX (a8 aW aX aZ:Value)(r:av)(p:Place)(slot:Int)(w:World)(own:List Nat)(H:HN w own [] [aj.ls a8 r.ao,aj.ls aW r.Things,aj.ls aX r.Held,aj.ls aZ r.Notes])(hk:Ok r)(hI:Inv r):RC Tryz.prog 35 #[.agg #[a8,aW,aX,aZ,iV r.ag,iV r.ah],.agg #[iV p.ay,iV p.Slot],iV slot] H (fun z:Value×Value×Value×Value => .tuple #[.agg #[z.1,z.2.1,z.2.2.1,z.2.2.2,iV (fu r p slot).1.ag,iV (fu r p slot).1.ah],iV (fu r p slot).2]) (fun _=>[]) (fun z=>[aj.ls z.1 (fu r p slot).1.ao,aj.ls z.2.1 (fu r p slot).1.Things,aj.ls z.2.2.1 (fu r p slot).1.Held,aj.ls z.2.2.2 (fu r p slot).1.Notes]):=by
 have cB:=H.bD 0 rfl
 have cd:=H.bD 1 rfl
 have df:=H.bD 2 rfl
 have cC:=H.bD 3 rfl
 have bw:=hk.wl;have bt:=hk.tl;have bh:=hk.hl;have bn:=hk.nl;have ya:=hk.w0;have yb:=hk.w1;have yc:=hk.t0;have yd:=hk.t1
 have gn:=ft r p
 have bp:=mU r.Held p 0
 refine R.bE [(0,.agg #[a8,aW,aX,aZ,iV r.ag,iV r.ah]),(1,.agg #[iV p.ay,iV p.Slot]),(2,iV slot)] Tryz.func35 O O O O H<|U ?_
 refine R.s O (s.box O O O) fun b1=>?_
 refine R.s O (s.box O O O) fun b2=>?_
 refine R.s O (s.alloc cw O O) fun b3=>U ?_
 refine R.c (q.call Co O O (fun w hw=>(pj _ _ _ _ r p w (hw.bz 0 O) (hw.bz 1 O) (hw.bz 2 O) (hw.bz 3 O) af af))) O<|U ?_
 refine R.s O (s.alloc br O O) fun b4=>?_
 refine R.s O (s.st 0 _ O O O O (.inl aH) O O O O) fun _=>U ?_
 by_cases h1:0<(aM r p).2
 .
  refine U ?_
  refine R.s O (s.st 1 _ O O O O (.inl ak) O O O O) fun _=>U ?_
  refine R.iY ap aA Held Note ?_
  have hz:fu r p slot=((⟨[],[],[],[],0,0⟩:av),(aM r p).2):=by (unfold fu;rw [if_neg ae];(try rfl))
  rw [hz]
  exact R.w2 ((nS),nS,nS,(nS)) [4] dh O Tryz.results35 (RV.cell 1 O O ak) (RV.tmp O) O O O (cq O O)
 have gz:(aM r p).2=0:=ae
 have gr:=hk.get gz;have gp:=lQ (id:=0) hI.good (rP gz).1
 refine U ?_
 refine R.s O (s.alloc rj O O) fun b5=>?_
 refine R.s O (s.st 0 _ O O O O (.inl lG) O O O O) fun _=>U ?_
 refine R.c (q.call J5 O O (fun w hw=>(sB _ _ _ _ r (⟨p.ay,slot⟩:Place) w (hw.bz 0 O) (hw.bz 1 O) (hw.bz 2 O) (hw.bz 3 O) af af))) O<|U ?_
 by_cases h2:0<eD r (⟨p.ay,slot⟩:Place)
 .
  refine U ?_
  refine R.s O (s.st 2 _ O O O O (.inl ak) O O O O) fun _=>U ?_
  refine R.iY ap aA Held Note ?_
  have hz:fu r p slot=((⟨[],[],[],[],0,0⟩:av),eD r (⟨p.ay,slot⟩:Place)):=by (unfold fu;rw [if_pos gz,if_neg (by have:=gj r (⟨p.ay,slot⟩:Place);omega)];(try rfl))
  rw [hz]
  exact R.w2 ((nS),nS,nS,(nS)) [5] dh O Tryz.results35 (RV.cell 2 O O ak) (RV.tmp O) O O O (cq O O)
 have fq:eD r (⟨p.ay,slot⟩:Place)=0:=by have:=gj r (⟨p.ay,slot⟩:Place);omega
 have fz:=bY (iM fq).1
 refine U ?_
 refine R.s O (s.aT nE bm _ _ _ O O O FW O O (fun w own hw H=>pn a8 aW aX aZ r w own H af) O) ?_
 rintro ⟨z1,z2,z3,z4⟩
 dsimp only
 refine R.s O (s.dE 8 _ O O O (fun _ _=>rfl) (.inl ak) (fun w hw=>(dx (hw.row 0 O) (hw.row 1 O) (hw.row 2 O) (hw.row 3 O) O O)) O O O) fun _=>U ?_
 refine R.eA (fuel:=10) [0,1,3,4,5,6,7,9] O O mixed O<|D.l [0,2,4,5,6] [0,1,3,4,5,6,7,9] bm O<|U ?_
 refine D.one (i:=1) O<|Do.s (s.c (Qt.a (q.ld 8 O O eG O)) O) (fun _=>(aN [0,1,3,4,5,6,7,9] bm O)) O fun _=>?_
 refine D.one (i:=3) O<|Do.s (s.pre (fun _ hw=>hw.bu 2 _ O O) (s.aT dQ [0] _ _ _ O O O zE O O (fun w own hw H=>nC z3 r.Held p 0 w own H ae (by exact hI.good)) O)) (fun _=>(aN Jc [1,2,3,4] O)) O fun z7=>?_
 refine D.one (i:=7) O<|Do.s (s.pre (fun _ hw=>hw.bu 0 _ O O) (s.aT dQ [0] _ _ _ O O O zE O O (fun w own hw H=>nC z7 (eW r.Held p 0) (⟨p.ay,slot⟩:Place) (aM r p).1.ID w own H ae af) O)) (fun _=>(aN Jc [2,3,4,5] O)) O fun z8=>?_
 refine D.l [8] Jc [2,3,4,5] O<|U ?_
 refine D.one (i:=9) O<|Do.s (s.dE 8 _ O O O (fun w hw=>Sl.bF (hw.row 0 O)) (.inr ⟨eG,rfl⟩) (fun w hw=>(aJ (Sl.one (hw.row 0 O)) bq)) O O O) (fun _=>(aN Jc [2,3,4,5] O)) O fun _=>?_
 refine D.done<|U ?_
 refine R.s O (s.dE 6 _ O O O (fun _ _=>rfl) (.inl ak) (fun w hw=>(dx (hw.row 1 O) (hw.row 2 O) (hw.row 0 O) (hw.row 3 O) O O)) O O O) fun _=>U ?_
 refine R.mp (fun _ hw=>hw.bu 1 _ O O)<|R.mp (fun _ hw=>hw.bu 1 _ O O)<|R.mp (fun _ hw=>hw.bu 0 _ O O)<|R.mp (fun _ hw=>hw.bu 0 _ O O) ?_
 have hz:fu r p slot=((⟨r.ao,r.Things,eW (eW r.Held p 0) (⟨p.ay,slot⟩:Place) (aM r p).1.ID,r.Notes,r.ag,r.ah⟩:av),0):=by (unfold fu;rw [if_pos gz,if_pos fq];(try rfl))
 rw [hz]
 exact R.w2 (z1,z2,z8,z4) [5] dh O Tryz.results35 (RV.cell 2 O O ak) (RV.tmp O) O O O (cq O O)
end Go.Proofs.YtnmpibjlnninjaaGreatDoor
