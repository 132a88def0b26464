import Derived.Test.YtnmpibjlnninjaaGreatDoorCT23
namespace Go.Proofs.YtnmpibjlnninjaaGreatDoor
set_option linter.unusedVariables false
set_option linter.unusedSimpArgs false
set_option maxRecDepth 100000
set_option maxHeartbeats 90000000
section
open Go Go.RowKit
attribute [local irreducible] Run Rg Rq Qt Qa Stp Dg Do Dm bQ
theorem ZX {r:Int}(h0:0<=r)(h7:r<=7):iI r 4=decide (4<=r):=by
 have h:r=0∨r=1∨r=2∨r=3∨r=4∨r=5∨r=6∨r=7:=ae
 rcases h with rfl|rfl|rfl|rfl|rfl|rfl|rfl|rfl <;> decide
theorem oC {r:Int}(h0:0<=r/\r<=7)(h:¬ r<4):iI r 4=true:=by rw [ZX h0.1 h0.2];exact decide_eq_true ae
theorem K1 {r:Int}(h0:0<=r/\r<=7)(h:r<4):iI r 4=false:=by rw [ZX h0.1 h0.2];exact decide_eq_false ae
theorem S4 {l:List Int}{n x:Int}{k:Nat}(hx:l[k]? = some x)(h:x=n):true=decide (n∈l):=by
 subst h;exact (decide_eq_true (List.mem_of_getElem? hx)).symm
theorem Qi {l:List Int}{n:Int}(h:∀ (j:Nat) x,j<l.length->l[j]? = some x->¬ x=n):false=decide (n∈l):=by
 refine (decide_eq_false fun hm=>?_).symm
 obtain ⟨j,hj⟩:=List.mem_iff_getElem?.1 hm
 exact h j _ (List.getElem?_eq_some_iff.1 hj).1 hj rfl
theorem oD {α:Type}{f:α->Bool}{l:List α}{k:Nat}{x:α}(hx:l[k]? = some x)(h:f x=true):(l.take (k+1)).filter f=(l.take k).filter f++[x]:=by
 rw [List.take_add_one,hx];simp [List.filter_append,h]
theorem xx {α:Type}{f:α->Bool}{l:List α}{k:Nat}{x:α}(hx:l[k]? = some x)(h:f x=false):(l.take (k+1)).filter f=(l.take k).filter f:=by
 rw [List.take_add_one,hx];simp [List.filter_append,h]
def iA (r:aB)(w:ak):aB:=⟨r.aj++[w],r.Things,r.Held,r.Notes,r.ah+1,r.ai⟩
theorem xy {α:Type}(f:α->Bool)(l:List α)(k:Nat):((l.take k).filter f).length<=k:=Nat.le_trans (List.length_filter_le _ _) (by rw [List.length_take];omega)
theorem Fh (bR:Value)(l:List Held)(p:Place)(w:World)(ia:Sl w bR l)(hg:Good l):Calls Tryz.prog 150 #[bR,.agg #[.int .i64 p.aD,.int .i64 p.Slot]] w fun e w'=>e = .returned (.int .i64 (oI l p))/\Ext w w':=by
 rw [at_eq (iX hg)];exact Dn bR l p w ia
theorem MI (bR:Value)(l:List Held)(h:Int)(w:World)(ia:Sl w bR l)(hg:Good l):Calls Tryz.prog 95 #[bR,.int .i64 h] w fun e w'=>e = .returned (.int .i64 (gk l h))/\Ext w w':=by
 rw [free_eq (iX hg)];exact G2 bR l h w ia
theorem oE (bR:Value)(l:List Held)(p:Place)(id:Int)(w:World)(own:List Nat)(H:Wd w (blks []++own) ([]++[ag.held w own]) [ag.ls bR (l:List Held)] w)(hl:l.length<=100000)(hg:Good l):Calls Tryz.prog 88 #[bR,.agg #[.int .i64 p.aD,.int .i64 p.Slot],.int .i64 id] w fun e w' => ∃z:Value,e = .returned (z)/\Wd w (blks []++own) ([ag.row 124 z (fW l p id:List Held)]++[ag.held w own]) [] w':=by
 rw [put_eq (iX hg)];exact Jg bR l p id w own H hl
theorem Ie (bR:Value)(l:List ak)(w:World)(ia:Sl w bR l)(hT:cJ l):Calls Tryz.prog 148 #[bR] w fun e w' => ∃u,e = .returned u/\Own w.heap.size 3 w' u (br l)/\Ext w w':=by
 unfold br;rw [sW hT];exact Cj bR l w ia
theorem nj (bR:Value)(l:List ak)(id:Int)(w:World)(ia:Sl w bR l)(hl:l.length<=1000000)(hT:cJ l):Calls Tryz.prog 84 #[bR,.int .i64 id] w fun e w' => ∃u,e = .returned u/\Own w.heap.size 126 w' u (without l id)/\Ext w w':=by
 rw [<- NP hT];exact Bu bR l id w ia hl
theorem wv (bR:Value)(l:List ak)(id:Int)(w:World)(ia:Sl w bR l)(hT:cJ l)(hl:l.length<=1000000):Calls Tryz.prog 92 #[bR,.int .i64 id] w fun e w' => ∃u,e = .returned u/\Own w.heap.size 3 w' u (gW id l)/\Ext w w':=by
 rw [J8 hT];exact Bv bR l id w ia hT hl
theorem pq (bR:Value)(l:List Int)(n:Int)(w:World)(ia:Sl w bR l):Calls Tryz.prog 93 #[bR,iV n] w fun e w'=>e = .returned (.bool (decide (n∈l)))/\Ext w w':=by
 have yA:=ia.fS
 refine R.eV ?_
 refine R.loop (fun k:Nat=>[(0,bR),(1,iV n),(5,iV (k:Int))]) (fun k:Nat=>[]) (fun k:Nat=>[]) (fun k:Nat=>k<=l.length /\ ∀ (j:Nat) x,j<k->l[j]? = some x->¬ x=n) (fun k:Nat=>l.length-k) 0 O (by exact ⟨ae,fun j x hj=>absurd hj (Nat.not_lt_zero _)⟩) (sF O) (dX [] [] O) ?_
 rintro k ⟨hk,HA⟩
 refine U ?_
 refine C (k<l.length) ?_ ?_ <;> intro h1
 .
  obtain ⟨x1,hx1⟩:=gE l k
  refine U ?_
  refine C (x1=n) ?_ ?_ <;> intro h2
  .
   refine R.rt ?_
   (exact S4 hx1 af)
  refine R.back (k+1) O (by exact ⟨ae,fun j x hj hx=>if e:j=k then by subst e;rw [hx1] at hx;injection hx with hx;subst hx;assumption else HA j x ae hx⟩) ae (sF O) (dX [] [] O)
 refine R.rt ?_
 (exact Qi (fun j x hj=>HA j x ae))
theorem oF (aX aR aS aT:Value)(r:aB)(p:Place)(w:World)(oK:Sl w aX r.aj)(tV:Sl w aR r.Things)(rG:Sl w aS r.Held)(yG:Sl w aT r.Notes)(hk:Ok r)(hI:Inv r):Calls Tryz.prog 89 #[.agg #[aX,aR,aS,aT,iV r.ah,iV r.ai],.agg #[iV p.aD,iV p.Slot]] w fun e w'=>e = .returned (.tuple #[ak.val (aI r p).1,iV (aI r p).2])/\Ext w w':=by
 have b1:=hk.hl
 have pf:=jq p
 refine R.eV ?_
 refine R.nb fun b1=>?_
 refine R.nb fun b2=>?_
 refine R.nb fun b3=>?_
 refine R.kc O O (fun w hw=>pb p w)<|U ?_
 refine C (0<bq p) ?_ ?_ <;> intro h1
 .exact R.uv O Tryz.results89 (RV.cell 0 O O cj) (RV.tmp O) (congrArg ak.val (show (⟨0,0,0,0,0⟩:ak)=(aI r p).1 from by (rw [r8 ae];rfl))) (rI (by rw [r8 ae];done))
 rcases ea r.aj (oI r.Held p) with ⟨fR,E8⟩ | ⟨yh,m6,fR,wF,UF⟩
 .
  refine R.c6 O mixed ay<|U ?_
  refine Q.c (q.call OY O O (fun w hw=>Fh _ r.Held p w ((fun _=>Wd.old rG) w hw) (by exact hI.good))) O<|Q.c (q.call ES O O (fun w hw=>cv (congrArg (Value.int .i64) fR) (g9 _ r.aj (oI r.Held p) w ((fun _=>Wd.old oK) w hw)))) O<|U ?_
  exact R.uv O Tryz.results89 (RV.cell 0 O O cj) (RV.tmp O) (congrArg ak.val (show (⟨0,0,0,0,0⟩:ak)=(aI r p).1 from by (rw [sX ae fR];rfl))) (rI (by rw [sX ae fR];done))
 refine R.c6 O mixed ay<|U ?_
 refine Q.c (q.call OY O O (fun w hw=>Fh _ r.Held p w ((fun _=>Wd.old rG) w hw) (by exact hI.good))) O<|Q.c (q.call ES O O (fun w hw=>cv (congrArg (Value.int .i64) fR) (g9 _ r.aj (oI r.Held p) w ((fun _=>Wd.old oK) w hw)))) O<|U ?_
 refine R.q (q.idx (i:=yh) (fun _=>Wd.old oK) O O gP O (List.getElem?_eq_getElem m6)) O ?_
 refine R.q (q.Nl (ds:=uo (r.aj[yh])) (fun _=>Wd.old oK) (List.getElem?_eq_getElem m6) O cj O) O ?_
 refine U ?_
 exact R.uv O Tryz.results89 (RV.cell 0 O O cj) (RV.tmp O) (congrArg ak.val (show (r.aj[yh])=(aI r p).1 from by (rw [vC ae fR (List.getElem?_eq_getElem m6)];done))) (rI (by rw [vC ae fR (List.getElem?_eq_getElem m6)];done))
theorem tG (aX aR aS aT:Value)(r:aB)(p:Place)(w:World)(oK:Sl w aX r.aj)(tV:Sl w aR r.Things)(rG:Sl w aS r.Held)(yG:Sl w aT r.Notes)(hk:Ok r)(hI:Inv r):Calls Tryz.prog 86 #[.agg #[aX,aR,aS,aT,iV r.ah,iV r.ai],.agg #[iV p.aD,iV p.Slot]] w fun e w'=>e = .returned (iV (ft r p))/\Ext w w':=by
 have b1:=hk.hl
 have pf:=jq p
 refine R.eV ?_
 refine R.nb fun b1=>?_
 refine R.nb fun b2=>?_
 refine R.kc O O (fun w hw=>pb p w)<|U ?_
 refine C (0<bq p) ?_ ?_ <;> intro h1
 .
  refine R.rt ?_
  (unfold ft;(rw [if_neg ae];done))
 refine R.kc O O (fun w hw=>Fh _ r.Held p w ((fun _=>Wd.old rG) w hw) (by exact hI.good))<|C (oI r.Held p=0) ?_ ?_ <;> intro h2
 .
  refine R.rt ?_
  (unfold ft;(rw [if_pos ae,if_pos af];done))
 refine R.rt ?_
 (unfold ft;(rw [if_pos ae,if_neg af];done))
theorem wA (aX aR aS aT:Value)(r:aB)(p:Place)(kind:Int)(rights:Int)(w:World)(oK:Sl w aX r.aj)(tV:Sl w aR r.Things)(rG:Sl w aS r.Held)(yG:Sl w aT r.Notes)(hk:Ok r)(hI:Inv r)(hr:0<=rights/\rights<=7):Calls Tryz.prog 94 #[.agg #[aX,aR,aS,aT,iV r.ah,iV r.ai],.agg #[iV p.aD,iV p.Slot],iV kind,iV rights] w fun e w'=>e = .returned (.tuple #[ak.val (bO r p kind rights).1,iV (bO r p kind rights).2.1,iV (bO r p kind rights).2.2])/\Ext w w':=by
 have bw:=hk.wl;have bt:=hk.tl;have bh:=hk.hl;have bn:=hk.nl;have yl:=hk.w0;have ym:=hk.w1;have yn:=hk.t0;have yo:=hk.t1
 have gn:=ef r p
 refine R.eV ?_
 refine R.nb fun b1=>?_
 refine R.nb fun b2=>?_
 refine R.nb fun b3=>?_
 refine R.kc O O (fun w hw=>oF _ _ _ _ r p w ((fun _=>Wd.old oK) w hw) ((fun _=>Wd.old tV) w hw) ((fun _=>Wd.old rG) w hw) ((fun _=>Wd.old yG) w hw) af af)<|U ?_
 refine R.nb fun b4=>?_
 refine C (0<(aI r p).2) ?_ ?_ <;> intro h1
 .exact R.QY O Tryz.results94 (RV.cell 1 O O cj) (RV.tmp O) (RV.tmp O) (congrArg ak.val (show (⟨0,0,0,0,0⟩:ak)=(bO r p kind rights).1 from by (rw [oa ae];rfl))) (rI (by rw [oa ae];done)) (rI (by rw [oa ae];done))
 have gh1:=hk.get (r:=r) (p:=p) ae
 refine U ?_
 refine R.loop (fun k:Nat=>[(2,iV kind),(3,iV rights),(4,pV b1),(8,pV b3),(11,pV b4),(13,iV (k:Int))]) (fun k:Nat=>[ag.box b4 [iV (aI r p).1.ID,iV (aI r p).1.aA,iV (aI r p).1.Rights,iV (aI r p).1.aM,iV (aI r p).1.From] 126,ag.box b3 aar 126,ag.box b1 [aX,aR,aS,aT,iV r.ah,iV r.ai] 48]) (fun k:Nat=>[]) (fun k:Nat=>k<=r.Things.length /\ ∀ (j:Nat) y,j<k->r.Things[j]? = some y->(y.ID==(aI r p).1.aA)=false) (fun k:Nat=>r.Things.length-k) 0 O (by exact ⟨ae,fun j x hj=>absurd hj (Nat.not_lt_zero _)⟩) (sF O) (dX [0,1,3] [] O) ?_
 rintro k ⟨hk1,HA⟩
 refine U ?_
 refine C (k<r.Things.length) ?_ ?_ <;> intro h2
 .
  obtain ⟨x1,hx1⟩:=gE r.Things k
  refine C (x1.ID=(aI r p).1.aA) ?_ ?_ <;> intro h3
  .
   refine R.c6 O mixed ay<|U ?_
   refine C (x1.Kind=kind) ?_ ?_ <;> intro h4
   .
    rcases Bool.eq_false_or_eq_true (iI (aI r p).1.Rights rights) with h5|h5
    .
     refine R.kc O O (fun w hw=>cv (congrArg Value.bool h5) (qQ (aI r p).1.Rights rights w ae ae))<|U ?_
     exact R.QY O Tryz.results94 (RV.cell 1 O O cj) (RV.tmp O) (RV.tmp O) (congrArg ak.val (show (aI r p).1=(bO r p kind rights).1 from by (rw [qu ae hx1 (beq_iff_eq.2 ae) HA ae af];done))) (rI (by rw [qu ae hx1 (beq_iff_eq.2 ae) HA ae af];done)) (rI (by rw [qu ae hx1 (beq_iff_eq.2 ae) HA ae af];done))
    refine R.kc O O (fun w hw=>cv (congrArg Value.bool h5) (qQ (aI r p).1.Rights rights w ae ae))<|U ?_
    exact R.QY O Tryz.results94 (RV.cell 1 O O cj) (RV.tmp O) (RV.tmp O) (congrArg ak.val (show (⟨0,0,0,0,0⟩:ak)=(bO r p kind rights).1 from by (rw [kD ae hx1 (beq_iff_eq.2 ae) HA ae af];rfl))) (rI (by rw [kD ae hx1 (beq_iff_eq.2 ae) HA ae af];done)) (rI (by rw [kD ae hx1 (beq_iff_eq.2 ae) HA ae af];done))
   exact R.QY O Tryz.results94 (RV.cell 1 O O cj) (RV.tmp O) (RV.tmp O) (congrArg ak.val (show (⟨0,0,0,0,0⟩:ak)=(bO r p kind rights).1 from by (rw [lV ae hx1 (beq_iff_eq.2 ae) HA ae];rfl))) (rI (by rw [lV ae hx1 (beq_iff_eq.2 ae) HA ae];done)) (rI (by rw [lV ae hx1 (beq_iff_eq.2 ae) HA ae];done))
  refine R.c6 O mixed ay<|U ?_
  refine R.back (k+1) O (by exact ⟨ae,kV (p:=fun y=>y.ID==(aI r p).1.aA) HA hx1 (beq_eq_false_iff_ne.2 ae)⟩) ae (sF O) (dX [0,1,2] [] O)
 exact R.QY O Tryz.results94 (RV.cell 1 O O cj) (RV.tmp O) (RV.tmp O) (congrArg ak.val (show (⟨0,0,0,0,0⟩:ak)=(bO r p kind rights).1 from by (rw [lU ae (fun x hx=>by obtain ⟨j,hj⟩:=List.mem_iff_getElem?.1 hx;exact HA j x (by have:=(List.getElem?_eq_some_iff.1 hj).1;omega) hj)];rfl))) (rI (by rw [lU ae (fun x hx=>by obtain ⟨j,hj⟩:=List.mem_iff_getElem?.1 hx;exact HA j x (by have:=(List.getElem?_eq_some_iff.1 hj).1;omega) hj)];done)) (rI (by rw [lU ae (fun x hx=>by obtain ⟨j,hj⟩:=List.mem_iff_getElem?.1 hx;exact HA j x (by have:=(List.getElem?_eq_some_iff.1 hj).1;omega) hj)];done))
theorem MJ (aX aR aS aT:Value)(r:aB)(p:Place)(w:World)(oK:Sl w aX r.aj)(tV:Sl w aR r.Things)(rG:Sl w aS r.Held)(yG:Sl w aT r.Notes)(hk:Ok r)(hI:Inv r):Calls Tryz.prog 116 #[.agg #[aX,aR,aS,aT,iV r.ah,iV r.ai],.agg #[iV p.aD,iV p.Slot]] w fun e w'=>e = .returned (.tuple #[.string (iz r p).1,iV (iz r p).2])/\Ext w w':=by
 have bw:=hk.wl;have bt:=hk.tl;have bh:=hk.hl;have bn:=hk.nl;have yl:=hk.w0;have ym:=hk.w1;have yn:=hk.t0;have yo:=hk.t1
 have mn0:=gu r p 1 1
 refine R.eV ?_
 refine R.nb fun b1=>?_
 refine R.nb fun b2=>?_
 refine R.kc O O (fun w hw=>wA _ _ _ _ r p 1 1 w ((fun _=>Wd.old oK) w hw) ((fun _=>Wd.old tV) w hw) ((fun _=>Wd.old rG) w hw) ((fun _=>Wd.old yG) w hw) af af ae)<|U ?_
 refine R.nb fun b3=>?_
 refine C (0<(bO r p 1 1).2.2) ?_ ?_ <;> intro h1
 .exact R.Fu O Tryz.results116 O O (rS (by (unfold iz;(repeat' split) <;> first|rfl|(exfalso;omega)|(simp_all;done)))) (rI (by (unfold iz;(repeat' split) <;> first|rfl|(exfalso;omega)|(simp_all;done))))
 have mn:=gu r p 1 1;have mq:(bO r p 1 1).2.2=0:=ae
 obtain ⟨m1,m2,m3,i,ix,ik,ih,ii,id,ib⟩:=jV mq;have iB:=(List.getElem?_eq_some_iff.1 ih).1
 refine U ?_
 obtain ⟨x1,hx1⟩:=gE r.Things ((bO r p 1 1).2.1.toNat)
 refine R.q (q.idx (i:=(bO r p 1 1).2.1.toNat) (fun _=>Wd.old tV) O O kI ae hx1) O<|U ?_
 exact R.Fu O Tryz.results116 O O (rS (by (unfold iz;(repeat' split) <;> first|rfl|(exfalso;omega)|(simp_all;done)))) (rI (by (unfold iz;(repeat' split) <;> rfl)))
theorem qa (aX aR aS aT:Value)(r:aB)(w:World)(own:List Nat)(H:HN w own [] [ag.ls aX r.aj,ag.ls aR r.Things,ag.ls aS r.Held,ag.ls aT r.Notes])(hk:Ok r):RC Tryz.prog 91 #[.agg #[aX,aR,aS,aT,iV r.ah,iV r.ai]] H (fun z:Value×Value×Value×Value => .agg #[z.1,z.2.1,z.2.2.1,z.2.2.2,iV r.ah,iV r.ai]) (fun z=>[ag.row 126 z.1 r.aj,ag.row 103 z.2.1 r.Things,ag.row 124 z.2.2.1 r.Held,ag.row 91 z.2.2.2 r.Notes]) (fun _=>[]):=by
 have bT:=H.aL 0 rfl
 have bH:=H.aL 1 rfl
 have cr:=H.aL 2 rfl
 have bU:=H.aL 3 rfl
 have bw:=hk.wl;have bt:=hk.tl;have bh:=hk.hl;have bn:=hk.nl;have yl:=hk.w0;have ym:=hk.w1;have yn:=hk.t0;have yo:=hk.t1
 refine R.eN H ?_
 refine R.nb fun b1=>?_
 refine R.nb fun b2=>?_
 refine R.s O (s.app0 O O (vu 0 O) o8 ae ae O) fun v1=>U ?_
 refine R.s O (s.app0 O O (vu 1 O) qJ ae ae O) fun v2=>U ?_
 refine R.s O (s.app0 O O (vu 2 O) o9 ae ae O) fun v3=>U ?_
 refine R.s O (s.app0 O O (vu 3 O) eL ae ae O) fun v4=>U ?_
 exact R.x1 (v1,v2,v3,v4) [3,2,1,0,6] []
theorem sO (aX aR aS aT:Value)(r:aB)(w0:ak)(w:World)(own:List Nat)(H:HN w own [] [ag.ls aX r.aj,ag.ls aR r.Things,ag.ls aS r.Held,ag.ls aT r.Notes])(hk:Ok r):RS Tryz.prog 87 #[.agg #[aX,aR,aS,aT,iV r.ah,iV r.ai],.agg #[iV w0.ID,iV w0.aA,iV w0.Rights,iV w0.aM,iV w0.From]] H (iA r w0) (fun s (z:Value×Value×Value×Value) => .agg #[z.1,z.2.1,z.2.2.1,z.2.2.2,iV s.ah,iV s.ai]) (fun s z=>[ag.row 126 z.1 s.aj,ag.row 103 z.2.1 s.Things,ag.row 124 z.2.2.1 s.Held,ag.row 91 z.2.2.2 s.Notes]) (fun _ _=>[]):=by
 have bT:=H.aL 0 rfl
 have bH:=H.aL 1 rfl
 have cr:=H.aL 2 rfl
 have bU:=H.aL 3 rfl
 have bw:=hk.wl;have bt:=hk.tl;have bh:=hk.hl;have bn:=hk.nl;have yl:=hk.w0;have ym:=hk.w1;have yn:=hk.t0;have yo:=hk.t1
 refine R.eN H ?_
 refine R.nb fun b1=>?_
 refine R.nb fun b2=>?_
 refine R.nb fun b3=>?_
 refine R.s O (s.aH bm bm _ _ _ O O O GN O O (fun w own hw H=>qa aX aR aS aT r w own H af) O) ?_
 rintro ⟨z1,z2,z3,z4⟩
 dsimp only
 refine U ?_
 refine R.s O (s.bs (l:=([w0]:List ak)) gP eG O O O O O O O) fun b4=>?_
 refine R.s O (s.app 1 _ O O O (cI 0 O) o8 aG aG (fun _=>rfl) O) fun v1=>U ?_
 have hz:iA r w0=(⟨r.aj++([w0]),r.Things,r.Held,r.Notes,r.ah+1,r.ai⟩:aB):=by (rfl)
 rw [hz]
 exact R.x1 (v1,z2,z3,z4) [1,2,3,4,8] []
theorem MK (w:World)(own:List Nat)(H:HN w own [] []):RC Tryz.prog 25 #[] H (fun z:Value×Value×Value×Value => .agg #[z.1,z.2.1,z.2.2.1,z.2.2.2,iV (⟨[],[],[],[],1,1⟩:aB).ah,iV (⟨[],[],[],[],1,1⟩:aB).ai]) (fun _=>[]) (fun z=>[ag.ls z.1 ((⟨[],[],[],[],1,1⟩:aB).aj:List ak),ag.ls z.2.1 ((⟨[],[],[],[],1,1⟩:aB).Things:List aA),ag.ls z.2.2.1 ((⟨[],[],[],[],1,1⟩:aB).Held:List Held),ag.ls z.2.2.2 ((⟨[],[],[],[],1,1⟩:aB).Notes:List Note)]):=by
 refine R.eN H ?_
 refine R.nb fun b1=>?_
 exact R.jB ak aA Held Note<|R.x1 (nS,nS,nS,nS) [1] [3,2,1,0]
theorem DL (aX aR aS aT:Value)(r:aB)(p:Place)(kind:Int)(w:World)(own:List Nat)(H:HN w own [] [ag.ls aX r.aj,ag.ls aR r.Things,ag.ls aS r.Held,ag.ls aT r.Notes])(hk:Ok r)(hI:Inv r):RS Tryz.prog 33 #[.agg #[aX,aR,aS,aT,iV r.ah,iV r.ai],.agg #[iV p.aD,iV p.Slot],iV kind] H (cG r p kind) (fun s (z:Value×Value×Value×Value) => .tuple #[.agg #[z.1,z.2.1,z.2.2.1,z.2.2.2,iV s.1.ah,iV s.1.ai],iV s.2]) (fun _ _=>[]) (fun s z=>[ag.ls z.1 s.1.aj,ag.ls z.2.1 s.1.Things,ag.ls z.2.2.1 s.1.Held,ag.ls z.2.2.2 s.1.Notes]):=by
 have bT:=H.aL 0 rfl
 have bH:=H.aL 1 rfl
 have cr:=H.aL 2 rfl
 have bU:=H.aL 3 rfl
 have bw:=hk.wl;have bt:=hk.tl;have bh:=hk.hl;have bn:=hk.nl;have yl:=hk.w0;have ym:=hk.w1;have yn:=hk.t0;have yo:=hk.t1
 refine R.eN H ?_
 refine R.nb fun b1=>?_
 refine R.nb fun b2=>?_
 refine R.nb fun b3=>?_
 refine C (kind=1) ?_ ?_ <;> intro h1
 .
  refine R.kc O O (fun w hw=>tG _ _ _ _ r p w (hw.cy 0 O) (hw.cy 1 O) (hw.cy 2 O) (hw.cy 3 O) af af)<|U ?_
  refine C (0<ft r p) ?_ ?_ <;> intro h2
  .
   refine R.jB ak aA Held Note ?_
   rw [show cG r p kind=_ from by unfold cG;exact mR]
   exact R.x2 (nS,nS,nS,nS) [3] [3,2,1,0]
  have fq:ft r p=0:=by have:=fX r p;omega
  have fz:=bP (jr fq).1
  refine U ?_
  refine C (r.Things.length=10) ?_ ?_ <;> intro h3
  .
   refine R.jB ak aA Held Note ?_
   rw [show cG r p kind=_ from by unfold cG;exact mR]
   exact R.x2 (nS,nS,nS,nS) [3] [3,2,1,0]
  refine C (999<r.ai) ?_ ?_ <;> intro h4
  .
   refine R.jB ak aA Held Note ?_
   rw [show cG r p kind=_ from by unfold cG;exact mR]
   exact R.x2 (nS,nS,nS,nS) [3] [3,2,1,0]
  refine C (999<r.ah) ?_ ?_ <;> intro h5
  .
   refine R.jB ak aA Held Note ?_
   rw [show cG r p kind=_ from by unfold cG;exact mR]
   exact R.x2 (nS,nS,nS,nS) [3] [3,2,1,0]
  refine R.nb fun b4=>?_
  refine R.s O (s.aH bV bm _ _ _ O O O GM O O (fun w own hw H=>sO aX aR aS aT r (⟨r.ah,r.ai,7,0,0⟩:ak) w own H af) O) ?_
  rintro ⟨z1,z2,z3,z4⟩
  dsimp only
  refine U ?_
  refine R.s O (s.bs (l:=([(⟨(iA r (⟨r.ah,r.ai,7,0,0⟩:ak)).ai,kind,⟨#[]⟩⟩:aA)]:List aA)) kI jw O O O O O O O) fun b5=>?_
  refine R.s O (s.app 2 _ O O O (cI 0 O) qJ (by simp [iA];omega) (by simp [iA];omega) (fun _=>rfl) O) fun v1=>U ?_
  have a1_:(iA r (⟨r.ah,r.ai,7,0,0⟩:ak)).ai=r.ai:=rfl
  refine U ?_
  refine R.s O (s.pre (fun _ hw=>hw.aO 3 _ O O) (s.aH bZ [0] _ _ _ O O O AK O O (fun w own hw H=>oE z3 (iA r (⟨r.ah,r.ai,7,0,0⟩:ak)).Held p r.ah w own H (by dsimp only [iA];omega) (by exact hI.good)) O)) fun z5=>U ?_
  refine R.mp (fun _ hw=>hw.aO 2 _ O O)<|R.mp (fun _ hw=>hw.aO 2 _ O O)<|R.mp (fun _ hw=>hw.aO 0 _ O O)<|R.mp (fun _ hw=>hw.aO 1 _ O O) ?_
  have hz:cG r p kind=((⟨(iA r (⟨r.ah,r.ai,7,0,0⟩:ak)).aj,(iA r (⟨r.ah,r.ai,7,0,0⟩:ak)).Things++([(⟨(iA r (⟨r.ah,r.ai,7,0,0⟩:ak)).ai,kind,⟨#[]⟩⟩:aA)]),fW (iA r (⟨r.ah,r.ai,7,0,0⟩:ak)).Held p r.ah,(iA r (⟨r.ah,r.ai,7,0,0⟩:ak)).Notes,(iA r (⟨r.ah,r.ai,7,0,0⟩:ak)).ah,(iA r (⟨r.ah,r.ai,7,0,0⟩:ak)).ai+1⟩:aB),0):=by (unfold cG lu;rw [if_pos ae,if_pos fq,if_neg ae];dsimp only;rw [if_pos ae];(try rfl))
  rw [hz]
  exact R.x2 (z1,v1,z5,z4) [5] [3,2,1,0]
 refine C (kind=2) ?_ ?_ <;> intro h6
 .
  refine R.kc O O (fun w hw=>tG _ _ _ _ r p w (hw.cy 0 O) (hw.cy 1 O) (hw.cy 2 O) (hw.cy 3 O) af af)<|U ?_
  refine C (0<ft r p) ?_ ?_ <;> intro h7
  .
   refine R.jB ak aA Held Note ?_
   rw [show cG r p kind=_ from by unfold cG;exact mR]
   exact R.x2 (nS,nS,nS,nS) [3] [3,2,1,0]
  have fq:ft r p=0:=by have:=fX r p;omega
  have fz:=bP (jr fq).1
  refine U ?_
  refine C (r.Things.length=10) ?_ ?_ <;> intro h8
  .
   refine R.jB ak aA Held Note ?_
   rw [show cG r p kind=_ from by unfold cG;exact mR]
   exact R.x2 (nS,nS,nS,nS) [3] [3,2,1,0]
  refine C (999<r.ai) ?_ ?_ <;> intro h9
  .
   refine R.jB ak aA Held Note ?_
   rw [show cG r p kind=_ from by unfold cG;exact mR]
   exact R.x2 (nS,nS,nS,nS) [3] [3,2,1,0]
  refine C (999<r.ah) ?_ ?_ <;> intro h10
  .
   refine R.jB ak aA Held Note ?_
   rw [show cG r p kind=_ from by unfold cG;exact mR]
   exact R.x2 (nS,nS,nS,nS) [3] [3,2,1,0]
  refine R.nb fun b6=>?_
  refine R.s O (s.aH bV bm _ _ _ O O O GM O O (fun w own hw H=>sO aX aR aS aT r (⟨r.ah,r.ai,7,0,0⟩:ak) w own H af) O) ?_
  rintro ⟨z6,z7,z8,z9⟩
  dsimp only
  refine U ?_
  refine R.s O (s.bs (l:=([(⟨(iA r (⟨r.ah,r.ai,7,0,0⟩:ak)).ai,kind,⟨#[]⟩⟩:aA)]:List aA)) kI jw O O O O O O O) fun b7=>?_
  refine R.s O (s.app 2 _ O O O (cI 0 O) qJ (by simp [iA];omega) (by simp [iA];omega) (fun _=>rfl) O) fun v2=>U ?_
  have a1_:(iA r (⟨r.ah,r.ai,7,0,0⟩:ak)).ai=r.ai:=rfl
  refine U ?_
  refine R.s O (s.pre (fun _ hw=>hw.aO 3 _ O O) (s.aH bZ [0] _ _ _ O O O AK O O (fun w own hw H=>oE z8 (iA r (⟨r.ah,r.ai,7,0,0⟩:ak)).Held p r.ah w own H (by dsimp only [iA];omega) (by exact hI.good)) O)) fun kM=>U ?_
  refine R.mp (fun _ hw=>hw.aO 2 _ O O)<|R.mp (fun _ hw=>hw.aO 2 _ O O)<|R.mp (fun _ hw=>hw.aO 0 _ O O)<|R.mp (fun _ hw=>hw.aO 1 _ O O) ?_
  have hz:cG r p kind=((⟨(iA r (⟨r.ah,r.ai,7,0,0⟩:ak)).aj,(iA r (⟨r.ah,r.ai,7,0,0⟩:ak)).Things++([(⟨(iA r (⟨r.ah,r.ai,7,0,0⟩:ak)).ai,kind,⟨#[]⟩⟩:aA)]),fW (iA r (⟨r.ah,r.ai,7,0,0⟩:ak)).Held p r.ah,(iA r (⟨r.ah,r.ai,7,0,0⟩:ak)).Notes,(iA r (⟨r.ah,r.ai,7,0,0⟩:ak)).ah,(iA r (⟨r.ah,r.ai,7,0,0⟩:ak)).ai+1⟩:aB),0):=by (unfold cG lu;rw [if_pos ae,if_pos fq,if_neg ae];dsimp only;rw [if_pos ae];(try rfl))
  rw [hz]
  exact R.x2 (z6,v2,kM,z9) [5] [3,2,1,0]
 refine R.jB ak aA Held Note ?_
 rw [show cG r p kind=_ from by unfold cG;exact mR]
 exact R.x2 (nS,nS,nS,nS) [3] [3,2,1,0]
theorem ML (aX aR aS aT:Value)(r:aB)(p:Place)(t:Place)(rights:Int)(cU:Int)(w:World)(own:List Nat)(H:HN w own [] [ag.ls aX r.aj,ag.ls aR r.Things,ag.ls aS r.Held,ag.ls aT r.Notes])(hk:Ok r)(hI:Inv r):RS Tryz.prog 34 #[.agg #[aX,aR,aS,aT,iV r.ah,iV r.ai],.agg #[iV p.aD,iV p.Slot],.agg #[iV t.aD,iV t.Slot],iV rights,iV cU] H (dt r p t rights cU) (fun s (z:Value×Value×Value×Value) => .tuple #[.agg #[z.1,z.2.1,z.2.2.1,z.2.2.2,iV s.1.ah,iV s.1.ai],iV s.2]) (fun _ _=>[]) (fun s z=>[ag.ls z.1 s.1.aj,ag.ls z.2.1 s.1.Things,ag.ls z.2.2.1 s.1.Held,ag.ls z.2.2.2 s.1.Notes]):=by
 have bT:=H.aL 0 rfl
 have bH:=H.aL 1 rfl
 have cr:=H.aL 2 rfl
 have bU:=H.aL 3 rfl
 have bw:=hk.wl;have bt:=hk.tl;have bh:=hk.hl;have bn:=hk.nl;have yl:=hk.w0;have ym:=hk.w1;have yn:=hk.t0;have yo:=hk.t1
 have gn:=ef r p
 have dc:=gq (aI r p).1 r.ah rights cU
 refine R.eN H ?_
 refine R.nb fun b1=>?_
 refine R.nb fun b2=>?_
 refine R.nb fun b3=>?_
 refine R.nb fun b4=>?_
 refine R.kc O O (fun w hw=>oF _ _ _ _ r p w (hw.cy 0 O) (hw.cy 1 O) (hw.cy 2 O) (hw.cy 3 O) af af)<|U ?_
 refine R.nb fun b5=>?_
 refine C (0<(aI r p).2) ?_ ?_ <;> intro h1
 .
  refine R.jB ak aA Held Note ?_
  rw [show dt r p t rights cU=_ from by (unfold dt;rewrite [if_neg ae]) <;> rfl]
  exact R.x2 (nS,nS,nS,nS) [5] [3,2,1,0]
 have gz:(aI r p).2=0:=ae
 have gr:=hk.get gz
 refine U ?_
 refine R.kc O O (fun w hw=>tG _ _ _ _ r t w (hw.cy 0 O) (hw.cy 1 O) (hw.cy 2 O) (hw.cy 3 O) af af)<|U ?_
 refine C (0<ft r t) ?_ ?_ <;> intro h2
 .
  refine R.jB ak aA Held Note ?_
  rw [show dt r p t rights cU=_ from by (unfold dt;rewrite [if_pos gz,if_neg (by have:=fX r t;omega)]) <;> rfl]
  exact R.x2 (nS,nS,nS,nS) [5] [3,2,1,0]
 have fq:ft r t=0:=by have:=fX r t;omega
 have fz:=bP (jr fq).1
 refine U ?_
 refine C (p.aD=t.aD) ?_ ?_ <;> intro h3
 .
  refine C (999<r.ah) ?_ ?_ <;> intro h4
  .
   refine R.jB ak aA Held Note ?_
   rw [show dt r p t rights cU=_ from by (unfold dt;rewrite [if_pos gz,if_pos fq,if_pos (by exact .inl af),if_pos ae]) <;> rfl]
   exact R.x2 (nS,nS,nS,nS) [5] [3,2,1,0]
  refine R.kc O O (fun w hw=>oy (aI r p).1 r.ah rights cU w ae)<|U ?_
  refine R.nb fun b6=>?_
  refine C (0<(derived (aI r p).1 r.ah rights cU).2) ?_ ?_ <;> intro h5
  .
   refine R.jB ak aA Held Note ?_
   rw [show dt r p t rights cU=_ from by (unfold dt;rewrite [if_pos gz,if_pos fq,if_pos (by exact .inl af),if_neg ae,if_neg ae]) <;> rfl]
   exact R.x2 (nS,nS,nS,nS) [6] [3,2,1,0]
  have dz:(derived (aI r p).1 r.ah rights cU).2=0:=by have:=gq (aI r p).1 r.ah rights cU;omega
  have di:=(m9 dz).2.2.2.2.2.1
  refine U ?_
  refine R.s O (s.aH du bm _ _ _ O O O GM O O (fun w own hw H=>sO aX aR aS aT r (derived (aI r p).1 r.ah rights cU).1 w own H af) O) ?_
  rintro ⟨z1,z2,z3,z4⟩
  dsimp only
  refine U ?_
  refine R.s O (s.pre (fun _ hw=>hw.aO 2 _ O O) (s.aH jH [0] _ _ _ O O O AK O O (fun w own hw H=>oE z3 (iA r (derived (aI r p).1 r.ah rights cU).1).Held t (derived (aI r p).1 r.ah rights cU).1.ID w own H (by dsimp only [iA];omega) (by exact hI.good)) O)) fun z5=>U ?_
  refine R.mp (fun _ hw=>hw.aO 1 _ O O)<|R.mp (fun _ hw=>hw.aO 1 _ O O)<|R.mp (fun _ hw=>hw.aO 0 _ O O)<|R.mp (fun _ hw=>hw.aO 0 _ O O) ?_
  rw [show dt r p t rights cU=_ from by (unfold dt;rewrite [if_pos gz,if_pos fq,if_pos (by exact .inl af),if_neg ae,if_pos dz];unfold lu;rewrite [if_pos ae]) <;> rfl]
  exact R.x2 (z1,z2,z5,z4) [6] [3,2,1,0]
 refine C ((aI r p).1.Rights<4) ?_ ?_ <;> intro h6
 .
  refine R.jB ak aA Held Note ?_
  rw [show dt r p t rights cU=_ from by (unfold dt;rewrite [if_pos gz,if_pos fq,if_neg (by rintro (hh|hh) <;> first|contradiction|(rewrite [K1 gr ae] at hh;cases hh))]) <;> rfl]
  exact R.x2 (nS,nS,nS,nS) [5] [3,2,1,0]
 refine C (999<r.ah) ?_ ?_ <;> intro h7
 .
  refine R.jB ak aA Held Note ?_
  rw [show dt r p t rights cU=_ from by (unfold dt;rewrite [if_pos gz,if_pos fq,if_pos (by exact .inr (oC gr ae)),if_pos ae]) <;> rfl]
  exact R.x2 (nS,nS,nS,nS) [5] [3,2,1,0]
 refine R.kc O O (fun w hw=>oy (aI r p).1 r.ah rights cU w ae)<|U ?_
 refine R.nb fun b7=>?_
 refine C (0<(derived (aI r p).1 r.ah rights cU).2) ?_ ?_ <;> intro h8
 .
  refine R.jB ak aA Held Note ?_
  rw [show dt r p t rights cU=_ from by (unfold dt;rewrite [if_pos gz,if_pos fq,if_pos (by exact .inr (oC gr ae)),if_neg ae,if_neg ae]) <;> rfl]
  exact R.x2 (nS,nS,nS,nS) [6] [3,2,1,0]
 have dz:(derived (aI r p).1 r.ah rights cU).2=0:=by have:=gq (aI r p).1 r.ah rights cU;omega
 have di:=(m9 dz).2.2.2.2.2.1
 refine U ?_
 refine R.s O (s.aH du bm _ _ _ O O O GM O O (fun w own hw H=>sO aX aR aS aT r (derived (aI r p).1 r.ah rights cU).1 w own H af) O) ?_
 rintro ⟨z6,z7,z8,z9⟩
 dsimp only
 refine U ?_
 refine R.s O (s.pre (fun _ hw=>hw.aO 2 _ O O) (s.aH jH [0] _ _ _ O O O AK O O (fun w own hw H=>oE z8 (iA r (derived (aI r p).1 r.ah rights cU).1).Held t (derived (aI r p).1 r.ah rights cU).1.ID w own H (by dsimp only [iA];omega) (by exact hI.good)) O)) fun kM=>U ?_
 refine R.mp (fun _ hw=>hw.aO 1 _ O O)<|R.mp (fun _ hw=>hw.aO 1 _ O O)<|R.mp (fun _ hw=>hw.aO 0 _ O O)<|R.mp (fun _ hw=>hw.aO 0 _ O O) ?_
 rw [show dt r p t rights cU=_ from by (unfold dt;rewrite [if_pos gz,if_pos fq,if_pos (by exact .inr (oC gr ae)),if_neg ae,if_pos dz];unfold lu;rewrite [if_pos ae]) <;> rfl]
 exact R.x2 (z6,z7,kM,z9) [6] [3,2,1,0]
theorem MN (aX aR aS aT:Value)(r:aB)(p:Place)(slot:Int)(w:World)(own:List Nat)(H:HN w own [] [ag.ls aX r.aj,ag.ls aR r.Things,ag.ls aS r.Held,ag.ls aT r.Notes])(hk:Ok r)(hI:Inv r):RS Tryz.prog 35 #[.agg #[aX,aR,aS,aT,iV r.ah,iV r.ai],.agg #[iV p.aD,iV p.Slot],iV slot] H (gC r p slot) (fun s (z:Value×Value×Value×Value) => .tuple #[.agg #[z.1,z.2.1,z.2.2.1,z.2.2.2,iV s.1.ah,iV s.1.ai],iV s.2]) (fun _ _=>[]) (fun s z=>[ag.ls z.1 s.1.aj,ag.ls z.2.1 s.1.Things,ag.ls z.2.2.1 s.1.Held,ag.ls z.2.2.2 s.1.Notes]):=by
 have bT:=H.aL 0 rfl
 have bH:=H.aL 1 rfl
 have cr:=H.aL 2 rfl
 have bU:=H.aL 3 rfl
 have bw:=hk.wl;have bt:=hk.tl;have bh:=hk.hl;have bn:=hk.nl;have yl:=hk.w0;have ym:=hk.w1;have yn:=hk.t0;have yo:=hk.t1
 have gn:=ef r p
 have bp:=nV r.Held p 0
 refine R.eN H ?_
 refine R.nb fun b1=>?_
 refine R.nb fun b2=>?_
 refine R.nb fun b3=>?_
 refine R.kc O O (fun w hw=>oF _ _ _ _ r p w (hw.cy 0 O) (hw.cy 1 O) (hw.cy 2 O) (hw.cy 3 O) af af)<|U ?_
 refine R.nb fun b4=>?_
 refine C (0<(aI r p).2) ?_ ?_ <;> intro h1
 .
  refine R.jB ak aA Held Note ?_
  rw [show gC r p slot=_ from by (unfold gC;rewrite [if_neg ae]) <;> rfl]
  exact R.x2 (nS,nS,nS,nS) [4] [3,2,1,0]
 have gz:(aI r p).2=0:=ae
 have gr:=hk.get gz;have gp:=mB (id:=0) hI.good (pJ gz).1
 refine U ?_
 refine R.nb fun b5=>?_
 refine R.kc O O (fun w hw=>tG _ _ _ _ r (⟨p.aD,slot⟩:Place) w (hw.cy 0 O) (hw.cy 1 O) (hw.cy 2 O) (hw.cy 3 O) af af)<|U ?_
 refine C (0<ft r (⟨p.aD,slot⟩:Place)) ?_ ?_ <;> intro h2
 .
  refine R.jB ak aA Held Note ?_
  rw [show gC r p slot=_ from by (unfold gC;rewrite [if_pos gz,if_neg (by have:=fX r (⟨p.aD,slot⟩:Place);omega)]) <;> rfl]
  exact R.x2 (nS,nS,nS,nS) [5] [3,2,1,0]
 have fq:ft r (⟨p.aD,slot⟩:Place)=0:=by have:=fX r (⟨p.aD,slot⟩:Place);omega
 have fz:=bP (jr fq).1
 refine U ?_
 refine R.s O (s.aH fw bm _ _ _ O O O GN O O (fun w own hw H=>qa aX aR aS aT r w own H af) O) ?_
 rintro ⟨z1,z2,z3,z4⟩
 dsimp only
 refine U ?_
 refine R.cO (fuel:=10) [0,1,3,4,5,6,7,9] O O mixed O<|D.l [0,2,4,5,6] [0,1,3,4,5,6,7,9] bm O<|U ?_
 refine D.k 1 O [0,1,3,4,5,6,7,9] bm (q.ld 8 O O jD O) ?_
 refine D.p 3 O JO j6 (s.pre (fun _ hw=>hw.aO 2 _ O O) (s.aH bZ [0] _ _ _ O O O AK O O (fun w own hw H=>oE z3 r.Held p 0 w own H ae (by exact hI.good)) O)) fun z7=>?_
 refine D.p 7 O JO eO (s.pre (fun _ hw=>hw.aO 0 _ O O) (s.aH bZ [0] _ _ _ O O O AK O O (fun w own hw H=>oE z7 (fW r.Held p 0) (⟨p.aD,slot⟩:Place) (aI r p).1.ID w own H ae af) O)) fun z8=>?_
 refine D.l [8] JO eO O<|U ?_
 refine D.p 9 O JO eO (s.lq 8 _ O O O (fun w hw=>Sl.cL (hw.row 0 O)) (.inr ⟨jD,rfl⟩) (fun w hw=>bD (Sl.one (hw.row 0 O)) cd) O O O) fun _=>?_
 refine D.done<|U ?_
 refine R.mp (fun _ hw=>hw.aO 1 _ O O)<|R.mp (fun _ hw=>hw.aO 1 _ O O)<|R.mp (fun _ hw=>hw.aO 0 _ O O)<|R.mp (fun _ hw=>hw.aO 0 _ O O) ?_
 rw [show gC r p slot=_ from by (unfold gC;rewrite [if_pos gz,if_pos fq]) <;> rfl]
 exact R.x2 (z1,z2,z8,z4) [5] [3,2,1,0]
end
section
open Go Go.RowKit
attribute [local irreducible] Run Rg Rq Qt Qa Stp Dg Do Dm bQ
theorem uV (aX aR aS aT:Value)(r:aB)(w:World)(own:List Nat)(H:HN w own [] [ag.ls aX r.aj,ag.ls aR r.Things,ag.ls aS r.Held,ag.ls aT r.Notes])(hk:Ok r)(hP:Pre r):RS Tryz.prog 85 #[.agg #[aX,aR,aS,aT,iV r.ah,iV r.ai]] H (ez r) (fun s (z:Value×Value×Value×Value) => .agg #[z.1,z.2.1,z.2.2.1,z.2.2.2,iV s.ah,iV s.ai]) (fun _ _=>[]) (fun s z=>[ag.ls z.1 s.aj,ag.ls z.2.1 s.Things,ag.ls z.2.2.1 s.Held,ag.ls z.2.2.2 s.Notes]):=by
 have bT:=H.aL 0 rfl
 have bH:=H.aL 1 rfl
 have cr:=H.aL 2 rfl
 have bU:=H.aL 3 rfl
 refine R.eN H ?_
 refine R.nb fun b1=>?_
 refine R.nb fun b2=>?_
 refine R.loop (fun g_:aB×Value×Value×Value×Value=>[(1,pV b1),(2,pV b2)]) (fun g_=>[ag.box b2 vg 48,ag.box b1 [g_.2.1,g_.2.2.1,g_.2.2.2.1,g_.2.2.2.2,iV g_.1.ah,iV g_.1.ai] 48,ag.held w own]) (fun g_=>[ag.ls g_.2.1 g_.1.aj,ag.ls g_.2.2.1 g_.1.Things,ag.ls g_.2.2.2.1 g_.1.Held,ag.ls g_.2.2.2.2 g_.1.Notes,ag.ls aX r.aj,ag.ls aR r.Things,ag.ls aS r.Held,ag.ls aT r.Notes]) (fun g_=>Ok g_.1/\Pre g_.1/\ez g_.1=ez r) (fun g_=>g_.1.Notes.length) (r,aX,aR,aS,aT) O (by exact ⟨hk,hP,rfl⟩) (sF O) (dX [0,1,2] [0,1,2,3,0,1,2,3] O) ?_
 rintro ⟨m,HI,Nb,Mu,Mv⟩ ⟨hok,hpm,HS⟩
 dsimp only at *
 have o1:=hok.wl;have o2:=hok.tl;have o3:=hok.hl;have o4:=hok.nl;have hmt:=hpm.tree
 refine U ?_
 refine R.q (q.Ea YE O (fun w hw=>l8 (Sl.D9 (hw.cy 0 O)) (l8 O (l8 O D8))) O) O<|R.nb fun b3=>?_
 refine R.s O (s.nM VM O O (fun w hw=>Ie _ m.aj w (hw.cy 0 O) af) O) fun v1=>U ?_
 refine R.row0 (α:=aA) 103<|R.loop (fun g_:Nat×Value×(List aA)=>[(1,pV b1),(2,pV b2),(3,pV b3),(4,v1),(5,iV (g_.1:Int))]) (fun g_=>[ag.row 103 g_.2.1 g_.2.2,ag.row 3 v1 (br m.aj),ag.box b3 [HI,g_.2.1,nS,nS,iV m.ah,iV m.ai] 48,ag.box b2 vg 48,ag.box b1 [HI,Nb,Mu,Mv,iV m.ah,iV m.ai] 48,ag.held w own]) (fun g_=>[ag.ls HI m.aj,ag.ls Nb m.Things,ag.ls Mu m.Held,ag.ls Mv m.Notes,ag.ls aX r.aj,ag.ls aR r.Things,ag.ls aS r.Held,ag.ls aT r.Notes]) (fun g_=>g_.1<=m.Things.length/\g_.2.2=(m.Things.take g_.1).filter (fun t => !!decide (t.ID∈(br m.aj)))) (fun g_=>m.Things.length-g_.1) (0,nS,[]) O (by exact ⟨ae,bA⟩) (sF O) (dX fw a8 O) ?_
 rintro ⟨j,vt,ts⟩ ⟨hj1,HT⟩
 dsimp only at *
 have htl:ts.length<=j:=by rw [HT];exact xy _ _ _
 refine U ?_
 refine C (j<m.Things.length) ?_ ?_ <;> intro h1
 .
  obtain ⟨x1,hx1⟩:=gE m.Things j
  refine U ?_
  rcases Bool.eq_false_or_eq_true (decide (x1.ID∈(br m.aj))) with h2|h2
  .
   refine R.kc O O (fun w hw=>cv (congrArg Value.bool h2) (pq _ (br m.aj) x1.ID w (hw.row 1 O)))<|U ?_
   refine R.cO (fuel:=11) [1,3,4,5] O O mixed O<|D.l [0,2,3,4,5,6] [1,3,4,5] a8 O<|U ?_
   refine D.two (i:=1) (j:=7) O O ?_ ?_
   .
    refine Do.k [1,3,4,5] a8 (q.ld 2 O O me O) ?_
    refine D.p 7 O ve a8 (s.bs (l:=([x1]:List aA)) kI jw O O O O O O O) fun b4=>?_
    refine D.p 8 O ve a8 (s.app 1 _ O O O (cI 0 O) qJ aG aG (fun _=>rfl) O) fun v2=>?_
    refine D.l [9] ve a8 O<|U ?_
    refine D.p 10 O ve a8 (s.lq 3 _ O O O (fun w hw=>Sl.cL (hw.row 1 O)) (.inr ⟨me,rfl⟩) (fun w hw=>bD (Sl.one (hw.row 1 O)) cd) O O O) fun _=>?_
    refine D.done<|U ?_
    refine R.back (j+1,v2,(ts++([x1]))) O (by exact ⟨ae,by rw [oD hx1 (by simpa using ‹decide (_∈br m.aj)=true›),HT]⟩) aJ (sF O) (cw m5 a8 O)
   refine Do.p ve a8 (s.bs (l:=([x1]:List aA)) kI jw O O O O O O O) fun b5=>?_
   refine D.k 1 O ve a8 (q.ld 3 O O me O) ?_
   refine D.p 8 O ve a8 (s.app 1 _ O O O (cI 0 O) qJ aG aG (fun _=>rfl) O) fun v3=>?_
   refine D.l [9] ve a8 O<|U ?_
   refine D.p 10 O ve a8 (s.lq 3 _ O O O (fun w hw=>Sl.cL (hw.row 1 O)) (.inr ⟨me,rfl⟩) (fun w hw=>bD (Sl.one (hw.row 1 O)) cd) O O O) fun _=>?_
   refine D.done<|U ?_
   refine R.back (j+1,v3,(ts++([x1]))) O (by exact ⟨ae,by rw [oD hx1 (by simpa using ‹decide (_∈br m.aj)=true›),HT]⟩) aJ (sF O) (cw m5 a8 O)
  refine R.kc O O (fun w hw=>cv (congrArg Value.bool h2) (pq _ (br m.aj) x1.ID w (hw.row 1 O)))<|U ?_
  refine R.back (j+1,vt,ts) O (by exact ⟨ae,by rw [xx hx1 (by simpa using ‹decide (_∈br m.aj)=false›),HT]⟩) aJ (sF O) (cw fw a8 O)
 refine R.row0 (α:=Held) 124<|R.loop (fun g_:Nat×Value×(List Held)=>[(1,pV b1),(2,pV b2),(3,pV b3),(4,v1),(7,iV (g_.1:Int))]) (fun g_=>[ag.row 124 g_.2.1 g_.2.2,ag.row 103 vt ts,ag.row 3 v1 (br m.aj),ag.box b3 [HI,vt,g_.2.1,nS,iV m.ah,iV m.ai] 48,ag.box b2 vg 48,ag.box b1 [HI,Nb,Mu,Mv,iV m.ah,iV m.ai] 48,ag.held w own]) (fun g_=>[ag.ls HI m.aj,ag.ls Nb m.Things,ag.ls Mu m.Held,ag.ls Mv m.Notes,ag.ls aX r.aj,ag.ls aR r.Things,ag.ls aS r.Held,ag.ls aT r.Notes]) (fun g_=>g_.1<=m.Held.length/\g_.2.2=(m.Held.take g_.1).filter (fun h => !decide (cE m.aj h.ak<0))) (fun g_=>m.Held.length-g_.1) (0,nS,[]) O (by exact ⟨ae,bA⟩) (sF O) (dX du a8 O) ?_
 rintro ⟨i,vh,hs⟩ ⟨hi1,HH⟩
 dsimp only at *
 have hhl:hs.length<=i:=by rw [HH];exact xy _ _ _
 refine U ?_
 refine C (i<m.Held.length) ?_ ?_ <;> intro h3
 .
  obtain ⟨x2,hx2⟩:=gE m.Held i
  rcases ea m.aj x2.ak with ⟨fR,E8⟩ | ⟨yh,m6,fR,wF,UF⟩
  .
   refine R.c6 O mixed ay<|U ?_
   refine Q.c (q.call ES O O (fun w hw=>cv (congrArg (Value.int .i64) fR) (g9 _ m.aj x2.ak w (hw.cy 0 O)))) O<|U ?_
   refine R.back (i+1,vh,hs) O (by exact ⟨ae,by rw [xx hx2 aG,HH]⟩) aJ (sF O) (cw du a8 O)
  refine R.c6 O mixed ay<|U ?_
  refine Q.c (q.call ES O O (fun w hw=>cv (congrArg (Value.int .i64) fR) (g9 _ m.aj x2.ak w (hw.cy 0 O)))) O<|U ?_
  refine R.cO (fuel:=11) [1,2,4,5,6] O O mixed O<|D.l [0,2,3,4,5,6] [1,2,4,5,6] a8 O<|U ?_
  refine D.two (i:=1) (j:=7) O O ?_ ?_
  .
   refine Do.k [1,2,4,5,6] a8 (q.ld 3 O O jD O) ?_
   refine D.p 7 O vf a8 (s.bs (l:=([x2]:List Held)) cK cR O O O O O O O) fun b6=>?_
   refine D.p 8 O vf a8 (s.app 1 _ O O O (cI 0 O) o9 aG aG (fun _=>rfl) O) fun v4=>?_
   refine D.l [9] vf a8 O<|U ?_
   refine D.p 10 O vf a8 (s.lq 4 _ O O O (fun w hw=>Sl.cL (hw.row 1 O)) (.inr ⟨jD,rfl⟩) (fun w hw=>bD (Sl.one (hw.row 1 O)) cd) O O O) fun _=>?_
   refine D.done<|U ?_
   refine R.back (i+1,v4,(hs++([x2]))) O (by exact ⟨ae,by rw [oD hx2 aG,HH]⟩) aJ (sF O) (cw fj a8 O)
  refine Do.p vf a8 (s.bs (l:=([x2]:List Held)) cK cR O O O O O O O) fun b7=>?_
  refine D.k 1 O vf a8 (q.ld 4 O O jD O) ?_
  refine D.p 8 O vf a8 (s.app 1 _ O O O (cI 0 O) o9 aG aG (fun _=>rfl) O) fun v5=>?_
  refine D.l [9] vf a8 O<|U ?_
  refine D.p 10 O vf a8 (s.lq 4 _ O O O (fun w hw=>Sl.cL (hw.row 1 O)) (.inr ⟨jD,rfl⟩) (fun w hw=>bD (Sl.one (hw.row 1 O)) cd) O O O) fun _=>?_
  refine D.done<|U ?_
  refine R.back (i+1,v5,(hs++([x2]))) O (by exact ⟨ae,by rw [oD hx2 aG,HH]⟩) aJ (sF O) (cw fj a8 O)
 refine R.row0 (α:=Note) 91<|R.loop (fun g_:Nat×Nat×Value×(List ak)×Value×(List Note)=>[(1,pV b1),(2,pV b2),(3,pV b3),(4,v1),(8,iV (g_.2.1:Int)),(9,iV (g_.1:Int))]) (fun g_=>[ag.row 91 g_.2.2.2.2.1 g_.2.2.2.2.2,ag.row 124 vh hs,ag.row 103 vt ts,ag.row 3 v1 (br m.aj),ag.box b3 [g_.2.2.1,vt,vh,g_.2.2.2.2.1,iV m.ah,iV m.ai] 48,ag.box b2 vg 48,ag.box b1 [HI,Nb,Mu,Mv,iV m.ah,iV m.ai] 48,ag.held w own]) (fun g_=>[ag.ls g_.2.2.1 g_.2.2.2.1,ag.ls HI m.aj,ag.ls Nb m.Things,ag.ls Mu m.Held,ag.ls Mv m.Notes,ag.ls aX r.aj,ag.ls aR r.Things,ag.ls aS r.Held,ag.ls aT r.Notes]) (fun g_=>g_.1<=m.Notes.length/\g_.2.2.2.2.2=iy m.aj (br m.aj) (m.Notes.take g_.1)/\g_.2.2.2.1=(jg m.aj (br m.aj) (m.Notes.take g_.1)).foldl without m.aj/\g_.2.1=(jg m.aj (br m.aj) (m.Notes.take g_.1)).length) (fun g_=>m.Notes.length-g_.1) (0,0,HI,m.aj,nS,[]) O (by exact ⟨ae,by simp [iy],by simp [jg],by simp [jg]⟩) (sF O) (dX a8 [0,0,1,2,3,4,5,6,7] O) ?_
 rintro ⟨k,c,vw,ws,vn,ns⟩ ⟨hk1,HN,HW,HC⟩
 dsimp only at *
 have hkl:=pK m.aj (br m.aj) (m.Notes.take k);rw [<- HN,<- HC,List.length_take] at hkl;have hwt:cJ ws:=by rw [HW];exact wX _ _ hpm.tree
 have hwl:ws.length<=2000:=by rw [HW];exact Nat.le_trans (sf _ _) hok.wl
 refine U ?_
 refine C (k<m.Notes.length) ?_ ?_ <;> intro h4
 .
  obtain ⟨x3,hx3⟩:=gE m.Notes k
  refine U ?_
  refine R.nb fun b8=>?_
  rcases ea m.aj x3.ak with ⟨K0,c2n⟩ | ⟨c2j,c2h,K0,c2e,c2m⟩
  .
   refine R.kc O O (fun w hw=>cv (congrArg (Value.int .i64) K0) (g9 _ m.aj x3.ak w (hw.cy 1 O)))<|U ?_
   rcases Bool.eq_false_or_eq_true (decide (x3.Port∈(br m.aj))) with h5|h5
   .
    refine R.kc O O (fun w hw=>cv (congrArg Value.bool h5) (pq _ (br m.aj) x3.Port w (hw.row 4 O)))<|U ?_
    refine R.s O (s.bs (l:=([(⟨x3.Port,x3.Data,x3.aM,0⟩:Note)]:List Note)) fG gD O O O O O O O) fun b9=>?_
    refine R.s O (s.app 2 _ O O O (cI 0 O) eL aG aG (fun _=>rfl) O) fun v6=>U ?_
    refine R.back (k+1,c,vw,ws,v6,(ns++([(⟨x3.Port,x3.Data,x3.aM,0⟩:Note)]))) O (by (have e0:=hx3;(have e1:=yM (ws:=m.aj) K0;have e2:=sY e0 (by rw [e1];exact of_decide_eq_true af);rw [e1] at e2;exact ⟨ae,by rw [e2.1,HN],by rw [e2.2,HW],by rw [e2.2,HC]⟩))) aJ (sF O) (cw Cp bZ O)
   refine R.kc O O (fun w hw=>cv (congrArg Value.bool h5) (pq _ (br m.aj) x3.Port w (hw.row 4 O)))<|U ?_
   refine R.back (k+1,c,vw,ws,vn,ns) O (by (have e0:=hx3;(have e1:=yM (ws:=m.aj) K0;have e2:=sZ e0 (by rw [e1];exact of_decide_eq_false af) (by rw [e1];simp);exact ⟨ae,by rw [e2.1,HN],by rw [e2.2,HW],by rw [e2.2,HC]⟩))) aJ (sF O) (cw xE bZ O)
  refine R.kc O O (fun w hw=>cv (congrArg (Value.int .i64) K0) (g9 _ m.aj x3.ak w (hw.cy 1 O)))<|U ?_
  rcases Bool.eq_false_or_eq_true (decide (x3.Port∈(br m.aj))) with h6|h6
  .
   refine R.kc O O (fun w hw=>cv (congrArg Value.bool h6) (pq _ (br m.aj) x3.Port w (hw.row 4 O)))<|U ?_
   refine R.s O (s.bs (l:=([x3]:List Note)) fG gD O O O O O O O) fun b10=>?_
   refine R.s O (s.app 2 _ O O O (cI 0 O) eL aG aG (fun _=>rfl) O) fun v7=>U ?_
   refine R.back (k+1,c,vw,ws,v7,(ns++([x3]))) O (by (have e0:=hx3;(have e1:=pL (ws:=m.aj) K0;have e2:=sY e0 (by rw [e1];exact of_decide_eq_true af);rw [e1] at e2;exact ⟨ae,by rw [e2.1,HN],by rw [e2.2,HW],by rw [e2.2,HC]⟩))) aJ (sF O) (cw Cp bZ O)
  refine R.kc O O (fun w hw=>cv (congrArg Value.bool h6) (pq _ (br m.aj) x3.Port w (hw.row 4 O)))<|U ?_
  refine C (0<x3.ak) ?_ ?_ <;> intro h7
  .
   refine R.s O (s.nM KO O O (fun w hw=>nj _ ws x3.ak w (hw.cy 0 O) ae af) O) fun v8=>U ?_
   refine R.mp (fun _ hw=>hw.aO 0 _ O O)<|R.back (k+1,c+1,v8,without ws x3.ak,vn,ns) O (by (have e0:=hx3;(have e1:=pL (ws:=m.aj) K0;have e2:=CG e0 (by rw [e1];exact of_decide_eq_false af) (by rw [e1];assumption);rw [e1] at e2;exact ⟨ae,by rw [e2.1,HN],by rw [e2.2,List.foldl_append,<- HW];rfl,by rw [e2.2,List.length_append,<- HC];rfl⟩))) aJ (sF O) (cw xE [0,2,3,4,5,6,7,8,9] O)
  refine R.back (k+1,c,vw,ws,vn,ns) O (by (have e0:=hx3;(have e1:=pL (ws:=m.aj) K0;have e2:=sZ e0 (by rw [e1];exact of_decide_eq_false af) (by rw [e1];assumption);exact ⟨ae,by rw [e2.1,HN],by rw [e2.2,HW],by rw [e2.2,HC]⟩))) aJ (sF O) (cw xE bZ O)
 refine C (c=0) ?_ ?_ <;> intro h8
 .
  refine R.mp (fun _ hw=>hw.aO 2 _ O O)<|R.mp (fun _ hw=>hw.aO 1 _ O O)<|R.mp (fun _ hw=>hw.aO 0 _ O O) ?_
  have hz:ez r=(⟨ws,ts,hs,ns,m.ah,m.ai⟩:aB):=by (rw [List.take_of_length_le ae] at HT HH HN HW HC;have hl0:jg m.aj (br m.aj) m.Notes=[]:=List.eq_nil_of_length_eq_zero ae;rw [hl0] at HW;rw [<- HS,oW (by show (jg _ _ _).length=0;rw [hl0];rfl)];unfold fx;rw [<- HN,<- HT,<- HH,HW];rfl)
  rw [hz]
  exact R.x1 (vw,vt,vh,vn) [4] [3,2,1,0]
 refine R.mp (fun _ hw=>hw.aO 2 _ O O)<|R.mp (fun _ hw=>hw.aO 1 _ O O)<|R.mp (fun _ hw=>hw.aO 0 _ O O)<|R.back ((⟨ws,ts,hs,ns,m.ah,m.ai⟩:aB),vw,vt,vh,vn) O (by (rw [List.take_of_length_le ae] at HT HH HN HW HC;have hl:nZ m=jg m.aj (br m.aj) m.Notes:=rfl;have e:lT m=(⟨ws,ts,hs,ns,m.ah,m.ai⟩:aB):=(by unfold lT;rw [hl,<- HW];unfold fx;rw [<- HN,<- HT,<- HH]);exact Eq.mp (congrArg (fun q:aB=>Ok q/\Pre q/\ez q=ez r) e) ⟨hok.lT,hpm.sw (ids:=nZ m) (fun j hj=>hj),(xM (by rw [hl,<- HC];assumption)).symm.trans HS⟩)) aJ (sF O) (cw [2,3,4] [3,2,1,0,8,9,10,11] O)
theorem MO (aX aR aS aT:Value)(r:aB)(p:Place)(w:World)(own:List Nat)(H:HN w own [] [ag.ls aX r.aj,ag.ls aR r.Things,ag.ls aS r.Held,ag.ls aT r.Notes])(hk:Ok r)(hI:Inv r):RS Tryz.prog 36 #[.agg #[aX,aR,aS,aT,iV r.ah,iV r.ai],.agg #[iV p.aD,iV p.Slot]] H (iK r p) (fun s (z:Value×Value×Value×Value) => .tuple #[.agg #[z.1,z.2.1,z.2.2.1,z.2.2.2,iV s.1.ah,iV s.1.ai],iV s.2]) (fun _ _=>[]) (fun s z=>[ag.ls z.1 s.1.aj,ag.ls z.2.1 s.1.Things,ag.ls z.2.2.1 s.1.Held,ag.ls z.2.2.2 s.1.Notes]):=by
 have bT:=H.aL 0 rfl
 have bH:=H.aL 1 rfl
 have cr:=H.aL 2 rfl
 have bU:=H.aL 3 rfl
 have bw:=hk.wl;have bt:=hk.tl;have bh:=hk.hl;have bn:=hk.nl;have yl:=hk.w0;have ym:=hk.w1;have yn:=hk.t0;have yo:=hk.t1
 have gn:=ef r p
 have hkd:=hk.wo (aI r p).1.ID
 refine R.eN H ?_
 refine R.nb fun b1=>?_
 refine R.nb fun b2=>?_
 refine R.nb fun b3=>?_
 refine R.kc O O (fun w hw=>oF _ _ _ _ r p w (hw.cy 0 O) (hw.cy 1 O) (hw.cy 2 O) (hw.cy 3 O) af af)<|U ?_
 refine R.nb fun b4=>?_
 refine C (0<(aI r p).2) ?_ ?_ <;> intro h1
 .
  refine R.jB ak aA Held Note ?_
  rw [show iK r p=_ from by (unfold iK;rewrite [if_neg ae]) <;> rfl]
  exact R.x2 (nS,nS,nS,nS) [4] [3,2,1,0]
 have gz:(aI r p).2=0:=ae
 have hPd:=hI.toPre.wo (aI r p).1.ID
 refine U ?_
 refine R.s O (s.nM KO O O (fun w hw=>nj _ r.aj (aI r p).1.ID w (hw.cy 0 O) ae (by exact hI.tree)) O) fun v1=>U ?_
 refine R.s O (s.pre (fun _ hw=>hw.aO 0 _ O O) (s.aH bV [0,2,3,4] _ _ _ O O O OP O O (fun w own hw H=>uV v1 aR aS aT (⟨without r.aj (aI r p).1.ID,r.Things,r.Held,r.Notes,r.ah,r.ai⟩:aB) w own H af af) O)) ?_
 rintro ⟨z1,z2,z3,z4⟩
 dsimp only
 refine U ?_
 rw [show iK r p=_ from by (unfold iK;rewrite [if_pos gz]) <;> rfl]
 exact R.x2 (z1,z2,z3,z4) [4] [0,1,2,3]
theorem Ig (aX aR aS aT:Value)(r:aB)(p:Place)(w:World)(own:List Nat)(H:HN w own [] [ag.ls aX r.aj,ag.ls aR r.Things,ag.ls aS r.Held,ag.ls aT r.Notes])(hk:Ok r)(hI:Inv r):RS Tryz.prog 37 #[.agg #[aX,aR,aS,aT,iV r.ah,iV r.ai],.agg #[iV p.aD,iV p.Slot]] H (dI r p) (fun s (z:Value×Value×Value×Value) => .tuple #[.agg #[z.1,z.2.1,z.2.2.1,z.2.2.2,iV s.1.ah,iV s.1.ai],iV s.2]) (fun _ _=>[]) (fun s z=>[ag.ls z.1 s.1.aj,ag.ls z.2.1 s.1.Things,ag.ls z.2.2.1 s.1.Held,ag.ls z.2.2.2 s.1.Notes]):=by
 have bT:=H.aL 0 rfl
 have bH:=H.aL 1 rfl
 have cr:=H.aL 2 rfl
 have bU:=H.aL 3 rfl
 have bw:=hk.wl;have bt:=hk.tl;have bh:=hk.hl;have bn:=hk.nl;have yl:=hk.w0;have ym:=hk.w1;have yn:=hk.t0;have yo:=hk.t1
 have gn:=ef r p
 refine R.eN H ?_
 refine R.nb fun b1=>?_
 refine R.nb fun b2=>?_
 refine R.nb fun b3=>?_
 refine R.kc O O (fun w hw=>oF _ _ _ _ r p w (hw.cy 0 O) (hw.cy 1 O) (hw.cy 2 O) (hw.cy 3 O) af af)<|U ?_
 refine R.nb fun b4=>?_
 refine C (0<(aI r p).2) ?_ ?_ <;> intro h1
 .
  refine R.jB ak aA Held Note ?_
  rw [show dI r p=_ from by (unfold dI;rewrite [if_neg ae]) <;> rfl]
  exact R.x2 (nS,nS,nS,nS) [4] [3,2,1,0]
 have gz:(aI r p).2=0:=ae
 have hkc:=hk.cut (aI r p).1.ID;have hPc:=hI.toPre.cut (id:=(aI r p).1.ID) (kE.2 ⟨_,(pJ gz).2.1,rfl⟩)
 refine U ?_
 refine R.s O (s.nM Ul O O (fun w hw=>wv _ r.aj (aI r p).1.ID w (hw.cy 0 O) (by exact hI.tree) ae) O) fun v1=>U ?_
 refine R.row0 (α:=ak) 126<|R.loop (fun g_:Nat×Value×(List ak)=>[(2,pV b1),(4,pV b3),(8,v1),(9,g_.2.1),(10,iV (g_.1:Int))]) (fun g_=>[ag.row 126 g_.2.1 g_.2.2,ag.row 3 v1 (gW (aI r p).1.ID r.aj),ag.box b4 [iV (aI r p).1.ID,iV (aI r p).1.aA,iV (aI r p).1.Rights,iV (aI r p).1.aM,iV (aI r p).1.From] 126,ag.box b3 vg 48,ag.box b2 (iD p) 32,ag.box b1 [aX,aR,aS,aT,iV r.ah,iV r.ai] 48,ag.held w own]) (fun g_=>[ag.ls aX r.aj,ag.ls aR r.Things,ag.ls aS r.Held,ag.ls aT r.Notes]) (fun g_=>g_.1<=r.aj.length/\g_.2.2=(r.aj.take g_.1).filter (fun x => !decide (x.ID∈gW (aI r p).1.ID r.aj))) (fun g_=>r.aj.length-g_.1) (0,nS,[]) O (by exact ⟨ae,bA⟩) (sF O) (dX du bm O) ?_
 rintro ⟨k,vl,ls⟩ ⟨hk1,HL⟩
 dsimp only at *
 have hll:ls.length<=k:=by rw [HL];exact xy _ _ _
 refine U ?_
 refine C (k<r.aj.length) ?_ ?_ <;> intro h2
 .
  obtain ⟨x1,hx1⟩:=gE r.aj k
  refine U ?_
  rcases Bool.eq_false_or_eq_true (decide (x1.ID∈(gW (aI r p).1.ID r.aj))) with h3|h3
  .
   refine R.kc O O (fun w hw=>cv (congrArg Value.bool h3) (pq _ (gW (aI r p).1.ID r.aj) x1.ID w (hw.row 1 O)))<|U ?_
   refine R.back (k+1,vl,ls) O (by exact ⟨ae,by rw [xx hx1 (by simpa using ‹decide (_∈gW _ _)=true›),HL]⟩) aJ (sF O) (cw du bm O)
  refine R.kc O O (fun w hw=>cv (congrArg Value.bool h3) (pq _ (gW (aI r p).1.ID r.aj) x1.ID w (hw.row 1 O)))<|U ?_
  refine R.s O (s.bs (l:=([x1]:List ak)) gP eG O O O O O O O) fun b5=>?_
  refine R.s O (s.app 1 _ O O O (cI 0 O) o8 aG aG (fun _=>rfl) O) fun v2=>U ?_
  refine R.back (k+1,v2,(ls++([x1]))) O (by exact ⟨ae,by rw [oD hx1 (by simpa using ‹decide (_∈gW _ _)=false›),HL]⟩) aJ (sF O) (cw fj bm O)
 have hls:ls=Et r.aj (aI r p).1.ID:=by rw [HL,List.take_of_length_le ae];rfl
 have hkl:Ok (⟨ls,r.Things,r.Held,r.Notes,r.ah,r.ai⟩:aB):=by rw [hls];exact hkc
 have hPl:Pre (⟨ls,r.Things,r.Held,r.Notes,r.ah,r.ai⟩:aB):=by rw [hls];exact hPc
 refine U ?_
 refine R.s O (s.pre (fun _ hw=>hw.aO 0 _ O O) (s.aH fw [0,2,3,4] _ _ _ O O O OP O O (fun w own hw H=>uV vl aR aS aT (⟨ls,r.Things,r.Held,r.Notes,r.ah,r.ai⟩:aB) w own H af af) O)) ?_
 rintro ⟨z1,z2,z3,z4⟩
 dsimp only
 refine U ?_
 have hz:dI r p=((ez (⟨ls,r.Things,r.Held,r.Notes,r.ah,r.ai⟩:aB)),0):=by (unfold dI;rw [if_pos gz,hls];(try rfl))
 rw [hz]
 exact R.x2 (z1,z2,z3,z4) [5] [0,1,2,3]
theorem BH (aX aR aS aT:Value)(r:aB)(p:Place)(d:ByteArray)(w:World)(own:List Nat)(H:HN w own [] [ag.ls aX r.aj,ag.ls aR r.Things,ag.ls aS r.Held,ag.ls aT r.Notes])(hk:Ok r)(hI:Inv r):RS Tryz.prog 38 #[.agg #[aX,aR,aS,aT,iV r.ah,iV r.ai],.agg #[iV p.aD,iV p.Slot],.string d] H (eh r p d) (fun s (z:Value×Value×Value×Value) => .tuple #[.agg #[z.1,z.2.1,z.2.2.1,z.2.2.2,iV s.1.ah,iV s.1.ai],iV s.2]) (fun _ _=>[]) (fun s z=>[ag.ls z.1 s.1.aj,ag.ls z.2.1 s.1.Things,ag.ls z.2.2.1 s.1.Held,ag.ls z.2.2.2 s.1.Notes]):=by
 have bT:=H.aL 0 rfl
 have bH:=H.aL 1 rfl
 have cr:=H.aL 2 rfl
 have bU:=H.aL 3 rfl
 have bw:=hk.wl;have bt:=hk.tl;have bh:=hk.hl;have bn:=hk.nl;have yl:=hk.w0;have ym:=hk.w1;have yn:=hk.t0;have yo:=hk.t1
 have mn0:=gu r p 1 2
 refine R.eN H ?_
 refine R.nb fun b1=>?_
 refine R.nb fun b2=>?_
 refine R.nb fun b3=>?_
 refine R.kc O O (fun w hw=>wA _ _ _ _ r p 1 2 w (hw.cy 0 O) (hw.cy 1 O) (hw.cy 2 O) (hw.cy 3 O) af af ae)<|U ?_
 refine R.nb fun b4=>?_
 refine C (0<(bO r p 1 2).2.2) ?_ ?_ <;> intro h1
 .
  refine R.jB ak aA Held Note ?_
  rw [show eh r p d=_ from by unfold eh gJ;exact mR]
  exact R.x2 (nS,nS,nS,nS) [4] [3,2,1,0]
 have mn:=gu r p 1 2;have mq:(bO r p 1 2).2.2=0:=ae
 obtain ⟨m1,m2,m3,i,ix,ik,ih,ii,id,ib⟩:=jV mq;have iB:=(List.getElem?_eq_some_iff.1 ih).1
 refine U ?_
 refine C (8<d.size) ?_ ?_ <;> intro h2
 .
  refine R.jB ak aA Held Note ?_
  rw [show eh r p d=_ from by unfold eh gJ;exact mR]
  exact R.x2 (nS,nS,nS,nS) [4] [3,2,1,0]
 refine R.s O (s.aH bV bm _ _ _ O O O GN O O (fun w own hw H=>qa aX aR aS aT r w own H af) O) ?_
 rintro ⟨z1,z2,z3,z4⟩
 dsimp only
 refine U ?_
 obtain ⟨x1,hx1⟩:=gE r.Things ((bO r p 1 2).2.1.toNat)
 refine R.q (q.idx (i:=(bO r p 1 2).2.1.toNat) (cI 1 O) O O kI ae hx1) O<|U ?_
 refine R.s O (s.stP (o:=2) (z:=(⟨x1.ID,x1.Kind,d⟩:aA)) 1 _ O hx1 O O O O O (by simp [Value.oneCell']) (.inr ⟨jN,rfl⟩) O) fun _=>U ?_
 refine R.mp (fun _ hw=>hw.aO 0 _ O O)<|R.mp (fun _ hw=>hw.aO 0 _ O O)<|R.mp (fun _ hw=>hw.aO 0 _ O O)<|R.mp (fun _ hw=>hw.aO 0 _ O O) ?_
 have hz:eh r p d=((⟨r.aj,r.Things.set (bO r p 1 2).2.1.toNat (⟨x1.ID,x1.Kind,d⟩:aA),r.Held,r.Notes,r.ah,r.ai⟩:aB),0):=by (unfold eh gJ;(repeat' split) <;> first|rfl|(exfalso;omega)|(simp_all;done))
 rw [hz]
 exact R.x2 (z1,z2,z3,z4) [4] [3,2,1,0]
end
section
open Go Go.RowKit
attribute [local irreducible] Run Rg Rq Qt Qa Stp Dg Do Dm bQ
theorem tH (aX aR aS aT:Value)(r:aB)(p:Place)(d:ByteArray)(slot:Int)(rights:Int)(w:World)(own:List Nat)(H:HN w own [] [ag.ls aX r.aj,ag.ls aR r.Things,ag.ls aS r.Held,ag.ls aT r.Notes])(hk:Ok r)(hI:Inv r):RS Tryz.prog 39 #[.agg #[aX,aR,aS,aT,iV r.ah,iV r.ai],.agg #[iV p.aD,iV p.Slot],.string d,iV slot,iV rights] H (cm r p d slot rights) (fun s (z:Value×Value×Value×Value) => .tuple #[.agg #[z.1,z.2.1,z.2.2.1,z.2.2.2,iV s.1.ah,iV s.1.ai],iV s.2]) (fun _ _=>[]) (fun s z=>[ag.ls z.1 s.1.aj,ag.ls z.2.1 s.1.Things,ag.ls z.2.2.1 s.1.Held,ag.ls z.2.2.2 s.1.Notes]):=by
 have bT:=H.aL 0 rfl
 have bH:=H.aL 1 rfl
 have cr:=H.aL 2 rfl
 have bU:=H.aL 3 rfl
 have bw:=hk.wl;have bt:=hk.tl;have bh:=hk.hl;have bn:=hk.nl;have yl:=hk.w0;have ym:=hk.w1;have yn:=hk.t0;have yo:=hk.t1
 have mn0:=gu r p 2 2;have gn2:=ef r (⟨p.aD,slot⟩:Place);have dc:=gq (aI r (⟨p.aD,slot⟩:Place)).1 r.ah rights 0
 refine R.eN H ?_
 refine R.nb fun b1=>?_
 refine R.nb fun b2=>?_
 refine R.nb fun b3=>?_
 refine R.kc O O (fun w hw=>wA _ _ _ _ r p 2 2 w (hw.cy 0 O) (hw.cy 1 O) (hw.cy 2 O) (hw.cy 3 O) af af ae)<|U ?_
 refine R.nb fun b4=>?_
 refine C (0<(bO r p 2 2).2.2) ?_ ?_ <;> intro h1
 .
  refine R.jB ak aA Held Note ?_
  rw [show cm r p d slot rights=_ from by (unfold cm;rewrite [if_neg ae]) <;> rfl]
  exact R.x2 (nS,nS,nS,nS) [4] [3,2,1,0]
 have mq:(bO r p 2 2).2.2=0:=ae
 have mz:=jV mq;have mr:=hk.get mz.1;rw [<- mz.2.1] at mr
 refine U ?_
 refine C (8<d.size) ?_ ?_ <;> intro h2
 .
  refine R.jB ak aA Held Note ?_
  rw [show cm r p d slot rights=_ from by (unfold cm;rewrite [if_pos mq,if_pos ae]) <;> rfl]
  exact R.x2 (nS,nS,nS,nS) [4] [3,2,1,0]
 refine R.loop (fun g_:Nat×Nat=>[(2,.string d),(3,iV slot),(4,iV rights),(5,pV b1),(6,pV b2),(10,pV b3),(12,pV b4),(15,iV (g_.2:Int)),(16,iV (g_.1:Int))]) (fun g_=>[ag.box b4 [iV (bO r p 2 2).1.ID,iV (bO r p 2 2).1.aA,iV (bO r p 2 2).1.Rights,iV (bO r p 2 2).1.aM,iV (bO r p 2 2).1.From] 126,ag.box b3 vg 48,ag.box b2 (iD p) 32,ag.box b1 [aX,aR,aS,aT,iV r.ah,iV r.ai] 48,ag.held w own]) (fun g_=>[ag.ls aX r.aj,ag.ls aR r.Things,ag.ls aS r.Held,ag.ls aT r.Notes]) (fun g_=>g_.1<=r.Notes.length/\g_.2=gv (r.Notes.take g_.1) (bO r p 2 2).1.aA) (fun g_=>r.Notes.length-g_.1) (0,0) O (by exact ⟨ae,by simp [gv]⟩) (sF O) (dX bV bm O) ?_
 rintro ⟨k,c⟩ ⟨hk1,HC⟩
 dsimp only at *
 have hc1:c<=k:=by rw [HC];exact Kc
 refine U ?_
 refine C (k<r.Notes.length) ?_ ?_ <;> intro h3
 .
  obtain ⟨x1,hx1⟩:=gE r.Notes k
  refine C (x1.Port=(bO r p 2 2).1.aA) ?_ ?_ <;> intro h4
  .
   refine R.c6 O mixed ay<|U ?_
   refine R.back (k+1,c+1) O (by exact ⟨ae,by rw [Gb hx1 af,HC]⟩) aJ (sF O) (cw bV bm O)
  refine R.c6 O mixed ay<|U ?_
  refine R.back (k+1,c) O (by exact ⟨ae,by rw [CH hx1 af,HC]⟩) aJ (sF O) (cw bV bm O)
 rw [List.take_of_length_le ae] at HC
 refine U ?_
 refine C (c=3) ?_ ?_ <;> intro h5
 .
  refine R.jB ak aA Held Note ?_
  rw [show cm r p d slot rights=_ from by (unfold cm;rewrite [if_pos mq,if_neg ae,if_pos ae]) <;> rfl]
  exact R.x2 (nS,nS,nS,nS) [4] [3,2,1,0]
 refine R.nb fun b5=>?_
 refine R.s O (s.aH fw bm _ _ _ O O O GN O O (fun w own hw H=>qa aX aR aS aT r w own H af) O) ?_
 rintro ⟨z1,z2,z3,z4⟩
 dsimp only
 refine U ?_
 refine C (slot<0) ?_ ?_ <;> intro h6
 .
  refine R.s O (s.bs (l:=([(⟨((bO r p 2 2).1).aA,d,(bO r p 2 2).1.aM,0⟩:Note)]:List Note)) fG gD O O O O O O O) fun b6=>?_
  refine R.s O (s.app 4 _ O O O (cI 0 O) eL aG aG (fun _=>rfl) O) fun v1=>U ?_
  have hcn:¬ gv r.Notes (bO r p 2 2).1.aA=3:=ae
  refine U ?_
  refine R.mp (fun _ hw=>hw.aO 1 _ O O)<|R.mp (fun _ hw=>hw.aO 1 _ O O)<|R.mp (fun _ hw=>hw.aO 1 _ O O)<|R.mp (fun _ hw=>hw.aO 1 _ O O) ?_
  rw [show cm r p d slot rights=_ from by (unfold cm;rewrite [if_pos mq,if_neg ae,if_neg ae,if_pos ae]) <;> rfl]
  exact R.x2 (z1,z2,z3,v1) [6] [3,2,1,0]
 refine C ((bO r p 2 2).1.Rights<4) ?_ ?_ <;> intro h7
 .
  refine R.jB ak aA Held Note ?_
  rw [show cm r p d slot rights=_ from by (unfold cm;rewrite [if_pos mq,if_neg ae,if_neg ae,if_neg ae,if_neg (by rewrite [K1 mr ae];decide)]) <;> rfl]
  exact R.x2 (nS,nS,nS,nS) [9] [3,2,1,0]
 refine R.kc O O (fun w hw=>oF _ _ _ _ r (⟨p.aD,slot⟩:Place) w (hw.row 0 O) (hw.row 1 O) (hw.row 2 O) (hw.row 3 O) af af)<|U ?_
 refine R.nb fun b7=>?_
 refine C (0<(aI r (⟨p.aD,slot⟩:Place)).2) ?_ ?_ <;> intro h8
 .
  refine R.jB ak aA Held Note ?_
  rw [show cm r p d slot rights=_ from by (unfold cm;rewrite [if_pos mq,if_neg ae,if_neg ae,if_neg ae,if_pos (oC mr ae),if_neg ae]) <;> rfl]
  exact R.x2 (nS,nS,nS,nS) [10] [3,2,1,0]
 have gz:(aI r (⟨p.aD,slot⟩:Place)).2=0:=ae
 have gr:=hk.get gz
 refine U ?_
 refine C (999<r.ah) ?_ ?_ <;> intro h9
 .
  refine R.jB ak aA Held Note ?_
  rw [show cm r p d slot rights=_ from by (unfold cm;rewrite [if_pos mq,if_neg ae,if_neg ae,if_neg ae,if_pos (oC mr ae),if_pos gz,if_pos ae]) <;> rfl]
  exact R.x2 (nS,nS,nS,nS) [10] [3,2,1,0]
 refine R.kc O O (fun w hw=>oy (aI r (⟨p.aD,slot⟩:Place)).1 r.ah rights 0 w ae)<|U ?_
 refine R.nb fun b8=>?_
 refine C (0<(derived (aI r (⟨p.aD,slot⟩:Place)).1 r.ah rights 0).2) ?_ ?_ <;> intro h10
 .
  refine R.jB ak aA Held Note ?_
  rw [show cm r p d slot rights=_ from by (unfold cm;rewrite [if_pos mq,if_neg ae,if_neg ae,if_neg ae,if_pos (oC mr ae),if_pos gz,if_neg ae,if_neg ae]) <;> rfl]
  exact R.x2 (nS,nS,nS,nS) [11] [3,2,1,0]
 have dz:(derived (aI r (⟨p.aD,slot⟩:Place)).1 r.ah rights 0).2=0:=ae
 refine U ?_
 refine R.s O (s.pre (fun _ hw=>hw.aO 2 _ O O) (s.pre (fun _ hw=>hw.aO 2 _ O O) (s.pre (fun _ hw=>hw.aO 2 _ O O) (s.pre (fun _ hw=>hw.aO 2 _ O O) (s.aH a8 [3,2,1,0] _ _ _ O O O GM O O (fun w own hw H=>sO z1 z2 z3 z4 r (derived (aI r (⟨p.aD,slot⟩:Place)).1 r.ah rights 0).1 w own H af) O))))) ?_
 rintro ⟨z5,z6,z7,z8⟩
 dsimp only
 refine U ?_
 refine R.s O (s.bs (l:=([(⟨((bO r p 2 2).1).aA,d,(bO r p 2 2).1.aM,(derived (aI r (⟨p.aD,slot⟩:Place)).1 r.ah rights 0).1.ID⟩:Note)]:List Note)) fG gD O O O O O O O) fun b9=>?_
 refine R.s O (s.app 4 _ O O O (cI 0 O) eL (by simp [iA];omega) (by simp [iA];omega) (fun _=>rfl) O) fun v2=>U ?_
 have hcn:¬ gv r.Notes (bO r p 2 2).1.aA=3:=ae
 refine U ?_
 refine R.mp (fun _ hw=>hw.aO 1 _ O O)<|R.mp (fun _ hw=>hw.aO 1 _ O O)<|R.mp (fun _ hw=>hw.aO 1 _ O O)<|R.mp (fun _ hw=>hw.aO 1 _ O O) ?_
 rw [show cm r p d slot rights=_ from by (unfold cm;rewrite [if_pos mq,if_neg ae,if_neg ae,if_neg ae,if_pos (oC mr ae),if_pos gz,if_neg ae,if_pos dz]) <;> rfl]
 exact R.x2 (z5,z6,z7,v2) [8] [3,2,1,0]
theorem MP (aX aR aS aT:Value)(r:aB)(p:Place)(w:World)(own:List Nat)(H:HN w own [] [ag.ls aX r.aj,ag.ls aR r.Things,ag.ls aS r.Held,ag.ls aT r.Notes])(hk:Ok r)(hI:Inv r):RS Tryz.prog 40 #[.agg #[aX,aR,aS,aT,iV r.ah,iV r.ai],.agg #[iV p.aD,iV p.Slot]] H (bG r p) (fun s (z:Value×Value×Value×Value) => .tuple #[.agg #[z.1,z.2.1,z.2.2.1,z.2.2.2,iV s.1.ah,iV s.1.ai],.agg #[iV s.2.1.Port,.string s.2.1.Data,iV s.2.1.aM,iV s.2.1.ak],iV s.2.2.1,iV s.2.2.2]) (fun _ _=>[]) (fun s z=>[ag.ls z.1 s.1.aj,ag.ls z.2.1 s.1.Things,ag.ls z.2.2.1 s.1.Held,ag.ls z.2.2.2 s.1.Notes]):=by
 have bT:=H.aL 0 rfl
 have bH:=H.aL 1 rfl
 have cr:=H.aL 2 rfl
 have bU:=H.aL 3 rfl
 have bw:=hk.wl;have bt:=hk.tl;have bh:=hk.hl;have bn:=hk.nl;have yl:=hk.w0;have ym:=hk.w1;have yn:=hk.t0;have yo:=hk.t1
 have mn0:=gu r p 2 1
 refine R.eN H ?_
 refine R.nb fun b1=>?_
 refine R.nb fun b2=>?_
 refine R.nb fun b3=>?_
 refine R.nb fun b4=>?_
 refine R.kc O O (fun w hw=>wA _ _ _ _ r p 2 1 w (hw.cy 0 O) (hw.cy 1 O) (hw.cy 2 O) (hw.cy 3 O) af af ae)<|U ?_
 refine R.nb fun b5=>?_
 refine C (0<(bO r p 2 1).2.2) ?_ ?_ <;> intro h1
 .
  refine R.jB ak aA Held Note ?_
  rw [show bG r p=_ from by (unfold bG;rewrite [if_neg ae]) <;> rfl]
  exact R.x4 (nS,nS,nS,nS) [5] [3,2,1,0]
 have mq:(bO r p 2 1).2.2=0:=ae
 have mz:=jV mq
 refine U ?_
 refine R.s O (s.aH fw bm _ _ _ O O O GN O O (fun w own hw H=>qa aX aR aS aT r w own H af) O) ?_
 rintro ⟨z1,z2,z3,z4⟩
 dsimp only
 refine U ?_
 refine R.loop (fun k:Nat=>[(2,pV b1),(3,pV b2),(4,pV b3),(5,pV b4),(8,pV b5),(11,iV (k:Int))]) (fun k:Nat=>[ag.row 126 z1 r.aj,ag.row 103 z2 r.Things,ag.row 124 z3 r.Held,ag.row 91 z4 r.Notes,ag.box b5 [iV (bO r p 2 1).1.ID,iV (bO r p 2 1).1.aA,iV (bO r p 2 1).1.Rights,iV (bO r p 2 1).1.aM,iV (bO r p 2 1).1.From] 126,ag.box b4 [iV 0,.string (⟨#[]⟩),iV 0,iV 0] 91,ag.box b3 vg 48,ag.box b2 (iD p) 32,ag.box b1 [z1,z2,z3,z4,iV r.ah,iV r.ai] 48,ag.held w own]) (fun k:Nat=>[ag.ls aX r.aj,ag.ls aR r.Things,ag.ls aS r.Held,ag.ls aT r.Notes]) (fun k:Nat=>k<=r.Notes.length /\ ∀ (j:Nat) y,j<k->r.Notes[j]? = some y->(y.Port==(bO r p 2 1).1.aA)=false) (fun k:Nat=>r.Notes.length-k) 0 O (by exact ⟨ae,fun j x hj=>absurd hj (Nat.not_lt_zero _)⟩) (sF O) (dX jH bm O) ?_
 rintro k ⟨hk1,HA⟩
 refine U ?_
 refine C (k<r.Notes.length) ?_ ?_ <;> intro h2
 .
  obtain ⟨x1,hx1⟩:=gE r.Notes k
  refine U ?_
  refine R.nb fun b6=>?_
  refine C (x1.Port=(bO r p 2 1).1.aA) ?_ ?_ <;> intro h3
  .
   have hix:idxOf (fun n:Note=>n.Port==(bO r p 2 1).1.aA) r.Notes=(k:Int):=idxOf_hit hx1 (beq_iff_eq.2 ae) HA
   have hfs:=free_spec r.Held p.aD
   refine U ?_
   refine C (0<x1.ak) ?_ ?_ <;> intro h4
   .
    refine R.kc O O (fun w hw=>MI _ r.Held p.aD w (hw.row 3 O) (by exact hI.good))<|U ?_
    refine C (gk r.Held p.aD<0) ?_ ?_ <;> intro h5
    .
     refine R.jB ak aA Held Note ?_
     have hz:bG r p=((⟨[],[],[],[],0,0⟩:aB),(⟨0,⟨#[]⟩,0,0⟩:Note),0,9):=by (unfold bG;rw [if_pos mq,hix,Int.toNat_natCast,hx1,decide_eq_true ae];dsimp only;rw [if_pos ae,if_pos ae];rfl)
     rw [hz]
     exact R.x4 (nS,nS,nS,nS) [10] [3,2,1,0]
    refine R.s O (s.pre (fun _ hw=>hw.aO 3 _ O O) (s.aH jH [0] _ _ _ O O O AK O O (fun w own hw H=>oE z3 r.Held (⟨p.aD,gk r.Held p.aD⟩:Place) x1.ak w own H ae (by exact hI.good)) O)) fun z5=>U ?_
    refine R.cO (fuel:=13) kQ O O mixed O<|D.l [0,2,5,7,8] kQ bV O<|U ?_
    refine D.two (i:=1) (j:=6) O O ?_ ?_
    .
     refine Do.k kQ bV (q.ld 9 O O dP O) ?_
     refine D.l [3] kQ bV O<|Dm.yy O O (q.jT (i:=k) (cI 4 O) O O Tryz.underlying46 tr O ae) O<|U ?_
     refine D.two (i:=4) (j:=6) O O ?_ ?_
     .
      refine Do.p iw bV (s.app0 O O (fun w hw=>Sl.to (hw.row 4 O) ae) eL aG aG O) fun v1=>?_
      refine D.k 6 O iw bV (q.ld 10 O O dP O) ?_
      refine D.l [9] iw bV O<|Dm.yy O O (q.cz (i:=(k+1)) (cI 4 O) O O fG O ae) O<|U ?_
      refine D.p 10 O iw bV (s.app 0 _ O O O (fun w hw=>Sl.from (hw.row 5 O) ae) eL aG aG (fun _=>rfl) O) fun v2=>?_
      refine D.l [11] iw bV O<|U ?_
      refine D.p 12 O iw bV (s.lq 10 _ O O O (fun w hw=>Sl.cL (hw.row 0 O)) (.inr ⟨dP,rfl⟩) (fun w hw=>bD (Sl.one (hw.row 0 O)) cd) O O O) fun _=>?_
      refine D.done<|R.cO (fuel:=7) gL O O mixed O<|D.l [0,1,2] gL bV O<|U ?_
      refine D.p 3 O gL bV (s.lq 8 _ O O O (fun _ _=>rfl) (.inl fN) (fun w hw=>yt (hw.row 3 O) (hw.row 4 O) (hw.row 1 O) (hw.row 0 O) O O) O O O) fun _=>?_
      refine D.p 4 O gL bV (s.st 7 _ O O O O (.inl o7) O O O O) fun _=>?_
      refine D.l [5,6] gL bV O<|U ?_
      refine D.done<|R.mp (fun _ hw=>hw.aO 3 _ O O)<|R.mp (fun _ hw=>hw.aO 3 _ O O)<|R.mp (fun _ hw=>hw.aO 1 _ O O)<|R.mp (fun _ hw=>hw.aO 0 _ O O) ?_
      have hz:bG r p=((⟨r.aj,r.Things,fW r.Held (⟨p.aD,gk r.Held p.aD⟩:Place) x1.ak,(r.Notes.take k)++(r.Notes.drop (k+1)),r.ah,r.ai⟩:aB),x1,gk r.Held p.aD,0):=by (unfold bG;rw [if_pos mq,hix,Int.toNat_natCast,hx1,decide_eq_true ae];dsimp only;rw [if_pos ae,if_neg ae];rfl)
      rw [hz]
      exact R.x4 (z1,z2,z5,v2) [7] [3,2,1,0]
     refine Do.k kQ bV (q.ld 9 O O dP O) ?_
     refine D.l [9] kQ bV O<|Dm.yy O O (q.cz (i:=(k+1)) (cI 4 O) O O fG O ae) O<|U ?_
     refine D.p 4 O iw bV (s.app0 O O (fun w hw=>Sl.to (hw.row 4 O) ae) eL aG aG O) fun v3=>?_
     refine D.p 10 O iw bV (s.app 0 _ O O O (fun w hw=>Sl.from (hw.row 5 O) ae) eL aG aG (fun _=>rfl) O) fun v4=>?_
     refine D.l [11] iw bV O<|U ?_
     refine D.p 12 O iw bV (s.lq 10 _ O O O (fun w hw=>Sl.cL (hw.row 0 O)) (.inr ⟨dP,rfl⟩) (fun w hw=>bD (Sl.one (hw.row 0 O)) cd) O O O) fun _=>?_
     refine D.done<|R.cO (fuel:=7) gL O O mixed O<|D.l [0,1,2] gL bV O<|U ?_
     refine D.p 3 O gL bV (s.lq 8 _ O O O (fun _ _=>rfl) (.inl fN) (fun w hw=>yt (hw.row 3 O) (hw.row 4 O) (hw.row 1 O) (hw.row 0 O) O O) O O O) fun _=>?_
     refine D.p 4 O gL bV (s.st 7 _ O O O O (.inl o7) O O O O) fun _=>?_
     refine D.l [5,6] gL bV O<|U ?_
     refine D.done<|R.mp (fun _ hw=>hw.aO 3 _ O O)<|R.mp (fun _ hw=>hw.aO 3 _ O O)<|R.mp (fun _ hw=>hw.aO 1 _ O O)<|R.mp (fun _ hw=>hw.aO 0 _ O O) ?_
     have hz:bG r p=((⟨r.aj,r.Things,fW r.Held (⟨p.aD,gk r.Held p.aD⟩:Place) x1.ak,(r.Notes.take k)++(r.Notes.drop (k+1)),r.ah,r.ai⟩:aB),x1,gk r.Held p.aD,0):=by (unfold bG;rw [if_pos mq,hix,Int.toNat_natCast,hx1,decide_eq_true ae];dsimp only;rw [if_pos ae,if_neg ae];rfl)
     rw [hz]
     exact R.x4 (z1,z2,z5,v4) [7] [3,2,1,0]
    refine Do.k kQ bV (q.ld 9 O O dP O) ?_
    refine D.l [9] kQ bV O<|Dm.yy O O (q.cz (i:=(k+1)) (cI 4 O) O O fG O ae) O<|U ?_
    refine D.k 1 O kQ bV (q.ld 9 O O dP O) ?_
    refine D.l [3] kQ bV O<|Dm.yy O O (q.jT (i:=k) (cI 4 O) O O Tryz.underlying46 tr O ae) O<|U ?_
    refine D.p 4 O iw bV (s.app0 O O (fun w hw=>Sl.to (hw.row 4 O) ae) eL aG aG O) fun v5=>?_
    refine D.p 10 O iw bV (s.app 0 _ O O O (fun w hw=>Sl.from (hw.row 5 O) ae) eL aG aG (fun _=>rfl) O) fun v6=>?_
    refine D.l [11] iw bV O<|U ?_
    refine D.p 12 O iw bV (s.lq 10 _ O O O (fun w hw=>Sl.cL (hw.row 0 O)) (.inr ⟨dP,rfl⟩) (fun w hw=>bD (Sl.one (hw.row 0 O)) cd) O O O) fun _=>?_
    refine D.done<|R.cO (fuel:=7) gL O O mixed O<|D.l [0,1,2] gL bV O<|U ?_
    refine D.p 3 O gL bV (s.lq 8 _ O O O (fun _ _=>rfl) (.inl fN) (fun w hw=>yt (hw.row 3 O) (hw.row 4 O) (hw.row 1 O) (hw.row 0 O) O O) O O O) fun _=>?_
    refine D.p 4 O gL bV (s.st 7 _ O O O O (.inl o7) O O O O) fun _=>?_
    refine D.l [5,6] gL bV O<|U ?_
    refine D.done<|R.mp (fun _ hw=>hw.aO 3 _ O O)<|R.mp (fun _ hw=>hw.aO 3 _ O O)<|R.mp (fun _ hw=>hw.aO 1 _ O O)<|R.mp (fun _ hw=>hw.aO 0 _ O O) ?_
    have hz:bG r p=((⟨r.aj,r.Things,fW r.Held (⟨p.aD,gk r.Held p.aD⟩:Place) x1.ak,(r.Notes.take k)++(r.Notes.drop (k+1)),r.ah,r.ai⟩:aB),x1,gk r.Held p.aD,0):=by (unfold bG;rw [if_pos mq,hix,Int.toNat_natCast,hx1,decide_eq_true ae];dsimp only;rw [if_pos ae,if_neg ae];rfl)
    rw [hz]
    exact R.x4 (z1,z2,z5,v6) [7] [3,2,1,0]
   refine R.cO (fuel:=13) kQ O O mixed O<|D.l [0,2,5,7,8] kQ bm O<|U ?_
   refine D.two (i:=1) (j:=6) O O ?_ ?_
   .
    refine Do.k kQ bm (q.ld 9 O O dP O) ?_
    refine D.l [3] kQ bm O<|Dm.yy O O (q.jT (i:=k) (cI 4 O) O O Tryz.underlying46 tr O ae) O<|U ?_
    refine D.two (i:=4) (j:=6) O O ?_ ?_
    .
     refine Do.p iw bm (s.app0 O O (fun w hw=>Sl.to (hw.row 4 O) ae) eL aG aG O) fun v7=>?_
     refine D.k 6 O iw bm (q.ld 10 O O dP O) ?_
     refine D.l [9] iw bm O<|Dm.yy O O (q.cz (i:=(k+1)) (cI 4 O) O O fG O ae) O<|U ?_
     refine D.p 10 O iw bm (s.app 0 _ O O O (fun w hw=>Sl.from (hw.row 5 O) ae) eL aG aG (fun _=>rfl) O) fun v8=>?_
     refine D.l [11] iw bm O<|U ?_
     refine D.p 12 O iw bm (s.lq 10 _ O O O (fun w hw=>Sl.cL (hw.row 0 O)) (.inr ⟨dP,rfl⟩) (fun w hw=>bD (Sl.one (hw.row 0 O)) cd) O O O) fun _=>?_
     refine D.done<|R.cO (fuel:=7) gL O O mixed O<|D.l [0,1,2] gL bm O<|U ?_
     refine D.p 3 O gL bm (s.lq 8 _ O O O (fun _ _=>rfl) (.inl fN) (fun w hw=>yt (hw.row 2 O) (hw.row 3 O) (hw.row 4 O) (hw.row 0 O) O O) O O O) fun _=>?_
     refine D.p 4 O gL bm (s.st 7 _ O O O O (.inl o7) O O O O) fun _=>?_
     refine D.l [5,6] gL bm O<|U ?_
     refine D.done<|R.mp (fun _ hw=>hw.aO 2 _ O O)<|R.mp (fun _ hw=>hw.aO 2 _ O O)<|R.mp (fun _ hw=>hw.aO 2 _ O O)<|R.mp (fun _ hw=>hw.aO 0 _ O O) ?_
     have hz:bG r p=((⟨r.aj,r.Things,r.Held,(r.Notes.take k)++(r.Notes.drop (k+1)),r.ah,r.ai⟩:aB),x1,-1,0):=by (unfold bG;rw [if_pos mq,hix,Int.toNat_natCast,hx1,decide_eq_true ae];dsimp only;rw [if_neg ae];rfl)
     rw [hz]
     exact R.x4 (z1,z2,z3,v8) [7] [3,2,1,0]
    refine Do.k kQ bm (q.ld 9 O O dP O) ?_
    refine D.l [9] kQ bm O<|Dm.yy O O (q.cz (i:=(k+1)) (cI 4 O) O O fG O ae) O<|U ?_
    refine D.p 4 O iw bm (s.app0 O O (fun w hw=>Sl.to (hw.row 4 O) ae) eL aG aG O) fun v9=>?_
    refine D.p 10 O iw bm (s.app 0 _ O O O (fun w hw=>Sl.from (hw.row 5 O) ae) eL aG aG (fun _=>rfl) O) fun v10=>?_
    refine D.l [11] iw bm O<|U ?_
    refine D.p 12 O iw bm (s.lq 10 _ O O O (fun w hw=>Sl.cL (hw.row 0 O)) (.inr ⟨dP,rfl⟩) (fun w hw=>bD (Sl.one (hw.row 0 O)) cd) O O O) fun _=>?_
    refine D.done<|R.cO (fuel:=7) gL O O mixed O<|D.l [0,1,2] gL bm O<|U ?_
    refine D.p 3 O gL bm (s.lq 8 _ O O O (fun _ _=>rfl) (.inl fN) (fun w hw=>yt (hw.row 2 O) (hw.row 3 O) (hw.row 4 O) (hw.row 0 O) O O) O O O) fun _=>?_
    refine D.p 4 O gL bm (s.st 7 _ O O O O (.inl o7) O O O O) fun _=>?_
    refine D.l [5,6] gL bm O<|U ?_
    refine D.done<|R.mp (fun _ hw=>hw.aO 2 _ O O)<|R.mp (fun _ hw=>hw.aO 2 _ O O)<|R.mp (fun _ hw=>hw.aO 2 _ O O)<|R.mp (fun _ hw=>hw.aO 0 _ O O) ?_
    have hz:bG r p=((⟨r.aj,r.Things,r.Held,(r.Notes.take k)++(r.Notes.drop (k+1)),r.ah,r.ai⟩:aB),x1,-1,0):=by (unfold bG;rw [if_pos mq,hix,Int.toNat_natCast,hx1,decide_eq_true ae];dsimp only;rw [if_neg ae];rfl)
    rw [hz]
    exact R.x4 (z1,z2,z3,v10) [7] [3,2,1,0]
   refine Do.k kQ bm (q.ld 9 O O dP O) ?_
   refine D.l [9] kQ bm O<|Dm.yy O O (q.cz (i:=(k+1)) (cI 4 O) O O fG O ae) O<|U ?_
   refine D.k 1 O kQ bm (q.ld 9 O O dP O) ?_
   refine D.l [3] kQ bm O<|Dm.yy O O (q.jT (i:=k) (cI 4 O) O O Tryz.underlying46 tr O ae) O<|U ?_
   refine D.p 4 O iw bm (s.app0 O O (fun w hw=>Sl.to (hw.row 4 O) ae) eL aG aG O) fun v11=>?_
   refine D.p 10 O iw bm (s.app 0 _ O O O (fun w hw=>Sl.from (hw.row 5 O) ae) eL aG aG (fun _=>rfl) O) fun v12=>?_
   refine D.l [11] iw bm O<|U ?_
   refine D.p 12 O iw bm (s.lq 10 _ O O O (fun w hw=>Sl.cL (hw.row 0 O)) (.inr ⟨dP,rfl⟩) (fun w hw=>bD (Sl.one (hw.row 0 O)) cd) O O O) fun _=>?_
   refine D.done<|R.cO (fuel:=7) gL O O mixed O<|D.l [0,1,2] gL bm O<|U ?_
   refine D.p 3 O gL bm (s.lq 8 _ O O O (fun _ _=>rfl) (.inl fN) (fun w hw=>yt (hw.row 2 O) (hw.row 3 O) (hw.row 4 O) (hw.row 0 O) O O) O O O) fun _=>?_
   refine D.p 4 O gL bm (s.st 7 _ O O O O (.inl o7) O O O O) fun _=>?_
   refine D.l [5,6] gL bm O<|U ?_
   refine D.done<|R.mp (fun _ hw=>hw.aO 2 _ O O)<|R.mp (fun _ hw=>hw.aO 2 _ O O)<|R.mp (fun _ hw=>hw.aO 2 _ O O)<|R.mp (fun _ hw=>hw.aO 0 _ O O) ?_
   have hz:bG r p=((⟨r.aj,r.Things,r.Held,(r.Notes.take k)++(r.Notes.drop (k+1)),r.ah,r.ai⟩:aB),x1,-1,0):=by (unfold bG;rw [if_pos mq,hix,Int.toNat_natCast,hx1,decide_eq_true ae];dsimp only;rw [if_neg ae];rfl)
   rw [hz]
   exact R.x4 (z1,z2,z3,v12) [7] [3,2,1,0]
  refine R.back (k+1) O (by exact ⟨ae,kV (p:=fun y:Note=>y.Port==(bO r p 2 1).1.aA) HA hx1 (beq_eq_false_iff_ne.2 ae)⟩) ae (sF O) (cw oN bm O)
 refine R.jB ak aA Held Note ?_
 rw [show bG r p=_ from by (have hix:idxOf (fun n:Note=>n.Port==(bO r p 2 1).1.aA) r.Notes = -1:=idxOf_miss ae HA;unfold bG;rewrite [if_pos mq,hix,show decide ((0:Int) <= -1)=false from rfl];cases r.Notes[(-1:Int).toNat]? <;> rfl) <;> rfl]
 exact R.x4 (nS,nS,nS,nS) [9] [3,2,1,0]
end
end Go.Proofs.YtnmpibjlnninjaaGreatDoor
