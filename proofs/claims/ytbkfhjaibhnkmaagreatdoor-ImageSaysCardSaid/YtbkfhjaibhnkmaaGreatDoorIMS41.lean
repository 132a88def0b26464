import Derived.Test.YtbkfhjaibhnkmaaGreatDoorIMS26
import Derived.Test.YtbkfhjaibhnkmaaGreatDoorIMS34
import Derived.Test.YtbkfhjaibhnkmaaGreatDoorIMS40
import Derived.Test.YtbkfhjaibhnkmaaGreatDoorIMS30
namespace Go.Proofs.YtbkfhjaibhnkmaaGreatDoor
open Go Go.RowKit
set_option linter.unusedVariables false
set_option linter.unusedSimpArgs false
set_option maxRecDepth 100000
theorem Ic {r:Int}(h0:0≤r)(h7:r≤7):fF r 4=decide (4≤r):=by
 have h:r=0∨r=1∨r=2∨r=3∨r=4∨r=5∨r=6∨r=7:=by omega
 rcases h with rfl|rfl|rfl|rfl|rfl|rfl|rfl|rfl <;> decide
theorem jV {r:Int}(h0:0≤r∧r≤7)(h:¬ r<4):fF r 4=true:=by rw [Ic h0.1 h0.2];exact decide_eq_true (by omega)
theorem yZ {r:Int}(h0:0≤r∧r≤7)(h:r<4):fF r 4=false:=by rw [Ic h0.1 h0.2];exact decide_eq_false (by omega)
theorem Eb {l:List Int}{n x:Int}{k:Nat}(hx:l[k]? = some x)(h:x=n):true=decide (n∈l):=by
 subst h;exact (decide_eq_true (List.mem_of_getElem? hx)).symm
theorem CH {l:List Int}{n:Int}(h:∀ (j:Nat) x,j<l.length→l[j]? = some x→¬ x=n):false=decide (n∈l):=by
 refine (decide_eq_false fun hm=>?_).symm
 obtain ⟨j,hj⟩:=List.mem_iff_getElem?.1 hm
 exact h j _ (List.getElem?_eq_some_iff.1 hj).1 hj rfl
theorem jW {α:Type}{f:α→Bool}{l:List α}{k:Nat}{x:α}(hx:l[k]? = some x)(h:f x=true):(l.take (k+1)).filter f=(l.take k).filter f++[x]:=by
 rw [List.take_add_one,hx];simp [List.filter_append,h]
theorem pE {α:Type}{f:α→Bool}{l:List α}{k:Nat}{x:α}(hx:l[k]? = some x)(h:f x=false):(l.take (k+1)).filter f=(l.take k).filter f:=by
 rw [List.take_add_one,hx];simp [List.filter_append,h]
def aQ (r:ar)(w:ak):ar:=⟨r.ai++[w],r.Things,r.Held,r.Notes,r.ae+1,r.af⟩
theorem pF {α:Type}(f:α→Bool)(l:List α)(k:Nat):((l.take k).filter f).length≤k:=Nat.le_trans (List.length_filter_le _ _) (by rw [List.length_take];omega)
theorem uJ (bG:Value)(l:List Held)(p:Place)(w:World)(df:Sl w bG l)(hg:Good l):Calls Tryz.prog 122 #[bG,.agg #[.int .i64 p.aj,.int .i64 p.Slot]] w fun e w'=>e = .returned (.int .i64 (jY l p))∧Ext w w':=by
 rw [at_eq (fV hg)];exact s5 bG l p w df
theorem zY (bG:Value)(l:List Held)(h:Int)(w:World)(df:Sl w bG l)(hg:Good l):Calls Tryz.prog 95 #[bG,.int .i64 h] w fun e w'=>e = .returned (.int .i64 (dA l h))∧Ext w w':=by
 rw [free_eq (fV hg)];exact vr bG l h w df
theorem jX (bG:Value)(l:List Held)(p:Place)(id:Int)(w:World)(own:List Nat)(H:Wd w (blks []++own) ([]++[ag.held w own]) [ag.ls bG (l:List Held)] w)(hl:l.length≤100000)(hg:Good l):Calls Tryz.prog 88 #[bG,.agg #[.int .i64 p.aj,.int .i64 p.Slot],.int .i64 id] w fun e w' => ∃z:Value,e = .returned (z)∧Wd w (blks []++own) ([ag.row 85 z (cw l p id:List Held)]++[ag.held w own]) [] w':=by
 rw [put_eq (fV hg)];exact wZ bG l p id w own H hl
theorem wM (bG:Value)(l:List ak)(w:World)(df:Sl w bG l)(hT:cR l):Calls Tryz.prog 102 #[bG] w fun e w' => ∃u,e = .returned u∧Own w.heap.size 3 w' u (aX l)∧Ext w w':=by
 unfold aX;rw [pg hT];exact sy bG l w df
theorem jx (bG:Value)(l:List ak)(id:Int)(w:World)(df:Sl w bG l)(hl:l.length≤1000000)(hT:cR l):Calls Tryz.prog 54 #[bG,.int .i64 id] w fun e w' => ∃u,e = .returned u∧Own w.heap.size 88 w' u (without l id)∧Ext w w':=by
 rw [← Bu hT];exact ry bG l id w df hl
theorem uK (bG:Value)(l:List ak)(id:Int)(w:World)(df:Sl w bG l)(hT:cR l)(hl:l.length≤1000000):Calls Tryz.prog 92 #[bG,.int .i64 id] w fun e w' => ∃u,e = .returned u∧Own w.heap.size 3 w' u (eb id l)∧Ext w w':=by
 rw [yB hT];exact rD bG l id w df hT hl
theorem km (bG:Value)(l:List Int)(n:Int)(w:World)(df:Sl w bG l):Calls Tryz.prog 93 #[bG,iV n] w fun e w'=>e = .returned (.bool (decide (n∈l)))∧Ext w w':=by
 have pV:=df.ec
 refine R.enter (n:=18) (vs:=[bG,iV n]) [] [(0,bG),(1,iV n)] Tryz.func93 O O O O ?_
 refine R.reg O<|R.u 1 O<|R.nil ?_
 refine R.reg O<|R.u 1 O<|R.nil ?_
 refine R.loop (fun k:Nat=>[(0,bG),(1,iV n),(5,iV (k:Int))]) (fun k:Nat=>[]) (fun k:Nat=>[]) (fun k:Nat=>k≤l.length ∧ ∀ (j:Nat) x,j<k→l[j]? = some x→¬ x=n) (fun k:Nat=>l.length-k) 0 O (by exact ⟨by omega,fun j x hj=>absurd hj (Nat.not_lt_zero _)⟩) ⟨rfl,rfl,rfl,trivial⟩ (fun _=>Wd.pick [] [] O O O) ?_
 rintro k ⟨hk,HA⟩
 refine R.reg O<|R.u 2 O<|R.q (q.len' (fun _=>Wd.old df) O Tryz.underlying60) O<|?_
 by_cases h1:k<l.length
 ·
  refine R.q (q.lss O O (decide_eq_true (by omega))) O<|R.nil ?_
  refine R.aE O O ?_
  refine R.reg O<|R.u 2 O<|?_
  obtain ⟨x1,hx1⟩:∃z,l[k]? = some z:=⟨_,List.getElem?_eq_getElem (by omega)⟩
  refine R.q (q.idx (i:=k) (fun _=>Wd.old df) O O dK O hx1) O<|R.q (q.fb (fun _=>Wd.old df) hx1 O aA O) O<|R.u 1 O<|?_
  by_cases h2:x1=n
  ·
   refine R.q (q.eql O O (beq_iff_eq.2 (by omega))) O<|R.nil ?_
   refine R.aE O O ?_
   refine R.reg O<|R.u 1 O<|R.nil ?_
   exact R.rv O Tryz.results93 O (rB (by (exact Eb hx1 ‹_›)))
  ·
   refine R.q (q.eql O O (beq_eq_false_iff_ne.2 (by omega))) O<|R.nil ?_
   refine R.aF O O ?_
   refine R.reg O<|R.u 1 O<|R.q (q.add (r:=((k+1:Nat):Int)) O O (wr (by omega))) O<|R.u 1 O<|R.nil ?_
   refine R.back (k+1) O (by (exact ⟨by omega,fun j x hj hx=>if e:j=k then by subst e;rw [hx1] at hx;injection hx with hx;subst hx;assumption else HA j x (by omega) hx⟩)) (by omega) ⟨rfl,rfl,rfl,trivial⟩ (fun _=>Wd.pick [] [] O O O)
 ·
  refine R.q (q.lss O O (decide_eq_false (by omega))) O<|R.nil ?_
  refine R.aF O O ?_
  refine R.reg O<|R.u 1 O<|R.nil ?_
  exact R.rv O Tryz.results93 O (rB (by (exact CH (fun j x hj=>HA j x (by omega)))))
theorem k5 (aD az aB aC:Value)(r:ar)(p:Place)(w:World)(lY:Sl w aD r.ai)(jQ:Sl w az r.Things)(oE:Sl w aB r.Held)(vH:Sl w aC r.Notes)(hk:Ok r)(hI:Inv r):Calls Tryz.prog 89 #[.agg #[aD,az,aB,aC,iV r.ae,iV r.af],.agg #[iV p.aj,iV p.Slot]] w fun e w'=>e = .returned (.tuple #[ak.val ((au r p).1),iV ((au r p).2)])∧Ext w w':=by
 have b1:=hk.hl
 have pf:=eu p
 refine R.enter (n:=29) (vs:=[.agg #[aD,az,aB,aC,iV r.ae,iV r.af],.agg #[iV p.aj,iV p.Slot]]) [] [(0,.agg #[aD,az,aB,aC,iV r.ae,iV r.af]),(1,.agg #[iV p.aj,iV p.Slot])] Tryz.func89 O O O O ?_
 refine R.reg O<|R.s O (s.box (cs:=[aD,az,aB,aC,iV r.ae,iV r.af]) O O O) fun b1=>R.s O (s.box (cs:=av p) O O O) fun b2=>R.s O (s.alloc (cs:=cC) bF O O) fun b3=>R.u 1 O<|R.nil ?_
 refine R.reg O<|R.q (q.cj 1 O O aS) O<|R.c (q.call EC O O (fun w hw=>(j5 (p) w  ))) O<|R.u 1 O<|R.nil ?_
 refine R.reg O<|R.u 1 O<|?_
 by_cases h1:0<bu p
 ·
  refine R.q (q.gtr O O (decide_eq_true (by omega))) O<|R.nil ?_
  refine R.aE O O ?_
  refine R.reg O<|R.q (q.build (cs:=cC) eK O O) O<|R.u 1 O<|R.s O (s.st (us:=cC) (cs':=cC) 0 _ O O O O (.inl aP) O O O O) fun _=>R.u 1 O<|R.nil ?_
  exact R.qq O Tryz.results89 (RV.cell 0 O O aP) (RV.tmp O) (congrArg ak.val (show (⟨0,0,0,0,0⟩:ak)=(au r p).1 from by ((rw [mo (by omega)];rfl)))) (rI (by ((rw [mo (by omega)];done))))
 ·
  refine R.q (q.gtr O O (decide_eq_false (by omega))) O<|R.nil ?_
  refine R.aF O O ?_
  rcases dR r.ai (jY r.Held p) with ⟨eU,ug⟩ | ⟨lW,hZ,eU,oT,EK⟩
  ·
   refine R.dP O mixed (by kernel_rfl)<|Q.q (q.aT (off':=0) O bf O) O<|Q.q (q.ld 2 O O bE O) O<|Q.q (q.aT (off':=2) O bB O) O<|Q.q (q.ld 2 O O bZ O) O<|Q.q (q.cj 1 O O aS) O<|Q.c (q.call tX O O (fun w hw=>(uJ _ (r.Held) (p) w ((fun _=>Wd.old oE) w hw) (by exact hI.good)))) O<|Q.c (q.call lp O O (fun w hw=>(cv (congrArg (Value.int .i64) eU) (fB _ (r.ai) (jY r.Held p) w ((fun _=>Wd.old lY) w hw) )))) O<|Q.u 1 O<|Q.nil ?_
   refine R.reg O<|R.u 1 O<|R.q (q.lss (b:=true) O O (by decide)) O<|R.nil ?_
   refine R.aE O O ?_
   refine R.reg O<|R.q (q.build (cs:=cC) eK O O) O<|R.s O (s.st (us:=cC) (cs':=cC) 0 _ O O O O (.inl aP) O O O O) fun _=>R.u 1 O<|R.nil ?_
   exact R.qq O Tryz.results89 (RV.cell 0 O O aP) (RV.tmp O) (congrArg ak.val (show (⟨0,0,0,0,0⟩:ak)=(au r p).1 from by ((rw [mT (by omega) eU];rfl)))) (rI (by ((rw [mT (by omega) eU];done))))
  ·
   refine R.dP O mixed (by kernel_rfl)<|Q.q (q.aT (off':=0) O bf O) O<|Q.q (q.ld 2 O O bE O) O<|Q.q (q.aT (off':=2) O bB O) O<|Q.q (q.ld 2 O O bZ O) O<|Q.q (q.cj 1 O O aS) O<|Q.c (q.call tX O O (fun w hw=>(uJ _ (r.Held) (p) w ((fun _=>Wd.old oE) w hw) (by exact hI.good)))) O<|Q.c (q.call lp O O (fun w hw=>(cv (congrArg (Value.int .i64) eU) (fB _ (r.ai) (jY r.Held p) w ((fun _=>Wd.old lY) w hw) )))) O<|Q.u 1 O<|Q.nil ?_
   refine R.reg O<|R.u 1 O<|R.q (q.lss O O (decide_eq_false (by omega))) O<|R.nil ?_
   refine R.aF O O ?_
   refine R.reg O<|R.q (q.aT (off':=0) O bf O) O<|R.q (q.ld 2 O O bE O) O<|R.u 1 O<|R.q (q.idx (i:=lW) (fun _=>Wd.old lY) O O cK O (List.getElem?_eq_getElem hZ)) O<|R.q (q.cY (ds:=ay (r.ai[lW])) (fun _=>Wd.old lY) (List.getElem?_eq_getElem hZ) O aP O) O<|?_
   refine R.s O (s.st (us:=ay (r.ai[lW])) (cs':=ay (r.ai[lW])) 0 _ O O O O (.inl aP) O O O O) fun _=>R.u 1 O<|R.nil ?_
   exact R.qq O Tryz.results89 (RV.cell 0 O O aP) (RV.tmp O) (congrArg ak.val (show (r.ai[lW])=(au r p).1 from by ((rw [oC (by omega) eU (List.getElem?_eq_getElem hZ)];done)))) (rI (by ((rw [oC (by omega) eU (List.getElem?_eq_getElem hZ)];done))))
theorem m8 (aD az aB aC:Value)(r:ar)(p:Place)(w:World)(lY:Sl w aD r.ai)(jQ:Sl w az r.Things)(oE:Sl w aB r.Held)(vH:Sl w aC r.Notes)(hk:Ok r)(hI:Inv r):Calls Tryz.prog 86 #[.agg #[aD,az,aB,aC,iV r.ae,iV r.af],.agg #[iV p.aj,iV p.Slot]] w fun e w'=>e = .returned (iV (d9 r p))∧Ext w w':=by
 have b1:=hk.hl
 have pf:=eu p
 refine R.enter (n:=16) (vs:=[.agg #[aD,az,aB,aC,iV r.ae,iV r.af],.agg #[iV p.aj,iV p.Slot]]) [] [(0,.agg #[aD,az,aB,aC,iV r.ae,iV r.af]),(1,.agg #[iV p.aj,iV p.Slot])] Tryz.func86 O O O O ?_
 refine R.reg O<|R.s O (s.box (cs:=[aD,az,aB,aC,iV r.ae,iV r.af]) O O O) fun b1=>R.s O (s.box (cs:=av p) O O O) fun b2=>R.u 1 O<|R.nil ?_
 refine R.reg O<|R.q (q.cj 0 O O aS) O<|R.c (q.call EC O O (fun w hw=>(j5 (p) w  ))) O<|R.u 1 O<|R.nil ?_
 refine R.reg O<|R.u 1 O<|?_
 by_cases h1:0<bu p
 ·
  refine R.q (q.gtr O O (decide_eq_true (by omega))) O<|R.nil ?_
  refine R.aE O O ?_
  refine R.reg O<|R.u 2 O<|R.nil ?_
  exact R.rv O Tryz.results86 O (rI (by (unfold d9;(rw [if_neg (by omega)];done))))
 ·
  refine R.q (q.gtr O O (decide_eq_false (by omega))) O<|R.nil ?_
  refine R.aF O O ?_
  refine R.reg O<|R.q (q.aT (off':=2) O bB O) O<|R.q (q.ld 1 O O bZ O) O<|R.q (q.cj 0 O O aS) O<|R.c (q.call tX O O (fun w hw=>(uJ _ (r.Held) (p) w ((fun _=>Wd.old oE) w hw) (by exact hI.good)))) O<|?_
  by_cases h2:jY r.Held p=0
  ·
   refine R.q (q.neq O O (bne_eq_false_iff_eq.2 (by omega))) O<|R.nil ?_
   refine R.aF O O ?_
   refine R.reg O<|R.u 1 O<|R.nil ?_
   exact R.rv O Tryz.results86 O (rI (by (unfold d9;(rw [if_pos (by omega),if_pos ‹_›];done))))
  ·
   refine R.q (q.neq O O (bne_iff_ne.2 (by omega))) O<|R.nil ?_
   refine R.aE O O ?_
   refine R.reg O<|R.u 1 O<|R.nil ?_
   exact R.rv O Tryz.results86 O (rI (by (unfold d9;(rw [if_pos (by omega),if_neg ‹_›];done))))
theorem sj (aD az aB aC:Value)(r:ar)(p:Place)(kind:Int)(rights:Int)(w:World)(lY:Sl w aD r.ai)(jQ:Sl w az r.Things)(oE:Sl w aB r.Held)(vH:Sl w aC r.Notes)(hk:Ok r)(hI:Inv r)(hr:0≤rights∧rights≤7):Calls Tryz.prog 94 #[.agg #[aD,az,aB,aC,iV r.ae,iV r.af],.agg #[iV p.aj,iV p.Slot],iV kind,iV rights] w fun e w'=>e = .returned (.tuple #[ak.val ((aM r p kind rights).1),iV ((aM r p kind rights).2.1),iV ((aM r p kind rights).2.2)])∧Ext w w':=by
 have bw:=hk.wl;have bt:=hk.tl;have bh:=hk.hl;have bn:=hk.nl;have rL:=hk.w0;have rM:=hk.w1;have rN:=hk.t0;have rO:=hk.t1
 have gn:=eC r p
 refine R.enter (n:=60) (vs:=[.agg #[aD,az,aB,aC,iV r.ae,iV r.af],.agg #[iV p.aj,iV p.Slot],iV kind,iV rights]) [] [(0,.agg #[aD,az,aB,aC,iV r.ae,iV r.af]),(1,.agg #[iV p.aj,iV p.Slot]),(2,iV kind),(3,iV rights)] Tryz.func94 O O O O ?_
 refine R.reg O<|R.s O (s.box (cs:=[aD,az,aB,aC,iV r.ae,iV r.af]) O O O) fun b1=>R.s O (s.box (cs:=av p) O O O) fun b2=>R.s O (s.alloc (cs:=cC) bF O O) fun b3=>R.u 2 O<|R.nil ?_
 refine R.reg O<|R.q (q.cj 2 O O ap) O<|R.q (q.cj 1 O O aS) O<|R.c (q.call sV O O (fun w hw=>(k5 _ _ _ _ (r) (p) w ((fun _=>Wd.old lY) w hw) ((fun _=>Wd.old jQ) w hw) ((fun _=>Wd.old oE) w hw) ((fun _=>Wd.old vH) w hw) ‹_› ‹_›))) O<|R.u 3 O<|R.s O (s.alloc (cs:=cC) bF O O) fun b4=>R.s O (s.st (us:=ay ((au r p).1)) (cs':=ay ((au r p).1)) 0 _ O O O O (.inl aP) O O O O) fun _=>R.u 1 O<|R.nil ?_
 refine R.reg O<|R.u 1 O<|?_
 by_cases h1:0<(au r p).2
 ·
  refine R.q (q.gtr O O (decide_eq_true (by omega))) O<|R.nil ?_
  refine R.aE O O ?_
  refine R.reg O<|R.q (q.build (cs:=cC) eK O O) O<|R.u 1 O<|R.s O (s.st (us:=cC) (cs':=cC) 1 _ O O O O (.inl aP) O O O O) fun _=>R.u 2 O<|R.nil ?_
  exact R.CV O Tryz.results94 (RV.cell 1 O O aP) (RV.tmp O) (RV.tmp O) (congrArg ak.val (show (⟨0,0,0,0,0⟩:ak)=(aM r p kind rights).1 from by ((rw [jN (by omega)];rfl)))) (rI (by ((rw [jN (by omega)];done)))) (rI (by ((rw [jN (by omega)];done))))
 ·
  have Jk:=hk.get (r:=r) (p:=p) (by omega)
  refine R.q (q.gtr O O (decide_eq_false (by omega))) O<|R.nil ?_
  refine R.aF O O ?_
  refine R.reg O<|R.u 1 O<|R.nil ?_
  refine R.loop (fun k:Nat=>[(2,iV kind),(3,iV rights),(4,.pointer (some ⟨b1,0,none⟩)),(8,.pointer (some ⟨b3,0,none⟩)),(11,.pointer (some ⟨b4,0,none⟩)),(13,iV (k:Int))]) (fun k:Nat=>[ag.box b4 (ay ((au r p).1)) 88,ag.box b3 cC 88,ag.box b1 [aD,az,aB,aC,iV r.ae,iV r.af] 32]) (fun k:Nat=>[]) (fun k:Nat=>k≤r.Things.length ∧ ∀ (j:Nat) y,j<k→r.Things[j]? = some y→(y.ID==(au r p).1.ao)=false) (fun k:Nat=>r.Things.length-k) 0 O (by exact ⟨by omega,fun j x hj=>absurd hj (Nat.not_lt_zero _)⟩) ⟨rfl,rfl,rfl,rfl,rfl,rfl,trivial⟩ (fun _=>Wd.pick [0,1,3] [] O O O) ?_
  rintro k ⟨hk1,HA⟩
  refine R.reg O<|R.u 1 O<|R.q (q.aT (off':=1) O bM O) O<|R.q (q.ld 2 O O cq O) O<|R.q (q.len' (fun _=>Wd.old jQ) O Tryz.underlying28) O<|?_
  by_cases h2:k<r.Things.length
  ·
   refine R.q (q.lss O O (decide_eq_true (by omega))) O<|R.nil ?_
   refine R.aE O O ?_
   obtain ⟨x1,hx1⟩:∃z,r.Things[k]? = some z:=⟨_,List.getElem?_eq_getElem (by omega)⟩
   by_cases h3:x1.ID=((au r p).1).ao
   ·
    refine R.dP O mixed (by kernel_rfl)<|Q.q (q.aT (off':=1) O bM O) O<|Q.q (q.ld 2 O O cq O) O<|Q.u 1 O<|Q.q (q.idx (i:=k) (fun _=>Wd.old jQ) O O ew O hx1) O<|Q.q (q.dF (j':=0) (fun _=>Wd.old jQ) hx1 O g9 O) O<|Q.q (q.fb (fun _=>Wd.old jQ) hx1 O aA O) O<|Q.q (q.aT (off':=1) O dw O) O<|Q.q (q.ld 0 O O aA O) O<|Q.q (q.neq O O (bne_eq_false_iff_eq.2 (by omega))) O<|Q.nil ?_
    refine R.aF O O ?_
    refine R.reg O<|R.q (q.aT (off':=1) O bM O) O<|R.q (q.ld 2 O O cq O) O<|R.u 1 O<|R.q (q.idx (i:=k) (fun _=>Wd.old jQ) O O ew O hx1) O<|R.q (q.dF (j':=1) (fun _=>Wd.old jQ) hx1 O mN O) O<|R.q (q.fb (fun _=>Wd.old jQ) hx1 O aA O) O<|R.u 1 O<|?_
    by_cases h4:x1.Kind=kind
    ·
     refine R.q (q.neq O O (bne_eq_false_iff_eq.2 (by omega))) O<|R.nil ?_
     refine R.aF O O ?_
     refine R.reg O<|R.q (q.aT (off':=2) O fj O) O<|R.q (q.ld 0 O O aA O) O<|R.u 1 O<|?_
     rcases Bool.eq_false_or_eq_true (fF (((au r p).1).Rights) rights) with h5|h5
     ·
      refine R.c (q.call tY O O (fun w hw=>(cv (congrArg Value.bool h5) (lw (((au r p).1).Rights) (rights) w  (by omega) (by omega))))) O<|R.u 1 O<|R.nil ?_
      refine R.reg O<|R.u 2 O<|R.nil ?_
      refine R.aF O O ?_
      refine R.reg O<|R.q (q.cj 0 O O aP) O<|R.u 1 O<|R.s O (s.st (us:=ay ((au r p).1)) (cs':=ay ((au r p).1)) 1 _ O O O O (.inl aP) O O O O) fun _=>R.u 2 O<|R.nil ?_
      exact R.CV O Tryz.results94 (RV.cell 1 O O aP) (RV.tmp O) (RV.tmp O) (congrArg ak.val (show ((au r p).1)=(aM r p kind rights).1 from by ((rw [lz (by omega) hx1 (beq_iff_eq.2 (by omega)) HA (by omega) ‹_›];done)))) (rI (by ((rw [lz (by omega) hx1 (beq_iff_eq.2 (by omega)) HA (by omega) ‹_›];done)))) (rI (by ((rw [lz (by omega) hx1 (beq_iff_eq.2 (by omega)) HA (by omega) ‹_›];done))))
     ·
      refine R.c (q.call tY O O (fun w hw=>(cv (congrArg Value.bool h5) (lw (((au r p).1).Rights) (rights) w  (by omega) (by omega))))) O<|R.u 1 O<|R.nil ?_
      refine R.reg O<|R.u 2 O<|R.nil ?_
      refine R.aE O O ?_
      refine R.reg O<|R.q (q.build (cs:=cC) eK O O) O<|R.s O (s.st (us:=cC) (cs':=cC) 1 _ O O O O (.inl aP) O O O O) fun _=>R.u 2 O<|R.nil ?_
      exact R.CV O Tryz.results94 (RV.cell 1 O O aP) (RV.tmp O) (RV.tmp O) (congrArg ak.val (show (⟨0,0,0,0,0⟩:ak)=(aM r p kind rights).1 from by ((rw [gU (by omega) hx1 (beq_iff_eq.2 (by omega)) HA (by omega) ‹_›];rfl)))) (rI (by ((rw [gU (by omega) hx1 (beq_iff_eq.2 (by omega)) HA (by omega) ‹_›];done)))) (rI (by ((rw [gU (by omega) hx1 (beq_iff_eq.2 (by omega)) HA (by omega) ‹_›];done))))
    ·
     refine R.q (q.neq O O (bne_iff_ne.2 (by omega))) O<|R.nil ?_
     refine R.aE O O ?_
     refine R.reg O<|R.q (q.build (cs:=cC) eK O O) O<|R.s O (s.st (us:=cC) (cs':=cC) 1 _ O O O O (.inl aP) O O O O) fun _=>R.u 2 O<|R.nil ?_
     exact R.CV O Tryz.results94 (RV.cell 1 O O aP) (RV.tmp O) (RV.tmp O) (congrArg ak.val (show (⟨0,0,0,0,0⟩:ak)=(aM r p kind rights).1 from by ((rw [iI (by omega) hx1 (beq_iff_eq.2 (by omega)) HA (by omega)];rfl)))) (rI (by ((rw [iI (by omega) hx1 (beq_iff_eq.2 (by omega)) HA (by omega)];done)))) (rI (by ((rw [iI (by omega) hx1 (beq_iff_eq.2 (by omega)) HA (by omega)];done))))
   ·
    refine R.dP O mixed (by kernel_rfl)<|Q.q (q.aT (off':=1) O bM O) O<|Q.q (q.ld 2 O O cq O) O<|Q.u 1 O<|Q.q (q.idx (i:=k) (fun _=>Wd.old jQ) O O ew O hx1) O<|Q.q (q.dF (j':=0) (fun _=>Wd.old jQ) hx1 O g9 O) O<|Q.q (q.fb (fun _=>Wd.old jQ) hx1 O aA O) O<|Q.q (q.aT (off':=1) O dw O) O<|Q.q (q.ld 0 O O aA O) O<|Q.q (q.neq O O (bne_iff_ne.2 (by omega))) O<|Q.nil ?_
    refine R.aE O O ?_
    refine R.reg O<|R.u 1 O<|R.q (q.add (r:=((k+1:Nat):Int)) O O (wr (by omega))) O<|R.u 1 O<|R.nil ?_
    refine R.back (k+1) O (by (exact ⟨by omega,hG (p:=fun y=>y.ID==(au r p).1.ao) HA hx1 (beq_eq_false_iff_ne.2 (by omega))⟩)) (by omega) ⟨rfl,rfl,rfl,rfl,rfl,rfl,trivial⟩ (fun _=>Wd.pick [0,1,2] [] O O O)
  ·
   refine R.q (q.lss O O (decide_eq_false (by omega))) O<|R.nil ?_
   refine R.aF O O ?_
   refine R.reg O<|R.q (q.build (cs:=cC) eK O O) O<|R.s O (s.st (us:=cC) (cs':=cC) 1 _ O O O O (.inl aP) O O O O) fun _=>R.u 2 O<|R.nil ?_
   exact R.CV O Tryz.results94 (RV.cell 1 O O aP) (RV.tmp O) (RV.tmp O) (congrArg ak.val (show (⟨0,0,0,0,0⟩:ak)=(aM r p kind rights).1 from by ((rw [iH (by omega) (fun x hx=>by obtain ⟨j,hj⟩:=List.mem_iff_getElem?.1 hx;exact HA j x (by have:=(List.getElem?_eq_some_iff.1 hj).1;omega) hj)];rfl)))) (rI (by ((rw [iH (by omega) (fun x hx=>by obtain ⟨j,hj⟩:=List.mem_iff_getElem?.1 hx;exact HA j x (by have:=(List.getElem?_eq_some_iff.1 hj).1;omega) hj)];done)))) (rI (by ((rw [iH (by omega) (fun x hx=>by obtain ⟨j,hj⟩:=List.mem_iff_getElem?.1 hx;exact HA j x (by have:=(List.getElem?_eq_some_iff.1 hj).1;omega) hj)];done))))
theorem k6 (aD az aB aC:Value)(r:ar)(w:World)(own:List Nat)(H:Wd w (blks []++own) ([]++[ag.held w own]) [ag.ls aD (r.ai:List ak),ag.ls az (r.Things:List ao),ag.ls aB (r.Held:List Held),ag.ls aC (r.Notes:List Note)] w)(hk:Ok r):Calls Tryz.prog 91 #[.agg #[aD,az,aB,aC,iV r.ae,iV r.af]] w fun e w' => ∃z:Value×Value×Value×Value,e = .returned (.agg #[z.1,z.2.1,z.2.2.1,z.2.2.2,iV ((r).ae),iV ((r).af)])∧Wd w (blks []++own) ([ag.row 88 z.1 ((r).ai:List ak),ag.row 62 z.2.1 ((r).Things:List ao),ag.row 85 z.2.2.1 ((r).Held:List Held),ag.row 72 z.2.2.2 ((r).Notes:List Note)]++[ag.held w own]) [] w':=by
 have cS:=H.ct 0 rfl
 have cy:=H.ct 1 rfl
 have dq:=H.ct 2 rfl
 have cT:=H.ct 3 rfl
 have bw:=hk.wl;have bt:=hk.tl;have bh:=hk.hl;have bn:=hk.nl;have rL:=hk.w0;have rM:=hk.w1;have rN:=hk.t0;have rO:=hk.t1
 refine R.da (n:=20) (vs:=[.agg #[aD,az,aB,aC,iV r.ae,iV r.af]]) (B:=[ag.held w own]) [(0,.agg #[aD,az,aB,aC,iV r.ae,iV r.af])] Tryz.func91 O O O O H ?_
 refine R.reg O<|R.s O (s.box (cs:=[aD,az,aB,aC,iV r.ae,iV r.af]) O O O) fun b1=>R.s O (s.alloc (cs:=aG) cp O O) fun b2=>R.nil ?_
 refine R.reg O<|R.q (q.aT (off':=0) O bf O) O<|R.q (q.ld 1 O O bE O) O<|R.s O (s.app0 (l2:=r.ai) O O (bJ 0 O) fJ (by omega) (by omega) O) fun v1=>R.q (q.aT (off':=0) O bf O) O<|R.s O (s.dy (us:=[v1]) (cs':=[v1,az,aB,aC,iV r.ae,iV r.af]) 2 _ O O O (fun w hw=>Sl.cm (hw.row 0 O)) (.inr ⟨bE,rfl⟩) (fun w hw=>(ah (Sl.one (hw.row 0 O)) aL)) O O O) fun _=>R.nil ?_
 refine R.reg O<|R.q (q.aT (off':=1) O bM O) O<|R.q (q.ld 2 O O cq O) O<|R.s O (s.app0 (l2:=r.Things) O O (bJ 1 O) iP (by omega) (by omega) O) fun v2=>R.q (q.aT (off':=1) O bM O) O<|R.s O (s.dy (us:=[v2]) (cs':=[v1,v2,aB,aC,iV r.ae,iV r.af]) 3 _ O O O (fun w hw=>Sl.cm (hw.row 0 O)) (.inr ⟨cq,rfl⟩) (fun w hw=>(ah (Sl.one (hw.row 0 O)) aL)) O O O) fun _=>R.nil ?_
 refine R.reg O<|R.q (q.aT (off':=2) O bB O) O<|R.q (q.ld 3 O O bZ O) O<|R.s O (s.app0 (l2:=r.Held) O O (bJ 2 O) dZ (by omega) (by omega) O) fun v3=>R.q (q.aT (off':=2) O bB O) O<|R.s O (s.dy (us:=[v3]) (cs':=[v1,v2,v3,aC,iV r.ae,iV r.af]) 4 _ O O O (fun w hw=>Sl.cm (hw.row 0 O)) (.inr ⟨bZ,rfl⟩) (fun w hw=>(ah (Sl.one (hw.row 0 O)) aL)) O O O) fun _=>R.nil ?_
 refine R.reg O<|R.q (q.aT (off':=3) O br O) O<|R.q (q.ld 4 O O bN O) O<|R.s O (s.app0 (l2:=r.Notes) O O (bJ 3 O) dL (by omega) (by omega) O) fun v4=>R.q (q.aT (off':=3) O br O) O<|R.s O (s.dy (us:=[v4]) (cs':=[v1,v2,v3,v4,iV r.ae,iV r.af]) 5 _ O O O (fun w hw=>Sl.cm (hw.row 0 O)) (.inr ⟨bN,rfl⟩) (fun w hw=>(ah (Sl.one (hw.row 0 O)) aL)) O O O) fun _=>R.nil ?_
 refine R.reg O<|R.q (q.cj 5 O O ap) O<|R.s O (s.dy (us:=[v1,v2,v3,v4,iV r.ae,iV r.af]) (cs':=[v1,v2,v3,v4,iV r.ae,iV r.af]) 4 _ O O O (fun _ _=>rfl) (.inl ap) (fun w hw=>(ah (Sl.one (hw.row 3 O)) (ah (Sl.one (hw.row 2 O)) (ah (Sl.one (hw.row 1 O)) (ah (Sl.one (hw.row 0 O)) (ah O (ah O aL))))))) O O O) fun _=>R.nil ?_
 exact R.w1 (v1,v2,v3,v4) [3,2,1,0,6] [] O Tryz.results91 (RV.cell 4 O O ap) O O O O
theorem mK (aD az aB aC:Value)(r:ar)(w0:ak)(w:World)(own:List Nat)(H:Wd w (blks []++own) ([]++[ag.held w own]) [ag.ls aD (r.ai:List ak),ag.ls az (r.Things:List ao),ag.ls aB (r.Held:List Held),ag.ls aC (r.Notes:List Note)] w)(hk:Ok r):Calls Tryz.prog 87 #[.agg #[aD,az,aB,aC,iV r.ae,iV r.af],.agg #[iV w0.ID,iV w0.ao,iV w0.Rights,iV w0.aI,iV w0.From]] w fun e w' => ∃z:Value×Value×Value×Value,e = .returned (.agg #[z.1,z.2.1,z.2.2.1,z.2.2.2,iV (((aQ r w0)).ae),iV (((aQ r w0)).af)])∧Wd w (blks []++own) ([ag.row 88 z.1 (((aQ r w0)).ai:List ak),ag.row 62 z.2.1 (((aQ r w0)).Things:List ao),ag.row 85 z.2.2.1 (((aQ r w0)).Held:List Held),ag.row 72 z.2.2.2 (((aQ r w0)).Notes:List Note)]++[ag.held w own]) [] w':=by
 have cS:=H.ct 0 rfl
 have cy:=H.ct 1 rfl
 have dq:=H.ct 2 rfl
 have cT:=H.ct 3 rfl
 have bw:=hk.wl;have bt:=hk.tl;have bh:=hk.hl;have bn:=hk.nl;have rL:=hk.w0;have rM:=hk.w1;have rN:=hk.t0;have rO:=hk.t1
 refine R.da (n:=18) (vs:=[.agg #[aD,az,aB,aC,iV r.ae,iV r.af],.agg #[iV w0.ID,iV w0.ao,iV w0.Rights,iV w0.aI,iV w0.From]]) (B:=[ag.held w own]) [(0,.agg #[aD,az,aB,aC,iV r.ae,iV r.af]),(1,.agg #[iV w0.ID,iV w0.ao,iV w0.Rights,iV w0.aI,iV w0.From])] Tryz.func87 O O O O H ?_
 refine R.reg O<|R.s O (s.box (cs:=[aD,az,aB,aC,iV r.ae,iV r.af]) O O O) fun b1=>R.s O (s.box (cs:=ay w0) O O O) fun b2=>R.s O (s.alloc (cs:=aG) cp O O) fun b3=>R.nil ?_
 refine R.reg O<|R.q (q.cj 2 O O ap) O<|R.s (B':=(fun g_:Value×Value×Value×Value=>[ag.row 88 g_.1 (r).ai,ag.row 62 g_.2.1 (r).Things,ag.row 85 g_.2.2.1 (r).Held,ag.row 72 g_.2.2.2 (r).Notes,ag.box b3 aG 32,ag.box b2 (ay w0) 88,ag.box b1 [aD,az,aB,aC,iV r.ae,iV r.af] 32,ag.held w own])) (F':=(fun g_=>[ag.ls aD r.ai,ag.ls az r.Things,ag.ls aB r.Held,ag.ls aC r.Notes])) O (s.bP (B0:=[]) (Br:=[ag.box b3 aG 32,ag.box b2 (ay w0) 88,ag.box b1 [aD,az,aB,aC,iV r.ae,iV r.af] 32,ag.held w own]) (F0:=[ag.ls aD r.ai,ag.ls az r.Things,ag.ls aB r.Held,ag.ls aC r.Notes]) bm bm (fun g_:Value×Value×Value×Value => .agg #[g_.1,g_.2.1,g_.2.2.1,g_.2.2.2,iV ((r).ae),iV ((r).af)]) (fun g_=>[ag.row 88 g_.1 (r).ai,ag.row 62 g_.2.1 (r).Things,ag.row 85 g_.2.2.1 (r).Held,ag.row 72 g_.2.2.2 (r).Notes]) (fun g_=>[]) O O O vf O O (fun w own hw H=>k6 aD az aB aC (r) w own H ‹_›) O) ?_
 rintro ⟨z1,z2,z3,z4⟩
 dsimp only
 refine R.s O (s.dy (us:=[z1,z2,z3,z4,iV r.ae,iV r.af]) (cs':=[z1,z2,z3,z4,iV r.ae,iV r.af]) 6 _ O O O (fun _ _=>rfl) (.inl ap) (fun w hw=>(ah (Sl.one (hw.row 0 O)) (ah (Sl.one (hw.row 1 O)) (ah (Sl.one (hw.row 2 O)) (ah (Sl.one (hw.row 3 O)) (ah O (ah O aL))))))) O O O) fun _=>R.nil ?_
 refine R.reg O<|R.q (q.aT (off':=0) O bf O) O<|R.q (q.ld 6 O O bE O) O<|R.q (q.cj 5 O O aP) O<|R.s O (s.bs (l:=([w0]:List ak)) cK bF O O O O O O O) fun b4=>R.s O (s.app (l2:=[w0]) 1 _ O O O (cJ 0 O) fJ (by (simp;omega)) (by (simp;omega)) (fun _=>rfl) O) fun v1=>R.q (q.aT (off':=0) O bf O) O<|R.s O (s.dy (us:=[v1]) (cs':=[v1,z2,z3,z4,iV r.ae,iV r.af]) 7 _ O O O (fun w hw=>Sl.cm (hw.row 1 O)) (.inr ⟨bE,rfl⟩) (fun w hw=>(ah (Sl.one (hw.row 1 O)) aL)) O O O) fun _=>R.nil ?_
 refine R.reg O<|R.q (q.aT (off':=4) O bW O) O<|R.q (q.ld 7 O O aA O) O<|R.q (q.add (r:=r.ae+1) O O (wr (by omega))) O<|R.q (q.aT (off':=4) O bW O) O<|R.s O (s.st (us:=[iV (r.ae+1)]) (cs':=[v1,z2,z3,z4,iV (r.ae+1),iV r.af]) 7 _ O O O O (.inr ⟨aA,rfl⟩) O O O O) fun _=>R.nil ?_
 refine R.reg O<|R.q (q.cj 7 O O ap) O<|R.s O (s.dy (us:=[v1,z2,z3,z4,iV (r.ae+1),iV r.af]) (cs':=[v1,z2,z3,z4,iV (r.ae+1),iV r.af]) 5 _ O O O (fun _ _=>rfl) (.inl ap) (fun w hw=>(ah (Sl.one (hw.row 1 O)) (ah (Sl.one (hw.row 2 O)) (ah (Sl.one (hw.row 3 O)) (ah (Sl.one (hw.row 4 O)) (ah O (ah O aL))))))) O O O) fun _=>R.nil ?_
 have hz:aQ r w0=(⟨(r.ai++([w0])),r.Things,r.Held,r.Notes,(r.ae+1),r.af⟩:ar):=by (rfl)
 rw [hz]
 exact R.w1 (v1,z2,z3,z4) [1,2,3,4,8] [] O Tryz.results87 (RV.cell 5 O O ap) O O O O
theorem CJ  (w:World)(own:List Nat)(H:Wd w (blks []++own) ([]++[ag.held w own]) [] w)  : Calls Tryz.prog 10 #[] w fun e w' => ∃z:Value×Value×Value×Value,e = .returned (.agg #[z.1,z.2.1,z.2.2.1,z.2.2.2,iV (((⟨[],[],[],[],1,1⟩:ar)).ae),iV (((⟨[],[],[],[],1,1⟩:ar)).af)])∧Wd w (blks []++own) ([]++[ag.held w own]) [ag.ls z.1 (((⟨[],[],[],[],1,1⟩:ar)).ai:List ak),ag.ls z.2.1 (((⟨[],[],[],[],1,1⟩:ar)).Things:List ao),ag.ls z.2.2.1 (((⟨[],[],[],[],1,1⟩:ar)).Held:List Held),ag.ls z.2.2.2 (((⟨[],[],[],[],1,1⟩:ar)).Notes:List Note)] w':=by
 refine R.da (n:=2) (vs:=[]) (B:=[ag.held w own]) [] Tryz.func10 O O O O H ?_
 refine R.reg O<|R.s O (s.alloc (cs:=aG) cp O O) fun b1=>R.nil ?_
 refine R.reg O<|R.q (q.build (cs:=[nS,nS,nS,nS,iV 1,iV 1]) cz O O) O<|R.s O (s.st (us:=[nS,nS,nS,nS,iV 1,iV 1]) (cs':=[nS,nS,nS,nS,iV 1,iV 1]) 0 _ O O O O (.inl ap) O O O O) fun _=>R.nil ?_
 refine R.mp (fun _ hw=>hw.aR (α:=ak)) ?_
 refine R.mp (fun _ hw=>hw.aR (α:=ao)) ?_
 refine R.mp (fun _ hw=>hw.aR (α:=Held)) ?_
 refine R.mp (fun _ hw=>hw.aR (α:=Note)) ?_
 exact R.w1 ((nS),(nS),(nS),(nS)) [1] dj O Tryz.results10 (RV.cell 0 O O ap) O O O O
theorem zZ (aD az aB aC:Value)(r:ar)(p:Place)(kind:Int)(w:World)(own:List Nat)(H:Wd w (blks []++own) ([]++[ag.held w own]) [ag.ls aD (r.ai:List ak),ag.ls az (r.Things:List ao),ag.ls aB (r.Held:List Held),ag.ls aC (r.Notes:List Note)] w)(hk:Ok r)(hI:Inv r):Calls Tryz.prog 38 #[.agg #[aD,az,aB,aC,iV r.ae,iV r.af],.agg #[iV p.aj,iV p.Slot],iV kind] w fun e w' => ∃z:Value×Value×Value×Value,e = .returned (.tuple #[.agg #[z.1,z.2.1,z.2.2.1,z.2.2.2,iV ((((bT r p kind)).1).ae),iV ((((bT r p kind)).1).af)],iV (((bT r p kind)).2)])∧Wd w (blks []++own) ([]++[ag.held w own]) [ag.ls z.1 ((((bT r p kind)).1).ai:List ak),ag.ls z.2.1 ((((bT r p kind)).1).Things:List ao),ag.ls z.2.2.1 ((((bT r p kind)).1).Held:List Held),ag.ls z.2.2.2 ((((bT r p kind)).1).Notes:List Note)] w':=by
 have cS:=H.ct 0 rfl
 have cy:=H.ct 1 rfl
 have dq:=H.ct 2 rfl
 have cT:=H.ct 3 rfl
 have bw:=hk.wl;have bt:=hk.tl;have bh:=hk.hl;have bn:=hk.nl;have rL:=hk.w0;have rM:=hk.w1;have rN:=hk.t0;have rO:=hk.t1
 refine R.da (n:=68) (vs:=[.agg #[aD,az,aB,aC,iV r.ae,iV r.af],.agg #[iV p.aj,iV p.Slot],iV kind]) (B:=[ag.held w own]) [(0,.agg #[aD,az,aB,aC,iV r.ae,iV r.af]),(1,.agg #[iV p.aj,iV p.Slot]),(2,iV kind)] Tryz.func38 O O O O H ?_
 refine R.reg O<|R.s O (s.box (cs:=[aD,az,aB,aC,iV r.ae,iV r.af]) O O O) fun b1=>R.s O (s.box (cs:=av p) O O O) fun b2=>R.s O (s.alloc (cs:=aG) cp O O) fun b3=>R.u 1 O<|R.nil ?_
 refine R.reg O<|R.u 1 O<|?_
 by_cases h1:kind=1
 ·
  refine R.q (q.neq O O (bne_eq_false_iff_eq.2 (by omega))) O<|R.u 4 O<|R.nil ?_
  refine R.aF O O ?_
  refine R.reg O<|R.q (q.cj 2 O O ap) O<|R.q (q.cj 1 O O aS) O<|R.c (q.call yw O O (fun w hw=>(m8 _ _ _ _ (r) (p) w (hw.bq 0 O) (hw.bq 1 O) (hw.bq 2 O) (hw.bq 3 O) ‹_› ‹_›))) O<|R.u 1 O<|R.nil ?_
  refine R.reg O<|R.u 1 O<|?_
  by_cases h2:0<d9 r p
  ·
   refine R.q (q.gtr O O (decide_eq_true (by omega))) O<|R.nil ?_
   refine R.aE O O ?_
   refine R.reg O<|R.q (q.build (cs:=aG) cz O O) O<|R.u 1 O<|R.s O (s.st (us:=aG) (cs':=aG) 0 _ O O O O (.inl ap) O O O O) fun _=>R.u 1 O<|R.nil ?_
   refine R.mp (fun _ hw=>hw.aR (α:=ak)) ?_
   refine R.mp (fun _ hw=>hw.aR (α:=ao)) ?_
   refine R.mp (fun _ hw=>hw.aR (α:=Held)) ?_
   refine R.mp (fun _ hw=>hw.aR (α:=Note)) ?_
   have hz:bT r p kind=((⟨[],[],[],[],0,0⟩:ar),d9 r p):=by (unfold bT;(repeat' split) <;> first|rfl|(exfalso;omega)|(simp_all;done))
   rw [hz]
   exact R.w2 ((nS),(nS),(nS),(nS)) [3] dj O Tryz.results38 (RV.cell 0 O O ap) (RV.tmp O) O O O (cD O O)
  ·
   have fq:d9 r p=0:=by have:=eX r p;omega
   have fz:=ck (iL fq).1
   refine R.q (q.gtr O O (decide_eq_false (by omega))) O<|R.nil ?_
   refine R.aF O O ?_
   refine R.reg O<|R.q (q.aT (off':=1) O bM O) O<|R.q (q.ld 2 O O cq O) O<|R.q (q.len' (bJ 1 O) O Tryz.underlying28) O<|?_
   by_cases h3:r.Things.length=10
   ·
    refine R.q (q.eql O O (beq_iff_eq.2 (by omega))) O<|R.u 10 O<|R.nil ?_
    refine R.aE O O ?_
    refine R.reg O<|R.q (q.build (cs:=aG) cz O O) O<|R.s O (s.st (us:=aG) (cs':=aG) 0 _ O O O O (.inl ap) O O O O) fun _=>R.u 1 O<|R.nil ?_
    refine R.mp (fun _ hw=>hw.aR (α:=ak)) ?_
    refine R.mp (fun _ hw=>hw.aR (α:=ao)) ?_
    refine R.mp (fun _ hw=>hw.aR (α:=Held)) ?_
    refine R.mp (fun _ hw=>hw.aR (α:=Note)) ?_
    have hz:bT r p kind=((⟨[],[],[],[],0,0⟩:ar),9):=by (unfold bT;(repeat' split) <;> first|rfl|(exfalso;omega)|(simp_all;done))
    rw [hz]
    exact R.w2 ((nS),(nS),(nS),(nS)) [3] dj O Tryz.results38 (RV.cell 0 O O ap) (RV.tmp O) O O O (cD O O)
   ·
    refine R.q (q.eql O O (beq_eq_false_iff_ne.2 (by omega))) O<|R.u 1 O<|R.qg O (q.aT (off':=5) O cI O) O<|R.qg O (q.ld 2 O O aA O) O<|?_
    by_cases h4:999<r.af
    ·
     refine R.qg O (q.gtr O O (decide_eq_true (by omega))) O<|R.u 6 O<|R.nil ?_
     refine R.aE O O ?_
     refine R.reg O<|R.q (q.build (cs:=aG) cz O O) O<|R.s O (s.st (us:=aG) (cs':=aG) 0 _ O O O O (.inl ap) O O O O) fun _=>R.u 1 O<|R.nil ?_
     refine R.mp (fun _ hw=>hw.aR (α:=ak)) ?_
     refine R.mp (fun _ hw=>hw.aR (α:=ao)) ?_
     refine R.mp (fun _ hw=>hw.aR (α:=Held)) ?_
     refine R.mp (fun _ hw=>hw.aR (α:=Note)) ?_
     have hz:bT r p kind=((⟨[],[],[],[],0,0⟩:ar),9):=by (unfold bT;(repeat' split) <;> first|rfl|(exfalso;omega)|(simp_all;done))
     rw [hz]
     exact R.w2 ((nS),(nS),(nS),(nS)) [3] dj O Tryz.results38 (RV.cell 0 O O ap) (RV.tmp O) O O O (cD O O)
    ·
     refine R.qg O (q.gtr O O (decide_eq_false (by omega))) O<|R.u 2 O<|R.qg O (q.aT (off':=4) O bW O) O<|R.qg O (q.ld 2 O O aA O) O<|?_
     by_cases h5:999<r.ae
     ·
      refine R.qg O (q.gtr O O (decide_eq_true (by omega))) O<|R.u 1 O<|R.nil ?_
      refine R.aE O O ?_
      refine R.reg O<|R.q (q.build (cs:=aG) cz O O) O<|R.s O (s.st (us:=aG) (cs':=aG) 0 _ O O O O (.inl ap) O O O O) fun _=>R.u 1 O<|R.nil ?_
      refine R.mp (fun _ hw=>hw.aR (α:=ak)) ?_
      refine R.mp (fun _ hw=>hw.aR (α:=ao)) ?_
      refine R.mp (fun _ hw=>hw.aR (α:=Held)) ?_
      refine R.mp (fun _ hw=>hw.aR (α:=Note)) ?_
      have hz:bT r p kind=((⟨[],[],[],[],0,0⟩:ar),9):=by (unfold bT;(repeat' split) <;> first|rfl|(exfalso;omega)|(simp_all;done))
      rw [hz]
      exact R.w2 ((nS),(nS),(nS),(nS)) [3] dj O Tryz.results38 (RV.cell 0 O O ap) (RV.tmp O) O O O (cD O O)
     ·
      refine R.qg O (q.gtr O O (decide_eq_false (by omega))) O<|R.u 1 O<|R.nil ?_
      refine R.aF O O ?_
      refine R.reg O<|R.q (q.aT (off':=4) O bW O) O<|R.q (q.ld 2 O O aA O) O<|R.q (q.aT (off':=5) O cI O) O<|R.q (q.ld 2 O O aA O) O<|R.q (q.build (cs:=[iV r.ae,iV r.af,iV 7,iV 0,iV 0]) eK O O) O<|R.s O (s.alloc (cs:=cC) bF O O) fun b4=>R.s O (s.st (us:=[iV r.ae,iV r.af,iV 7,iV 0,iV 0]) (cs':=[iV r.ae,iV r.af,iV 7,iV 0,iV 0]) 0 _ O O O O (.inl aP) O O O O) fun _=>R.nil ?_
      refine R.reg O<|R.q (q.cj 3 O O ap) O<|R.q (q.cj 0 O O aP) O<|R.s (B':=(fun g_:Value×Value×Value×Value=>[ag.row 88 g_.1 ((aQ r (⟨r.ae,r.af,7,0,0⟩:ak))).ai,ag.row 62 g_.2.1 ((aQ r (⟨r.ae,r.af,7,0,0⟩:ak))).Things,ag.row 85 g_.2.2.1 ((aQ r (⟨r.ae,r.af,7,0,0⟩:ak))).Held,ag.row 72 g_.2.2.2 ((aQ r (⟨r.ae,r.af,7,0,0⟩:ak))).Notes,ag.box b4 [iV r.ae,iV r.af,iV 7,iV 0,iV 0] 88,ag.box b3 aG 32,ag.box b2 (av p) 39,ag.box b1 [aD,az,aB,aC,iV r.ae,iV r.af] 32,ag.held w own])) (F':=(fun g_=>[ag.ls aD r.ai,ag.ls az r.Things,ag.ls aB r.Held,ag.ls aC r.Notes])) O (s.bP (B0:=[]) (Br:=[ag.box b4 [iV r.ae,iV r.af,iV 7,iV 0,iV 0] 88,ag.box b3 aG 32,ag.box b2 (av p) 39,ag.box b1 [aD,az,aB,aC,iV r.ae,iV r.af] 32,ag.held w own]) (F0:=[ag.ls aD r.ai,ag.ls az r.Things,ag.ls aB r.Held,ag.ls aC r.Notes]) cZ bm (fun g_:Value×Value×Value×Value => .agg #[g_.1,g_.2.1,g_.2.2.1,g_.2.2.2,iV (((aQ r (⟨r.ae,r.af,7,0,0⟩:ak))).ae),iV (((aQ r (⟨r.ae,r.af,7,0,0⟩:ak))).af)]) (fun g_=>[ag.row 88 g_.1 ((aQ r (⟨r.ae,r.af,7,0,0⟩:ak))).ai,ag.row 62 g_.2.1 ((aQ r (⟨r.ae,r.af,7,0,0⟩:ak))).Things,ag.row 85 g_.2.2.1 ((aQ r (⟨r.ae,r.af,7,0,0⟩:ak))).Held,ag.row 72 g_.2.2.2 ((aQ r (⟨r.ae,r.af,7,0,0⟩:ak))).Notes]) (fun g_=>[]) O O O ve O O (fun w own hw H=>mK aD az aB aC (r) ((⟨r.ae,r.af,7,0,0⟩:ak)) w own H ‹_›) O) ?_
      rintro ⟨z1,z2,z3,z4⟩
      dsimp only
      refine R.s O (s.dy (us:=[z1,z2,z3,z4,iV ((aQ r (⟨r.ae,r.af,7,0,0⟩:ak)).ae),iV ((aQ r (⟨r.ae,r.af,7,0,0⟩:ak)).af)]) (cs':=[z1,z2,z3,z4,iV ((aQ r (⟨r.ae,r.af,7,0,0⟩:ak)).ae),iV ((aQ r (⟨r.ae,r.af,7,0,0⟩:ak)).af)]) 7 _ O O O (fun _ _=>rfl) (.inl ap) (fun w hw=>(ah (Sl.one (hw.row 0 O)) (ah (Sl.one (hw.row 1 O)) (ah (Sl.one (hw.row 2 O)) (ah (Sl.one (hw.row 3 O)) (ah O (ah O aL))))))) O O O) fun _=>R.nil ?_
      refine R.reg O<|R.q (q.aT (off':=1) O bM O) O<|R.q (q.ld 7 O O cq O) O<|R.q (q.aT (off':=5) O cI O) O<|R.q (q.ld 7 O O aA O) O<|R.u 1 O<|R.q (q.build (cs:=[iV ((aQ r (⟨r.ae,r.af,7,0,0⟩:ak)).af),iV kind,.string (⟨#[]⟩)]) u6 O O) O<|R.s O (s.bs (l:=([(⟨(aQ r (⟨r.ae,r.af,7,0,0⟩:ak)).af,kind,⟨#[]⟩⟩:ao)]:List ao)) ew fw O O O O O O O) fun b5=>R.s O (s.app (l2:=[(⟨(aQ r (⟨r.ae,r.af,7,0,0⟩:ak)).af,kind,⟨#[]⟩⟩:ao)]) 2 _ O O O (cJ 0 O) iP (by (simp [aQ];omega)) (by (simp [aQ];omega)) (fun _=>rfl) O) fun v1=>R.q (q.aT (off':=1) O bM O) O<|R.s O (s.dy (us:=[v1]) (cs':=[z1,v1,z3,z4,iV ((aQ r (⟨r.ae,r.af,7,0,0⟩:ak)).ae),iV ((aQ r (⟨r.ae,r.af,7,0,0⟩:ak)).af)]) 8 _ O O O (fun w hw=>Sl.cm (hw.row 2 O)) (.inr ⟨cq,rfl⟩) (fun w hw=>(ah (Sl.one (hw.row 2 O)) aL)) O O O) fun _=>R.nil ?_
      have J8:(aQ r (⟨r.ae,r.af,7,0,0⟩:ak)).af=r.af:=rfl
      refine R.reg O<|R.q (q.aT (off':=5) O cI O) O<|R.q (q.ld 8 O O aA O) O<|R.q (q.add (r:=((aQ r (⟨r.ae,r.af,7,0,0⟩:ak)).af)+1) O O (wr (by omega))) O<|R.q (q.aT (off':=5) O cI O) O<|R.s O (s.st (us:=[iV (((aQ r (⟨r.ae,r.af,7,0,0⟩:ak)).af)+1)]) (cs':=[z1,v1,z3,z4,iV ((aQ r (⟨r.ae,r.af,7,0,0⟩:ak)).ae),iV (((aQ r (⟨r.ae,r.af,7,0,0⟩:ak)).af)+1)]) 8 _ O O O O (.inr ⟨aA,rfl⟩) O O O O) fun _=>R.nil ?_
      refine R.reg O<|R.q (q.aT (off':=2) O bB O) O<|R.q (q.ld 8 O O bZ O) O<|R.q (q.cj 7 O O aS) O<|R.q (q.aT (off':=0) O bI O) O<|R.q (q.ld 5 O O aA O) O<|R.s (B':=(fun aN:Value=>[ag.row 85 aN (cw ((aQ r (⟨r.ae,r.af,7,0,0⟩:ak)).Held) p r.ae),ag.row 62 (.slice (some ⟨b5,0,none⟩) 1 1) ([(⟨(aQ r (⟨r.ae,r.af,7,0,0⟩:ak)).af,kind,⟨#[]⟩⟩:ao)]:List ao),ag.row 88 z1 (aQ r (⟨r.ae,r.af,7,0,0⟩:ak)).ai,ag.row 62 v1 ((((aQ r (⟨r.ae,r.af,7,0,0⟩:ak)).Things)++([(⟨(aQ r (⟨r.ae,r.af,7,0,0⟩:ak)).af,kind,⟨#[]⟩⟩:ao)])):List ao),ag.row 72 z4 (aQ r (⟨r.ae,r.af,7,0,0⟩:ak)).Notes,ag.box b4 [iV r.ae,iV r.af,iV 7,iV 0,iV 0] 88,ag.box b3 aG 32,ag.box b2 (av p) 39,ag.box b1 [z1,v1,z3,z4,iV ((aQ r (⟨r.ae,r.af,7,0,0⟩:ak)).ae),iV (((aQ r (⟨r.ae,r.af,7,0,0⟩:ak)).af)+1)] 32,ag.held w own])) (F':=(fun aN:Value=>[ag.ls z3 (aQ r (⟨r.ae,r.af,7,0,0⟩:ak)).Held,ag.ls aD r.ai,ag.ls az r.Things,ag.ls aB r.Held,ag.ls aC r.Notes])) O (s.pre (B2:=[ag.row 62 (.slice (some ⟨b5,0,none⟩) 1 1) ([(⟨(aQ r (⟨r.ae,r.af,7,0,0⟩:ak)).af,kind,⟨#[]⟩⟩:ao)]:List ao),ag.row 88 z1 (aQ r (⟨r.ae,r.af,7,0,0⟩:ak)).ai,ag.row 62 v1 ((((aQ r (⟨r.ae,r.af,7,0,0⟩:ak)).Things)++([(⟨(aQ r (⟨r.ae,r.af,7,0,0⟩:ak)).af,kind,⟨#[]⟩⟩:ao)])):List ao),ag.row 72 z4 (aQ r (⟨r.ae,r.af,7,0,0⟩:ak)).Notes,ag.box b4 [iV r.ae,iV r.af,iV 7,iV 0,iV 0] 88,ag.box b3 aG 32,ag.box b2 (av p) 39,ag.box b1 [z1,v1,z3,z4,iV ((aQ r (⟨r.ae,r.af,7,0,0⟩:ak)).ae),iV (((aQ r (⟨r.ae,r.af,7,0,0⟩:ak)).af)+1)] 32,ag.held w own]) (F2:=[ag.ls z3 (aQ r (⟨r.ae,r.af,7,0,0⟩:ak)).Held,ag.ls aD r.ai,ag.ls az r.Things,ag.ls aB r.Held,ag.ls aC r.Notes]) (fun _ hw=>hw.bH 3 _ O O) (s.bP (B0:=[]) (Br:=[ag.row 62 (.slice (some ⟨b5,0,none⟩) 1 1) ([(⟨(aQ r (⟨r.ae,r.af,7,0,0⟩:ak)).af,kind,⟨#[]⟩⟩:ao)]:List ao),ag.row 88 z1 (aQ r (⟨r.ae,r.af,7,0,0⟩:ak)).ai,ag.row 62 v1 ((((aQ r (⟨r.ae,r.af,7,0,0⟩:ak)).Things)++([(⟨(aQ r (⟨r.ae,r.af,7,0,0⟩:ak)).af,kind,⟨#[]⟩⟩:ao)])):List ao),ag.row 72 z4 (aQ r (⟨r.ae,r.af,7,0,0⟩:ak)).Notes,ag.box b4 [iV r.ae,iV r.af,iV 7,iV 0,iV 0] 88,ag.box b3 aG 32,ag.box b2 (av p) 39,ag.box b1 [z1,v1,z3,z4,iV ((aQ r (⟨r.ae,r.af,7,0,0⟩:ak)).ae),iV (((aQ r (⟨r.ae,r.af,7,0,0⟩:ak)).af)+1)] 32,ag.held w own]) (F0:=[ag.ls z3 (aQ r (⟨r.ae,r.af,7,0,0⟩:ak)).Held]) cU [0] (fun aN:Value=>aN) (fun aN:Value=>[ag.row 85 aN (cw ((aQ r (⟨r.ae,r.af,7,0,0⟩:ak)).Held) p r.ae)]) (fun aN:Value=>[]) O O O ra O O (fun w own hw H=>jX z3 ((aQ r (⟨r.ae,r.af,7,0,0⟩:ak)).Held) (p) (r.ae) w own H (by (dsimp only [aQ];omega)) (by exact hI.good)) O)) fun z5=>R.q (q.aT (off':=2) O bB O) O<|R.s O (s.dy (us:=[z5]) (cs':=[z1,v1,z5,z4,iV ((aQ r (⟨r.ae,r.af,7,0,0⟩:ak)).ae),iV (((aQ r (⟨r.ae,r.af,7,0,0⟩:ak)).af)+1)]) 8 _ O O O (fun w hw=>Sl.cm (hw.row 0 O)) (.inr ⟨bZ,rfl⟩) (fun w hw=>(ah (Sl.one (hw.row 0 O)) aL)) O O O) fun _=>R.nil ?_
      refine R.reg O<|R.q (q.cj 8 O O ap) O<|R.s O (s.dy (us:=[z1,v1,z5,z4,iV ((aQ r (⟨r.ae,r.af,7,0,0⟩:ak)).ae),iV (((aQ r (⟨r.ae,r.af,7,0,0⟩:ak)).af)+1)]) (cs':=[z1,v1,z5,z4,iV ((aQ r (⟨r.ae,r.af,7,0,0⟩:ak)).ae),iV (((aQ r (⟨r.ae,r.af,7,0,0⟩:ak)).af)+1)]) 6 _ O O O (fun _ _=>rfl) (.inl ap) (fun w hw=>(ah (Sl.one (hw.row 2 O)) (ah (Sl.one (hw.row 3 O)) (ah (Sl.one (hw.row 0 O)) (ah (Sl.one (hw.row 4 O)) (ah O (ah O aL))))))) O O O) fun _=>R.u 1 O<|R.nil ?_
      refine R.mp (B':=[ag.row 85 z5 (cw ((aQ r (⟨r.ae,r.af,7,0,0⟩:ak)).Held) p r.ae),ag.row 62 (.slice (some ⟨b5,0,none⟩) 1 1) ([(⟨(aQ r (⟨r.ae,r.af,7,0,0⟩:ak)).af,kind,⟨#[]⟩⟩:ao)]:List ao),ag.row 62 v1 ((((aQ r (⟨r.ae,r.af,7,0,0⟩:ak)).Things)++([(⟨(aQ r (⟨r.ae,r.af,7,0,0⟩:ak)).af,kind,⟨#[]⟩⟩:ao)])):List ao),ag.row 72 z4 (aQ r (⟨r.ae,r.af,7,0,0⟩:ak)).Notes,ag.box b4 [iV r.ae,iV r.af,iV 7,iV 0,iV 0] 88,ag.box b3 [z1,v1,z5,z4,iV ((aQ r (⟨r.ae,r.af,7,0,0⟩:ak)).ae),iV (((aQ r (⟨r.ae,r.af,7,0,0⟩:ak)).af)+1)] 32,ag.box b2 (av p) 39,ag.box b1 [z1,v1,z5,z4,iV ((aQ r (⟨r.ae,r.af,7,0,0⟩:ak)).ae),iV (((aQ r (⟨r.ae,r.af,7,0,0⟩:ak)).af)+1)] 32,ag.held w own]) (fun _ hw=>hw.bH 2 _ O O) ?_
      refine R.mp (B':=[ag.row 85 z5 (cw ((aQ r (⟨r.ae,r.af,7,0,0⟩:ak)).Held) p r.ae),ag.row 62 (.slice (some ⟨b5,0,none⟩) 1 1) ([(⟨(aQ r (⟨r.ae,r.af,7,0,0⟩:ak)).af,kind,⟨#[]⟩⟩:ao)]:List ao),ag.row 72 z4 (aQ r (⟨r.ae,r.af,7,0,0⟩:ak)).Notes,ag.box b4 [iV r.ae,iV r.af,iV 7,iV 0,iV 0] 88,ag.box b3 [z1,v1,z5,z4,iV ((aQ r (⟨r.ae,r.af,7,0,0⟩:ak)).ae),iV (((aQ r (⟨r.ae,r.af,7,0,0⟩:ak)).af)+1)] 32,ag.box b2 (av p) 39,ag.box b1 [z1,v1,z5,z4,iV ((aQ r (⟨r.ae,r.af,7,0,0⟩:ak)).ae),iV (((aQ r (⟨r.ae,r.af,7,0,0⟩:ak)).af)+1)] 32,ag.held w own]) (fun _ hw=>hw.bH 2 _ O O) ?_
      refine R.mp (B':=[ag.row 62 (.slice (some ⟨b5,0,none⟩) 1 1) ([(⟨(aQ r (⟨r.ae,r.af,7,0,0⟩:ak)).af,kind,⟨#[]⟩⟩:ao)]:List ao),ag.row 72 z4 (aQ r (⟨r.ae,r.af,7,0,0⟩:ak)).Notes,ag.box b4 [iV r.ae,iV r.af,iV 7,iV 0,iV 0] 88,ag.box b3 [z1,v1,z5,z4,iV ((aQ r (⟨r.ae,r.af,7,0,0⟩:ak)).ae),iV (((aQ r (⟨r.ae,r.af,7,0,0⟩:ak)).af)+1)] 32,ag.box b2 (av p) 39,ag.box b1 [z1,v1,z5,z4,iV ((aQ r (⟨r.ae,r.af,7,0,0⟩:ak)).ae),iV (((aQ r (⟨r.ae,r.af,7,0,0⟩:ak)).af)+1)] 32,ag.held w own]) (fun _ hw=>hw.bH 0 _ O O) ?_
      refine R.mp (B':=[ag.row 62 (.slice (some ⟨b5,0,none⟩) 1 1) ([(⟨(aQ r (⟨r.ae,r.af,7,0,0⟩:ak)).af,kind,⟨#[]⟩⟩:ao)]:List ao),ag.box b4 [iV r.ae,iV r.af,iV 7,iV 0,iV 0] 88,ag.box b3 [z1,v1,z5,z4,iV ((aQ r (⟨r.ae,r.af,7,0,0⟩:ak)).ae),iV (((aQ r (⟨r.ae,r.af,7,0,0⟩:ak)).af)+1)] 32,ag.box b2 (av p) 39,ag.box b1 [z1,v1,z5,z4,iV ((aQ r (⟨r.ae,r.af,7,0,0⟩:ak)).ae),iV (((aQ r (⟨r.ae,r.af,7,0,0⟩:ak)).af)+1)] 32,ag.held w own]) (fun _ hw=>hw.bH 1 _ O O) ?_
      have hz:bT r p kind=((⟨(aQ r (⟨r.ae,r.af,7,0,0⟩:ak)).ai,(((aQ r (⟨r.ae,r.af,7,0,0⟩:ak)).Things)++([(⟨(aQ r (⟨r.ae,r.af,7,0,0⟩:ak)).af,kind,⟨#[]⟩⟩:ao)])),cw ((aQ r (⟨r.ae,r.af,7,0,0⟩:ak)).Held) p r.ae,(aQ r (⟨r.ae,r.af,7,0,0⟩:ak)).Notes,(aQ r (⟨r.ae,r.af,7,0,0⟩:ak)).ae,(((aQ r (⟨r.ae,r.af,7,0,0⟩:ak)).af)+1)⟩:ar),0):=by (unfold bT bz;rw [if_pos (by omega),if_pos fq,if_neg (by omega)];dsimp only;rw [if_pos (by omega)];(try rfl))
      rw [hz]
      exact R.w2 (z1,v1,z5,z4) [5] dj O Tryz.results38 (RV.cell 2 O O ap) (RV.tmp O) O O O (cD O O)
 ·
  refine R.q (q.neq O O (bne_iff_ne.2 (by omega))) O<|R.u 2 O<|?_
  by_cases h6:kind=2
  ·
   refine R.qg O (q.neq O O (bne_eq_false_iff_eq.2 (by omega))) O<|R.u 1 O<|R.nil ?_
   refine R.aF O O ?_
   refine R.reg O<|R.q (q.cj 2 O O ap) O<|R.q (q.cj 1 O O aS) O<|R.c (q.call yw O O (fun w hw=>(m8 _ _ _ _ (r) (p) w (hw.bq 0 O) (hw.bq 1 O) (hw.bq 2 O) (hw.bq 3 O) ‹_› ‹_›))) O<|R.u 1 O<|R.nil ?_
   refine R.reg O<|R.u 1 O<|?_
   by_cases h7:0<d9 r p
   ·
    refine R.q (q.gtr O O (decide_eq_true (by omega))) O<|R.nil ?_
    refine R.aE O O ?_
    refine R.reg O<|R.q (q.build (cs:=aG) cz O O) O<|R.u 1 O<|R.s O (s.st (us:=aG) (cs':=aG) 0 _ O O O O (.inl ap) O O O O) fun _=>R.u 1 O<|R.nil ?_
    refine R.mp (fun _ hw=>hw.aR (α:=ak)) ?_
    refine R.mp (fun _ hw=>hw.aR (α:=ao)) ?_
    refine R.mp (fun _ hw=>hw.aR (α:=Held)) ?_
    refine R.mp (fun _ hw=>hw.aR (α:=Note)) ?_
    have hz:bT r p kind=((⟨[],[],[],[],0,0⟩:ar),d9 r p):=by (unfold bT;(repeat' split) <;> first|rfl|(exfalso;omega)|(simp_all;done))
    rw [hz]
    exact R.w2 ((nS),(nS),(nS),(nS)) [3] dj O Tryz.results38 (RV.cell 0 O O ap) (RV.tmp O) O O O (cD O O)
   ·
    have fq:d9 r p=0:=by have:=eX r p;omega
    have fz:=ck (iL fq).1
    refine R.q (q.gtr O O (decide_eq_false (by omega))) O<|R.nil ?_
    refine R.aF O O ?_
    refine R.reg O<|R.q (q.aT (off':=1) O bM O) O<|R.q (q.ld 2 O O cq O) O<|R.q (q.len' (bJ 1 O) O Tryz.underlying28) O<|?_
    by_cases h8:r.Things.length=10
    ·
     refine R.q (q.eql O O (beq_iff_eq.2 (by omega))) O<|R.u 10 O<|R.nil ?_
     refine R.aE O O ?_
     refine R.reg O<|R.q (q.build (cs:=aG) cz O O) O<|R.s O (s.st (us:=aG) (cs':=aG) 0 _ O O O O (.inl ap) O O O O) fun _=>R.u 1 O<|R.nil ?_
     refine R.mp (fun _ hw=>hw.aR (α:=ak)) ?_
     refine R.mp (fun _ hw=>hw.aR (α:=ao)) ?_
     refine R.mp (fun _ hw=>hw.aR (α:=Held)) ?_
     refine R.mp (fun _ hw=>hw.aR (α:=Note)) ?_
     have hz:bT r p kind=((⟨[],[],[],[],0,0⟩:ar),9):=by (unfold bT;(repeat' split) <;> first|rfl|(exfalso;omega)|(simp_all;done))
     rw [hz]
     exact R.w2 ((nS),(nS),(nS),(nS)) [3] dj O Tryz.results38 (RV.cell 0 O O ap) (RV.tmp O) O O O (cD O O)
    ·
     refine R.q (q.eql O O (beq_eq_false_iff_ne.2 (by omega))) O<|R.u 1 O<|R.qg O (q.aT (off':=5) O cI O) O<|R.qg O (q.ld 2 O O aA O) O<|?_
     by_cases h9:999<r.af
     ·
      refine R.qg O (q.gtr O O (decide_eq_true (by omega))) O<|R.u 6 O<|R.nil ?_
      refine R.aE O O ?_
      refine R.reg O<|R.q (q.build (cs:=aG) cz O O) O<|R.s O (s.st (us:=aG) (cs':=aG) 0 _ O O O O (.inl ap) O O O O) fun _=>R.u 1 O<|R.nil ?_
      refine R.mp (fun _ hw=>hw.aR (α:=ak)) ?_
      refine R.mp (fun _ hw=>hw.aR (α:=ao)) ?_
      refine R.mp (fun _ hw=>hw.aR (α:=Held)) ?_
      refine R.mp (fun _ hw=>hw.aR (α:=Note)) ?_
      have hz:bT r p kind=((⟨[],[],[],[],0,0⟩:ar),9):=by (unfold bT;(repeat' split) <;> first|rfl|(exfalso;omega)|(simp_all;done))
      rw [hz]
      exact R.w2 ((nS),(nS),(nS),(nS)) [3] dj O Tryz.results38 (RV.cell 0 O O ap) (RV.tmp O) O O O (cD O O)
     ·
      refine R.qg O (q.gtr O O (decide_eq_false (by omega))) O<|R.u 2 O<|R.qg O (q.aT (off':=4) O bW O) O<|R.qg O (q.ld 2 O O aA O) O<|?_
      by_cases h10:999<r.ae
      ·
       refine R.qg O (q.gtr O O (decide_eq_true (by omega))) O<|R.u 1 O<|R.nil ?_
       refine R.aE O O ?_
       refine R.reg O<|R.q (q.build (cs:=aG) cz O O) O<|R.s O (s.st (us:=aG) (cs':=aG) 0 _ O O O O (.inl ap) O O O O) fun _=>R.u 1 O<|R.nil ?_
       refine R.mp (fun _ hw=>hw.aR (α:=ak)) ?_
       refine R.mp (fun _ hw=>hw.aR (α:=ao)) ?_
       refine R.mp (fun _ hw=>hw.aR (α:=Held)) ?_
       refine R.mp (fun _ hw=>hw.aR (α:=Note)) ?_
       have hz:bT r p kind=((⟨[],[],[],[],0,0⟩:ar),9):=by (unfold bT;(repeat' split) <;> first|rfl|(exfalso;omega)|(simp_all;done))
       rw [hz]
       exact R.w2 ((nS),(nS),(nS),(nS)) [3] dj O Tryz.results38 (RV.cell 0 O O ap) (RV.tmp O) O O O (cD O O)
      ·
       refine R.qg O (q.gtr O O (decide_eq_false (by omega))) O<|R.u 1 O<|R.nil ?_
       refine R.aF O O ?_
       refine R.reg O<|R.q (q.aT (off':=4) O bW O) O<|R.q (q.ld 2 O O aA O) O<|R.q (q.aT (off':=5) O cI O) O<|R.q (q.ld 2 O O aA O) O<|R.q (q.build (cs:=[iV r.ae,iV r.af,iV 7,iV 0,iV 0]) eK O O) O<|R.s O (s.alloc (cs:=cC) bF O O) fun b6=>R.s O (s.st (us:=[iV r.ae,iV r.af,iV 7,iV 0,iV 0]) (cs':=[iV r.ae,iV r.af,iV 7,iV 0,iV 0]) 0 _ O O O O (.inl aP) O O O O) fun _=>R.nil ?_
       refine R.reg O<|R.q (q.cj 3 O O ap) O<|R.q (q.cj 0 O O aP) O<|R.s (B':=(fun g_:Value×Value×Value×Value=>[ag.row 88 g_.1 ((aQ r (⟨r.ae,r.af,7,0,0⟩:ak))).ai,ag.row 62 g_.2.1 ((aQ r (⟨r.ae,r.af,7,0,0⟩:ak))).Things,ag.row 85 g_.2.2.1 ((aQ r (⟨r.ae,r.af,7,0,0⟩:ak))).Held,ag.row 72 g_.2.2.2 ((aQ r (⟨r.ae,r.af,7,0,0⟩:ak))).Notes,ag.box b6 [iV r.ae,iV r.af,iV 7,iV 0,iV 0] 88,ag.box b3 aG 32,ag.box b2 (av p) 39,ag.box b1 [aD,az,aB,aC,iV r.ae,iV r.af] 32,ag.held w own])) (F':=(fun g_=>[ag.ls aD r.ai,ag.ls az r.Things,ag.ls aB r.Held,ag.ls aC r.Notes])) O (s.bP (B0:=[]) (Br:=[ag.box b6 [iV r.ae,iV r.af,iV 7,iV 0,iV 0] 88,ag.box b3 aG 32,ag.box b2 (av p) 39,ag.box b1 [aD,az,aB,aC,iV r.ae,iV r.af] 32,ag.held w own]) (F0:=[ag.ls aD r.ai,ag.ls az r.Things,ag.ls aB r.Held,ag.ls aC r.Notes]) cZ bm (fun g_:Value×Value×Value×Value => .agg #[g_.1,g_.2.1,g_.2.2.1,g_.2.2.2,iV (((aQ r (⟨r.ae,r.af,7,0,0⟩:ak))).ae),iV (((aQ r (⟨r.ae,r.af,7,0,0⟩:ak))).af)]) (fun g_=>[ag.row 88 g_.1 ((aQ r (⟨r.ae,r.af,7,0,0⟩:ak))).ai,ag.row 62 g_.2.1 ((aQ r (⟨r.ae,r.af,7,0,0⟩:ak))).Things,ag.row 85 g_.2.2.1 ((aQ r (⟨r.ae,r.af,7,0,0⟩:ak))).Held,ag.row 72 g_.2.2.2 ((aQ r (⟨r.ae,r.af,7,0,0⟩:ak))).Notes]) (fun g_=>[]) O O O ve O O (fun w own hw H=>mK aD az aB aC (r) ((⟨r.ae,r.af,7,0,0⟩:ak)) w own H ‹_›) O) ?_
       rintro ⟨z6,z7,z8,z9⟩
       dsimp only
       refine R.s O (s.dy (us:=[z6,z7,z8,z9,iV ((aQ r (⟨r.ae,r.af,7,0,0⟩:ak)).ae),iV ((aQ r (⟨r.ae,r.af,7,0,0⟩:ak)).af)]) (cs':=[z6,z7,z8,z9,iV ((aQ r (⟨r.ae,r.af,7,0,0⟩:ak)).ae),iV ((aQ r (⟨r.ae,r.af,7,0,0⟩:ak)).af)]) 7 _ O O O (fun _ _=>rfl) (.inl ap) (fun w hw=>(ah (Sl.one (hw.row 0 O)) (ah (Sl.one (hw.row 1 O)) (ah (Sl.one (hw.row 2 O)) (ah (Sl.one (hw.row 3 O)) (ah O (ah O aL))))))) O O O) fun _=>R.nil ?_
       refine R.reg O<|R.q (q.aT (off':=1) O bM O) O<|R.q (q.ld 7 O O cq O) O<|R.q (q.aT (off':=5) O cI O) O<|R.q (q.ld 7 O O aA O) O<|R.u 1 O<|R.q (q.build (cs:=[iV ((aQ r (⟨r.ae,r.af,7,0,0⟩:ak)).af),iV kind,.string (⟨#[]⟩)]) u6 O O) O<|R.s O (s.bs (l:=([(⟨(aQ r (⟨r.ae,r.af,7,0,0⟩:ak)).af,kind,⟨#[]⟩⟩:ao)]:List ao)) ew fw O O O O O O O) fun b7=>R.s O (s.app (l2:=[(⟨(aQ r (⟨r.ae,r.af,7,0,0⟩:ak)).af,kind,⟨#[]⟩⟩:ao)]) 2 _ O O O (cJ 0 O) iP (by (simp [aQ];omega)) (by (simp [aQ];omega)) (fun _=>rfl) O) fun v2=>R.q (q.aT (off':=1) O bM O) O<|R.s O (s.dy (us:=[v2]) (cs':=[z6,v2,z8,z9,iV ((aQ r (⟨r.ae,r.af,7,0,0⟩:ak)).ae),iV ((aQ r (⟨r.ae,r.af,7,0,0⟩:ak)).af)]) 8 _ O O O (fun w hw=>Sl.cm (hw.row 2 O)) (.inr ⟨cq,rfl⟩) (fun w hw=>(ah (Sl.one (hw.row 2 O)) aL)) O O O) fun _=>R.nil ?_
       have J8:(aQ r (⟨r.ae,r.af,7,0,0⟩:ak)).af=r.af:=rfl
       refine R.reg O<|R.q (q.aT (off':=5) O cI O) O<|R.q (q.ld 8 O O aA O) O<|R.q (q.add (r:=((aQ r (⟨r.ae,r.af,7,0,0⟩:ak)).af)+1) O O (wr (by omega))) O<|R.q (q.aT (off':=5) O cI O) O<|R.s O (s.st (us:=[iV (((aQ r (⟨r.ae,r.af,7,0,0⟩:ak)).af)+1)]) (cs':=[z6,v2,z8,z9,iV ((aQ r (⟨r.ae,r.af,7,0,0⟩:ak)).ae),iV (((aQ r (⟨r.ae,r.af,7,0,0⟩:ak)).af)+1)]) 8 _ O O O O (.inr ⟨aA,rfl⟩) O O O O) fun _=>R.nil ?_
       refine R.reg O<|R.q (q.aT (off':=2) O bB O) O<|R.q (q.ld 8 O O bZ O) O<|R.q (q.cj 7 O O aS) O<|R.q (q.aT (off':=0) O bI O) O<|R.q (q.ld 5 O O aA O) O<|R.s (B':=(fun aN:Value=>[ag.row 85 aN (cw ((aQ r (⟨r.ae,r.af,7,0,0⟩:ak)).Held) p r.ae),ag.row 62 (.slice (some ⟨b7,0,none⟩) 1 1) ([(⟨(aQ r (⟨r.ae,r.af,7,0,0⟩:ak)).af,kind,⟨#[]⟩⟩:ao)]:List ao),ag.row 88 z6 (aQ r (⟨r.ae,r.af,7,0,0⟩:ak)).ai,ag.row 62 v2 ((((aQ r (⟨r.ae,r.af,7,0,0⟩:ak)).Things)++([(⟨(aQ r (⟨r.ae,r.af,7,0,0⟩:ak)).af,kind,⟨#[]⟩⟩:ao)])):List ao),ag.row 72 z9 (aQ r (⟨r.ae,r.af,7,0,0⟩:ak)).Notes,ag.box b6 [iV r.ae,iV r.af,iV 7,iV 0,iV 0] 88,ag.box b3 aG 32,ag.box b2 (av p) 39,ag.box b1 [z6,v2,z8,z9,iV ((aQ r (⟨r.ae,r.af,7,0,0⟩:ak)).ae),iV (((aQ r (⟨r.ae,r.af,7,0,0⟩:ak)).af)+1)] 32,ag.held w own])) (F':=(fun aN:Value=>[ag.ls z8 (aQ r (⟨r.ae,r.af,7,0,0⟩:ak)).Held,ag.ls aD r.ai,ag.ls az r.Things,ag.ls aB r.Held,ag.ls aC r.Notes])) O (s.pre (B2:=[ag.row 62 (.slice (some ⟨b7,0,none⟩) 1 1) ([(⟨(aQ r (⟨r.ae,r.af,7,0,0⟩:ak)).af,kind,⟨#[]⟩⟩:ao)]:List ao),ag.row 88 z6 (aQ r (⟨r.ae,r.af,7,0,0⟩:ak)).ai,ag.row 62 v2 ((((aQ r (⟨r.ae,r.af,7,0,0⟩:ak)).Things)++([(⟨(aQ r (⟨r.ae,r.af,7,0,0⟩:ak)).af,kind,⟨#[]⟩⟩:ao)])):List ao),ag.row 72 z9 (aQ r (⟨r.ae,r.af,7,0,0⟩:ak)).Notes,ag.box b6 [iV r.ae,iV r.af,iV 7,iV 0,iV 0] 88,ag.box b3 aG 32,ag.box b2 (av p) 39,ag.box b1 [z6,v2,z8,z9,iV ((aQ r (⟨r.ae,r.af,7,0,0⟩:ak)).ae),iV (((aQ r (⟨r.ae,r.af,7,0,0⟩:ak)).af)+1)] 32,ag.held w own]) (F2:=[ag.ls z8 (aQ r (⟨r.ae,r.af,7,0,0⟩:ak)).Held,ag.ls aD r.ai,ag.ls az r.Things,ag.ls aB r.Held,ag.ls aC r.Notes]) (fun _ hw=>hw.bH 3 _ O O) (s.bP (B0:=[]) (Br:=[ag.row 62 (.slice (some ⟨b7,0,none⟩) 1 1) ([(⟨(aQ r (⟨r.ae,r.af,7,0,0⟩:ak)).af,kind,⟨#[]⟩⟩:ao)]:List ao),ag.row 88 z6 (aQ r (⟨r.ae,r.af,7,0,0⟩:ak)).ai,ag.row 62 v2 ((((aQ r (⟨r.ae,r.af,7,0,0⟩:ak)).Things)++([(⟨(aQ r (⟨r.ae,r.af,7,0,0⟩:ak)).af,kind,⟨#[]⟩⟩:ao)])):List ao),ag.row 72 z9 (aQ r (⟨r.ae,r.af,7,0,0⟩:ak)).Notes,ag.box b6 [iV r.ae,iV r.af,iV 7,iV 0,iV 0] 88,ag.box b3 aG 32,ag.box b2 (av p) 39,ag.box b1 [z6,v2,z8,z9,iV ((aQ r (⟨r.ae,r.af,7,0,0⟩:ak)).ae),iV (((aQ r (⟨r.ae,r.af,7,0,0⟩:ak)).af)+1)] 32,ag.held w own]) (F0:=[ag.ls z8 (aQ r (⟨r.ae,r.af,7,0,0⟩:ak)).Held]) cU [0] (fun aN:Value=>aN) (fun aN:Value=>[ag.row 85 aN (cw ((aQ r (⟨r.ae,r.af,7,0,0⟩:ak)).Held) p r.ae)]) (fun aN:Value=>[]) O O O ra O O (fun w own hw H=>jX z8 ((aQ r (⟨r.ae,r.af,7,0,0⟩:ak)).Held) (p) (r.ae) w own H (by (dsimp only [aQ];omega)) (by exact hI.good)) O)) fun jZ=>R.q (q.aT (off':=2) O bB O) O<|R.s O (s.dy (us:=[jZ]) (cs':=[z6,v2,jZ,z9,iV ((aQ r (⟨r.ae,r.af,7,0,0⟩:ak)).ae),iV (((aQ r (⟨r.ae,r.af,7,0,0⟩:ak)).af)+1)]) 8 _ O O O (fun w hw=>Sl.cm (hw.row 0 O)) (.inr ⟨bZ,rfl⟩) (fun w hw=>(ah (Sl.one (hw.row 0 O)) aL)) O O O) fun _=>R.nil ?_
       refine R.reg O<|R.q (q.cj 8 O O ap) O<|R.s O (s.dy (us:=[z6,v2,jZ,z9,iV ((aQ r (⟨r.ae,r.af,7,0,0⟩:ak)).ae),iV (((aQ r (⟨r.ae,r.af,7,0,0⟩:ak)).af)+1)]) (cs':=[z6,v2,jZ,z9,iV ((aQ r (⟨r.ae,r.af,7,0,0⟩:ak)).ae),iV (((aQ r (⟨r.ae,r.af,7,0,0⟩:ak)).af)+1)]) 6 _ O O O (fun _ _=>rfl) (.inl ap) (fun w hw=>(ah (Sl.one (hw.row 2 O)) (ah (Sl.one (hw.row 3 O)) (ah (Sl.one (hw.row 0 O)) (ah (Sl.one (hw.row 4 O)) (ah O (ah O aL))))))) O O O) fun _=>R.u 1 O<|R.nil ?_
       refine R.mp (B':=[ag.row 85 jZ (cw ((aQ r (⟨r.ae,r.af,7,0,0⟩:ak)).Held) p r.ae),ag.row 62 (.slice (some ⟨b7,0,none⟩) 1 1) ([(⟨(aQ r (⟨r.ae,r.af,7,0,0⟩:ak)).af,kind,⟨#[]⟩⟩:ao)]:List ao),ag.row 62 v2 ((((aQ r (⟨r.ae,r.af,7,0,0⟩:ak)).Things)++([(⟨(aQ r (⟨r.ae,r.af,7,0,0⟩:ak)).af,kind,⟨#[]⟩⟩:ao)])):List ao),ag.row 72 z9 (aQ r (⟨r.ae,r.af,7,0,0⟩:ak)).Notes,ag.box b6 [iV r.ae,iV r.af,iV 7,iV 0,iV 0] 88,ag.box b3 [z6,v2,jZ,z9,iV ((aQ r (⟨r.ae,r.af,7,0,0⟩:ak)).ae),iV (((aQ r (⟨r.ae,r.af,7,0,0⟩:ak)).af)+1)] 32,ag.box b2 (av p) 39,ag.box b1 [z6,v2,jZ,z9,iV ((aQ r (⟨r.ae,r.af,7,0,0⟩:ak)).ae),iV (((aQ r (⟨r.ae,r.af,7,0,0⟩:ak)).af)+1)] 32,ag.held w own]) (fun _ hw=>hw.bH 2 _ O O) ?_
       refine R.mp (B':=[ag.row 85 jZ (cw ((aQ r (⟨r.ae,r.af,7,0,0⟩:ak)).Held) p r.ae),ag.row 62 (.slice (some ⟨b7,0,none⟩) 1 1) ([(⟨(aQ r (⟨r.ae,r.af,7,0,0⟩:ak)).af,kind,⟨#[]⟩⟩:ao)]:List ao),ag.row 72 z9 (aQ r (⟨r.ae,r.af,7,0,0⟩:ak)).Notes,ag.box b6 [iV r.ae,iV r.af,iV 7,iV 0,iV 0] 88,ag.box b3 [z6,v2,jZ,z9,iV ((aQ r (⟨r.ae,r.af,7,0,0⟩:ak)).ae),iV (((aQ r (⟨r.ae,r.af,7,0,0⟩:ak)).af)+1)] 32,ag.box b2 (av p) 39,ag.box b1 [z6,v2,jZ,z9,iV ((aQ r (⟨r.ae,r.af,7,0,0⟩:ak)).ae),iV (((aQ r (⟨r.ae,r.af,7,0,0⟩:ak)).af)+1)] 32,ag.held w own]) (fun _ hw=>hw.bH 2 _ O O) ?_
       refine R.mp (B':=[ag.row 62 (.slice (some ⟨b7,0,none⟩) 1 1) ([(⟨(aQ r (⟨r.ae,r.af,7,0,0⟩:ak)).af,kind,⟨#[]⟩⟩:ao)]:List ao),ag.row 72 z9 (aQ r (⟨r.ae,r.af,7,0,0⟩:ak)).Notes,ag.box b6 [iV r.ae,iV r.af,iV 7,iV 0,iV 0] 88,ag.box b3 [z6,v2,jZ,z9,iV ((aQ r (⟨r.ae,r.af,7,0,0⟩:ak)).ae),iV (((aQ r (⟨r.ae,r.af,7,0,0⟩:ak)).af)+1)] 32,ag.box b2 (av p) 39,ag.box b1 [z6,v2,jZ,z9,iV ((aQ r (⟨r.ae,r.af,7,0,0⟩:ak)).ae),iV (((aQ r (⟨r.ae,r.af,7,0,0⟩:ak)).af)+1)] 32,ag.held w own]) (fun _ hw=>hw.bH 0 _ O O) ?_
       refine R.mp (B':=[ag.row 62 (.slice (some ⟨b7,0,none⟩) 1 1) ([(⟨(aQ r (⟨r.ae,r.af,7,0,0⟩:ak)).af,kind,⟨#[]⟩⟩:ao)]:List ao),ag.box b6 [iV r.ae,iV r.af,iV 7,iV 0,iV 0] 88,ag.box b3 [z6,v2,jZ,z9,iV ((aQ r (⟨r.ae,r.af,7,0,0⟩:ak)).ae),iV (((aQ r (⟨r.ae,r.af,7,0,0⟩:ak)).af)+1)] 32,ag.box b2 (av p) 39,ag.box b1 [z6,v2,jZ,z9,iV ((aQ r (⟨r.ae,r.af,7,0,0⟩:ak)).ae),iV (((aQ r (⟨r.ae,r.af,7,0,0⟩:ak)).af)+1)] 32,ag.held w own]) (fun _ hw=>hw.bH 1 _ O O) ?_
       have hz:bT r p kind=((⟨(aQ r (⟨r.ae,r.af,7,0,0⟩:ak)).ai,(((aQ r (⟨r.ae,r.af,7,0,0⟩:ak)).Things)++([(⟨(aQ r (⟨r.ae,r.af,7,0,0⟩:ak)).af,kind,⟨#[]⟩⟩:ao)])),cw ((aQ r (⟨r.ae,r.af,7,0,0⟩:ak)).Held) p r.ae,(aQ r (⟨r.ae,r.af,7,0,0⟩:ak)).Notes,(aQ r (⟨r.ae,r.af,7,0,0⟩:ak)).ae,(((aQ r (⟨r.ae,r.af,7,0,0⟩:ak)).af)+1)⟩:ar),0):=by (unfold bT bz;rw [if_pos (by omega),if_pos fq,if_neg (by omega)];dsimp only;rw [if_pos (by omega)];(try rfl))
       rw [hz]
       exact R.w2 (z6,v2,jZ,z9) [5] dj O Tryz.results38 (RV.cell 2 O O ap) (RV.tmp O) O O O (cD O O)
  ·
   refine R.qg O (q.neq O O (bne_iff_ne.2 (by omega))) O<|R.u 1 O<|R.nil ?_
   refine R.aE O O ?_
   refine R.reg O<|R.q (q.build (cs:=aG) cz O O) O<|R.s O (s.st (us:=aG) (cs':=aG) 0 _ O O O O (.inl ap) O O O O) fun _=>R.u 1 O<|R.nil ?_
   refine R.mp (fun _ hw=>hw.aR (α:=ak)) ?_
   refine R.mp (fun _ hw=>hw.aR (α:=ao)) ?_
   refine R.mp (fun _ hw=>hw.aR (α:=Held)) ?_
   refine R.mp (fun _ hw=>hw.aR (α:=Note)) ?_
   have hz:bT r p kind=((⟨[],[],[],[],0,0⟩:ar),8):=by (unfold bT;(repeat' split) <;> first|rfl|(exfalso;omega)|(simp_all;done))
   rw [hz]
   exact R.w2 ((nS),(nS),(nS),(nS)) [3] dj O Tryz.results38 (RV.cell 0 O O ap) (RV.tmp O) O O O (cD O O)
theorem Aa (aD az aB aC:Value)(r:ar)(p:Place)(t:Place)(rights:Int)(aJ:Int)(w:World)(own:List Nat)(H:Wd w (blks []++own) ([]++[ag.held w own]) [ag.ls aD (r.ai:List ak),ag.ls az (r.Things:List ao),ag.ls aB (r.Held:List Held),ag.ls aC (r.Notes:List Note)] w)(hk:Ok r)(hI:Inv r):Calls Tryz.prog 39 #[.agg #[aD,az,aB,aC,iV r.ae,iV r.af],.agg #[iV p.aj,iV p.Slot],.agg #[iV t.aj,iV t.Slot],iV rights,iV aJ] w fun e w' => ∃z:Value×Value×Value×Value,e = .returned (.tuple #[.agg #[z.1,z.2.1,z.2.2.1,z.2.2.2,iV ((((cb r p t rights aJ)).1).ae),iV ((((cb r p t rights aJ)).1).af)],iV (((cb r p t rights aJ)).2)])∧Wd w (blks []++own) ([]++[ag.held w own]) [ag.ls z.1 ((((cb r p t rights aJ)).1).ai:List ak),ag.ls z.2.1 ((((cb r p t rights aJ)).1).Things:List ao),ag.ls z.2.2.1 ((((cb r p t rights aJ)).1).Held:List Held),ag.ls z.2.2.2 ((((cb r p t rights aJ)).1).Notes:List Note)] w':=by
 have cS:=H.ct 0 rfl
 have cy:=H.ct 1 rfl
 have dq:=H.ct 2 rfl
 have cT:=H.ct 3 rfl
 have bw:=hk.wl;have bt:=hk.tl;have bh:=hk.hl;have bn:=hk.nl;have rL:=hk.w0;have rM:=hk.w1;have rN:=hk.t0;have rO:=hk.t1
 have gn:=eC r p
 have dc:=f8 (au r p).1 r.ae rights aJ
 refine R.da (n:=72) (vs:=[.agg #[aD,az,aB,aC,iV r.ae,iV r.af],.agg #[iV p.aj,iV p.Slot],.agg #[iV t.aj,iV t.Slot],iV rights,iV aJ]) (B:=[ag.held w own]) [(0,.agg #[aD,az,aB,aC,iV r.ae,iV r.af]),(1,.agg #[iV p.aj,iV p.Slot]),(2,.agg #[iV t.aj,iV t.Slot]),(3,iV rights),(4,iV aJ)] Tryz.func39 O O O O H ?_
 refine R.reg O<|R.s O (s.box (cs:=[aD,az,aB,aC,iV r.ae,iV r.af]) O O O) fun b1=>R.s O (s.box (cs:=av p) O O O) fun b2=>R.s O (s.box (cs:=av t) O O O) fun b3=>R.s O (s.alloc (cs:=aG) cp O O) fun b4=>R.u 1 O<|R.nil ?_
 refine R.reg O<|R.q (q.cj 3 O O ap) O<|R.q (q.cj 2 O O aS) O<|R.c (q.call sV O O (fun w hw=>(k5 _ _ _ _ (r) (p) w (hw.bq 0 O) (hw.bq 1 O) (hw.bq 2 O) (hw.bq 3 O) ‹_› ‹_›))) O<|R.u 3 O<|R.s O (s.alloc (cs:=cC) bF O O) fun b5=>R.s O (s.st (us:=ay ((au r p).1)) (cs':=ay ((au r p).1)) 0 _ O O O O (.inl aP) O O O O) fun _=>R.u 1 O<|R.nil ?_
 refine R.reg O<|R.u 1 O<|?_
 by_cases h1:0<(au r p).2
 ·
  refine R.q (q.gtr O O (decide_eq_true (by omega))) O<|R.nil ?_
  refine R.aE O O ?_
  refine R.reg O<|R.q (q.build (cs:=aG) cz O O) O<|R.u 1 O<|R.s O (s.st (us:=aG) (cs':=aG) 1 _ O O O O (.inl ap) O O O O) fun _=>R.u 1 O<|R.nil ?_
  refine R.mp (fun _ hw=>hw.aR (α:=ak)) ?_
  refine R.mp (fun _ hw=>hw.aR (α:=ao)) ?_
  refine R.mp (fun _ hw=>hw.aR (α:=Held)) ?_
  refine R.mp (fun _ hw=>hw.aR (α:=Note)) ?_
  have hz:cb r p t rights aJ=((⟨[],[],[],[],0,0⟩:ar),(au r p).2):=by (unfold cb;rw [if_neg (by omega)];(try rfl))
  rw [hz]
  exact R.w2 ((nS),(nS),(nS),(nS)) [5] dj O Tryz.results39 (RV.cell 1 O O ap) (RV.tmp O) O O O (cD O O)
 ·
  have gz:(au r p).2=0:=by omega
  have gr:=hk.get gz
  refine R.q (q.gtr O O (decide_eq_false (by omega))) O<|R.nil ?_
  refine R.aF O O ?_
  refine R.reg O<|R.q (q.cj 4 O O ap) O<|R.q (q.cj 2 O O aS) O<|R.c (q.call yw O O (fun w hw=>(m8 _ _ _ _ (r) (t) w (hw.bq 0 O) (hw.bq 1 O) (hw.bq 2 O) (hw.bq 3 O) ‹_› ‹_›))) O<|R.u 1 O<|R.nil ?_
  refine R.reg O<|R.u 1 O<|?_
  by_cases h2:0<d9 r t
  ·
   refine R.q (q.gtr O O (decide_eq_true (by omega))) O<|R.nil ?_
   refine R.aE O O ?_
   refine R.reg O<|R.q (q.build (cs:=aG) cz O O) O<|R.u 1 O<|R.s O (s.st (us:=aG) (cs':=aG) 1 _ O O O O (.inl ap) O O O O) fun _=>R.u 1 O<|R.nil ?_
   refine R.mp (fun _ hw=>hw.aR (α:=ak)) ?_
   refine R.mp (fun _ hw=>hw.aR (α:=ao)) ?_
   refine R.mp (fun _ hw=>hw.aR (α:=Held)) ?_
   refine R.mp (fun _ hw=>hw.aR (α:=Note)) ?_
   have hz:cb r p t rights aJ=((⟨[],[],[],[],0,0⟩:ar),d9 r t):=by (unfold cb;rw [if_pos gz,if_neg (by have:=eX r t;omega)];(try rfl))
   rw [hz]
   exact R.w2 ((nS),(nS),(nS),(nS)) [5] dj O Tryz.results39 (RV.cell 1 O O ap) (RV.tmp O) O O O (cD O O)
  ·
   have fq:d9 r t=0:=by have:=eX r t;omega
   have fz:=ck (iL fq).1
   refine R.q (q.gtr O O (decide_eq_false (by omega))) O<|R.nil ?_
   refine R.aF O O ?_
   refine R.reg O<|R.q (q.aT (off':=0) O cF O) O<|R.q (q.ld 3 O O aA O) O<|R.q (q.aT (off':=0) O cF O) O<|R.q (q.ld 2 O O aA O) O<|?_
   by_cases h3:p.aj=t.aj
   ·
    refine R.q (q.neq O O (bne_eq_false_iff_eq.2 (by omega))) O<|R.u 5 O<|R.nil ?_
    refine R.aF O O ?_
    refine R.reg O<|R.q (q.aT (off':=4) O bW O) O<|R.q (q.ld 4 O O aA O) O<|?_
    by_cases h4:999<r.ae
    ·
     refine R.q (q.gtr O O (decide_eq_true (by omega))) O<|R.nil ?_
     refine R.aE O O ?_
     refine R.reg O<|R.q (q.build (cs:=aG) cz O O) O<|R.s O (s.st (us:=aG) (cs':=aG) 1 _ O O O O (.inl ap) O O O O) fun _=>R.u 1 O<|R.nil ?_
     refine R.mp (fun _ hw=>hw.aR (α:=ak)) ?_
     refine R.mp (fun _ hw=>hw.aR (α:=ao)) ?_
     refine R.mp (fun _ hw=>hw.aR (α:=Held)) ?_
     refine R.mp (fun _ hw=>hw.aR (α:=Note)) ?_
     have hz:cb r p t rights aJ=((⟨[],[],[],[],0,0⟩:ar),9):=by (unfold cb;rw [if_pos gz,if_pos fq,if_pos (by exact .inl ‹_›),if_pos (by omega)];(try rfl))
     rw [hz]
     exact R.w2 ((nS),(nS),(nS),(nS)) [5] dj O Tryz.results39 (RV.cell 1 O O ap) (RV.tmp O) O O O (cD O O)
    ·
     refine R.q (q.gtr O O (decide_eq_false (by omega))) O<|R.nil ?_
     refine R.aF O O ?_
     refine R.reg O<|R.q (q.cj 0 O O aP) O<|R.q (q.aT (off':=4) O bW O) O<|R.q (q.ld 4 O O aA O) O<|R.u 2 O<|R.c (q.call AJ O O (fun w hw=>(jJ (((au r p).1)) (r.ae) (rights) (aJ) w  (by omega)))) O<|R.u 3 O<|R.s O (s.alloc (cs:=cC) bF O O) fun b6=>R.s O (s.st (us:=ay ((derived ((au r p).1) r.ae rights aJ).1)) (cs':=ay ((derived ((au r p).1) r.ae rights aJ).1)) 0 _ O O O O (.inl aP) O O O O) fun _=>R.u 1 O<|R.nil ?_
     refine R.reg O<|R.u 1 O<|?_
     by_cases h5:0<(derived ((au r p).1) r.ae rights aJ).2
     ·
      refine R.q (q.gtr O O (decide_eq_true (by omega))) O<|R.nil ?_
      refine R.aE O O ?_
      refine R.reg O<|R.q (q.build (cs:=aG) cz O O) O<|R.u 1 O<|R.s O (s.st (us:=aG) (cs':=aG) 2 _ O O O O (.inl ap) O O O O) fun _=>R.u 1 O<|R.nil ?_
      refine R.mp (fun _ hw=>hw.aR (α:=ak)) ?_
      refine R.mp (fun _ hw=>hw.aR (α:=ao)) ?_
      refine R.mp (fun _ hw=>hw.aR (α:=Held)) ?_
      refine R.mp (fun _ hw=>hw.aR (α:=Note)) ?_
      have hz:cb r p t rights aJ=((⟨[],[],[],[],0,0⟩:ar),(derived ((au r p).1) r.ae rights aJ).2):=by (unfold cb;rw [if_pos gz,if_pos fq,if_pos (by exact .inl ‹_›),if_neg (by omega),if_neg (by omega)];(try rfl))
      rw [hz]
      exact R.w2 ((nS),(nS),(nS),(nS)) [6] dj O Tryz.results39 (RV.cell 2 O O ap) (RV.tmp O) O O O (cD O O)
     ·
      have dz:(derived (au r p).1 r.ae rights aJ).2=0:=by have:=f8 (au r p).1 r.ae rights aJ;omega
      have di:=(ju dz).2.2.2.2.2.1
      refine R.q (q.gtr O O (decide_eq_false (by omega))) O<|R.nil ?_
      refine R.aF O O ?_
      refine R.reg O<|R.q (q.cj 5 O O ap) O<|R.q (q.cj 0 O O aP) O<|R.s (B':=(fun g_:Value×Value×Value×Value=>[ag.row 88 g_.1 ((aQ r ((derived ((au r p).1) r.ae rights aJ).1))).ai,ag.row 62 g_.2.1 ((aQ r ((derived ((au r p).1) r.ae rights aJ).1))).Things,ag.row 85 g_.2.2.1 ((aQ r ((derived ((au r p).1) r.ae rights aJ).1))).Held,ag.row 72 g_.2.2.2 ((aQ r ((derived ((au r p).1) r.ae rights aJ).1))).Notes,ag.box b6 (ay ((derived ((au r p).1) r.ae rights aJ).1)) 88,ag.box b5 (ay ((au r p).1)) 88,ag.box b4 aG 32,ag.box b3 (av t) 39,ag.box b2 (av p) 39,ag.box b1 [aD,az,aB,aC,iV r.ae,iV r.af] 32,ag.held w own])) (F':=(fun g_=>[ag.ls aD r.ai,ag.ls az r.Things,ag.ls aB r.Held,ag.ls aC r.Notes])) O (s.bP (B0:=[]) (Br:=[ag.box b6 (ay ((derived ((au r p).1) r.ae rights aJ).1)) 88,ag.box b5 (ay ((au r p).1)) 88,ag.box b4 aG 32,ag.box b3 (av t) 39,ag.box b2 (av p) 39,ag.box b1 [aD,az,aB,aC,iV r.ae,iV r.af] 32,ag.held w own]) (F0:=[ag.ls aD r.ai,ag.ls az r.Things,ag.ls aB r.Held,ag.ls aC r.Notes]) gW bm (fun g_:Value×Value×Value×Value => .agg #[g_.1,g_.2.1,g_.2.2.1,g_.2.2.2,iV (((aQ r ((derived ((au r p).1) r.ae rights aJ).1))).ae),iV (((aQ r ((derived ((au r p).1) r.ae rights aJ).1))).af)]) (fun g_=>[ag.row 88 g_.1 ((aQ r ((derived ((au r p).1) r.ae rights aJ).1))).ai,ag.row 62 g_.2.1 ((aQ r ((derived ((au r p).1) r.ae rights aJ).1))).Things,ag.row 85 g_.2.2.1 ((aQ r ((derived ((au r p).1) r.ae rights aJ).1))).Held,ag.row 72 g_.2.2.2 ((aQ r ((derived ((au r p).1) r.ae rights aJ).1))).Notes]) (fun g_=>[]) O O O ve O O (fun w own hw H=>mK aD az aB aC (r) (((derived ((au r p).1) r.ae rights aJ).1)) w own H ‹_›) O) ?_
      rintro ⟨z1,z2,z3,z4⟩
      dsimp only
      refine R.s O (s.dy (us:=[z1,z2,z3,z4,iV ((aQ r ((derived ((au r p).1) r.ae rights aJ).1)).ae),iV ((aQ r ((derived ((au r p).1) r.ae rights aJ).1)).af)]) (cs':=[z1,z2,z3,z4,iV ((aQ r ((derived ((au r p).1) r.ae rights aJ).1)).ae),iV ((aQ r ((derived ((au r p).1) r.ae rights aJ).1)).af)]) 9 _ O O O (fun _ _=>rfl) (.inl ap) (fun w hw=>(ah (Sl.one (hw.row 0 O)) (ah (Sl.one (hw.row 1 O)) (ah (Sl.one (hw.row 2 O)) (ah (Sl.one (hw.row 3 O)) (ah O (ah O aL))))))) O O O) fun _=>R.nil ?_
      refine R.reg O<|R.q (q.aT (off':=2) O bB O) O<|R.q (q.ld 9 O O bZ O) O<|R.q (q.cj 7 O O aS) O<|R.q (q.aT (off':=0) O bI O) O<|R.q (q.ld 4 O O aA O) O<|R.s (B':=(fun aN:Value=>[ag.row 85 aN (cw ((aQ r ((derived ((au r p).1) r.ae rights aJ).1)).Held) t (((derived ((au r p).1) r.ae rights aJ).1).ID)),ag.row 88 z1 (aQ r ((derived ((au r p).1) r.ae rights aJ).1)).ai,ag.row 62 z2 (aQ r ((derived ((au r p).1) r.ae rights aJ).1)).Things,ag.row 72 z4 (aQ r ((derived ((au r p).1) r.ae rights aJ).1)).Notes,ag.box b6 (ay ((derived ((au r p).1) r.ae rights aJ).1)) 88,ag.box b5 (ay ((au r p).1)) 88,ag.box b4 aG 32,ag.box b3 (av t) 39,ag.box b2 (av p) 39,ag.box b1 [z1,z2,z3,z4,iV ((aQ r ((derived ((au r p).1) r.ae rights aJ).1)).ae),iV ((aQ r ((derived ((au r p).1) r.ae rights aJ).1)).af)] 32,ag.held w own])) (F':=(fun aN:Value=>[ag.ls z3 (aQ r ((derived ((au r p).1) r.ae rights aJ).1)).Held,ag.ls aD r.ai,ag.ls az r.Things,ag.ls aB r.Held,ag.ls aC r.Notes])) O (s.pre (B2:=[ag.row 88 z1 (aQ r ((derived ((au r p).1) r.ae rights aJ).1)).ai,ag.row 62 z2 (aQ r ((derived ((au r p).1) r.ae rights aJ).1)).Things,ag.row 72 z4 (aQ r ((derived ((au r p).1) r.ae rights aJ).1)).Notes,ag.box b6 (ay ((derived ((au r p).1) r.ae rights aJ).1)) 88,ag.box b5 (ay ((au r p).1)) 88,ag.box b4 aG 32,ag.box b3 (av t) 39,ag.box b2 (av p) 39,ag.box b1 [z1,z2,z3,z4,iV ((aQ r ((derived ((au r p).1) r.ae rights aJ).1)).ae),iV ((aQ r ((derived ((au r p).1) r.ae rights aJ).1)).af)] 32,ag.held w own]) (F2:=[ag.ls z3 (aQ r ((derived ((au r p).1) r.ae rights aJ).1)).Held,ag.ls aD r.ai,ag.ls az r.Things,ag.ls aB r.Held,ag.ls aC r.Notes]) (fun _ hw=>hw.bH 2 _ O O) (s.bP (B0:=[]) (Br:=[ag.row 88 z1 (aQ r ((derived ((au r p).1) r.ae rights aJ).1)).ai,ag.row 62 z2 (aQ r ((derived ((au r p).1) r.ae rights aJ).1)).Things,ag.row 72 z4 (aQ r ((derived ((au r p).1) r.ae rights aJ).1)).Notes,ag.box b6 (ay ((derived ((au r p).1) r.ae rights aJ).1)) 88,ag.box b5 (ay ((au r p).1)) 88,ag.box b4 aG 32,ag.box b3 (av t) 39,ag.box b2 (av p) 39,ag.box b1 [z1,z2,z3,z4,iV ((aQ r ((derived ((au r p).1) r.ae rights aJ).1)).ae),iV ((aQ r ((derived ((au r p).1) r.ae rights aJ).1)).af)] 32,ag.held w own]) (F0:=[ag.ls z3 (aQ r ((derived ((au r p).1) r.ae rights aJ).1)).Held]) xY [0] (fun aN:Value=>aN) (fun aN:Value=>[ag.row 85 aN (cw ((aQ r ((derived ((au r p).1) r.ae rights aJ).1)).Held) t (((derived ((au r p).1) r.ae rights aJ).1).ID))]) (fun aN:Value=>[]) O O O ra O O (fun w own hw H=>jX z3 ((aQ r ((derived ((au r p).1) r.ae rights aJ).1)).Held) (t) (((derived ((au r p).1) r.ae rights aJ).1).ID) w own H (by (dsimp only [aQ];omega)) (by exact hI.good)) O)) fun z5=>R.q (q.aT (off':=2) O bB O) O<|R.s O (s.dy (us:=[z5]) (cs':=[z1,z2,z5,z4,iV ((aQ r ((derived ((au r p).1) r.ae rights aJ).1)).ae),iV ((aQ r ((derived ((au r p).1) r.ae rights aJ).1)).af)]) 9 _ O O O (fun w hw=>Sl.cm (hw.row 0 O)) (.inr ⟨bZ,rfl⟩) (fun w hw=>(ah (Sl.one (hw.row 0 O)) aL)) O O O) fun _=>R.nil ?_
      refine R.reg O<|R.q (q.cj 9 O O ap) O<|R.s O (s.dy (us:=[z1,z2,z5,z4,iV ((aQ r ((derived ((au r p).1) r.ae rights aJ).1)).ae),iV ((aQ r ((derived ((au r p).1) r.ae rights aJ).1)).af)]) (cs':=[z1,z2,z5,z4,iV ((aQ r ((derived ((au r p).1) r.ae rights aJ).1)).ae),iV ((aQ r ((derived ((au r p).1) r.ae rights aJ).1)).af)]) 6 _ O O O (fun _ _=>rfl) (.inl ap) (fun w hw=>(ah (Sl.one (hw.row 1 O)) (ah (Sl.one (hw.row 2 O)) (ah (Sl.one (hw.row 0 O)) (ah (Sl.one (hw.row 3 O)) (ah O (ah O aL))))))) O O O) fun _=>R.u 1 O<|R.nil ?_
      refine R.mp (B':=[ag.row 85 z5 (cw ((aQ r ((derived ((au r p).1) r.ae rights aJ).1)).Held) t (((derived ((au r p).1) r.ae rights aJ).1).ID)),ag.row 62 z2 (aQ r ((derived ((au r p).1) r.ae rights aJ).1)).Things,ag.row 72 z4 (aQ r ((derived ((au r p).1) r.ae rights aJ).1)).Notes,ag.box b6 (ay ((derived ((au r p).1) r.ae rights aJ).1)) 88,ag.box b5 (ay ((au r p).1)) 88,ag.box b4 [z1,z2,z5,z4,iV ((aQ r ((derived ((au r p).1) r.ae rights aJ).1)).ae),iV ((aQ r ((derived ((au r p).1) r.ae rights aJ).1)).af)] 32,ag.box b3 (av t) 39,ag.box b2 (av p) 39,ag.box b1 [z1,z2,z5,z4,iV ((aQ r ((derived ((au r p).1) r.ae rights aJ).1)).ae),iV ((aQ r ((derived ((au r p).1) r.ae rights aJ).1)).af)] 32,ag.held w own]) (fun _ hw=>hw.bH 1 _ O O) ?_
      refine R.mp (B':=[ag.row 85 z5 (cw ((aQ r ((derived ((au r p).1) r.ae rights aJ).1)).Held) t (((derived ((au r p).1) r.ae rights aJ).1).ID)),ag.row 72 z4 (aQ r ((derived ((au r p).1) r.ae rights aJ).1)).Notes,ag.box b6 (ay ((derived ((au r p).1) r.ae rights aJ).1)) 88,ag.box b5 (ay ((au r p).1)) 88,ag.box b4 [z1,z2,z5,z4,iV ((aQ r ((derived ((au r p).1) r.ae rights aJ).1)).ae),iV ((aQ r ((derived ((au r p).1) r.ae rights aJ).1)).af)] 32,ag.box b3 (av t) 39,ag.box b2 (av p) 39,ag.box b1 [z1,z2,z5,z4,iV ((aQ r ((derived ((au r p).1) r.ae rights aJ).1)).ae),iV ((aQ r ((derived ((au r p).1) r.ae rights aJ).1)).af)] 32,ag.held w own]) (fun _ hw=>hw.bH 1 _ O O) ?_
      refine R.mp (B':=[ag.row 72 z4 (aQ r ((derived ((au r p).1) r.ae rights aJ).1)).Notes,ag.box b6 (ay ((derived ((au r p).1) r.ae rights aJ).1)) 88,ag.box b5 (ay ((au r p).1)) 88,ag.box b4 [z1,z2,z5,z4,iV ((aQ r ((derived ((au r p).1) r.ae rights aJ).1)).ae),iV ((aQ r ((derived ((au r p).1) r.ae rights aJ).1)).af)] 32,ag.box b3 (av t) 39,ag.box b2 (av p) 39,ag.box b1 [z1,z2,z5,z4,iV ((aQ r ((derived ((au r p).1) r.ae rights aJ).1)).ae),iV ((aQ r ((derived ((au r p).1) r.ae rights aJ).1)).af)] 32,ag.held w own]) (fun _ hw=>hw.bH 0 _ O O) ?_
      refine R.mp (B':=[ag.box b6 (ay ((derived ((au r p).1) r.ae rights aJ).1)) 88,ag.box b5 (ay ((au r p).1)) 88,ag.box b4 [z1,z2,z5,z4,iV ((aQ r ((derived ((au r p).1) r.ae rights aJ).1)).ae),iV ((aQ r ((derived ((au r p).1) r.ae rights aJ).1)).af)] 32,ag.box b3 (av t) 39,ag.box b2 (av p) 39,ag.box b1 [z1,z2,z5,z4,iV ((aQ r ((derived ((au r p).1) r.ae rights aJ).1)).ae),iV ((aQ r ((derived ((au r p).1) r.ae rights aJ).1)).af)] 32,ag.held w own]) (fun _ hw=>hw.bH 0 _ O O) ?_
      have hz:cb r p t rights aJ=((⟨(aQ r ((derived ((au r p).1) r.ae rights aJ).1)).ai,(aQ r ((derived ((au r p).1) r.ae rights aJ).1)).Things,cw ((aQ r ((derived ((au r p).1) r.ae rights aJ).1)).Held) t (((derived ((au r p).1) r.ae rights aJ).1).ID),(aQ r ((derived ((au r p).1) r.ae rights aJ).1)).Notes,(aQ r ((derived ((au r p).1) r.ae rights aJ).1)).ae,(aQ r ((derived ((au r p).1) r.ae rights aJ).1)).af⟩:ar),0):=by (unfold cb;rw [if_pos gz,if_pos fq,if_pos (by exact .inl ‹_›),if_neg (by omega),if_pos dz];unfold bz;rw [if_pos (by omega)];(try rfl))
      rw [hz]
      exact R.w2 (z1,z2,z5,z4) [6] dj O Tryz.results39 (RV.cell 2 O O ap) (RV.tmp O) O O O (cD O O)
   ·
    refine R.q (q.neq O O (bne_iff_ne.2 (by omega))) O<|R.u 1 O<|R.qg O (q.aT (off':=2) O fj O) O<|R.qg O (q.ld 0 O O aA O) O<|?_
    by_cases h6:((au r p).1).Rights<4
    ·
     refine R.qg O (q.lss O O (decide_eq_true (by omega))) O<|R.u 1 O<|R.nil ?_
     refine R.aE O O ?_
     refine R.reg O<|R.q (q.build (cs:=aG) cz O O) O<|R.s O (s.st (us:=aG) (cs':=aG) 1 _ O O O O (.inl ap) O O O O) fun _=>R.u 1 O<|R.nil ?_
     refine R.mp (fun _ hw=>hw.aR (α:=ak)) ?_
     refine R.mp (fun _ hw=>hw.aR (α:=ao)) ?_
     refine R.mp (fun _ hw=>hw.aR (α:=Held)) ?_
     refine R.mp (fun _ hw=>hw.aR (α:=Note)) ?_
     have hz:cb r p t rights aJ=((⟨[],[],[],[],0,0⟩:ar),7):=by (unfold cb;rw [if_pos gz,if_pos fq,if_neg (by rintro (hh|hh) <;> first|contradiction|(rw [yZ gr (by omega)] at hh;cases hh))];(try rfl))
     rw [hz]
     exact R.w2 ((nS),(nS),(nS),(nS)) [5] dj O Tryz.results39 (RV.cell 1 O O ap) (RV.tmp O) O O O (cD O O)
    ·
     refine R.qg O (q.lss O O (decide_eq_false (by omega))) O<|R.u 1 O<|R.nil ?_
     refine R.aF O O ?_
     refine R.reg O<|R.q (q.aT (off':=4) O bW O) O<|R.q (q.ld 4 O O aA O) O<|?_
     by_cases h7:999<r.ae
     ·
      refine R.q (q.gtr O O (decide_eq_true (by omega))) O<|R.nil ?_
      refine R.aE O O ?_
      refine R.reg O<|R.q (q.build (cs:=aG) cz O O) O<|R.s O (s.st (us:=aG) (cs':=aG) 1 _ O O O O (.inl ap) O O O O) fun _=>R.u 1 O<|R.nil ?_
      refine R.mp (fun _ hw=>hw.aR (α:=ak)) ?_
      refine R.mp (fun _ hw=>hw.aR (α:=ao)) ?_
      refine R.mp (fun _ hw=>hw.aR (α:=Held)) ?_
      refine R.mp (fun _ hw=>hw.aR (α:=Note)) ?_
      have hz:cb r p t rights aJ=((⟨[],[],[],[],0,0⟩:ar),9):=by (unfold cb;rw [if_pos gz,if_pos fq,if_pos (by exact .inr (jV gr (by omega))),if_pos (by omega)];(try rfl))
      rw [hz]
      exact R.w2 ((nS),(nS),(nS),(nS)) [5] dj O Tryz.results39 (RV.cell 1 O O ap) (RV.tmp O) O O O (cD O O)
     ·
      refine R.q (q.gtr O O (decide_eq_false (by omega))) O<|R.nil ?_
      refine R.aF O O ?_
      refine R.reg O<|R.q (q.cj 0 O O aP) O<|R.q (q.aT (off':=4) O bW O) O<|R.q (q.ld 4 O O aA O) O<|R.u 2 O<|R.c (q.call AJ O O (fun w hw=>(jJ (((au r p).1)) (r.ae) (rights) (aJ) w  (by omega)))) O<|R.u 3 O<|R.s O (s.alloc (cs:=cC) bF O O) fun b7=>R.s O (s.st (us:=ay ((derived ((au r p).1) r.ae rights aJ).1)) (cs':=ay ((derived ((au r p).1) r.ae rights aJ).1)) 0 _ O O O O (.inl aP) O O O O) fun _=>R.u 1 O<|R.nil ?_
      refine R.reg O<|R.u 1 O<|?_
      by_cases h8:0<(derived ((au r p).1) r.ae rights aJ).2
      ·
       refine R.q (q.gtr O O (decide_eq_true (by omega))) O<|R.nil ?_
       refine R.aE O O ?_
       refine R.reg O<|R.q (q.build (cs:=aG) cz O O) O<|R.u 1 O<|R.s O (s.st (us:=aG) (cs':=aG) 2 _ O O O O (.inl ap) O O O O) fun _=>R.u 1 O<|R.nil ?_
       refine R.mp (fun _ hw=>hw.aR (α:=ak)) ?_
       refine R.mp (fun _ hw=>hw.aR (α:=ao)) ?_
       refine R.mp (fun _ hw=>hw.aR (α:=Held)) ?_
       refine R.mp (fun _ hw=>hw.aR (α:=Note)) ?_
       have hz:cb r p t rights aJ=((⟨[],[],[],[],0,0⟩:ar),(derived ((au r p).1) r.ae rights aJ).2):=by (unfold cb;rw [if_pos gz,if_pos fq,if_pos (by exact .inr (jV gr (by omega))),if_neg (by omega),if_neg (by omega)];(try rfl))
       rw [hz]
       exact R.w2 ((nS),(nS),(nS),(nS)) [6] dj O Tryz.results39 (RV.cell 2 O O ap) (RV.tmp O) O O O (cD O O)
      ·
       have dz:(derived (au r p).1 r.ae rights aJ).2=0:=by have:=f8 (au r p).1 r.ae rights aJ;omega
       have di:=(ju dz).2.2.2.2.2.1
       refine R.q (q.gtr O O (decide_eq_false (by omega))) O<|R.nil ?_
       refine R.aF O O ?_
       refine R.reg O<|R.q (q.cj 5 O O ap) O<|R.q (q.cj 0 O O aP) O<|R.s (B':=(fun g_:Value×Value×Value×Value=>[ag.row 88 g_.1 ((aQ r ((derived ((au r p).1) r.ae rights aJ).1))).ai,ag.row 62 g_.2.1 ((aQ r ((derived ((au r p).1) r.ae rights aJ).1))).Things,ag.row 85 g_.2.2.1 ((aQ r ((derived ((au r p).1) r.ae rights aJ).1))).Held,ag.row 72 g_.2.2.2 ((aQ r ((derived ((au r p).1) r.ae rights aJ).1))).Notes,ag.box b7 (ay ((derived ((au r p).1) r.ae rights aJ).1)) 88,ag.box b5 (ay ((au r p).1)) 88,ag.box b4 aG 32,ag.box b3 (av t) 39,ag.box b2 (av p) 39,ag.box b1 [aD,az,aB,aC,iV r.ae,iV r.af] 32,ag.held w own])) (F':=(fun g_=>[ag.ls aD r.ai,ag.ls az r.Things,ag.ls aB r.Held,ag.ls aC r.Notes])) O (s.bP (B0:=[]) (Br:=[ag.box b7 (ay ((derived ((au r p).1) r.ae rights aJ).1)) 88,ag.box b5 (ay ((au r p).1)) 88,ag.box b4 aG 32,ag.box b3 (av t) 39,ag.box b2 (av p) 39,ag.box b1 [aD,az,aB,aC,iV r.ae,iV r.af] 32,ag.held w own]) (F0:=[ag.ls aD r.ai,ag.ls az r.Things,ag.ls aB r.Held,ag.ls aC r.Notes]) gW bm (fun g_:Value×Value×Value×Value => .agg #[g_.1,g_.2.1,g_.2.2.1,g_.2.2.2,iV (((aQ r ((derived ((au r p).1) r.ae rights aJ).1))).ae),iV (((aQ r ((derived ((au r p).1) r.ae rights aJ).1))).af)]) (fun g_=>[ag.row 88 g_.1 ((aQ r ((derived ((au r p).1) r.ae rights aJ).1))).ai,ag.row 62 g_.2.1 ((aQ r ((derived ((au r p).1) r.ae rights aJ).1))).Things,ag.row 85 g_.2.2.1 ((aQ r ((derived ((au r p).1) r.ae rights aJ).1))).Held,ag.row 72 g_.2.2.2 ((aQ r ((derived ((au r p).1) r.ae rights aJ).1))).Notes]) (fun g_=>[]) O O O ve O O (fun w own hw H=>mK aD az aB aC (r) (((derived ((au r p).1) r.ae rights aJ).1)) w own H ‹_›) O) ?_
       rintro ⟨z6,z7,z8,z9⟩
       dsimp only
       refine R.s O (s.dy (us:=[z6,z7,z8,z9,iV ((aQ r ((derived ((au r p).1) r.ae rights aJ).1)).ae),iV ((aQ r ((derived ((au r p).1) r.ae rights aJ).1)).af)]) (cs':=[z6,z7,z8,z9,iV ((aQ r ((derived ((au r p).1) r.ae rights aJ).1)).ae),iV ((aQ r ((derived ((au r p).1) r.ae rights aJ).1)).af)]) 9 _ O O O (fun _ _=>rfl) (.inl ap) (fun w hw=>(ah (Sl.one (hw.row 0 O)) (ah (Sl.one (hw.row 1 O)) (ah (Sl.one (hw.row 2 O)) (ah (Sl.one (hw.row 3 O)) (ah O (ah O aL))))))) O O O) fun _=>R.nil ?_
       refine R.reg O<|R.q (q.aT (off':=2) O bB O) O<|R.q (q.ld 9 O O bZ O) O<|R.q (q.cj 7 O O aS) O<|R.q (q.aT (off':=0) O bI O) O<|R.q (q.ld 4 O O aA O) O<|R.s (B':=(fun aN:Value=>[ag.row 85 aN (cw ((aQ r ((derived ((au r p).1) r.ae rights aJ).1)).Held) t (((derived ((au r p).1) r.ae rights aJ).1).ID)),ag.row 88 z6 (aQ r ((derived ((au r p).1) r.ae rights aJ).1)).ai,ag.row 62 z7 (aQ r ((derived ((au r p).1) r.ae rights aJ).1)).Things,ag.row 72 z9 (aQ r ((derived ((au r p).1) r.ae rights aJ).1)).Notes,ag.box b7 (ay ((derived ((au r p).1) r.ae rights aJ).1)) 88,ag.box b5 (ay ((au r p).1)) 88,ag.box b4 aG 32,ag.box b3 (av t) 39,ag.box b2 (av p) 39,ag.box b1 [z6,z7,z8,z9,iV ((aQ r ((derived ((au r p).1) r.ae rights aJ).1)).ae),iV ((aQ r ((derived ((au r p).1) r.ae rights aJ).1)).af)] 32,ag.held w own])) (F':=(fun aN:Value=>[ag.ls z8 (aQ r ((derived ((au r p).1) r.ae rights aJ).1)).Held,ag.ls aD r.ai,ag.ls az r.Things,ag.ls aB r.Held,ag.ls aC r.Notes])) O (s.pre (B2:=[ag.row 88 z6 (aQ r ((derived ((au r p).1) r.ae rights aJ).1)).ai,ag.row 62 z7 (aQ r ((derived ((au r p).1) r.ae rights aJ).1)).Things,ag.row 72 z9 (aQ r ((derived ((au r p).1) r.ae rights aJ).1)).Notes,ag.box b7 (ay ((derived ((au r p).1) r.ae rights aJ).1)) 88,ag.box b5 (ay ((au r p).1)) 88,ag.box b4 aG 32,ag.box b3 (av t) 39,ag.box b2 (av p) 39,ag.box b1 [z6,z7,z8,z9,iV ((aQ r ((derived ((au r p).1) r.ae rights aJ).1)).ae),iV ((aQ r ((derived ((au r p).1) r.ae rights aJ).1)).af)] 32,ag.held w own]) (F2:=[ag.ls z8 (aQ r ((derived ((au r p).1) r.ae rights aJ).1)).Held,ag.ls aD r.ai,ag.ls az r.Things,ag.ls aB r.Held,ag.ls aC r.Notes]) (fun _ hw=>hw.bH 2 _ O O) (s.bP (B0:=[]) (Br:=[ag.row 88 z6 (aQ r ((derived ((au r p).1) r.ae rights aJ).1)).ai,ag.row 62 z7 (aQ r ((derived ((au r p).1) r.ae rights aJ).1)).Things,ag.row 72 z9 (aQ r ((derived ((au r p).1) r.ae rights aJ).1)).Notes,ag.box b7 (ay ((derived ((au r p).1) r.ae rights aJ).1)) 88,ag.box b5 (ay ((au r p).1)) 88,ag.box b4 aG 32,ag.box b3 (av t) 39,ag.box b2 (av p) 39,ag.box b1 [z6,z7,z8,z9,iV ((aQ r ((derived ((au r p).1) r.ae rights aJ).1)).ae),iV ((aQ r ((derived ((au r p).1) r.ae rights aJ).1)).af)] 32,ag.held w own]) (F0:=[ag.ls z8 (aQ r ((derived ((au r p).1) r.ae rights aJ).1)).Held]) xY [0] (fun aN:Value=>aN) (fun aN:Value=>[ag.row 85 aN (cw ((aQ r ((derived ((au r p).1) r.ae rights aJ).1)).Held) t (((derived ((au r p).1) r.ae rights aJ).1).ID))]) (fun aN:Value=>[]) O O O ra O O (fun w own hw H=>jX z8 ((aQ r ((derived ((au r p).1) r.ae rights aJ).1)).Held) (t) (((derived ((au r p).1) r.ae rights aJ).1).ID) w own H (by (dsimp only [aQ];omega)) (by exact hI.good)) O)) fun jZ=>R.q (q.aT (off':=2) O bB O) O<|R.s O (s.dy (us:=[jZ]) (cs':=[z6,z7,jZ,z9,iV ((aQ r ((derived ((au r p).1) r.ae rights aJ).1)).ae),iV ((aQ r ((derived ((au r p).1) r.ae rights aJ).1)).af)]) 9 _ O O O (fun w hw=>Sl.cm (hw.row 0 O)) (.inr ⟨bZ,rfl⟩) (fun w hw=>(ah (Sl.one (hw.row 0 O)) aL)) O O O) fun _=>R.nil ?_
       refine R.reg O<|R.q (q.cj 9 O O ap) O<|R.s O (s.dy (us:=[z6,z7,jZ,z9,iV ((aQ r ((derived ((au r p).1) r.ae rights aJ).1)).ae),iV ((aQ r ((derived ((au r p).1) r.ae rights aJ).1)).af)]) (cs':=[z6,z7,jZ,z9,iV ((aQ r ((derived ((au r p).1) r.ae rights aJ).1)).ae),iV ((aQ r ((derived ((au r p).1) r.ae rights aJ).1)).af)]) 6 _ O O O (fun _ _=>rfl) (.inl ap) (fun w hw=>(ah (Sl.one (hw.row 1 O)) (ah (Sl.one (hw.row 2 O)) (ah (Sl.one (hw.row 0 O)) (ah (Sl.one (hw.row 3 O)) (ah O (ah O aL))))))) O O O) fun _=>R.u 1 O<|R.nil ?_
       refine R.mp (B':=[ag.row 85 jZ (cw ((aQ r ((derived ((au r p).1) r.ae rights aJ).1)).Held) t (((derived ((au r p).1) r.ae rights aJ).1).ID)),ag.row 62 z7 (aQ r ((derived ((au r p).1) r.ae rights aJ).1)).Things,ag.row 72 z9 (aQ r ((derived ((au r p).1) r.ae rights aJ).1)).Notes,ag.box b7 (ay ((derived ((au r p).1) r.ae rights aJ).1)) 88,ag.box b5 (ay ((au r p).1)) 88,ag.box b4 [z6,z7,jZ,z9,iV ((aQ r ((derived ((au r p).1) r.ae rights aJ).1)).ae),iV ((aQ r ((derived ((au r p).1) r.ae rights aJ).1)).af)] 32,ag.box b3 (av t) 39,ag.box b2 (av p) 39,ag.box b1 [z6,z7,jZ,z9,iV ((aQ r ((derived ((au r p).1) r.ae rights aJ).1)).ae),iV ((aQ r ((derived ((au r p).1) r.ae rights aJ).1)).af)] 32,ag.held w own]) (fun _ hw=>hw.bH 1 _ O O) ?_
       refine R.mp (B':=[ag.row 85 jZ (cw ((aQ r ((derived ((au r p).1) r.ae rights aJ).1)).Held) t (((derived ((au r p).1) r.ae rights aJ).1).ID)),ag.row 72 z9 (aQ r ((derived ((au r p).1) r.ae rights aJ).1)).Notes,ag.box b7 (ay ((derived ((au r p).1) r.ae rights aJ).1)) 88,ag.box b5 (ay ((au r p).1)) 88,ag.box b4 [z6,z7,jZ,z9,iV ((aQ r ((derived ((au r p).1) r.ae rights aJ).1)).ae),iV ((aQ r ((derived ((au r p).1) r.ae rights aJ).1)).af)] 32,ag.box b3 (av t) 39,ag.box b2 (av p) 39,ag.box b1 [z6,z7,jZ,z9,iV ((aQ r ((derived ((au r p).1) r.ae rights aJ).1)).ae),iV ((aQ r ((derived ((au r p).1) r.ae rights aJ).1)).af)] 32,ag.held w own]) (fun _ hw=>hw.bH 1 _ O O) ?_
       refine R.mp (B':=[ag.row 72 z9 (aQ r ((derived ((au r p).1) r.ae rights aJ).1)).Notes,ag.box b7 (ay ((derived ((au r p).1) r.ae rights aJ).1)) 88,ag.box b5 (ay ((au r p).1)) 88,ag.box b4 [z6,z7,jZ,z9,iV ((aQ r ((derived ((au r p).1) r.ae rights aJ).1)).ae),iV ((aQ r ((derived ((au r p).1) r.ae rights aJ).1)).af)] 32,ag.box b3 (av t) 39,ag.box b2 (av p) 39,ag.box b1 [z6,z7,jZ,z9,iV ((aQ r ((derived ((au r p).1) r.ae rights aJ).1)).ae),iV ((aQ r ((derived ((au r p).1) r.ae rights aJ).1)).af)] 32,ag.held w own]) (fun _ hw=>hw.bH 0 _ O O) ?_
       refine R.mp (B':=[ag.box b7 (ay ((derived ((au r p).1) r.ae rights aJ).1)) 88,ag.box b5 (ay ((au r p).1)) 88,ag.box b4 [z6,z7,jZ,z9,iV ((aQ r ((derived ((au r p).1) r.ae rights aJ).1)).ae),iV ((aQ r ((derived ((au r p).1) r.ae rights aJ).1)).af)] 32,ag.box b3 (av t) 39,ag.box b2 (av p) 39,ag.box b1 [z6,z7,jZ,z9,iV ((aQ r ((derived ((au r p).1) r.ae rights aJ).1)).ae),iV ((aQ r ((derived ((au r p).1) r.ae rights aJ).1)).af)] 32,ag.held w own]) (fun _ hw=>hw.bH 0 _ O O) ?_
       have hz:cb r p t rights aJ=((⟨(aQ r ((derived ((au r p).1) r.ae rights aJ).1)).ai,(aQ r ((derived ((au r p).1) r.ae rights aJ).1)).Things,cw ((aQ r ((derived ((au r p).1) r.ae rights aJ).1)).Held) t (((derived ((au r p).1) r.ae rights aJ).1).ID),(aQ r ((derived ((au r p).1) r.ae rights aJ).1)).Notes,(aQ r ((derived ((au r p).1) r.ae rights aJ).1)).ae,(aQ r ((derived ((au r p).1) r.ae rights aJ).1)).af⟩:ar),0):=by (unfold cb;rw [if_pos gz,if_pos fq,if_pos (by exact .inr (jV gr (by omega))),if_neg (by omega),if_pos dz];unfold bz;rw [if_pos (by omega)];(try rfl))
       rw [hz]
       exact R.w2 (z6,z7,jZ,z9) [6] dj O Tryz.results39 (RV.cell 2 O O ap) (RV.tmp O) O O O (cD O O)
theorem Ab (aD az aB aC:Value)(r:ar)(p:Place)(slot:Int)(w:World)(own:List Nat)(H:Wd w (blks []++own) ([]++[ag.held w own]) [ag.ls aD (r.ai:List ak),ag.ls az (r.Things:List ao),ag.ls aB (r.Held:List Held),ag.ls aC (r.Notes:List Note)] w)(hk:Ok r)(hI:Inv r):Calls Tryz.prog 40 #[.agg #[aD,az,aB,aC,iV r.ae,iV r.af],.agg #[iV p.aj,iV p.Slot],iV slot] w fun e w' => ∃z:Value×Value×Value×Value,e = .returned (.tuple #[.agg #[z.1,z.2.1,z.2.2.1,z.2.2.2,iV ((((cQ r p slot)).1).ae),iV ((((cQ r p slot)).1).af)],iV (((cQ r p slot)).2)])∧Wd w (blks []++own) ([]++[ag.held w own]) [ag.ls z.1 ((((cQ r p slot)).1).ai:List ak),ag.ls z.2.1 ((((cQ r p slot)).1).Things:List ao),ag.ls z.2.2.1 ((((cQ r p slot)).1).Held:List Held),ag.ls z.2.2.2 ((((cQ r p slot)).1).Notes:List Note)] w':=by
 have cS:=H.ct 0 rfl
 have cy:=H.ct 1 rfl
 have dq:=H.ct 2 rfl
 have cT:=H.ct 3 rfl
 have bw:=hk.wl;have bt:=hk.tl;have bh:=hk.hl;have bn:=hk.nl;have rL:=hk.w0;have rM:=hk.w1;have rN:=hk.t0;have rO:=hk.t1
 have gn:=eC r p
 have bp:=jD r.Held p 0
 refine R.da (n:=45) (vs:=[.agg #[aD,az,aB,aC,iV r.ae,iV r.af],.agg #[iV p.aj,iV p.Slot],iV slot]) (B:=[ag.held w own]) [(0,.agg #[aD,az,aB,aC,iV r.ae,iV r.af]),(1,.agg #[iV p.aj,iV p.Slot]),(2,iV slot)] Tryz.func40 O O O O H ?_
 refine R.reg O<|R.s O (s.box (cs:=[aD,az,aB,aC,iV r.ae,iV r.af]) O O O) fun b1=>R.s O (s.box (cs:=av p) O O O) fun b2=>R.s O (s.alloc (cs:=aG) cp O O) fun b3=>R.u 1 O<|R.nil ?_
 refine R.reg O<|R.q (q.cj 2 O O ap) O<|R.q (q.cj 1 O O aS) O<|R.c (q.call sV O O (fun w hw=>(k5 _ _ _ _ (r) (p) w (hw.bq 0 O) (hw.bq 1 O) (hw.bq 2 O) (hw.bq 3 O) ‹_› ‹_›))) O<|R.u 3 O<|R.s O (s.alloc (cs:=cC) bF O O) fun b4=>R.s O (s.st (us:=ay ((au r p).1)) (cs':=ay ((au r p).1)) 0 _ O O O O (.inl aP) O O O O) fun _=>R.u 1 O<|R.nil ?_
 refine R.reg O<|R.u 1 O<|?_
 by_cases h1:0<(au r p).2
 ·
  refine R.q (q.gtr O O (decide_eq_true (by omega))) O<|R.nil ?_
  refine R.aE O O ?_
  refine R.reg O<|R.q (q.build (cs:=aG) cz O O) O<|R.u 1 O<|R.s O (s.st (us:=aG) (cs':=aG) 1 _ O O O O (.inl ap) O O O O) fun _=>R.u 1 O<|R.nil ?_
  refine R.mp (fun _ hw=>hw.aR (α:=ak)) ?_
  refine R.mp (fun _ hw=>hw.aR (α:=ao)) ?_
  refine R.mp (fun _ hw=>hw.aR (α:=Held)) ?_
  refine R.mp (fun _ hw=>hw.aR (α:=Note)) ?_
  have hz:cQ r p slot=((⟨[],[],[],[],0,0⟩:ar),(au r p).2):=by (unfold cQ;rw [if_neg (by omega)];(try rfl))
  rw [hz]
  exact R.w2 ((nS),(nS),(nS),(nS)) [4] dj O Tryz.results40 (RV.cell 1 O O ap) (RV.tmp O) O O O (cD O O)
 ·
  have gz:(au r p).2=0:=by omega
  have gr:=hk.get gz;have gp:=jR (id:=0) hI.good (mU gz).1
  refine R.q (q.gtr O O (decide_eq_false (by omega))) O<|R.nil ?_
  refine R.aF O O ?_
  refine R.reg O<|R.q (q.aT (off':=0) O cF O) O<|R.q (q.ld 2 O O aA O) O<|R.u 1 O<|R.q (q.build (cs:=[iV p.aj,iV slot]) nu O O) O<|R.s O (s.alloc (cs:=[iV 0,iV 0]) me O O) fun b5=>R.s O (s.st (us:=[iV p.aj,iV slot]) (cs':=[iV p.aj,iV slot]) 0 _ O O O O (.inl aS) O O O O) fun _=>R.nil ?_
  refine R.reg O<|R.q (q.cj 4 O O ap) O<|R.q (q.cj 0 O O aS) O<|R.c (q.call yw O O (fun w hw=>(m8 _ _ _ _ (r) ((⟨p.aj,slot⟩:Place)) w (hw.bq 0 O) (hw.bq 1 O) (hw.bq 2 O) (hw.bq 3 O) ‹_› ‹_›))) O<|R.u 1 O<|R.nil ?_
  refine R.reg O<|R.u 1 O<|?_
  by_cases h2:0<d9 r (⟨p.aj,slot⟩:Place)
  ·
   refine R.q (q.gtr O O (decide_eq_true (by omega))) O<|R.nil ?_
   refine R.aE O O ?_
   refine R.reg O<|R.q (q.build (cs:=aG) cz O O) O<|R.u 1 O<|R.s O (s.st (us:=aG) (cs':=aG) 2 _ O O O O (.inl ap) O O O O) fun _=>R.u 1 O<|R.nil ?_
   refine R.mp (fun _ hw=>hw.aR (α:=ak)) ?_
   refine R.mp (fun _ hw=>hw.aR (α:=ao)) ?_
   refine R.mp (fun _ hw=>hw.aR (α:=Held)) ?_
   refine R.mp (fun _ hw=>hw.aR (α:=Note)) ?_
   have hz:cQ r p slot=((⟨[],[],[],[],0,0⟩:ar),d9 r (⟨p.aj,slot⟩:Place)):=by (unfold cQ;rw [if_pos gz,if_neg (by have:=eX r (⟨p.aj,slot⟩:Place);omega)];(try rfl))
   rw [hz]
   exact R.w2 ((nS),(nS),(nS),(nS)) [5] dj O Tryz.results40 (RV.cell 2 O O ap) (RV.tmp O) O O O (cD O O)
  ·
   have fq:d9 r (⟨p.aj,slot⟩:Place)=0:=by have:=eX r (⟨p.aj,slot⟩:Place);omega
   have fz:=ck (iL fq).1
   refine R.q (q.gtr O O (decide_eq_false (by omega))) O<|R.nil ?_
   refine R.aF O O ?_
   refine R.reg O<|R.q (q.cj 4 O O ap) O<|R.s (B':=(fun g_:Value×Value×Value×Value=>[ag.row 88 g_.1 (r).ai,ag.row 62 g_.2.1 (r).Things,ag.row 85 g_.2.2.1 (r).Held,ag.row 72 g_.2.2.2 (r).Notes,ag.box b5 [iV p.aj,iV slot] 39,ag.box b4 (ay ((au r p).1)) 88,ag.box b3 aG 32,ag.box b2 (av p) 39,ag.box b1 [aD,az,aB,aC,iV r.ae,iV r.af] 32,ag.held w own])) (F':=(fun g_=>[ag.ls aD r.ai,ag.ls az r.Things,ag.ls aB r.Held,ag.ls aC r.Notes])) O (s.bP (B0:=[]) (Br:=[ag.box b5 [iV p.aj,iV slot] 39,ag.box b4 (ay ((au r p).1)) 88,ag.box b3 aG 32,ag.box b2 (av p) 39,ag.box b1 [aD,az,aB,aC,iV r.ae,iV r.af] 32,ag.held w own]) (F0:=[ag.ls aD r.ai,ag.ls az r.Things,ag.ls aB r.Held,ag.ls aC r.Notes]) ia bm (fun g_:Value×Value×Value×Value => .agg #[g_.1,g_.2.1,g_.2.2.1,g_.2.2.2,iV ((r).ae),iV ((r).af)]) (fun g_=>[ag.row 88 g_.1 (r).ai,ag.row 62 g_.2.1 (r).Things,ag.row 85 g_.2.2.1 (r).Held,ag.row 72 g_.2.2.2 (r).Notes]) (fun g_=>[]) O O O vf O O (fun w own hw H=>k6 aD az aB aC (r) w own H ‹_›) O) ?_
   rintro ⟨z1,z2,z3,z4⟩
   dsimp only
   refine R.s O (s.dy (us:=[z1,z2,z3,z4,iV r.ae,iV r.af]) (cs':=[z1,z2,z3,z4,iV r.ae,iV r.af]) 8 _ O O O (fun _ _=>rfl) (.inl ap) (fun w hw=>(ah (Sl.one (hw.row 0 O)) (ah (Sl.one (hw.row 1 O)) (ah (Sl.one (hw.row 2 O)) (ah (Sl.one (hw.row 3 O)) (ah O (ah O aL))))))) O O O) fun _=>R.nil ?_
   refine R.e8 (fuel:=10) (Wd w (blks []++own) [ag.row 88 z1 r.ai,ag.row 62 z2 r.Things,ag.row 72 z4 r.Notes,ag.box b5 [iV p.aj,iV slot] 39,ag.box b4 (ay ((au r p).1)) 88,ag.box b3 aG 32,ag.box b2 (av p) 39,ag.held w own] [ag.ls aD r.ai,ag.ls az r.Things,ag.ls aB r.Held,ag.ls aC r.Notes]) O mixed O ?_
   refine D.q (i:=0) O (by kernel_rfl) (aK sI bm O O O) O (q.aT (off':=2) O bB O) O<|D.q (i:=2) O (by kernel_rfl) (aK sI bm O O O) O (q.cj 6 O O aS) O<|D.q (i:=4) O (by kernel_rfl) (aK sI bm O O O) O (q.cj 3 O O aS) O<|D.q (i:=5) O (by kernel_rfl) (aK sI bm O O O) O (q.aT (off':=0) O bI O) O<|D.q (i:=6) O (by kernel_rfl) (aK sI bm O O O) O (q.ld 4 O O aA O) O<|D.one (i:=1) (by kernel_rfl) O ?_
   refine Do.s (s.c (Qt.a (q.ld 8 O O bZ O)) O) (fun _=>(aK sI bm O O O)) O fun _=>D.one (i:=3) (by kernel_rfl) O ?_
   refine Do.s (B':=(fun aN:Value=>[ag.row 85 aN (cw r.Held p 0),ag.row 88 z1 r.ai,ag.row 62 z2 r.Things,ag.row 72 z4 r.Notes,ag.box b5 [iV p.aj,iV slot] 39,ag.box b4 (ay ((au r p).1)) 88,ag.box b3 aG 32,ag.box b2 (av p) 39,ag.box b1 [z1,z2,z3,z4,iV r.ae,iV r.af] 32,ag.held w own])) (F':=(fun aN:Value=>[ag.ls z3 r.Held,ag.ls aD r.ai,ag.ls az r.Things,ag.ls aB r.Held,ag.ls aC r.Notes])) (s.pre (B2:=[ag.row 88 z1 r.ai,ag.row 62 z2 r.Things,ag.row 72 z4 r.Notes,ag.box b5 [iV p.aj,iV slot] 39,ag.box b4 (ay ((au r p).1)) 88,ag.box b3 aG 32,ag.box b2 (av p) 39,ag.box b1 [z1,z2,z3,z4,iV r.ae,iV r.af] 32,ag.held w own]) (F2:=[ag.ls z3 r.Held,ag.ls aD r.ai,ag.ls az r.Things,ag.ls aB r.Held,ag.ls aC r.Notes]) (fun _ hw=>hw.bH 2 _ O O) (s.bP (B0:=[]) (Br:=[ag.row 88 z1 r.ai,ag.row 62 z2 r.Things,ag.row 72 z4 r.Notes,ag.box b5 [iV p.aj,iV slot] 39,ag.box b4 (ay ((au r p).1)) 88,ag.box b3 aG 32,ag.box b2 (av p) 39,ag.box b1 [z1,z2,z3,z4,iV r.ae,iV r.af] 32,ag.held w own]) (F0:=[ag.ls z3 r.Held]) cU [0] (fun aN:Value=>aN) (fun aN:Value=>[ag.row 85 aN (cw r.Held p 0)]) (fun aN:Value=>[]) O O O ra O O (fun w own hw H=>jX z3 (r.Held) (p) (0) w own H (by omega) (by exact hI.good)) O)) (fun _=>(aK xZ [1,2,3,4] O O O)) O fun z7=>D.one (i:=7) (by kernel_rfl) O ?_
   refine Do.s (B':=(fun aN:Value=>[ag.row 85 aN (cw (cw r.Held p 0) (⟨p.aj,slot⟩:Place) (((au r p).1).ID)),ag.row 88 z1 r.ai,ag.row 62 z2 r.Things,ag.row 72 z4 r.Notes,ag.box b5 [iV p.aj,iV slot] 39,ag.box b4 (ay ((au r p).1)) 88,ag.box b3 aG 32,ag.box b2 (av p) 39,ag.box b1 [z1,z2,z3,z4,iV r.ae,iV r.af] 32,ag.held w own])) (F':=(fun aN:Value=>[ag.ls z7 (cw r.Held p 0),ag.ls z3 r.Held,ag.ls aD r.ai,ag.ls az r.Things,ag.ls aB r.Held,ag.ls aC r.Notes])) (s.pre (B2:=[ag.row 88 z1 r.ai,ag.row 62 z2 r.Things,ag.row 72 z4 r.Notes,ag.box b5 [iV p.aj,iV slot] 39,ag.box b4 (ay ((au r p).1)) 88,ag.box b3 aG 32,ag.box b2 (av p) 39,ag.box b1 [z1,z2,z3,z4,iV r.ae,iV r.af] 32,ag.held w own]) (F2:=[ag.ls z7 (cw r.Held p 0),ag.ls z3 r.Held,ag.ls aD r.ai,ag.ls az r.Things,ag.ls aB r.Held,ag.ls aC r.Notes]) (fun _ hw=>hw.bH 0 _ O O) (s.bP (B0:=[]) (Br:=[ag.row 88 z1 r.ai,ag.row 62 z2 r.Things,ag.row 72 z4 r.Notes,ag.box b5 [iV p.aj,iV slot] 39,ag.box b4 (ay ((au r p).1)) 88,ag.box b3 aG 32,ag.box b2 (av p) 39,ag.box b1 [z1,z2,z3,z4,iV r.ae,iV r.af] 32,ag.held w own]) (F0:=[ag.ls z7 (cw r.Held p 0)]) cU [0] (fun aN:Value=>aN) (fun aN:Value=>[ag.row 85 aN (cw (cw r.Held p 0) (⟨p.aj,slot⟩:Place) (((au r p).1).ID))]) (fun aN:Value=>[]) O O O ra O O (fun w own hw H=>jX z7 (cw r.Held p 0) ((⟨p.aj,slot⟩:Place)) (((au r p).1).ID) w own H (by omega) ‹_›) O)) (fun _=>(aK xZ [2,3,4,5] O O O)) O fun z8=>D.q (i:=8) O (by kernel_rfl) (aK xZ [2,3,4,5] O O O) O (q.aT (off':=2) O bB O) O<|D.one (i:=9) (by kernel_rfl) O ?_
   refine Do.s (s.dy (us:=[z8]) (cs':=[z1,z2,z8,z4,iV r.ae,iV r.af]) 8 _ O O O (fun w hw=>Sl.cm (hw.row 0 O)) (.inr ⟨bZ,rfl⟩) (fun w hw=>(ah (Sl.one (hw.row 0 O)) aL)) O O O) (fun _=>(aK xZ [2,3,4,5] O O O)) O fun _=>D.done (by kernel_rfl)<|R.reg O<|R.q (q.cj 8 O O ap) O<|R.s O (s.dy (us:=[z1,z2,z8,z4,iV r.ae,iV r.af]) (cs':=[z1,z2,z8,z4,iV r.ae,iV r.af]) 6 _ O O O (fun _ _=>rfl) (.inl ap) (fun w hw=>(ah (Sl.one (hw.row 1 O)) (ah (Sl.one (hw.row 2 O)) (ah (Sl.one (hw.row 0 O)) (ah (Sl.one (hw.row 3 O)) (ah O (ah O aL))))))) O O O) fun _=>R.u 1 O<|R.nil ?_
   refine R.mp (B':=[ag.row 85 z8 (cw (cw r.Held p 0) (⟨p.aj,slot⟩:Place) (((au r p).1).ID)),ag.row 62 z2 r.Things,ag.row 72 z4 r.Notes,ag.box b5 [iV p.aj,iV slot] 39,ag.box b4 (ay ((au r p).1)) 88,ag.box b3 [z1,z2,z8,z4,iV r.ae,iV r.af] 32,ag.box b2 (av p) 39,ag.box b1 [z1,z2,z8,z4,iV r.ae,iV r.af] 32,ag.held w own]) (fun _ hw=>hw.bH 1 _ O O) ?_
   refine R.mp (B':=[ag.row 85 z8 (cw (cw r.Held p 0) (⟨p.aj,slot⟩:Place) (((au r p).1).ID)),ag.row 72 z4 r.Notes,ag.box b5 [iV p.aj,iV slot] 39,ag.box b4 (ay ((au r p).1)) 88,ag.box b3 [z1,z2,z8,z4,iV r.ae,iV r.af] 32,ag.box b2 (av p) 39,ag.box b1 [z1,z2,z8,z4,iV r.ae,iV r.af] 32,ag.held w own]) (fun _ hw=>hw.bH 1 _ O O) ?_
   refine R.mp (B':=[ag.row 72 z4 r.Notes,ag.box b5 [iV p.aj,iV slot] 39,ag.box b4 (ay ((au r p).1)) 88,ag.box b3 [z1,z2,z8,z4,iV r.ae,iV r.af] 32,ag.box b2 (av p) 39,ag.box b1 [z1,z2,z8,z4,iV r.ae,iV r.af] 32,ag.held w own]) (fun _ hw=>hw.bH 0 _ O O) ?_
   refine R.mp (B':=[ag.box b5 [iV p.aj,iV slot] 39,ag.box b4 (ay ((au r p).1)) 88,ag.box b3 [z1,z2,z8,z4,iV r.ae,iV r.af] 32,ag.box b2 (av p) 39,ag.box b1 [z1,z2,z8,z4,iV r.ae,iV r.af] 32,ag.held w own]) (fun _ hw=>hw.bH 0 _ O O) ?_
   have hz:cQ r p slot=((⟨r.ai,r.Things,cw (cw r.Held p 0) (⟨p.aj,slot⟩:Place) (((au r p).1).ID),r.Notes,r.ae,r.af⟩:ar),0):=by (unfold cQ;rw [if_pos gz,if_pos fq];(try rfl))
   rw [hz]
   exact R.w2 (z1,z2,z8,z4) [5] dj O Tryz.results40 (RV.cell 2 O O ap) (RV.tmp O) O O O (cD O O)
end Go.Proofs.YtbkfhjaibhnkmaaGreatDoor
