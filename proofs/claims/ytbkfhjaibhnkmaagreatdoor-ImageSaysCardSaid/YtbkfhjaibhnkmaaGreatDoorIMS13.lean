import Derived.Test.YtbkfhjaibhnkmaaGreatDoorIMS12
import Derived.Test.YtbkfhjaibhnkmaaGreatDoorIMS10
namespace Go.Proofs.YtbkfhjaibhnkmaaGreatDoor
open Go Go.RowKit
set_option linter.unusedVariables false
set_option linter.unusedSimpArgs false
set_option maxRecDepth 100000
theorem nz (bG:Value)(l:List Held)(w:World)(own:List Nat)(H:Wd w (blks []++own) ([]++[ag.held w own]) [ag.ls bG (l:List Held)] w)(hl:l.length≤1000000):Calls Tryz.prog 110 #[bG] w fun e w' => ∃z:Value,e = .returned (z)∧Wd w (blks []++own) ([ag.row 85 z (l:List Held)]++[ag.held w own]) [] w':=by
 have Ag:=H.ct 0 rfl
 refine R.da (n:=8) (vs:=[bG]) (B:=[ag.held w own]) [(0,bG)] Tryz.func110 O O O O H ?_
 refine R.reg O<|R.u 1 O<|R.nil ?_
 refine R.reg O<|R.u 1 O<|?_
 rcases Bool.eq_false_or_eq_true (oY bG) with h1|h1
 ·
  refine R.q (q.Eu (congrArg Value.bool h1) (q.pJ (bJ 0 O) O O Tryz.underlying29)) O<|R.nil ?_
  refine R.aE O O ?_
  refine R.reg O<|R.u 1 O<|R.nil ?_
  refine R.row0 (α:=Held) 85 ?_
  have hz:l=[]:=by (exact Sl.oY (H.bq 0 rfl) ‹_›)
  rw [hz]
  exact R.w1 (nS) [0,1] [] O Tryz.results110 (RV.tmp O) O O O O
 ·
  refine R.q (q.Eu (congrArg Value.bool h1) (q.pJ (bJ 0 O) O O Tryz.underlying29)) O<|R.nil ?_
  refine R.aF O O ?_
  refine R.reg O<|R.s O (s.bs (l:=([]:List Held)) bK dk O O O O O O O) fun b1=>R.u 1 O<|R.s O (s.app (l2:=l) 0 _ O O O (bJ 0 O) dZ (by simp;omega) (by simp;omega) (fun _=>rfl) O) fun v1=>R.u 1 O<|R.nil ?_
  have hz:l=(([])++l):=by (rfl)
  rw [hz]
  exact R.w1 v1 [0,1] [] O Tryz.results110 (RV.tmp O) O O O O
theorem rh (bG:Value)(l:List Held)(i:Nat)(j:Nat)(w:World)(own:List Nat)(H:Wd w (blks [ag.row 85 bG (l:List Held)]++own) ([ag.row 85 bG (l:List Held)]++[ag.held w own]) [] w)(hij:i≤j∧j≤l.length):Calls Tryz.prog 117 #[bG,iV (i:Int),iV (j:Int)] w fun e w' => ∃z:Value,e = .returned (z)∧Wd w (blks [ag.row 85 bG (l:List Held)]++own) ([ag.row 85 z ((l.take i++l.drop j):List Held)]++[ag.held w own]) [] w':=by
 have Bc:=H.cap 0 rfl;have Ag:=H.q8 0 rfl
 refine R.da (n:=33) (vs:=[bG,iV (i:Int),iV (j:Int)]) (B:=[ag.row 85 bG l,ag.held w own]) [(0,bG),(1,iV (i:Int)),(2,iV (j:Int))] Tryz.func117 O O O O H ?_
 refine R.reg O<|R.u 1 O<|R.nil ?_
 refine R.reg O<|R.u 4 O<|R.q (q.len' (cJ 0 O) O Tryz.underlying29) O<|R.q (q.GG (i:=i) (j:=j) (q':=l.length) (cJ 0 O) O O O O bK O O O (by omega) (by omega) (by omega)) O<|R.nil ?_
 refine R.reg O<|R.u 2 O<|?_
 by_cases h1:i=j
 ·
  refine R.q (q.eql O O (beq_iff_eq.2 (by omega))) O<|R.nil ?_
  refine R.aE O O ?_
  refine R.reg O<|R.u 2 O<|R.nil ?_
  have hz:l.take i++l.drop j=l:=by (exact vj (by omega))
  rw [hz]
  exact R.w1 bG [0,1] [] O Tryz.results117 (RV.tmp O) O O O O
 ·
  refine R.q (q.eql O O (beq_eq_false_iff_ne.2 (by omega))) O<|R.nil ?_
  refine R.aF O O ?_
  refine R.reg O<|R.u 1 O<|R.q (q.len' (cJ 0 O) O Tryz.underlying29) O<|R.u 1 O<|R.nil ?_
  refine R.e8 (fuel:=8) (Wd w (blks [ag.row 85 bG l]++own) [ag.held w own] []) O mixed O ?_
  refine D.q (i:=0) O (by kernel_rfl) (aK [1] [] O O O) O (q.mv O) O<|D.q (i:=1) O (by kernel_rfl) (aK [1] [] O O O) O (q.mv O) O<|D.q (i:=3) O (by kernel_rfl) (aK [1] [] O O O) O (q.mv O) O<|D.q (i:=4) O (by kernel_rfl) (aK [1] [] O O O) O (q.mv O) O<|D.two (i:=2) (j:=5) (by kernel_rfl) O O ?_ ?_
  ·
   refine Do.s (s.c (Qt.a (q.jj (i:=i) (cJ 0 O) O O Tryz.underlying29 qt O (by omega))) O) (fun _=>(aK [1] [] O O O)) O fun _=>D.one (i:=5) (by kernel_rfl) O ?_
   refine Do.s (s.c (Qt.a (q.eh (i:=j) (cJ 0 O) O O bK O (by omega))) O) (fun _=>(aK [1] [] O O O)) O fun _=>D.one (i:=6) (by kernel_rfl) O ?_
   refine Do.s (s.tM (a:=i) (l2:=(l.drop j)) 0 _ O O O (fun w hw=>Sl.from (hw.row 0 O) (by omega)) dZ (by omega) (by simp;omega) O O) (fun _=>(aK [1] [] O O O)) O fun _=>D.q (i:=7) O (by kernel_rfl) (aK [1] [] O O O) O (q.as O) O<|D.done (by kernel_rfl)<|R.reg O<|R.u 2 O<|R.q (q.len' (cJ 0 O) O Tryz.underlying29) O<|R.u 1 O<|R.q (q.sl2 (i:=(l.take i++(l.drop j)).length) (j:=l.length) (cJ 0 O) O O O bK O O (by (simp;omega)) (by (simp [je];omega))) O<|R.s O (s.yj (lo:=(l.take i++(l.drop j)).length) (hi:=l.length) (z0:=(⟨(⟨0,0⟩:Place),0⟩:Held)) 0 O O bK dk O (by omega) (by (simp;omega)) (by (simp [je];omega))) fun _=>R.nil ?_
   refine R.reg O<|R.u 2 O<|R.nil ?_
   have hz:l.take i++l.drop j=(l.take i++(l.drop j)):=by (rfl)
   rw [hz]
   exact R.w1 (jj bG (i+(l.drop j).length)) [0,1] [] O Tryz.results117 (RV.tmp O) O O O O
  ·
   refine Do.s (s.c (Qt.a (q.eh (i:=j) (cJ 0 O) O O bK O (by omega))) O) (fun _=>(aK [1] [] O O O)) O fun _=>D.one (i:=2) (by kernel_rfl) O ?_
   refine Do.s (s.c (Qt.a (q.jj (i:=i) (cJ 0 O) O O Tryz.underlying29 qt O (by omega))) O) (fun _=>(aK [1] [] O O O)) O fun _=>D.one (i:=6) (by kernel_rfl) O ?_
   refine Do.s (s.tM (a:=i) (l2:=(l.drop j)) 0 _ O O O (fun w hw=>Sl.from (hw.row 0 O) (by omega)) dZ (by omega) (by simp;omega) O O) (fun _=>(aK [1] [] O O O)) O fun _=>D.q (i:=7) O (by kernel_rfl) (aK [1] [] O O O) O (q.as O) O<|D.done (by kernel_rfl)<|R.reg O<|R.u 2 O<|R.q (q.len' (cJ 0 O) O Tryz.underlying29) O<|R.u 1 O<|R.q (q.sl2 (i:=(l.take i++(l.drop j)).length) (j:=l.length) (cJ 0 O) O O O bK O O (by (simp;omega)) (by (simp [je];omega))) O<|R.s O (s.yj (lo:=(l.take i++(l.drop j)).length) (hi:=l.length) (z0:=(⟨(⟨0,0⟩:Place),0⟩:Held)) 0 O O bK dk O (by omega) (by (simp;omega)) (by (simp [je];omega))) fun _=>R.nil ?_
   refine R.reg O<|R.u 2 O<|R.nil ?_
   have hz:l.take i++l.drop j=(l.take i++(l.drop j)):=by (rfl)
   rw [hz]
   exact R.w1 (jj bG (i+(l.drop j).length)) [0,1] [] O Tryz.results117 (RV.tmp O) O O O O
set_option maxRecDepth 100000 in
theorem rj (bG:Value)(l:List Held)(i:Nat)(Bd:Value)(u:List Held)(w:World)(own:List Nat)(H:Wd w (blks [ag.row 85 bG (l:List Held),ag.row 85 Bd (u:List Held)]++own) ([ag.row 85 bG (l:List Held),ag.row 85 Bd (u:List Held)]++[ag.held w own]) [] w)(hi:i≤l.length)(hu:u.length=1)(hl:l.length≤1000000):Calls Tryz.prog 118 #[bG,iV (i:Int),Bd] w fun e w' => ∃z:Value,e = .returned (z)∧Wd w (blks [ag.row 85 bG (l:List Held),ag.row 85 Bd (u:List Held)]++own) ([ag.row 85 z ((l.take i++u++l.drop i):List Held)]++[ag.held w own]) [] w':=by
 have Bc:=H.cap 0 rfl;have Ag:=H.q8 0 rfl
 have Kd:=H.cap 1 rfl;have Ke:=H.q8 1 rfl
 refine R.da (n:=95) (vs:=[bG,iV (i:Int),Bd]) (B:=[ag.row 85 bG l,ag.row 85 Bd u,ag.held w own]) [(0,bG),(1,iV (i:Int)),(2,Bd)] Tryz.func118 O O O O H ?_
 refine R.reg O<|R.u 1 O<|R.nil ?_
 refine R.reg O<|R.u 2 O<|R.q (q.eh (i:=i) (cJ 0 O) O O bK O (by omega)) O<|R.nil ?_
 refine R.reg O<|R.u 1 O<|R.q (q.len' (cJ 1 O) O Tryz.underlying29) O<|R.u 1 O<|R.nil ?_
 refine R.reg O<|R.u 1 O<|?_
 by_cases h1:u.length=0
 ·
  refine R.q (q.eql O O (beq_iff_eq.2 (by omega))) O<|R.nil ?_
  refine R.aE O O ?_
  refine R.reg O<|R.u 2 O<|R.nil ?_
  have hz:l.take i++u++l.drop i=l:=by ((exfalso;omega))
  rw [hz]
  exact R.w1 bG [0,2] [] O Tryz.results118 (RV.tmp O) O O O O
 ·
  refine R.q (q.eql O O (beq_eq_false_iff_ne.2 (by omega))) O<|R.nil ?_
  refine R.aF O O ?_
  refine R.reg O<|R.u 1 O<|R.q (q.len' (cJ 0 O) O Tryz.underlying29) O<|R.u 1 O<|R.nil ?_
  refine R.reg O<|R.u 2 O<|?_
  by_cases h2:i=l.length
  ·
   refine R.q (q.eql O O (beq_iff_eq.2 (by omega))) O<|R.nil ?_
   refine R.aE O O ?_
   refine R.reg O<|R.u 2 O<|R.s O (s.app (l2:=u) 0 _ O O O (cJ 1 O) dZ (by omega) (by omega) (fun _=>rfl) O) fun v1=>R.u 1 O<|R.nil ?_
   have hz:l.take i++u++l.drop i=(l++u):=by (exact Df (by omega))
   rw [hz]
   exact R.w1 v1 [0,2] [] O Tryz.results118 (RV.tmp O) O O O O
  ·
   refine R.q (q.eql O O (beq_eq_false_iff_ne.2 (by omega))) O<|R.nil ?_
   refine R.aF O O ?_
   refine R.reg O<|R.u 2 O<|R.q (q.add (r:=((l.length+u.length:Nat):Int)) O O (wr (by omega))) O<|R.u 1 O<|R.q (q.cap (cJ 0 O) O Tryz.underlying29) O<|?_
   by_cases h3:(jk bG)<(l.length+u.length)
   ·
    refine R.q (q.gtr O O (decide_eq_true (by omega))) O<|R.nil ?_
    refine R.aE O O ?_
    refine R.reg O<|R.u 2 O<|R.q (q.jj (i:=i) (cJ 0 O) O O Tryz.underlying29 qt O (by omega)) O<|R.u 2 O<|R.q (q.add (r:=((l.length+u.length:Nat):Int)) O O (wr (by omega))) O<|R.u 1 O<|R.q (q.sub (r:=(((l.length+u.length)-i:Nat):Int)) O O (wr (by omega))) O<|R.s O (s.C9 (o:=i) (m:=((l.length+u.length)-i)) (z0:=(⟨(⟨0,0⟩:Place),0⟩:Held)) 0 O O O O dZ Tryz.underlying3 dk O (by omega) (by omega) (by omega) (by omega) (by omega) O) fun v2=>R.u 1 O<|R.nil ?_
    refine R.reg O<|R.u 2 O<|R.q (q.eh (i:=i) (cJ 0 O) O O bK O (by (simp;omega))) O<|R.u 1 O<|R.s O (s.yi (o:=i) (l2:=u) 0 _ O (cJ 2 O) O O bK (by (simp;omega)) O O) fun _=>R.nil ?_
    refine R.e8 (fuel:=9) (Wd w (blks [ag.row 85 bG l,ag.row 85 Bd u]++own) [ag.row 85 bG l,ag.row 85 Bd u,ag.held w own] []) O mixed O ?_
    refine D.q (i:=0) O (by kernel_rfl) (aK [1,2,3] [] O O O) O (q.mv O) O<|D.q (i:=1) O (by kernel_rfl) (aK [1,2,3] [] O O O) O (q.mv O) O<|D.q (i:=2) O (by kernel_rfl) (aK [1,2,3] [] O O O) O (q.mv O) O<|D.q (i:=3) O (by kernel_rfl) (aK [1,2,3] [] O O O) O (q.add (r:=((i+u.length:Nat):Int)) O O (wr (by omega))) O<|D.q (i:=5) O (by kernel_rfl) (aK [1,2,3] [] O O O) O (q.mv O) O<|D.q (i:=6) O (by kernel_rfl) (aK [1,2,3] [] O O O) O (q.mv O) O<|D.q (i:=7) O (by kernel_rfl) (aK [1,2,3] [] O O O) O (q.eh (i:=i) (cJ 0 O) O O bK O (by omega)) O<|D.one (i:=4) (by kernel_rfl) O ?_
    refine Do.s (s.c (Qt.a (q.eh (i:=(i+u.length)) (cJ 0 O) O O bK O (by (simp;omega)))) O) (fun _=>(aK [1,2,3] [] O O O)) O fun _=>D.one (i:=8) (by kernel_rfl) O ?_
    refine Do.s (s.yi (o:=(i+u.length)) (l2:=(l.drop i)) 0 _ O (fun w hw=>Sl.from (hw.row 1 O) (by omega)) O O bK (by (simp;omega)) O O) (fun _=>(aK [1,2,3] [] O O O)) O fun _=>D.done (by kernel_rfl)<|R.reg O<|R.u 2 O<|R.nil ?_
    have hz:l.take i++u++l.drop i=(((l.take i++List.replicate ((l.length+u.length)-i) (⟨(⟨0,0⟩:Place),0⟩:Held)).take i++u++(l.take i++List.replicate ((l.length+u.length)-i) (⟨(⟨0,0⟩:Place),0⟩:Held)).drop (i+u.length)).take (i+u.length)++(l.drop i)++((l.take i++List.replicate ((l.length+u.length)-i) (⟨(⟨0,0⟩:Place),0⟩:Held)).take i++u++(l.take i++List.replicate ((l.length+u.length)-i) (⟨(⟨0,0⟩:Place),0⟩:Held)).drop (i+u.length)).drop ((i+u.length)+(l.drop i).length)):=by (exact AY hu (by omega) rfl)
    rw [hz]
    exact R.w1 v2 [0,3] [] O Tryz.results118 (RV.tmp O) O O O O
   ·
    refine R.q (q.gtr O O (decide_eq_false (by omega))) O<|R.nil ?_
    refine R.aF O O ?_
    refine R.reg O<|R.u 3 O<|R.q (q.add (r:=((l.length+u.length:Nat):Int)) O O (wr (by omega))) O<|R.q (q.Ix (i:=(l.length+u.length)) (cJ 0 O) O O bK O (by omega)) O<|R.u 1 O<|R.nil ?_
    refine R.reg O<|R.u 4 O<|R.q (q.add (r:=((i+u.length:Nat):Int)) O O (wr (by omega))) O<|R.q (q.qZ (i:=(i+u.length)) (cJ 0 O) O O bK O (by omega) (by omega)) O<|R.q (q.JB (i:=1) (j:=0) (tR:=4) Tryz.func156 O O (by kernel_rfl) (by kernel_rfl) bK O O (by decide) (by omega) (by omega) O O O O) O<|R.u 1 O<|R.nil ?_
    refine R.aE O O ?_
    refine R.e8 (fuel:=9) (Wd w (blks [ag.row 85 bG l,ag.row 85 Bd u]++own) [ag.row 85 Bd u,ag.held w own] []) O mixed O ?_
    refine D.q (i:=0) O (by kernel_rfl) (aK [1,2] [] O O O) O (q.mv O) O<|D.q (i:=1) O (by kernel_rfl) (aK [1,2] [] O O O) O (q.mv O) O<|D.q (i:=2) O (by kernel_rfl) (aK [1,2] [] O O O) O (q.mv O) O<|D.q (i:=3) O (by kernel_rfl) (aK [1,2] [] O O O) O (q.add (r:=((i+u.length:Nat):Int)) O O (wr (by omega))) O<|D.q (i:=5) O (by kernel_rfl) (aK [1,2] [] O O O) O (q.mv O) O<|D.q (i:=6) O (by kernel_rfl) (aK [1,2] [] O O O) O (q.mv O) O<|D.two (i:=4) (j:=7) (by kernel_rfl) O O ?_ ?_
    ·
     refine Do.s (s.c (Qt.a (q.qZ (i:=(i+u.length)) (cJ 0 O) O O bK O (by omega) (by omega))) O) (fun _=>(aK [1,2] [] O O O)) O fun _=>D.one (i:=7) (by kernel_rfl) O ?_
     refine Do.s (s.c (Qt.a (q.qZ (i:=i) (cJ 0 O) O O bK O (by omega) (by omega))) O) (fun _=>(aK [1,2] [] O O O)) O fun _=>D.one (i:=8) (by kernel_rfl) O ?_
     refine Do.s (s.Av (o:=i) 0 _ O (by omega) (by omega) (by omega) (by omega) O O bK O O) (fun _=>(aK [1,2] [] O O O)) O fun _=>D.done (by kernel_rfl)<|R.reg O<|R.u 2 O<|R.q (q.eh (i:=i) (cJ 0 O) O O bK O (by (simp;omega))) O<|R.u 1 O<|R.s O (s.yi (o:=i) (l2:=u) 0 _ O (cJ 1 O) O O bK (by (simp;omega)) O O) fun _=>R.nil ?_
     refine R.reg O<|R.u 2 O<|R.nil ?_
     have hz:l.take i++u++l.drop i=((l.take (i+1)++l.drop i).take i++u++(l.take (i+1)++l.drop i).drop (i+u.length)):=by (exact AZ hu (by omega))
     rw [hz]
     exact R.w1 (jj bG (l.length+u.length)) [0,2] [] O Tryz.results118 (RV.tmp O) O O O O
    ·
     refine Do.s (s.c (Qt.a (q.qZ (i:=i) (cJ 0 O) O O bK O (by omega) (by omega))) O) (fun _=>(aK [1,2] [] O O O)) O fun _=>D.one (i:=4) (by kernel_rfl) O ?_
     refine Do.s (s.c (Qt.a (q.qZ (i:=(i+u.length)) (cJ 0 O) O O bK O (by omega) (by omega))) O) (fun _=>(aK [1,2] [] O O O)) O fun _=>D.one (i:=8) (by kernel_rfl) O ?_
     refine Do.s (s.Av (o:=i) 0 _ O (by omega) (by omega) (by omega) (by omega) O O bK O O) (fun _=>(aK [1,2] [] O O O)) O fun _=>D.done (by kernel_rfl)<|R.reg O<|R.u 2 O<|R.q (q.eh (i:=i) (cJ 0 O) O O bK O (by (simp;omega))) O<|R.u 1 O<|R.s O (s.yi (o:=i) (l2:=u) 0 _ O (cJ 1 O) O O bK (by (simp;omega)) O O) fun _=>R.nil ?_
     refine R.reg O<|R.u 2 O<|R.nil ?_
     have hz:l.take i++u++l.drop i=((l.take (i+1)++l.drop i).take i++u++(l.take (i+1)++l.drop i).drop (i+u.length)):=by (exact AZ hu (by omega))
     rw [hz]
     exact R.w1 (jj bG (l.length+u.length)) [0,2] [] O Tryz.results118 (RV.tmp O) O O O O
theorem sZ (x:Int)(w:World)  : Calls Tryz.prog 177 #[iV x] w fun e w'=>e = .returned (.bool false)∧Ext w w':=by
 refine R.enter (n:=6) (vs:=[iV x]) [] [(0,iV x)] Tryz.func177 O O O O ?_
 refine R.reg O<|R.u 1 O<|R.nil ?_
 refine R.reg O<|R.u 2 O<|R.q (q.neq O O (bne_eq_false_iff_eq.2 (by omega))) O<|R.u 1 O<|R.nil ?_
 exact R.rv O Tryz.results177 O (rB (by (rfl)))
theorem pU (x:Int)(y:Int)(w:World)  : Calls Tryz.prog 179 #[iV x,iV y] w fun e w'=>e = .returned (iV (ng x y))∧Ext w w':=by
 refine R.enter (n:=20) (vs:=[iV x,iV y]) [] [(0,iV x),(1,iV y)] Tryz.func179 O O O O ?_
 refine R.reg O<|R.u 1 O<|R.nil ?_
 refine R.reg O<|R.u 1 O<|R.c (q.call AV O O (fun w hw=>(sZ (x) w  ))) O<|R.u 1 O<|R.nil ?_
 refine R.reg O<|R.u 1 O<|R.c (q.call AV O O (fun w hw=>(sZ (y) w  ))) O<|R.u 1 O<|R.nil ?_
 refine R.reg O<|R.u 1 O<|R.nil ?_
 refine R.aF O O ?_
 refine R.reg O<|R.u 1 O<|R.nil ?_
 refine R.aF O O ?_
 refine R.reg O<|R.u 2 O<|?_
 by_cases h1:x<y
 ·
  refine R.q (q.lss O O (decide_eq_true (by omega))) O<|R.nil ?_
  refine R.aE O O ?_
  refine R.reg O<|R.u 1 O<|R.nil ?_
  exact R.rv O Tryz.results179 O (rI (by (unfold ng;rw [if_pos (by omega)])))
 ·
  refine R.q (q.lss O O (decide_eq_false (by omega))) O<|R.nil ?_
  refine R.aF O O ?_
  refine R.reg O<|R.u 2 O<|?_
  by_cases h2:y<x
  ·
   refine R.q (q.gtr O O (decide_eq_true (by omega))) O<|R.nil ?_
   refine R.aE O O ?_
   refine R.reg O<|R.u 1 O<|R.nil ?_
   exact R.rv O Tryz.results179 O (rI (by (unfold ng;rw [if_neg (by omega),if_pos (by omega)])))
  ·
   refine R.q (q.gtr O O (decide_eq_false (by omega))) O<|R.nil ?_
   refine R.aF O O ?_
   refine R.reg O<|R.u 1 O<|R.nil ?_
   exact R.rv O Tryz.results179 O (rI (by (unfold ng;rw [if_neg (by omega),if_neg (by omega)])))
theorem zr (bG:Value)(l:List Int)(w:World)(df:Sl w bG l):Calls Tryz.prog 178 #[bG] w fun e w'=>e = .returned (iV (A9 l))∧Ext w w':=by
 have pV:=df.ec
 refine R.enter (n:=18) (vs:=[bG]) [] [(0,bG)] Tryz.func178 O O O O ?_
 refine R.reg O<|R.u 1 O<|R.nil ?_
 refine R.reg O<|R.u 1 O<|R.nil ?_
 refine R.reg O<|R.u 1 O<|R.q (q.len' (fun _=>Wd.old df) O Tryz.underlying60) O<|R.u 1 O<|R.nil ?_
 refine R.loop (fun k:Nat=>[(3,iV 0),(6,bG),(7,iV (l.length:Int)),(8,iV (k:Int))]) (fun k:Nat=>[]) (fun k:Nat=>[]) (fun k:Nat=>A9 l=A9 (l.drop k)) (fun k:Nat=>l.length-k) 0 O (by rfl) ⟨rfl,rfl,rfl,rfl,trivial⟩ (fun _=>Wd.pick [] [] O O O) ?_
 rintro k HA
 refine R.reg O<|?_
 by_cases h1:k<l.length
 ·
  refine R.q (q.lss O O (decide_eq_true (by omega))) O<|R.nil ?_
  refine R.aE O O ?_
  refine R.reg O<|?_
  obtain ⟨x1,hx1⟩:∃z,l[k]? = some z:=⟨_,List.getElem?_eq_getElem (by omega)⟩
  refine R.q (q.idx (i:=k) (fun _=>Wd.old df) O O dK O hx1) O<|R.q (q.fb (fun _=>Wd.old df) hx1 O aA O) O<|R.u 1 O<|R.nil ?_
  refine R.reg O<|R.u 2 O<|?_
  by_cases h2:x1=0
  ·
   refine R.q (q.neq O O (bne_eq_false_iff_eq.2 (by omega))) O<|R.nil ?_
   refine R.aF O O ?_
   refine R.reg O<|R.q (q.add (r:=((k+1:Nat):Int)) O O (wr (by omega))) O<|R.u 1 O<|R.nil ?_
   refine R.back (k+1) O (by (rw [HA];exact Ba hx1 (by omega))) (by omega) ⟨rfl,rfl,rfl,rfl,trivial⟩ (fun _=>Wd.pick [] [] O O O)
  ·
   refine R.q (q.neq O O (bne_iff_ne.2 (by omega))) O<|R.nil ?_
   refine R.aE O O ?_
   refine R.reg O<|R.u 2 O<|R.nil ?_
   exact R.rv O Tryz.results178 O (rI (by (rw [HA];exact (Di hx1 (by omega)).symm)))
 ·
  refine R.q (q.lss O O (decide_eq_false (by omega))) O<|R.nil ?_
  refine R.aF O O ?_
  refine R.reg O<|R.u 2 O<|R.nil ?_
  exact R.rv O Tryz.results178 O (rI (by (rw [HA,List.drop_of_length_le (by omega)];rfl)))
theorem ua (a:Place)(b:Place)(w:World)  : Calls Tryz.prog 155 #[.agg #[iV a.aj,iV a.Slot],.agg #[iV b.aj,iV b.Slot]] w fun e w'=>e = .returned (iV (nh a b))∧Ext w w':=by
 refine R.enter (n:=17) (vs:=[.agg #[iV a.aj,iV a.Slot],.agg #[iV b.aj,iV b.Slot]]) [] [(0,.agg #[iV a.aj,iV a.Slot]),(1,.agg #[iV b.aj,iV b.Slot])] Tryz.func155 O O O O ?_
 refine R.reg O<|R.s O (s.box (cs:=av a) O O O) fun b1=>R.s O (s.box (cs:=av b) O O O) fun b2=>R.u 1 O<|R.nil ?_
 refine R.e8 (fuel:=13) (Wd w [] [ag.box b2 (av b) 39,ag.box b1 (av a) 39] []) O mixed O ?_
 refine D.q (i:=0) O (by kernel_rfl) (aK [0,1] [] O O O) O (q.aT (off':=0) O cF O) O<|D.q (i:=1) O (by kernel_rfl) (aK [0,1] [] O O O) O (q.ld 1 O O aA O) O<|D.q (i:=2) O (by kernel_rfl) (aK [0,1] [] O O O) O (q.aT (off':=0) O cF O) O<|D.q (i:=3) O (by kernel_rfl) (aK [0,1] [] O O O) O (q.ld 0 O O aA O) O<|D.q (i:=5) O (by kernel_rfl) (aK [0,1] [] O O O) O (q.aT (off':=1) O ff O) O<|D.q (i:=6) O (by kernel_rfl) (aK [0,1] [] O O O) O (q.ld 1 O O aA O) O<|D.q (i:=7) O (by kernel_rfl) (aK [0,1] [] O O O) O (q.aT (off':=1) O ff O) O<|D.q (i:=8) O (by kernel_rfl) (aK [0,1] [] O O O) O (q.ld 0 O O aA O) O<|D.one (i:=4) (by kernel_rfl) O ?_
 refine Do.s (s.c (q.call AW O O (fun w hw=>(pU (a.aj) (b.aj) w  ))) O) (fun _=>(aK [0,1] [] O O O)) O fun _=>D.one (i:=9) (by kernel_rfl) O ?_
 refine Do.s (s.c (q.call AW O O (fun w hw=>(pU (a.Slot) (b.Slot) w  ))) O) (fun _=>(aK [0,1] [] O O O)) O fun _=>D.one (i:=10) (by kernel_rfl) O ?_
 refine Do.s (s.bs (l:=([ng a.aj b.aj,ng a.Slot b.Slot]:List Int)) dK iO O O O O O O O) (fun _=>(aK [1,2] [] O O O)) O fun b3=>D.one (i:=11) (by kernel_rfl) O ?_
 exact Do.s (s.c (q.call Fp rfl rfl (fun w hw=>(zr _ ([ng a.aj b.aj,ng a.Slot b.Slot]) w (hw.row 0 rfl) ))) rfl) (fun _=>(fun _=>Wd.uO [1,2] [] rfl rfl rfl)) rfl fun _=>D.q (i:=12) rfl (by kernel_rfl) (fun _=>Wd.uO [1,2] [] rfl rfl rfl) rfl (q.as rfl) rfl<|D.done (by kernel_rfl)<|R.rv rfl Tryz.results155 rfl (rI (by (exact Dj a b)))
theorem ub (h:Held)(pl:Place)(w:World)  : Calls Tryz.prog 154 #[.agg #[iV h.Place.aj,iV h.Place.Slot,iV h.ak],.agg #[iV pl.aj,iV pl.Slot]] w fun e w'=>e = .returned (iV (nh h.Place pl))∧Ext w w':=by
 refine R.enter (n:=9) (vs:=[.agg #[iV h.Place.aj,iV h.Place.Slot,iV h.ak],.agg #[iV pl.aj,iV pl.Slot]]) [] [(0,.agg #[iV h.Place.aj,iV h.Place.Slot,iV h.ak]),(1,.agg #[iV pl.aj,iV pl.Slot])] Tryz.func154 O O O O ?_
 refine R.reg O<|R.s O (s.box (cs:=dJ h) O O O) fun b1=>R.s O (s.box (cs:=av pl) O O O) fun b2=>R.u 1 O<|R.nil ?_
 refine R.reg O<|R.q (q.aT (off':=0) O gI O) O<|R.q (q.tK (ds:=av h.Place) 1 O O aS O) O<|R.q (q.cj 0 O O aS) O<|R.c (q.call Fo O O (fun w hw=>(ua (h.Place) (pl) w  ))) O<|R.u 1 O<|R.nil ?_
 exact R.rv O Tryz.results154 O (rI (by (rfl)))
theorem qi (bG:Value)(l:List Held)(t:Place)(c:Held→Place→Int)(wX:Nat)(Bf:List Value)(wY:∀args w,(callFunc wX args).run Tryz.prog w = .ok (.enter wX args) w)(w:World)(df:Sl w bG l)(Fq:∀W (x1:Held) (x2:Place),Ext w W→Calls Tryz.prog wX ([x1.val,x2.val]++Bf).toArray W fun e w'=>e = .returned (iV (c x1 x2))∧Ext W w')(hl:l.length≤1000000):Calls Tryz.prog 153 #[bG,.agg #[iV t.aj,iV t.Slot],.func (.func wX) #[] Bf.toArray] w fun e w'=>e = .returned (.tuple #[iV (mQ (fun x=>c x t) l:Int),.bool (mR (fun x=>c x t) l)])∧Ext w w':=by
 have pV:=df.ec
 refine R.enter (n:=49) (vs:=[bG,.agg #[iV t.aj,iV t.Slot],.func (.func wX) #[] Bf.toArray]) [] [(0,bG),(1,.agg #[iV t.aj,iV t.Slot]),(2,.func (.func wX) #[] Bf.toArray)] Tryz.func153 O O O O ?_
 refine R.reg O<|R.s O (s.box (cs:=av t) O O O) fun b1=>R.u 2 O<|R.nil ?_
 refine R.reg O<|R.u 1 O<|R.q (q.len' (fun _=>Wd.old df) O Tryz.underlying29) O<|R.u 1 O<|R.nil ?_
 refine R.reg O<|R.u 3 O<|R.nil ?_
 refine R.loop (fun g_:Nat×Nat=>[(0,bG),(2,.func (.func wX) #[] Bf.toArray),(4,.pointer (some ⟨b1,0,none⟩)),(8,iV (l.length:Int)),(9,iV (g_.1:Int)),(10,iV (g_.2:Int))]) (fun g_=>[ag.box b1 (av t) 39]) (fun g_=>[]) (fun g_=>g_.1≤g_.2∧g_.2≤l.length∧bsGo (fun x=>c x t) l g_.1 g_.2=mQ (fun x=>c x t) l) (fun g_=>g_.2-g_.1) (0,l.length) O (by exact ⟨Nat.zero_le _,Nat.le_refl _,rfl⟩) ⟨rfl,rfl,rfl,rfl,rfl,rfl,trivial⟩ (fun _=>Wd.pick [0] [] O O O) ?_
 rintro ⟨lo,hi⟩ ⟨IL,JH,HA⟩
 dsimp only at *
 refine R.reg O<|R.u 2 O<|?_
 by_cases h1:lo<hi
 ·
  refine R.q (q.lss O O (decide_eq_true (by omega))) O<|R.nil ?_
  refine R.aE O O ?_
  refine R.reg O<|R.u 2 O<|R.q (q.add (r:=((lo+hi:Nat):Int)) O O (wr (by omega))) O<|R.q (q.Em (r:=(((lo+hi):Nat):Int)) O (by rw [Tryz.underlying3];rfl) Tryz.underlying138 (Aw (by omega))) O<|R.q (q.shr (r:=((((lo+hi) / 2):Nat):Int)) O O (by decide) (GM (by decide))) O<|R.q (q.Em (r:=((((lo+hi) / 2):Nat):Int)) O (by rw [Tryz.underlying138];rfl) Tryz.underlying3 (wr (by omega))) O<|R.u 1 O<|R.nil ?_
  obtain ⟨x1,hx1⟩:∃z,l[((lo+hi) / 2)]? = some z:=⟨_,List.getElem?_eq_getElem (by omega)⟩
  by_cases h2:(c x1 t)<0
  ·
   refine R.dP O mixed (by kernel_rfl)<|Q.u 3 O<|Q.q (q.idx (i:=((lo+hi) / 2)) (fun _=>Wd.old df) O O bK O hx1) O<|Q.q (q.cY (ds:=dJ x1) (fun _=>Wd.old df) hx1 O dB O) O<|Q.q (q.cj 0 O O aS) O<|Q.c (q.call wY O O (fun w hw=>Fq w x1 t hw.ext)) O<|Q.q (q.lss O O (decide_eq_true (by omega))) O<|Q.nil ?_
   refine R.aE O O ?_
   refine R.reg O<|R.u 1 O<|R.q (q.add (r:=((((lo+hi) / 2)+1:Nat):Int)) O O (wr (by omega))) O<|R.u 1 O<|R.nil ?_
   refine R.back ((((lo+hi) / 2)+1),hi) O (by (exact ⟨by omega,by omega,(tZ (by omega) hx1 (by omega)).symm.trans HA⟩)) (by dsimp only;omega) ⟨rfl,rfl,rfl,rfl,rfl,rfl,trivial⟩ (fun _=>Wd.pick [0] [] O O O)
  ·
   refine R.dP O mixed (by kernel_rfl)<|Q.u 3 O<|Q.q (q.idx (i:=((lo+hi) / 2)) (fun _=>Wd.old df) O O bK O hx1) O<|Q.q (q.cY (ds:=dJ x1) (fun _=>Wd.old df) hx1 O dB O) O<|Q.q (q.cj 0 O O aS) O<|Q.c (q.call wY O O (fun w hw=>Fq w x1 t hw.ext)) O<|Q.q (q.lss O O (decide_eq_false (by omega))) O<|Q.nil ?_
   refine R.aF O O ?_
   refine R.reg O<|R.u 2 O<|R.nil ?_
   refine R.back (lo,((lo+hi) / 2)) O (by (exact ⟨by omega,by omega,(t6 (by omega) hx1 (by omega)).symm.trans HA⟩)) (by dsimp only;omega) ⟨rfl,rfl,rfl,rfl,rfl,rfl,trivial⟩ (fun _=>Wd.pick [0] [] O O O)
 ·
  refine R.q (q.lss O O (decide_eq_false (by omega))) O<|R.nil ?_
  refine R.aF O O ?_
  by_cases h3:lo<l.length
  ·
   obtain ⟨x2,hx2⟩:∃z,l[lo]? = some z:=⟨_,List.getElem?_eq_getElem (by omega)⟩
   by_cases h4:(c x2 t)=0
   ·
    refine R.dP O mixed (by kernel_rfl)<|Q.u 3 O<|Q.q (q.lss O O (decide_eq_true (by omega))) O<|Q.u 4 O<|Q.qg O (q.idx (i:=lo) (fun _=>Wd.old df) O O bK O hx2) O<|Q.qg O (q.cY (ds:=dJ x2) (fun _=>Wd.old df) hx2 O dB O) O<|Q.qg O (q.cj 0 O O aS) O<|Q.cg O (q.call wY O O (fun w hw=>Fq w x2 t hw.ext)) O<|Q.qg O (q.eql O O (beq_iff_eq.2 (by omega))) O<|Q.u 3 O<|Q.nil ?_
    exact R.E1 O Tryz.results153 O O (rI (by (exact congrArg (fun n:Nat=>(n:Int)) ((fM (by omega)).symm.trans HA)))) (rB (by (have e:=(fM (by omega)).symm.trans HA;unfold mR;rw [← e];(rw [hx2];exact (decide_eq_true ‹_›).symm))))
   ·
    refine R.dP O mixed (by kernel_rfl)<|Q.u 3 O<|Q.q (q.lss O O (decide_eq_true (by omega))) O<|Q.u 4 O<|Q.qg O (q.idx (i:=lo) (fun _=>Wd.old df) O O bK O hx2) O<|Q.qg O (q.cY (ds:=dJ x2) (fun _=>Wd.old df) hx2 O dB O) O<|Q.qg O (q.cj 0 O O aS) O<|Q.cg O (q.call wY O O (fun w hw=>Fq w x2 t hw.ext)) O<|Q.qg O (q.eql O O (beq_eq_false_iff_ne.2 (by omega))) O<|Q.u 3 O<|Q.nil ?_
    exact R.E1 O Tryz.results153 O O (rI (by (exact congrArg (fun n:Nat=>(n:Int)) ((fM (by omega)).symm.trans HA)))) (rB (by (have e:=(fM (by omega)).symm.trans HA;unfold mR;rw [← e];(rw [hx2];exact (decide_eq_false ‹_›).symm))))
  ·
   refine R.dP O mixed (by kernel_rfl)<|Q.u 3 O<|Q.q (q.lss O O (decide_eq_false (by omega))) O<|Q.u 12 O<|Q.nil ?_
   exact R.E1 O Tryz.results153 O O (rI (by (exact congrArg (fun n:Nat=>(n:Int)) ((fM (by omega)).symm.trans HA)))) (rB (by (have e:=(fM (by omega)).symm.trans HA;unfold mR;rw [← e];(rw [List.getElem?_eq_none (by omega)]))))
theorem iR (bG:Value)(l:List Held)(pl:Place)(w:World)(df:Sl w bG l)(hl:l.length≤1000000):Calls Tryz.prog 116 #[bG,.agg #[iV pl.aj,iV pl.Slot]] w fun e w'=>e = .returned (.tuple #[iV (eH l pl:Int),.bool (zp l pl)])∧Ext w w':=by
 have pV:=df.ec
 refine R.enter (n:=11) (vs:=[bG,.agg #[iV pl.aj,iV pl.Slot]]) [] [(0,bG),(1,.agg #[iV pl.aj,iV pl.Slot])] Tryz.func116 O O O O ?_
 refine R.reg O<|R.s O (s.box (cs:=av pl) O O O) fun b1=>R.u 2 O<|R.nil ?_
 refine R.reg O<|R.u 1 O<|R.q (q.cj 0 O O aS) O<|R.c (q.call Fi O O (fun w hw=>(qi _ (l) (pl) (fun (h:Held) (pl:Place)=>nh h.Place pl) _ _ Fj w ((fun _=>Wd.old df) w hw) (fun W h pl hW=>ub h pl  W  ) (by omega)))) O<|R.u 4 O<|R.nil ?_
 exact R.E1 O Tryz.results116 O O (rI (by (rfl))) (rB (by (rfl)))
theorem ic (p:Place)(w:World)  : Calls Tryz.prog 99 #[.agg #[iV p.aj,iV p.Slot]] w fun e w'=>e = .returned (fc (bu p))∧Ext w w':=by
 refine R.enter (n:=22) (vs:=[.agg #[iV p.aj,iV p.Slot]]) [] [(0,.agg #[iV p.aj,iV p.Slot])] Tryz.func99 O O O O ?_
 refine R.reg O<|R.s O (s.box (cs:=av p) O O O) fun b1=>R.u 1 O<|R.nil ?_
 refine R.reg O<|R.q (q.aT (off':=0) O cF O) O<|R.q (q.ld 0 O O aA O) O<|?_
 by_cases h1:p.aj<1
 ·
  refine R.q (q.lss O O (decide_eq_true (by omega))) O<|R.u 15 O<|R.nil ?_
  refine R.aE O O ?_
  refine R.reg O<|R.q (q.iface O cL) O<|R.u 1 O<|R.nil ?_
  exact R.rv O Tryz.results99 O (eP (by decide) (by (exact eL (by omega))))
 ·
  refine R.q (q.lss O O (decide_eq_false (by omega))) O<|R.u 1 O<|R.qg O (q.aT (off':=0) O cF O) O<|R.qg O (q.ld 0 O O aA O) O<|?_
  by_cases h2:4<p.aj
  ·
   refine R.qg O (q.gtr O O (decide_eq_true (by omega))) O<|R.u 11 O<|R.nil ?_
   refine R.aE O O ?_
   refine R.reg O<|R.q (q.iface O cL) O<|R.u 1 O<|R.nil ?_
   exact R.rv O Tryz.results99 O (eP (by decide) (by (exact eL (by omega))))
  ·
   refine R.qg O (q.gtr O O (decide_eq_false (by omega))) O<|R.u 2 O<|R.qg O (q.aT (off':=1) O ff O) O<|R.qg O (q.ld 0 O O aA O) O<|?_
   by_cases h3:p.Slot<0
   ·
    refine R.qg O (q.lss O O (decide_eq_true (by omega))) O<|R.u 6 O<|R.nil ?_
    refine R.aE O O ?_
    refine R.reg O<|R.q (q.iface O cL) O<|R.u 1 O<|R.nil ?_
    exact R.rv O Tryz.results99 O (eP (by decide) (by (exact eL (by omega))))
   ·
    refine R.qg O (q.lss O O (decide_eq_false (by omega))) O<|R.u 2 O<|R.qg O (q.aT (off':=1) O ff O) O<|R.qg O (q.ld 0 O O aA O) O<|?_
    by_cases h4:5<p.Slot
    ·
     refine R.qg O (q.gtr O O (decide_eq_true (by omega))) O<|R.u 1 O<|R.nil ?_
     refine R.aE O O ?_
     refine R.reg O<|R.q (q.iface O cL) O<|R.u 1 O<|R.nil ?_
     exact R.rv O Tryz.results99 O (eP (by decide) (by (exact eL (by omega))))
    ·
     refine R.qg O (q.gtr O O (decide_eq_false (by omega))) O<|R.u 1 O<|R.nil ?_
     refine R.aF O O ?_
     refine R.reg O<|R.u 1 O<|R.nil ?_
     exact R.rv O Tryz.results99 O (i6 (by (exact nx (by omega))))
theorem j5 (p:Place)(w:World)  : Calls Tryz.prog 67 #[.agg #[iV p.aj,iV p.Slot]] w fun e w'=>e = .returned (iV (bu p))∧Ext w w':=by
 refine R.enter (n:=21) (vs:=[.agg #[iV p.aj,iV p.Slot]]) [] [(0,.agg #[iV p.aj,iV p.Slot])] Tryz.func67 O O O O ?_
 refine R.reg O<|R.s O (s.box (cs:=av p) O O O) fun b1=>R.u 1 O<|R.nil ?_
 refine R.reg O<|R.q (q.aT (off':=0) O cF O) O<|R.q (q.ld 0 O O aA O) O<|?_
 by_cases h1:p.aj<1
 ·
  refine R.q (q.lss O O (decide_eq_true (by omega))) O<|R.u 15 O<|R.nil ?_
  refine R.aE O O ?_
  refine R.reg O<|R.u 1 O<|R.nil ?_
  exact R.rv O Tryz.results67 O (rI (by (exact (eL (by omega)).symm)))
 ·
  refine R.q (q.lss O O (decide_eq_false (by omega))) O<|R.u 1 O<|R.qg O (q.aT (off':=0) O cF O) O<|R.qg O (q.ld 0 O O aA O) O<|?_
  by_cases h2:4<p.aj
  ·
   refine R.qg O (q.gtr O O (decide_eq_true (by omega))) O<|R.u 11 O<|R.nil ?_
   refine R.aE O O ?_
   refine R.reg O<|R.u 1 O<|R.nil ?_
   exact R.rv O Tryz.results67 O (rI (by (exact (eL (by omega)).symm)))
  ·
   refine R.qg O (q.gtr O O (decide_eq_false (by omega))) O<|R.u 2 O<|R.qg O (q.aT (off':=1) O ff O) O<|R.qg O (q.ld 0 O O aA O) O<|?_
   by_cases h3:p.Slot<0
   ·
    refine R.qg O (q.lss O O (decide_eq_true (by omega))) O<|R.u 6 O<|R.nil ?_
    refine R.aE O O ?_
    refine R.reg O<|R.u 1 O<|R.nil ?_
    exact R.rv O Tryz.results67 O (rI (by (exact (eL (by omega)).symm)))
   ·
    refine R.qg O (q.lss O O (decide_eq_false (by omega))) O<|R.u 2 O<|R.qg O (q.aT (off':=1) O ff O) O<|R.qg O (q.ld 0 O O aA O) O<|?_
    by_cases h4:5<p.Slot
    ·
     refine R.qg O (q.gtr O O (decide_eq_true (by omega))) O<|R.u 1 O<|R.nil ?_
     refine R.aE O O ?_
     refine R.reg O<|R.u 1 O<|R.nil ?_
     exact R.rv O Tryz.results67 O (rI (by (exact (eL (by omega)).symm)))
    ·
     refine R.qg O (q.gtr O O (decide_eq_false (by omega))) O<|R.u 1 O<|R.nil ?_
     refine R.aF O O ?_
     refine R.reg O<|R.u 1 O<|R.nil ?_
     exact R.rv O Tryz.results67 O (rI (by (exact (nx (by omega)).symm)))
theorem j6 (bG:Value)(l:List Held)(p:Place)(w:World)(df:Sl w bG l)(hl:l.length≤1000000):Calls Tryz.prog 106 #[bG,.agg #[iV p.aj,iV p.Slot]] w fun e w'=>e = .returned (iV (jY l p))∧Ext w w':=by
 have pV:=df.ec
 refine R.enter (n:=20) (vs:=[bG,.agg #[iV p.aj,iV p.Slot]]) [] [(0,bG),(1,.agg #[iV p.aj,iV p.Slot])] Tryz.func106 O O O O ?_
 refine R.reg O<|R.s O (s.box (cs:=av p) O O O) fun b1=>R.u 1 O<|R.nil ?_
 refine R.reg O<|R.u 1 O<|R.q (q.cj 0 O O aS) O<|?_
 have JI:=qu l p
 rcases o5 l p with eU|⟨jE,hZ,eU,oT,uc⟩
 ·
  refine R.c (q.call tV O O (fun w hw=>(cv (congrArg (fun b=>Value.tuple #[iV ((eH l p:Nat):Int),.bool b]) eU) (iR _ (l) (p) w ((fun _=>Wd.old df) w hw) (by omega))))) O<|R.u 5 O<|R.nil ?_
  refine R.reg O<|R.u 2 O<|R.nil ?_
  refine R.aE O O ?_
  refine R.reg O<|R.u 1 O<|R.nil ?_
  exact R.rv O Tryz.results106 O (rI (by (exact (Bb eU).symm)))
 ·
  refine R.c (q.call tV O O (fun w hw=>(cv (congrArg (fun b=>Value.tuple #[iV ((eH l p:Nat):Int),.bool b]) eU) (iR _ (l) (p) w ((fun _=>Wd.old df) w hw) (by omega))))) O<|R.u 5 O<|R.nil ?_
  refine R.reg O<|R.u 2 O<|R.nil ?_
  refine R.aF O O ?_
  refine R.reg O<|R.u 2 O<|R.q (q.idx (i:=(eH l p)) (fun _=>Wd.old df) O O bK O hZ) O<|R.q (q.dF (j':=2) (fun _=>Wd.old df) hZ O fL O) O<|R.q (q.fb (fun _=>Wd.old df) hZ O aA O) O<|R.u 1 O<|R.nil ?_
  exact R.rv O Tryz.results106 O (rI (by (exact (yy eU hZ).symm)))
theorem mS (bG:Value)(l:List Held)(p:Place)(id:Int)(w:World)(own:List Nat)(H:Wd w (blks []++own) ([]++[ag.held w own]) [ag.ls bG (l:List Held)] w)(hl:l.length≤100000):Calls Tryz.prog 74 #[bG,.agg #[iV p.aj,iV p.Slot],iV id] w fun e w' => ∃z:Value,e = .returned (z)∧Wd w (blks []++own) ([ag.row 85 z ((cw l p id):List Held)]++[ag.held w own]) [] w':=by
 have Ag:=H.ct 0 rfl
 refine R.da (n:=47) (vs:=[bG,.agg #[iV p.aj,iV p.Slot],iV id]) (B:=[ag.held w own]) [(0,bG),(1,.agg #[iV p.aj,iV p.Slot]),(2,iV id)] Tryz.func74 O O O O H ?_
 refine R.reg O<|R.s O (s.box (cs:=av p) O O O) fun b1=>R.u 1 O<|R.nil ?_
 refine R.reg O<|R.u 1 O<|R.s (B':=(fun aN:Value=>[ag.row 85 aN l,ag.box b1 (av p) 39,ag.held w own])) (F':=(fun aN:Value=>[ag.ls bG l])) O (s.bP (B0:=[]) (Br:=[ag.box b1 (av p) 39,ag.held w own]) (F0:=[ag.ls bG l]) [0,1] [0] (fun aN:Value=>aN) (fun aN:Value=>[ag.row 85 aN l]) (fun aN:Value=>[]) O O O AO O O (fun w own hw H=>nz bG (l) w own H (by omega)) O) fun z1=>R.u 1 O<|R.nil ?_
 refine R.reg O<|R.u 1 O<|R.q (q.cj 1 O O aS) O<|?_
 have JI:=qu l p
 rcases o5 l p with eU|⟨jE,hZ,eU,oT,uc⟩
 ·
  refine R.c (q.call tV O O (fun w hw=>(cv (congrArg (fun b=>Value.tuple #[iV ((eH l p:Nat):Int),.bool b]) eU) (iR _ (l) (p) w (hw.row 0 O) (by omega))))) O<|R.u 5 O<|R.nil ?_
  refine R.reg O<|R.u 6 O<|R.nil ?_
  refine R.aF O O ?_
  refine R.reg O<|R.u 2 O<|R.nil ?_
  refine R.aF O O ?_
  refine R.reg O<|R.u 1 O<|?_
  by_cases h1:id=0
  ·
   refine R.q (q.eql O O (beq_iff_eq.2 (by omega))) O<|R.u 1 O<|R.nil ?_
   refine R.aE O O ?_
   refine R.reg O<|R.u 2 O<|R.nil ?_
   have hz:cw l p id=l:=by (unfold cw;(rw [if_neg (by rw [eU];simp),if_pos ‹_›];done))
   rw [hz]
   exact R.w1 z1 [0,2] [] O Tryz.results74 (RV.tmp O) O O O O
  ·
   refine R.q (q.eql O O (beq_eq_false_iff_ne.2 (by omega))) O<|R.u 1 O<|R.nil ?_
   refine R.aF O O ?_
   refine R.reg O<|R.u 2 O<|R.q (q.cj 1 O O aS) O<|R.u 1 O<|R.q (q.build (cs:=[iV p.aj,iV p.Slot,iV id]) pO O O) O<|R.s O (s.bs (l:=([(⟨p,id⟩:Held)]:List Held)) bK dk O O O O O O O) fun b2=>R.s (B':=(fun aN:Value=>[ag.row 85 aN (l.take (eH l p)++([(⟨p,id⟩:Held)])++l.drop (eH l p)),ag.box b1 (av p) 39,ag.held w own])) (F':=(fun aN:Value=>[ag.ls bG l])) O (s.bP (B0:=[ag.row 85 z1 l,ag.row 85 (.slice (some ⟨b2,0,none⟩) 1 1) ([(⟨p,id⟩:Held)]:List Held)]) (Br:=[ag.box b1 (av p) 39,ag.held w own]) (F0:=[]) [1,0,2,3] [] (fun aN:Value=>aN) (fun aN:Value=>[ag.row 85 aN (l.take (eH l p)++([(⟨p,id⟩:Held)])++l.drop (eH l p))]) (fun aN:Value=>[]) O O O Fg O O (fun w own hw H=>rj z1 (l) ((eH l p)) (.slice (some ⟨b2,0,none⟩) 1 1) ([(⟨p,id⟩:Held)]) w own H ‹_› (rfl) (by omega)) O) fun z2=>R.u 1 O<|R.nil ?_
   have hz:cw l p id=l.take (eH l p)++([(⟨p,id⟩:Held)])++l.drop (eH l p):=by (unfold cw;(rw [if_neg (by rw [eU];simp),if_neg ‹_›];done))
   rw [hz]
   exact R.w1 z2 [0,2] [] O Tryz.results74 (RV.tmp O) O O O O
 ·
  refine R.c (q.call tV O O (fun w hw=>(cv (congrArg (fun b=>Value.tuple #[iV ((eH l p:Nat):Int),.bool b]) eU) (iR _ (l) (p) w (hw.row 0 O) (by omega))))) O<|R.u 5 O<|R.nil ?_
  refine R.reg O<|R.u 3 O<|?_
  by_cases h2:id=0
  ·
   refine R.qg O (q.eql O O (beq_iff_eq.2 (by omega))) O<|R.u 2 O<|R.nil ?_
   refine R.aE O O ?_
   refine R.reg O<|R.u 3 O<|R.q (q.add (r:=(((eH l p)+1:Nat):Int)) O O (wr (by omega))) O<|R.s (B':=(fun aN:Value=>[ag.row 85 aN (l.take (eH l p)++l.drop ((eH l p)+1)),ag.box b1 (av p) 39,ag.held w own])) (F':=(fun aN:Value=>[ag.ls bG l])) O (s.bP (B0:=[ag.row 85 z1 l]) (Br:=[ag.box b1 (av p) 39,ag.held w own]) (F0:=[]) [0,1,2] [] (fun aN:Value=>aN) (fun aN:Value=>[ag.row 85 aN (l.take (eH l p)++l.drop ((eH l p)+1))]) (fun aN:Value=>[]) O O O Ff O O (fun w own hw H=>rh z1 (l) ((eH l p)) (((eH l p)+1)) w own H (by omega)) O) fun z3=>R.u 1 O<|R.nil ?_
   have hz:cw l p id=l.take (eH l p)++l.drop ((eH l p)+1):=by (unfold cw;(rw [if_pos eU,if_pos ‹_›];done))
   rw [hz]
   exact R.w1 z3 [0,2] [] O Tryz.results74 (RV.tmp O) O O O O
  ·
   refine R.qg O (q.eql O O (beq_eq_false_iff_ne.2 (by omega))) O<|R.u 2 O<|R.nil ?_
   refine R.aF O O ?_
   refine R.reg O<|R.u 2 O<|R.nil ?_
   refine R.aE O O ?_
   refine R.reg O<|R.u 3 O<|R.q (q.idx (i:=(eH l p)) (cJ 0 O) O O bK O hZ) O<|R.q (q.dF (j':=2) (cJ 0 O) hZ O fL O) O<|R.s O (s.stP (o:=2) (z:=(⟨jE.Place,id⟩:Held)) (us:=[iV id]) 0 _ O hZ O O O O O (by simp [Value.oneCell']) (.inr ⟨aA,rfl⟩) O) fun _=>R.nil ?_
   refine R.reg O<|R.u 2 O<|R.nil ?_
   have hz:cw l p id=(l.set (eH l p) (⟨jE.Place,id⟩:Held)):=by (unfold cw;(rw [if_pos eU,if_neg ‹_›,oT];done))
   rw [hz]
   exact R.w1 z1 [0,2] [] O Tryz.results74 (RV.tmp O) O O O O
theorem Bg (bG:Value)(l:List Held)(h:Int)(w:World)(df:Sl w bG l)(hl:l.length≤1000000):Calls Tryz.prog 84 #[bG,iV h] w fun e w'=>e = .returned (iV (dA l h))∧Ext w w':=by
 have pV:=df.ec
 refine R.enter (n:=17) (vs:=[bG,iV h]) [] [(0,bG),(1,iV h)] Tryz.func84 O O O O ?_
 refine R.reg O<|R.u 1 O<|R.nil ?_
 refine R.reg O<|R.u 1 O<|R.nil ?_
 refine R.loop (fun i:Nat=>[(0,bG),(1,iV h),(6,iV (i:Int))]) (fun i:Nat=>[]) (fun i:Nat=>[]) (fun i:Nat=>i≤6∧iD l h (6-i) i=dA l h) (fun i:Nat=>6-i) 0 O (by exact ⟨by omega,rfl⟩) ⟨rfl,rfl,rfl,trivial⟩ (fun _=>Wd.pick [] [] O O O) ?_
 rintro i ⟨hs,HA⟩
 refine R.reg O<|?_
 by_cases h1:i<6
 ·
  refine R.q (q.lss O O (decide_eq_true (by omega))) O<|R.nil ?_
  refine R.aE O O ?_
  refine R.reg O<|R.u 2 O<|R.nil ?_
  refine R.reg O<|R.u 3 O<|R.q (q.build (cs:=[iV h,iV (i:Int)]) nu O O) O<|R.c (q.call tU O O (fun w hw=>(j6 _ (l) ((⟨h,(i:Int)⟩:Place)) w ((fun _=>Wd.old df) w hw) (by omega)))) O<|?_
  by_cases h2:jY l (⟨h,(i:Int)⟩:Place)=0
  ·
   refine R.q (q.eql O O (beq_iff_eq.2 (by omega))) O<|R.nil ?_
   refine R.aE O O ?_
   refine R.reg O<|R.u 2 O<|R.nil ?_
   exact R.rv O Tryz.results84 O (rI (by (rw [← HA];exact (wV ‹_› (by omega)).symm)))
  ·
   refine R.q (q.eql O O (beq_eq_false_iff_ne.2 (by omega))) O<|R.nil ?_
   refine R.aF O O ?_
   refine R.reg O<|R.q (q.add (r:=((i+1:Nat):Int)) O O (wr (by omega))) O<|R.u 1 O<|R.nil ?_
   refine R.back (i+1) O (by (exact ⟨by omega,(vo ‹_› (by omega)).symm.trans HA⟩)) (by omega) ⟨rfl,rfl,rfl,trivial⟩ (fun _=>Wd.pick [] [] O O O)
 ·
  refine R.q (q.lss O O (decide_eq_false (by omega))) O<|R.nil ?_
  refine R.aF O O ?_
  refine R.reg O<|R.u 1 O<|R.nil ?_
  exact R.rv O Tryz.results84 O (rI (by (rw [← HA];have:i=6:=(by omega);subst this;rfl)))
theorem s5 (bG:Value)(l:List Held)(p:Place)(w:World)(df:Sl w bG l):Calls Tryz.prog 122 #[bG,.agg #[iV p.aj,iV p.Slot]] w fun e w'=>e = .returned (iV (jf l p))∧Ext w w':=by
 have pV:=df.ec
 refine R.enter (n:=24) (vs:=[bG,.agg #[iV p.aj,iV p.Slot]]) [] [(0,bG),(1,.agg #[iV p.aj,iV p.Slot])] Tryz.func122 O O O O ?_
 refine R.reg O<|R.s O (s.box (cs:=av p) O O O) fun b1=>R.u 1 O<|R.nil ?_
 refine R.reg O<|R.u 1 O<|R.nil ?_
 refine R.loop (fun k:Nat=>[(0,bG),(3,.pointer (some ⟨b1,0,none⟩)),(5,iV (k:Int))]) (fun k:Nat=>[ag.box b1 (av p) 39]) (fun k:Nat=>[]) (fun k:Nat=>k≤l.length ∧ ∀ (j:Nat) y,j<k→l[j]? = some y→¬ y.Place=p) (fun k:Nat=>l.length-k) 0 O (by exact ⟨by omega,fun j x hj=>absurd hj (Nat.not_lt_zero _)⟩) ⟨rfl,rfl,rfl,trivial⟩ (fun _=>Wd.pick [0] [] O O O) ?_
 rintro k ⟨hk,HA⟩
 refine R.reg O<|R.u 2 O<|R.q (q.len' (fun _=>Wd.old df) O Tryz.underlying29) O<|?_
 by_cases h1:k<l.length
 ·
  refine R.q (q.lss O O (decide_eq_true (by omega))) O<|R.nil ?_
  refine R.aE O O ?_
  obtain ⟨x1,hx1⟩:∃z,l[k]? = some z:=⟨_,List.getElem?_eq_getElem (by omega)⟩
  by_cases h2:x1.Place=p
  ·
   refine R.dP O mixed (by kernel_rfl)<|Q.u 2 O<|Q.q (q.idx (i:=k) (fun _=>Wd.old df) O O bK O hx1) O<|Q.q (q.dF (j':=0) (fun _=>Wd.old df) hx1 O gI O) O<|Q.q (q.cY (ds:=av x1.Place) (fun _=>Wd.old df) hx1 O aS O) O<|Q.q (q.cj 0 O O aS) O<|Q.q (q.Gw (x:=x1.Place) (y:=p) gK O O h2) O<|Q.nil ?_
   refine R.aE O O ?_
   refine R.reg O<|R.u 2 O<|R.q (q.idx (i:=k) (fun _=>Wd.old df) O O bK O hx1) O<|R.q (q.dF (j':=2) (fun _=>Wd.old df) hx1 O fL O) O<|R.q (q.fb (fun _=>Wd.old df) hx1 O aA O) O<|R.u 1 O<|R.nil ?_
   exact R.rv O Tryz.results122 O (rI (by (exact (zq hx1 ‹_› HA).symm)))
  ·
   refine R.dP O mixed (by kernel_rfl)<|Q.u 2 O<|Q.q (q.idx (i:=k) (fun _=>Wd.old df) O O bK O hx1) O<|Q.q (q.dF (j':=0) (fun _=>Wd.old df) hx1 O gI O) O<|Q.q (q.cY (ds:=av x1.Place) (fun _=>Wd.old df) hx1 O aS O) O<|Q.q (q.cj 0 O O aS) O<|Q.q (q.Gx (x:=x1.Place) (y:=p) gK O O h2) O<|Q.nil ?_
   refine R.aF O O ?_
   refine R.reg O<|R.u 1 O<|R.q (q.add (r:=((k+1:Nat):Int)) O O (wr (by omega))) O<|R.u 1 O<|R.nil ?_
   refine R.back (k+1) O (by (exact ⟨by omega,fun j x hj hx=>if e:j=k then by subst e;rw [hx1] at hx;injection hx with hx;subst hx;assumption else HA j x (by omega) hx⟩)) (by omega) ⟨rfl,rfl,rfl,trivial⟩ (fun _=>Wd.pick [0] [] O O O)
 ·
  refine R.q (q.lss O O (decide_eq_false (by omega))) O<|R.nil ?_
  refine R.aF O O ?_
  refine R.reg O<|R.u 1 O<|R.nil ?_
  exact R.rv O Tryz.results122 O (rI (by (exact (wW (fun j y hj=>HA j y (by omega))).symm)))
theorem vr (bG:Value)(l:List Held)(h:Int)(w:World)(df:Sl w bG l):Calls Tryz.prog 95 #[bG,iV h] w fun e w'=>e = .returned (iV (t7 l h))∧Ext w w':=by
 have pV:=df.ec
 refine R.enter (n:=17) (vs:=[bG,iV h]) [] [(0,bG),(1,iV h)] Tryz.func95 O O O O ?_
 refine R.reg O<|R.u 1 O<|R.nil ?_
 refine R.reg O<|R.u 1 O<|R.nil ?_
 refine R.loop (fun i:Nat=>[(0,bG),(1,iV h),(5,iV (i:Int))]) (fun i:Nat=>[]) (fun i:Nat=>[]) (fun i:Nat=>i≤6∧iQ l h (6-i) i=t7 l h) (fun i:Nat=>6-i) 0 O (by exact ⟨by omega,rfl⟩) ⟨rfl,rfl,rfl,trivial⟩ (fun _=>Wd.pick [] [] O O O) ?_
 rintro i ⟨hs,HA⟩
 refine R.reg O<|R.u 1 O<|?_
 by_cases h1:i<6
 ·
  refine R.q (q.lss O O (decide_eq_true (by omega))) O<|R.nil ?_
  refine R.aE O O ?_
  refine R.reg O<|R.u 3 O<|R.q (q.build (cs:=[iV h,iV (i:Int)]) nu O O) O<|R.c (q.call tX O O (fun w hw=>(s5 _ (l) ((⟨h,(i:Int)⟩:Place)) w ((fun _=>Wd.old df) w hw) ))) O<|?_
  by_cases h2:jf l (⟨h,(i:Int)⟩:Place)=0
  ·
   refine R.q (q.eql O O (beq_iff_eq.2 (by omega))) O<|R.nil ?_
   refine R.aE O O ?_
   refine R.reg O<|R.u 2 O<|R.nil ?_
   exact R.rv O Tryz.results95 O (rI (by (rw [← HA];exact (vq ‹_› (by omega)).symm)))
  ·
   refine R.q (q.eql O O (beq_eq_false_iff_ne.2 (by omega))) O<|R.nil ?_
   refine R.aF O O ?_
   refine R.reg O<|R.u 1 O<|R.q (q.add (r:=((i+1:Nat):Int)) O O (wr (by omega))) O<|R.u 1 O<|R.nil ?_
   refine R.back (i+1) O (by (exact ⟨by omega,(t8 ‹_› (by omega)).symm.trans HA⟩)) (by omega) ⟨rfl,rfl,rfl,trivial⟩ (fun _=>Wd.pick [] [] O O O)
 ·
  refine R.q (q.lss O O (decide_eq_false (by omega))) O<|R.nil ?_
  refine R.aF O O ?_
  refine R.reg O<|R.u 1 O<|R.nil ?_
  exact R.rv O Tryz.results95 O (rI (by (rw [← HA];have:i=6:=(by omega);subst this;rfl)))
theorem wZ (bG:Value)(l:List Held)(p:Place)(id:Int)(w:World)(own:List Nat)(H:Wd w (blks []++own) ([]++[ag.held w own]) [ag.ls bG (l:List Held)] w)(hl:l.length≤100000):Calls Tryz.prog 88 #[bG,.agg #[iV p.aj,iV p.Slot],iV id] w fun e w' => ∃z:Value,e = .returned (z)∧Wd w (blks []++own) ([ag.row 85 z ((jl l p id):List Held)]++[ag.held w own]) [] w':=by
 have Ag:=H.ct 0 rfl
 refine R.da (n:=72) (vs:=[bG,.agg #[iV p.aj,iV p.Slot],iV id]) (B:=[ag.held w own]) [(0,bG),(1,.agg #[iV p.aj,iV p.Slot]),(2,iV id)] Tryz.func88 O O O O H ?_
 refine R.reg O<|R.s O (s.box (cs:=av p) O O O) fun b1=>R.u 1 O<|R.nil ?_
 refine R.reg O<|R.u 1 O<|R.nil ?_
 refine R.reg O<|R.u 1 O<|?_
 by_cases h1:id=0
 ·
  refine R.q (q.eql O O (beq_iff_eq.2 (by omega))) O<|R.u 1 O<|R.nil ?_
  refine R.reg O<|R.u 1 O<|R.nil ?_
  refine R.row0 (α:=Held) 85 ?_
  refine R.loop (fun g_:Nat×Bool×Value×(List Held)=>[(0,bG),(2,iV id),(4,.pointer (some ⟨b1,0,none⟩)),(7,g_.2.2.1),(8,.bool g_.2.1),(9,iV (g_.1:Int))]) (fun g_=>[ag.row 85 g_.2.2.1 g_.2.2.2,ag.box b1 (av p) 39,ag.held w own]) (fun g_=>[ag.ls bG l]) (fun g_=>g_.1≤l.length∧(g_.2.2.2,g_.2.1)=j4 (l.take g_.1) p id) (fun g_=>l.length-g_.1) (0,true,(nS),[]) O (by exact ⟨by omega,by simp [j4, *]⟩) ⟨rfl,rfl,rfl,rfl,rfl,rfl,trivial⟩ (fun _=>Wd.pick [0,1,2] [0] O O O) ?_
  rintro ⟨k,laid,v,acc⟩ ⟨hk,HA⟩
  dsimp only at *
  have hal:acc.length≤2*k:=by have:=sY (l.take k) p id;rw [← HA] at this;simp at this;omega
  refine R.reg O<|R.u 2 O<|R.q (q.len' (bJ 0 O) O Tryz.underlying29) O<|?_
  by_cases h2:k<l.length
  ·
   refine R.q (q.lss O O (decide_eq_true (by omega))) O<|R.nil ?_
   refine R.aE O O ?_
   refine R.reg O<|R.u 2 O<|?_
   obtain ⟨x1,hx1⟩:∃z,l[k]? = some z:=⟨_,List.getElem?_eq_getElem (by omega)⟩
   refine R.q (q.idx (i:=k) (bJ 0 O) O O bK O hx1) O<|R.q (q.dF (j':=0) (bJ 0 O) hx1 O gI O) O<|R.q (q.cY (ds:=av x1.Place) (bJ 0 O) hx1 O aS O) O<|R.s O (s.alloc (cs:=[iV 0,iV 0]) me O O) fun b2=>R.s O (s.st (us:=av x1.Place) (cs':=av x1.Place) 0 _ O O O O (.inl aS) O O O O) fun _=>R.nil ?_
   refine R.reg O<|R.u 1 O<|R.q (q.not O) O<|R.u 1 O<|?_
   cases laid
   ·
    refine R.qg O (q.aT (off':=0) O cF O) O<|R.qg O (q.ld 2 O O aA O) O<|R.qg O (q.aT (off':=0) O cF O) O<|R.qg O (q.ld 0 O O aA O) O<|?_
    by_cases h3:p.aj<x1.Place.aj
    ·
     refine R.qg O (q.lss O O (decide_eq_true (by omega))) O<|R.u 15 O<|R.nil ?_
     refine R.aE O O ?_
     refine R.reg O<|R.u 1 O<|R.q (q.cj 2 O O aS) O<|R.u 1 O<|R.q (q.build (cs:=[iV p.aj,iV p.Slot,iV id]) pO O O) O<|R.s O (s.bs (l:=([(⟨p,id⟩:Held)]:List Held)) bK dk O O O O O O O) fun b3=>R.s O (s.app (l2:=[(⟨p,id⟩:Held)]) 2 _ O O O (cJ 0 O) dZ (by (simp;omega)) (by (simp;omega)) (fun _=>rfl) O) fun v1=>R.u 1 O<|R.nil ?_
     refine R.reg O<|R.u 1 O<|R.nil ?_
     refine R.reg O<|R.q (q.cj 1 O O aS) O<|R.q (q.cj 3 O O aS) O<|?_
     by_cases h4:x1.Place=p
     ·
      refine R.q (q.gX (x:=x1.Place) (y:=p) gK O O h4) O<|R.nil ?_
      refine R.aF O O ?_
      refine R.reg O<|R.u 1 O<|R.q (q.add (r:=((k+1:Nat):Int)) O O (wr (by omega))) O<|R.u 1 O<|R.nil ?_
      refine R.back (k+1,true,v1,(acc++([(⟨p,id⟩:Held)]))) O (by (exact ⟨by omega,by rw [dx l p id k _ hx1,← HA];(rw [fD (by omega)];(rw [if_pos ‹_›];done))⟩)) (by dsimp only;omega) ⟨rfl,rfl,rfl,rfl,rfl,rfl,trivial⟩ (aK [2,3,4] [0] O O O)
     ·
      refine R.q (q.gY (x:=x1.Place) (y:=p) gK O O h4) O<|R.nil ?_
      refine R.aE O O ?_
      refine R.reg O<|R.u 3 O<|R.q (q.idx (i:=k) (bJ 0 O) O O bK O hx1) O<|R.q (q.cY (ds:=dJ x1) (bJ 0 O) hx1 O dB O) O<|R.s O (s.bs (l:=([x1]:List Held)) bK dk O O O O O O O) fun b4=>R.s O (s.app (l2:=[x1]) 3 _ O O O (cJ 0 O) dZ (by (simp;omega)) (by (simp;omega)) (fun _=>rfl) O) fun v2=>R.u 1 O<|R.nil ?_
      refine R.reg O<|R.u 1 O<|R.q (q.add (r:=((k+1:Nat):Int)) O O (wr (by omega))) O<|R.u 1 O<|R.nil ?_
      refine R.back (k+1,true,v2,((acc++([(⟨p,id⟩:Held)]))++([x1]))) O (by (exact ⟨by omega,by rw [dx l p id k _ hx1,← HA];(rw [fD (by omega)];(rw [if_neg ‹_›];done))⟩)) (by dsimp only;omega) ⟨rfl,rfl,rfl,rfl,rfl,rfl,trivial⟩ (aK [3,4,5] [0] O O O)
    ·
     refine R.qg O (q.lss O O (decide_eq_false (by omega))) O<|R.u 1 O<|R.qg O (q.aT (off':=0) O cF O) O<|R.qg O (q.ld 2 O O aA O) O<|R.qg O (q.aT (off':=0) O cF O) O<|R.qg O (q.ld 0 O O aA O) O<|?_
     by_cases h5:p.aj=x1.Place.aj
     ·
      refine R.qg O (q.eql O O (beq_iff_eq.2 (by omega))) O<|R.u 1 O<|R.qg O (q.aT (off':=1) O ff O) O<|R.qg O (q.ld 2 O O aA O) O<|R.qg O (q.aT (off':=1) O ff O) O<|R.qg O (q.ld 0 O O aA O) O<|?_
      by_cases h6:x1.Place.Slot<p.Slot
      ·
       refine R.qg O (q.leq O O (decide_eq_false (by omega))) O<|R.u 3 O<|R.nil ?_
       refine R.aF O O ?_
       refine R.reg O<|R.q (q.cj 0 O O aS) O<|R.q (q.cj 2 O O aS) O<|?_
       by_cases h7:x1.Place=p
       ·
        refine R.q (q.gX (x:=x1.Place) (y:=p) gK O O h7) O<|R.nil ?_
        refine R.aF O O ?_
        refine R.reg O<|R.u 1 O<|R.q (q.add (r:=((k+1:Nat):Int)) O O (wr (by omega))) O<|R.u 1 O<|R.nil ?_
        refine R.back (k+1,false,v,acc) O (by (exact ⟨by omega,by rw [dx l p id k _ hx1,← HA];(rw [dQ (by exact .inr (by omega))];(rw [if_pos ‹_›];done))⟩)) (by dsimp only;omega) ⟨rfl,rfl,rfl,rfl,rfl,rfl,trivial⟩ (aK [1,2,3] [0] O O O)
       ·
        refine R.q (q.gY (x:=x1.Place) (y:=p) gK O O h7) O<|R.nil ?_
        refine R.aE O O ?_
        refine R.reg O<|R.u 3 O<|R.q (q.idx (i:=k) (bJ 0 O) O O bK O hx1) O<|R.q (q.cY (ds:=dJ x1) (bJ 0 O) hx1 O dB O) O<|R.s O (s.bs (l:=([x1]:List Held)) bK dk O O O O O O O) fun b5=>R.s O (s.app (l2:=[x1]) 2 _ O O O (cJ 0 O) dZ (by (simp;omega)) (by (simp;omega)) (fun _=>rfl) O) fun v3=>R.u 1 O<|R.nil ?_
        refine R.reg O<|R.u 1 O<|R.q (q.add (r:=((k+1:Nat):Int)) O O (wr (by omega))) O<|R.u 1 O<|R.nil ?_
        refine R.back (k+1,false,v3,(acc++([x1]))) O (by (exact ⟨by omega,by rw [dx l p id k _ hx1,← HA];(rw [dQ (by exact .inr (by omega))];(rw [if_neg ‹_›];done))⟩)) (by dsimp only;omega) ⟨rfl,rfl,rfl,rfl,rfl,rfl,trivial⟩ (aK [2,3,4] [0] O O O)
      ·
       refine R.qg O (q.leq O O (decide_eq_true (by omega))) O<|R.u 3 O<|R.nil ?_
       refine R.aE O O ?_
       refine R.reg O<|R.u 1 O<|R.q (q.cj 2 O O aS) O<|R.u 1 O<|R.q (q.build (cs:=[iV p.aj,iV p.Slot,iV id]) pO O O) O<|R.s O (s.bs (l:=([(⟨p,id⟩:Held)]:List Held)) bK dk O O O O O O O) fun b6=>R.s O (s.app (l2:=[(⟨p,id⟩:Held)]) 2 _ O O O (cJ 0 O) dZ (by (simp;omega)) (by (simp;omega)) (fun _=>rfl) O) fun v4=>R.u 1 O<|R.nil ?_
       refine R.reg O<|R.u 1 O<|R.nil ?_
       refine R.reg O<|R.q (q.cj 1 O O aS) O<|R.q (q.cj 3 O O aS) O<|?_
       by_cases h8:x1.Place=p
       ·
        refine R.q (q.gX (x:=x1.Place) (y:=p) gK O O h8) O<|R.nil ?_
        refine R.aF O O ?_
        refine R.reg O<|R.u 1 O<|R.q (q.add (r:=((k+1:Nat):Int)) O O (wr (by omega))) O<|R.u 1 O<|R.nil ?_
        refine R.back (k+1,true,v4,(acc++([(⟨p,id⟩:Held)]))) O (by (exact ⟨by omega,by rw [dx l p id k _ hx1,← HA];(rw [fD (by omega)];(rw [if_pos ‹_›];done))⟩)) (by dsimp only;omega) ⟨rfl,rfl,rfl,rfl,rfl,rfl,trivial⟩ (aK [2,3,4] [0] O O O)
       ·
        refine R.q (q.gY (x:=x1.Place) (y:=p) gK O O h8) O<|R.nil ?_
        refine R.aE O O ?_
        refine R.reg O<|R.u 3 O<|R.q (q.idx (i:=k) (bJ 0 O) O O bK O hx1) O<|R.q (q.cY (ds:=dJ x1) (bJ 0 O) hx1 O dB O) O<|R.s O (s.bs (l:=([x1]:List Held)) bK dk O O O O O O O) fun b7=>R.s O (s.app (l2:=[x1]) 3 _ O O O (cJ 0 O) dZ (by (simp;omega)) (by (simp;omega)) (fun _=>rfl) O) fun v5=>R.u 1 O<|R.nil ?_
        refine R.reg O<|R.u 1 O<|R.q (q.add (r:=((k+1:Nat):Int)) O O (wr (by omega))) O<|R.u 1 O<|R.nil ?_
        refine R.back (k+1,true,v5,((acc++([(⟨p,id⟩:Held)]))++([x1]))) O (by (exact ⟨by omega,by rw [dx l p id k _ hx1,← HA];(rw [fD (by omega)];(rw [if_neg ‹_›];done))⟩)) (by dsimp only;omega) ⟨rfl,rfl,rfl,rfl,rfl,rfl,trivial⟩ (aK [3,4,5] [0] O O O)
     ·
      refine R.qg O (q.eql O O (beq_eq_false_iff_ne.2 (by omega))) O<|R.u 9 O<|R.nil ?_
      refine R.aF O O ?_
      refine R.reg O<|R.q (q.cj 0 O O aS) O<|R.q (q.cj 2 O O aS) O<|?_
      by_cases h9:x1.Place=p
      ·
       refine R.q (q.gX (x:=x1.Place) (y:=p) gK O O h9) O<|R.nil ?_
       refine R.aF O O ?_
       refine R.reg O<|R.u 1 O<|R.q (q.add (r:=((k+1:Nat):Int)) O O (wr (by omega))) O<|R.u 1 O<|R.nil ?_
       refine R.back (k+1,false,v,acc) O (by (exact ⟨by omega,by rw [dx l p id k _ hx1,← HA];(rw [dQ (by exact .inr (by omega))];(rw [if_pos ‹_›];done))⟩)) (by dsimp only;omega) ⟨rfl,rfl,rfl,rfl,rfl,rfl,trivial⟩ (aK [1,2,3] [0] O O O)
      ·
       refine R.q (q.gY (x:=x1.Place) (y:=p) gK O O h9) O<|R.nil ?_
       refine R.aE O O ?_
       refine R.reg O<|R.u 3 O<|R.q (q.idx (i:=k) (bJ 0 O) O O bK O hx1) O<|R.q (q.cY (ds:=dJ x1) (bJ 0 O) hx1 O dB O) O<|R.s O (s.bs (l:=([x1]:List Held)) bK dk O O O O O O O) fun b8=>R.s O (s.app (l2:=[x1]) 2 _ O O O (cJ 0 O) dZ (by (simp;omega)) (by (simp;omega)) (fun _=>rfl) O) fun v6=>R.u 1 O<|R.nil ?_
       refine R.reg O<|R.u 1 O<|R.q (q.add (r:=((k+1:Nat):Int)) O O (wr (by omega))) O<|R.u 1 O<|R.nil ?_
       refine R.back (k+1,false,v6,(acc++([x1]))) O (by (exact ⟨by omega,by rw [dx l p id k _ hx1,← HA];(rw [dQ (by exact .inr (by omega))];(rw [if_neg ‹_›];done))⟩)) (by dsimp only;omega) ⟨rfl,rfl,rfl,rfl,rfl,rfl,trivial⟩ (aK [2,3,4] [0] O O O)
   ·
    refine R.u 20 O<|R.nil ?_
    refine R.aF O O ?_
    refine R.reg O<|R.q (q.cj 0 O O aS) O<|R.q (q.cj 2 O O aS) O<|?_
    by_cases h10:x1.Place=p
    ·
     refine R.q (q.gX (x:=x1.Place) (y:=p) gK O O h10) O<|R.nil ?_
     refine R.aF O O ?_
     refine R.reg O<|R.u 1 O<|R.q (q.add (r:=((k+1:Nat):Int)) O O (wr (by omega))) O<|R.u 1 O<|R.nil ?_
     refine R.back (k+1,true,v,acc) O (by (exact ⟨by omega,by rw [dx l p id k _ hx1,← HA];(rw [dQ (by exact .inl O)];(rw [if_pos ‹_›];done))⟩)) (by dsimp only;omega) ⟨rfl,rfl,rfl,rfl,rfl,rfl,trivial⟩ (aK [1,2,3] [0] O O O)
    ·
     refine R.q (q.gY (x:=x1.Place) (y:=p) gK O O h10) O<|R.nil ?_
     refine R.aE O O ?_
     refine R.reg O<|R.u 3 O<|R.q (q.idx (i:=k) (bJ 0 O) O O bK O hx1) O<|R.q (q.cY (ds:=dJ x1) (bJ 0 O) hx1 O dB O) O<|R.s O (s.bs (l:=([x1]:List Held)) bK dk O O O O O O O) fun b9=>R.s O (s.app (l2:=[x1]) 2 _ O O O (cJ 0 O) dZ (by (simp;omega)) (by (simp;omega)) (fun _=>rfl) O) fun v7=>R.u 1 O<|R.nil ?_
     refine R.reg O<|R.u 1 O<|R.q (q.add (r:=((k+1:Nat):Int)) O O (wr (by omega))) O<|R.u 1 O<|R.nil ?_
     refine R.back (k+1,true,v7,(acc++([x1]))) O (by (exact ⟨by omega,by rw [dx l p id k _ hx1,← HA];(rw [dQ (by exact .inl O)];(rw [if_neg ‹_›];done))⟩)) (by dsimp only;omega) ⟨rfl,rfl,rfl,rfl,rfl,rfl,trivial⟩ (aK [2,3,4] [0] O O O)
  ·
   refine R.q (q.lss O O (decide_eq_false (by omega))) O<|R.nil ?_
   refine R.aF O O ?_
   refine R.reg O<|R.u 1 O<|R.q (q.not O) O<|R.nil ?_
   cases laid
   ·
    refine R.aE O O ?_
    refine R.reg O<|R.u 1 O<|R.q (q.cj 1 O O aS) O<|R.u 1 O<|R.q (q.build (cs:=[iV p.aj,iV p.Slot,iV id]) pO O O) O<|R.s O (s.bs (l:=([(⟨p,id⟩:Held)]:List Held)) bK dk O O O O O O O) fun b10=>R.s O (s.app (l2:=[(⟨p,id⟩:Held)]) 1 _ O O O (cJ 0 O) dZ (by (simp;omega)) (by (simp;omega)) (fun _=>rfl) O) fun v8=>R.u 1 O<|R.nil ?_
    refine R.reg O<|R.u 2 O<|R.nil ?_
    have hz:jl l p id=(acc++([(⟨p,id⟩:Held)])):=by (unfold jl;rw [List.take_of_length_le (by omega)] at HA;rw [← HA];dsimp only;exact if_neg Bool.false_ne_true)
    rw [hz]
    exact R.w1 v8 [1,3] [] O Tryz.results88 (RV.tmp O) O O O O
   ·
    refine R.aF O O ?_
    refine R.reg O<|R.u 2 O<|R.nil ?_
    have hz:jl l p id=acc:=by (unfold jl;rw [List.take_of_length_le (by omega)] at HA;rw [← HA];dsimp only;exact if_pos rfl)
    rw [hz]
    exact R.w1 v [0,2] [] O Tryz.results88 (RV.tmp O) O O O O
 ·
  refine R.q (q.eql O O (beq_eq_false_iff_ne.2 (by omega))) O<|R.u 1 O<|R.nil ?_
  refine R.reg O<|R.u 1 O<|R.nil ?_
  refine R.row0 (α:=Held) 85 ?_
  refine R.loop (fun g_:Nat×Bool×Value×(List Held)=>[(0,bG),(2,iV id),(4,.pointer (some ⟨b1,0,none⟩)),(7,g_.2.2.1),(8,.bool g_.2.1),(9,iV (g_.1:Int))]) (fun g_=>[ag.row 85 g_.2.2.1 g_.2.2.2,ag.box b1 (av p) 39,ag.held w own]) (fun g_=>[ag.ls bG l]) (fun g_=>g_.1≤l.length∧(g_.2.2.2,g_.2.1)=j4 (l.take g_.1) p id) (fun g_=>l.length-g_.1) (0,false,(nS),[]) O (by exact ⟨by omega,by simp [j4, *]⟩) ⟨rfl,rfl,rfl,rfl,rfl,rfl,trivial⟩ (fun _=>Wd.pick [0,1,2] [0] O O O) ?_
  rintro ⟨k,laid,v,acc⟩ ⟨hk,HA⟩
  dsimp only at *
  have hal:acc.length≤2*k:=by have:=sY (l.take k) p id;rw [← HA] at this;simp at this;omega
  refine R.reg O<|R.u 2 O<|R.q (q.len' (bJ 0 O) O Tryz.underlying29) O<|?_
  by_cases h11:k<l.length
  ·
   refine R.q (q.lss O O (decide_eq_true (by omega))) O<|R.nil ?_
   refine R.aE O O ?_
   refine R.reg O<|R.u 2 O<|?_
   obtain ⟨x2,hx2⟩:∃z,l[k]? = some z:=⟨_,List.getElem?_eq_getElem (by omega)⟩
   refine R.q (q.idx (i:=k) (bJ 0 O) O O bK O hx2) O<|R.q (q.dF (j':=0) (bJ 0 O) hx2 O gI O) O<|R.q (q.cY (ds:=av x2.Place) (bJ 0 O) hx2 O aS O) O<|R.s O (s.alloc (cs:=[iV 0,iV 0]) me O O) fun b11=>R.s O (s.st (us:=av x2.Place) (cs':=av x2.Place) 0 _ O O O O (.inl aS) O O O O) fun _=>R.nil ?_
   refine R.reg O<|R.u 1 O<|R.q (q.not O) O<|R.u 1 O<|?_
   cases laid
   ·
    refine R.qg O (q.aT (off':=0) O cF O) O<|R.qg O (q.ld 2 O O aA O) O<|R.qg O (q.aT (off':=0) O cF O) O<|R.qg O (q.ld 0 O O aA O) O<|?_
    by_cases h12:p.aj<x2.Place.aj
    ·
     refine R.qg O (q.lss O O (decide_eq_true (by omega))) O<|R.u 15 O<|R.nil ?_
     refine R.aE O O ?_
     refine R.reg O<|R.u 1 O<|R.q (q.cj 2 O O aS) O<|R.u 1 O<|R.q (q.build (cs:=[iV p.aj,iV p.Slot,iV id]) pO O O) O<|R.s O (s.bs (l:=([(⟨p,id⟩:Held)]:List Held)) bK dk O O O O O O O) fun b12=>R.s O (s.app (l2:=[(⟨p,id⟩:Held)]) 2 _ O O O (cJ 0 O) dZ (by (simp;omega)) (by (simp;omega)) (fun _=>rfl) O) fun v9=>R.u 1 O<|R.nil ?_
     refine R.reg O<|R.u 1 O<|R.nil ?_
     refine R.reg O<|R.q (q.cj 1 O O aS) O<|R.q (q.cj 3 O O aS) O<|?_
     by_cases Dk:x2.Place=p
     ·
      refine R.q (q.gX (x:=x2.Place) (y:=p) gK O O Dk) O<|R.nil ?_
      refine R.aF O O ?_
      refine R.reg O<|R.u 1 O<|R.q (q.add (r:=((k+1:Nat):Int)) O O (wr (by omega))) O<|R.u 1 O<|R.nil ?_
      refine R.back (k+1,true,v9,(acc++([(⟨p,id⟩:Held)]))) O (by (exact ⟨by omega,by rw [dx l p id k _ hx2,← HA];(rw [fD (by omega)];(rw [if_pos ‹_›];done))⟩)) (by dsimp only;omega) ⟨rfl,rfl,rfl,rfl,rfl,rfl,trivial⟩ (aK [2,3,4] [0] O O O)
     ·
      refine R.q (q.gY (x:=x2.Place) (y:=p) gK O O Dk) O<|R.nil ?_
      refine R.aE O O ?_
      refine R.reg O<|R.u 3 O<|R.q (q.idx (i:=k) (bJ 0 O) O O bK O hx2) O<|R.q (q.cY (ds:=dJ x2) (bJ 0 O) hx2 O dB O) O<|R.s O (s.bs (l:=([x2]:List Held)) bK dk O O O O O O O) fun b13=>R.s O (s.app (l2:=[x2]) 3 _ O O O (cJ 0 O) dZ (by (simp;omega)) (by (simp;omega)) (fun _=>rfl) O) fun v10=>R.u 1 O<|R.nil ?_
      refine R.reg O<|R.u 1 O<|R.q (q.add (r:=((k+1:Nat):Int)) O O (wr (by omega))) O<|R.u 1 O<|R.nil ?_
      refine R.back (k+1,true,v10,((acc++([(⟨p,id⟩:Held)]))++([x2]))) O (by (exact ⟨by omega,by rw [dx l p id k _ hx2,← HA];(rw [fD (by omega)];(rw [if_neg ‹_›];done))⟩)) (by dsimp only;omega) ⟨rfl,rfl,rfl,rfl,rfl,rfl,trivial⟩ (aK [3,4,5] [0] O O O)
    ·
     refine R.qg O (q.lss O O (decide_eq_false (by omega))) O<|R.u 1 O<|R.qg O (q.aT (off':=0) O cF O) O<|R.qg O (q.ld 2 O O aA O) O<|R.qg O (q.aT (off':=0) O cF O) O<|R.qg O (q.ld 0 O O aA O) O<|?_
     by_cases Ik:p.aj=x2.Place.aj
     ·
      refine R.qg O (q.eql O O (beq_iff_eq.2 (by omega))) O<|R.u 1 O<|R.qg O (q.aT (off':=1) O ff O) O<|R.qg O (q.ld 2 O O aA O) O<|R.qg O (q.aT (off':=1) O ff O) O<|R.qg O (q.ld 0 O O aA O) O<|?_
      by_cases Gh:x2.Place.Slot<p.Slot
      ·
       refine R.qg O (q.leq O O (decide_eq_false (by omega))) O<|R.u 3 O<|R.nil ?_
       refine R.aF O O ?_
       refine R.reg O<|R.q (q.cj 0 O O aS) O<|R.q (q.cj 2 O O aS) O<|?_
       by_cases h16:x2.Place=p
       ·
        refine R.q (q.gX (x:=x2.Place) (y:=p) gK O O h16) O<|R.nil ?_
        refine R.aF O O ?_
        refine R.reg O<|R.u 1 O<|R.q (q.add (r:=((k+1:Nat):Int)) O O (wr (by omega))) O<|R.u 1 O<|R.nil ?_
        refine R.back (k+1,false,v,acc) O (by (exact ⟨by omega,by rw [dx l p id k _ hx2,← HA];(rw [dQ (by exact .inr (by omega))];(rw [if_pos ‹_›];done))⟩)) (by dsimp only;omega) ⟨rfl,rfl,rfl,rfl,rfl,rfl,trivial⟩ (aK [1,2,3] [0] O O O)
       ·
        refine R.q (q.gY (x:=x2.Place) (y:=p) gK O O h16) O<|R.nil ?_
        refine R.aE O O ?_
        refine R.reg O<|R.u 3 O<|R.q (q.idx (i:=k) (bJ 0 O) O O bK O hx2) O<|R.q (q.cY (ds:=dJ x2) (bJ 0 O) hx2 O dB O) O<|R.s O (s.bs (l:=([x2]:List Held)) bK dk O O O O O O O) fun b14=>R.s O (s.app (l2:=[x2]) 2 _ O O O (cJ 0 O) dZ (by (simp;omega)) (by (simp;omega)) (fun _=>rfl) O) fun v11=>R.u 1 O<|R.nil ?_
        refine R.reg O<|R.u 1 O<|R.q (q.add (r:=((k+1:Nat):Int)) O O (wr (by omega))) O<|R.u 1 O<|R.nil ?_
        refine R.back (k+1,false,v11,(acc++([x2]))) O (by (exact ⟨by omega,by rw [dx l p id k _ hx2,← HA];(rw [dQ (by exact .inr (by omega))];(rw [if_neg ‹_›];done))⟩)) (by dsimp only;omega) ⟨rfl,rfl,rfl,rfl,rfl,rfl,trivial⟩ (aK [2,3,4] [0] O O O)
      ·
       refine R.qg O (q.leq O O (decide_eq_true (by omega))) O<|R.u 3 O<|R.nil ?_
       refine R.aE O O ?_
       refine R.reg O<|R.u 1 O<|R.q (q.cj 2 O O aS) O<|R.u 1 O<|R.q (q.build (cs:=[iV p.aj,iV p.Slot,iV id]) pO O O) O<|R.s O (s.bs (l:=([(⟨p,id⟩:Held)]:List Held)) bK dk O O O O O O O) fun b15=>R.s O (s.app (l2:=[(⟨p,id⟩:Held)]) 2 _ O O O (cJ 0 O) dZ (by (simp;omega)) (by (simp;omega)) (fun _=>rfl) O) fun v12=>R.u 1 O<|R.nil ?_
       refine R.reg O<|R.u 1 O<|R.nil ?_
       refine R.reg O<|R.q (q.cj 1 O O aS) O<|R.q (q.cj 3 O O aS) O<|?_
       by_cases Il:x2.Place=p
       ·
        refine R.q (q.gX (x:=x2.Place) (y:=p) gK O O Il) O<|R.nil ?_
        refine R.aF O O ?_
        refine R.reg O<|R.u 1 O<|R.q (q.add (r:=((k+1:Nat):Int)) O O (wr (by omega))) O<|R.u 1 O<|R.nil ?_
        refine R.back (k+1,true,v12,(acc++([(⟨p,id⟩:Held)]))) O (by (exact ⟨by omega,by rw [dx l p id k _ hx2,← HA];(rw [fD (by omega)];(rw [if_pos ‹_›];done))⟩)) (by dsimp only;omega) ⟨rfl,rfl,rfl,rfl,rfl,rfl,trivial⟩ (aK [2,3,4] [0] O O O)
       ·
        refine R.q (q.gY (x:=x2.Place) (y:=p) gK O O Il) O<|R.nil ?_
        refine R.aE O O ?_
        refine R.reg O<|R.u 3 O<|R.q (q.idx (i:=k) (bJ 0 O) O O bK O hx2) O<|R.q (q.cY (ds:=dJ x2) (bJ 0 O) hx2 O dB O) O<|R.s O (s.bs (l:=([x2]:List Held)) bK dk O O O O O O O) fun b16=>R.s O (s.app (l2:=[x2]) 3 _ O O O (cJ 0 O) dZ (by (simp;omega)) (by (simp;omega)) (fun _=>rfl) O) fun v13=>R.u 1 O<|R.nil ?_
        refine R.reg O<|R.u 1 O<|R.q (q.add (r:=((k+1:Nat):Int)) O O (wr (by omega))) O<|R.u 1 O<|R.nil ?_
        refine R.back (k+1,true,v13,((acc++([(⟨p,id⟩:Held)]))++([x2]))) O (by (exact ⟨by omega,by rw [dx l p id k _ hx2,← HA];(rw [fD (by omega)];(rw [if_neg ‹_›];done))⟩)) (by dsimp only;omega) ⟨rfl,rfl,rfl,rfl,rfl,rfl,trivial⟩ (aK [3,4,5] [0] O O O)
     ·
      refine R.qg O (q.eql O O (beq_eq_false_iff_ne.2 (by omega))) O<|R.u 9 O<|R.nil ?_
      refine R.aF O O ?_
      refine R.reg O<|R.q (q.cj 0 O O aS) O<|R.q (q.cj 2 O O aS) O<|?_
      by_cases h18:x2.Place=p
      ·
       refine R.q (q.gX (x:=x2.Place) (y:=p) gK O O h18) O<|R.nil ?_
       refine R.aF O O ?_
       refine R.reg O<|R.u 1 O<|R.q (q.add (r:=((k+1:Nat):Int)) O O (wr (by omega))) O<|R.u 1 O<|R.nil ?_
       refine R.back (k+1,false,v,acc) O (by (exact ⟨by omega,by rw [dx l p id k _ hx2,← HA];(rw [dQ (by exact .inr (by omega))];(rw [if_pos ‹_›];done))⟩)) (by dsimp only;omega) ⟨rfl,rfl,rfl,rfl,rfl,rfl,trivial⟩ (aK [1,2,3] [0] O O O)
      ·
       refine R.q (q.gY (x:=x2.Place) (y:=p) gK O O h18) O<|R.nil ?_
       refine R.aE O O ?_
       refine R.reg O<|R.u 3 O<|R.q (q.idx (i:=k) (bJ 0 O) O O bK O hx2) O<|R.q (q.cY (ds:=dJ x2) (bJ 0 O) hx2 O dB O) O<|R.s O (s.bs (l:=([x2]:List Held)) bK dk O O O O O O O) fun b17=>R.s O (s.app (l2:=[x2]) 2 _ O O O (cJ 0 O) dZ (by (simp;omega)) (by (simp;omega)) (fun _=>rfl) O) fun v14=>R.u 1 O<|R.nil ?_
       refine R.reg O<|R.u 1 O<|R.q (q.add (r:=((k+1:Nat):Int)) O O (wr (by omega))) O<|R.u 1 O<|R.nil ?_
       refine R.back (k+1,false,v14,(acc++([x2]))) O (by (exact ⟨by omega,by rw [dx l p id k _ hx2,← HA];(rw [dQ (by exact .inr (by omega))];(rw [if_neg ‹_›];done))⟩)) (by dsimp only;omega) ⟨rfl,rfl,rfl,rfl,rfl,rfl,trivial⟩ (aK [2,3,4] [0] O O O)
   ·
    refine R.u 20 O<|R.nil ?_
    refine R.aF O O ?_
    refine R.reg O<|R.q (q.cj 0 O O aS) O<|R.q (q.cj 2 O O aS) O<|?_
    by_cases h19:x2.Place=p
    ·
     refine R.q (q.gX (x:=x2.Place) (y:=p) gK O O h19) O<|R.nil ?_
     refine R.aF O O ?_
     refine R.reg O<|R.u 1 O<|R.q (q.add (r:=((k+1:Nat):Int)) O O (wr (by omega))) O<|R.u 1 O<|R.nil ?_
     refine R.back (k+1,true,v,acc) O (by (exact ⟨by omega,by rw [dx l p id k _ hx2,← HA];(rw [dQ (by exact .inl O)];(rw [if_pos ‹_›];done))⟩)) (by dsimp only;omega) ⟨rfl,rfl,rfl,rfl,rfl,rfl,trivial⟩ (aK [1,2,3] [0] O O O)
    ·
     refine R.q (q.gY (x:=x2.Place) (y:=p) gK O O h19) O<|R.nil ?_
     refine R.aE O O ?_
     refine R.reg O<|R.u 3 O<|R.q (q.idx (i:=k) (bJ 0 O) O O bK O hx2) O<|R.q (q.cY (ds:=dJ x2) (bJ 0 O) hx2 O dB O) O<|R.s O (s.bs (l:=([x2]:List Held)) bK dk O O O O O O O) fun b18=>R.s O (s.app (l2:=[x2]) 2 _ O O O (cJ 0 O) dZ (by (simp;omega)) (by (simp;omega)) (fun _=>rfl) O) fun v15=>R.u 1 O<|R.nil ?_
     refine R.reg O<|R.u 1 O<|R.q (q.add (r:=((k+1:Nat):Int)) O O (wr (by omega))) O<|R.u 1 O<|R.nil ?_
     refine R.back (k+1,true,v15,(acc++([x2]))) O (by (exact ⟨by omega,by rw [dx l p id k _ hx2,← HA];(rw [dQ (by exact .inl O)];(rw [if_neg ‹_›];done))⟩)) (by dsimp only;omega) ⟨rfl,rfl,rfl,rfl,rfl,rfl,trivial⟩ (aK [2,3,4] [0] O O O)
  ·
   refine R.q (q.lss O O (decide_eq_false (by omega))) O<|R.nil ?_
   refine R.aF O O ?_
   refine R.reg O<|R.u 1 O<|R.q (q.not O) O<|R.nil ?_
   cases laid
   ·
    refine R.aE O O ?_
    refine R.reg O<|R.u 1 O<|R.q (q.cj 1 O O aS) O<|R.u 1 O<|R.q (q.build (cs:=[iV p.aj,iV p.Slot,iV id]) pO O O) O<|R.s O (s.bs (l:=([(⟨p,id⟩:Held)]:List Held)) bK dk O O O O O O O) fun b19=>R.s O (s.app (l2:=[(⟨p,id⟩:Held)]) 1 _ O O O (cJ 0 O) dZ (by (simp;omega)) (by (simp;omega)) (fun _=>rfl) O) fun v16=>R.u 1 O<|R.nil ?_
    refine R.reg O<|R.u 2 O<|R.nil ?_
    have hz:jl l p id=(acc++([(⟨p,id⟩:Held)])):=by (unfold jl;rw [List.take_of_length_le (by omega)] at HA;rw [← HA];dsimp only;exact if_neg Bool.false_ne_true)
    rw [hz]
    exact R.w1 v16 [1,3] [] O Tryz.results88 (RV.tmp O) O O O O
   ·
    refine R.aF O O ?_
    refine R.reg O<|R.u 2 O<|R.nil ?_
    have hz:jl l p id=acc:=by (unfold jl;rw [List.take_of_length_le (by omega)] at HA;rw [← HA];dsimp only;exact if_pos rfl)
    rw [hz]
    exact R.w1 v [0,2] [] O Tryz.results88 (RV.tmp O) O O O O
end Go.Proofs.YtbkfhjaibhnkmaaGreatDoor
