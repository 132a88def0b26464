import Derived.Test.YtbkfhjaibhnkmaaGreatDoorTSD12
import Derived.Test.YtbkfhjaibhnkmaaGreatDoorTSD10
import Derived.Test.YtbkfhjaibhnkmaaGreatDoorTSD13
namespace Go.Proofs.YtbkfhjaibhnkmaaGreatDoor
open Go Go.RowKit
set_option linter.unusedVariables false
set_option linter.unusedSimpArgs false
set_option maxRecDepth 100000
theorem kZ (bm:Value)(l:List Held)(w:World)(own:List Nat)(H:Wd w (blks []++own) ([]++[ag.held w own]) [ag.ls bm (l:List Held)] w)(hl:l.length≤1000000):Calls Tryz.prog 110 #[bm] w fun e w' => ∃z:Value,e = .returned (z)∧Wd w (blks []++own) ([ag.row 85 z (l:List Held)]++[ag.held w own]) [] w':=by
 have uP:=H.cX 0 rfl
 refine R.dc (n:=8) (vs:=[bm]) (B:=[ag.held w own]) [(0,bm)] Tryz.func110 rfl rfl rfl rfl H ?_
 refine R.reg rfl<|R.u 1 rfl<|R.nil ?_
 refine R.reg rfl<|R.u 1 rfl<|?_
 rcases Bool.eq_false_or_eq_true (j6 bm) with h1|h1
 ·
  refine R.q (q.zb (congrArg Value.bool h1) (q.mU (fun _=>Wd.aT 0 rfl) rfl rfl Tryz.underlying29)) rfl<|R.nil ?_
  refine R.aD rfl rfl ?_
  refine R.reg rfl<|R.u 1 rfl<|R.nil ?_
  refine R.row0 (α:=Held) 85 ?_
  have hz:l=[]:=by (first|rfl|exact (List.nil_append _).symm|exact Sl.j6 (H.aT 0 rfl) ‹_›)
  rw [hz]
  exact R.w1 (nS) [0,1] [] rfl Tryz.results110 (RV.tmp rfl) rfl rfl rfl rfl
 ·
  refine R.q (q.zb (congrArg Value.bool h1) (q.mU (fun _=>Wd.aT 0 rfl) rfl rfl Tryz.underlying29)) rfl<|R.nil ?_
  refine R.aI rfl rfl ?_
  refine R.reg rfl<|R.s rfl (s.bs (l:=([]:List Held)) bD fA rfl rfl rfl rfl rfl rfl rfl) fun b1=>R.u 1 rfl<|R.s rfl (s.app (l2:=l) 0 _ rfl rfl rfl (fun _=>Wd.aT 0 rfl) jy (by simp;omega) (by simp;omega) (fun _=>rfl) rfl) fun v1=>R.u 1 rfl<|R.nil ?_
  have hz:l=(([])++l):=by (first|rfl|exact (List.nil_append _).symm|exact Sl.j6 (H.aT 0 rfl) ‹_›)
  rw [hz]
  exact R.w1 v1 [0,1] [] rfl Tryz.results110 (RV.tmp rfl) rfl rfl rfl rfl
theorem ow (bm:Value)(l:List Held)(i:Nat)(j:Nat)(w:World)(own:List Nat)(H:Wd w (blks [ag.row 85 bm (l:List Held)]++own) ([ag.row 85 bm (l:List Held)]++[ag.held w own]) [] w)(hij:i≤j∧j≤l.length):Calls Tryz.prog 117 #[bm,iV (i:Int),iV (j:Int)] w fun e w' => ∃z:Value,e = .returned (z)∧Wd w (blks [ag.row 85 bm (l:List Held)]++own) ([ag.row 85 z ((l.take i++l.drop j):List Held)]++[ag.held w own]) [] w':=by
 have wm:=H.cap 0 rfl;have uP:=H.om 0 rfl
 refine R.dc (n:=33) (vs:=[bm,iV (i:Int),iV (j:Int)]) (B:=[ag.row 85 bm (l:List Held),ag.held w own]) [(0,bm),(1,iV (i:Int)),(2,iV (j:Int))] Tryz.func117 rfl rfl rfl rfl H ?_
 refine R.reg rfl<|R.u 1 rfl<|R.nil ?_
 refine R.reg rfl<|R.u 4 rfl<|R.q (q.len' (fun _=>Wd.row 0 rfl) rfl Tryz.underlying29) rfl<|R.q (q.BD (i:=i) (j:=j) (q':=l.length) (fun _=>Wd.row 0 rfl) rfl rfl rfl rfl bD rfl rfl rfl (by omega) (by omega) (by omega)) rfl<|R.nil ?_
 refine R.reg rfl<|R.u 2 rfl<|?_
 by_cases h1:i=j
 ·
  refine R.q (q.eql rfl rfl (beq_iff_eq.2 (by omega))) rfl<|R.nil ?_
  refine R.aD rfl rfl ?_
  refine R.reg rfl<|R.u 2 rfl<|R.nil ?_
  have hz:l.take i++l.drop j=l:=by (first|rfl|exact i6 (by omega))
  rw [hz]
  exact R.w1 bm [0,1] [] rfl Tryz.results117 (RV.tmp rfl) rfl rfl rfl rfl
 ·
  refine R.q (q.eql rfl rfl (beq_eq_false_iff_ne.2 (by omega))) rfl<|R.nil ?_
  refine R.aI rfl rfl ?_
  refine R.reg rfl<|R.u 1 rfl<|R.q (q.len' (fun _=>Wd.row 0 rfl) rfl Tryz.underlying29) rfl<|R.u 1 rfl<|R.nil ?_
  refine R.gN (fuel:=8) (Wd w (blks [ag.row 85 bm (l:List Held)]++own) [ag.held w own] []) rfl mixed rfl ?_
  refine D.q (i:=0) rfl (by kernel_rfl) (fun _=>Wd.aM [1] [] rfl rfl rfl) rfl (q.mv rfl) rfl<|D.q (i:=1) rfl (by kernel_rfl) (fun _=>Wd.aM [1] [] rfl rfl rfl) rfl (q.mv rfl) rfl<|D.q (i:=3) rfl (by kernel_rfl) (fun _=>Wd.aM [1] [] rfl rfl rfl) rfl (q.mv rfl) rfl<|D.q (i:=4) rfl (by kernel_rfl) (fun _=>Wd.aM [1] [] rfl rfl rfl) rfl (q.mv rfl) rfl<|D.two (i:=2) (j:=5) (by kernel_rfl) rfl rfl ?_ ?_
  ·
   refine Do.s (s.c (Qt.a (q.hY (i:=i) (fun _=>Wd.row 0 rfl) rfl rfl Tryz.underlying29 nD rfl (by first|omega|(simp;omega)))) rfl) (fun _=>(fun _=>Wd.aM [1] [] rfl rfl rfl)) rfl fun _=>D.one (i:=5) (by kernel_rfl) rfl ?_
   refine Do.s (s.c (Qt.a (q.dI (i:=j) (fun _=>Wd.row 0 rfl) rfl rfl bD rfl (by first|omega|(simp;omega)))) rfl) (fun _=>(fun _=>Wd.aM [1] [] rfl rfl rfl)) rfl fun _=>D.one (i:=6) (by kernel_rfl) rfl ?_
   refine Do.s (s.qc (a:=i) (l2:=(l.drop j)) 0 _ rfl rfl rfl (fun w hw=>Sl.from (hw.row 0 rfl) (by omega)) jy (by omega) (by simp;omega) rfl rfl) (fun _=>(fun _=>Wd.aM [1] [] rfl rfl rfl)) rfl fun _=>D.q (i:=7) rfl (by kernel_rfl) (fun _=>Wd.aM [1] [] rfl rfl rfl) rfl (q.as rfl) rfl<|D.done (by kernel_rfl)<|R.reg rfl<|R.u 2 rfl<|R.q (q.len' (fun _=>Wd.row 0 rfl) rfl Tryz.underlying29) rfl<|R.u 1 rfl<|R.q (q.sl2 (i:=(l.take i++(l.drop j)).length) (j:=l.length) (fun _=>Wd.row 0 rfl) rfl rfl rfl bD rfl rfl (by first|omega|(simp;omega)) (by first|assumption|omega|(simp;omega)|(simp [eR];omega))) rfl<|R.s rfl (s.tH (lo:=(l.take i++(l.drop j)).length) (hi:=l.length) (z0:=(⟨(⟨0,0⟩:Place),0⟩:Held)) 0 rfl rfl bD fA rfl (by first|omega|(simp;omega)) (by first|omega|(simp;omega)) (by first|assumption|omega|(simp;omega)|(simp [eR];omega))) fun _=>R.nil ?_
   refine R.reg rfl<|R.u 2 rfl<|R.nil ?_
   have hz:l.take i++l.drop j=(l.take i++(l.drop j)):=by (first|rfl|exact i6 (by omega))
   rw [hz]
   exact R.w1 (hY bm (i+(l.drop j).length)) [0,1] [] rfl Tryz.results117 (RV.tmp rfl) rfl rfl rfl rfl
  ·
   refine Do.s (s.c (Qt.a (q.dI (i:=j) (fun _=>Wd.row 0 rfl) rfl rfl bD rfl (by first|omega|(simp;omega)))) rfl) (fun _=>(fun _=>Wd.aM [1] [] rfl rfl rfl)) rfl fun _=>D.one (i:=2) (by kernel_rfl) rfl ?_
   refine Do.s (s.c (Qt.a (q.hY (i:=i) (fun _=>Wd.row 0 rfl) rfl rfl Tryz.underlying29 nD rfl (by first|omega|(simp;omega)))) rfl) (fun _=>(fun _=>Wd.aM [1] [] rfl rfl rfl)) rfl fun _=>D.one (i:=6) (by kernel_rfl) rfl ?_
   refine Do.s (s.qc (a:=i) (l2:=(l.drop j)) 0 _ rfl rfl rfl (fun w hw=>Sl.from (hw.row 0 rfl) (by omega)) jy (by omega) (by simp;omega) rfl rfl) (fun _=>(fun _=>Wd.aM [1] [] rfl rfl rfl)) rfl fun _=>D.q (i:=7) rfl (by kernel_rfl) (fun _=>Wd.aM [1] [] rfl rfl rfl) rfl (q.as rfl) rfl<|D.done (by kernel_rfl)<|R.reg rfl<|R.u 2 rfl<|R.q (q.len' (fun _=>Wd.row 0 rfl) rfl Tryz.underlying29) rfl<|R.u 1 rfl<|R.q (q.sl2 (i:=(l.take i++(l.drop j)).length) (j:=l.length) (fun _=>Wd.row 0 rfl) rfl rfl rfl bD rfl rfl (by first|omega|(simp;omega)) (by first|assumption|omega|(simp;omega)|(simp [eR];omega))) rfl<|R.s rfl (s.tH (lo:=(l.take i++(l.drop j)).length) (hi:=l.length) (z0:=(⟨(⟨0,0⟩:Place),0⟩:Held)) 0 rfl rfl bD fA rfl (by first|omega|(simp;omega)) (by first|omega|(simp;omega)) (by first|assumption|omega|(simp;omega)|(simp [eR];omega))) fun _=>R.nil ?_
   refine R.reg rfl<|R.u 2 rfl<|R.nil ?_
   have hz:l.take i++l.drop j=(l.take i++(l.drop j)):=by (first|rfl|exact i6 (by omega))
   rw [hz]
   exact R.w1 (hY bm (i+(l.drop j).length)) [0,1] [] rfl Tryz.results117 (RV.tmp rfl) rfl rfl rfl rfl
set_option maxRecDepth 100000 in
theorem ox (bm:Value)(l:List Held)(i:Nat)(wn:Value)(u:List Held)(w:World)(own:List Nat)(H:Wd w (blks [ag.row 85 bm (l:List Held),ag.row 85 wn (u:List Held)]++own) ([ag.row 85 bm (l:List Held),ag.row 85 wn (u:List Held)]++[ag.held w own]) [] w)(hi:i≤l.length)(hu:u.length=1)(hl:l.length≤1000000):Calls Tryz.prog 118 #[bm,iV (i:Int),wn] w fun e w' => ∃z:Value,e = .returned (z)∧Wd w (blks [ag.row 85 bm (l:List Held),ag.row 85 wn (u:List Held)]++own) ([ag.row 85 z ((l.take i++u++l.drop i):List Held)]++[ag.held w own]) [] w':=by
 have wm:=H.cap 0 rfl;have uP:=H.om 0 rfl
 have EL:=H.cap 1 rfl;have EM:=H.om 1 rfl
 refine R.dc (n:=95) (vs:=[bm,iV (i:Int),wn]) (B:=[ag.row 85 bm (l:List Held),ag.row 85 wn (u:List Held),ag.held w own]) [(0,bm),(1,iV (i:Int)),(2,wn)] Tryz.func118 rfl rfl rfl rfl H ?_
 refine R.reg rfl<|R.u 1 rfl<|R.nil ?_
 refine R.reg rfl<|R.u 2 rfl<|R.q (q.dI (i:=i) (fun _=>Wd.row 0 rfl) rfl rfl bD rfl (by first|omega|(simp;omega))) rfl<|R.nil ?_
 refine R.reg rfl<|R.u 1 rfl<|R.q (q.len' (fun _=>Wd.row 1 rfl) rfl Tryz.underlying29) rfl<|R.u 1 rfl<|R.nil ?_
 refine R.reg rfl<|R.u 1 rfl<|?_
 by_cases h1:u.length=0
 ·
  refine R.q (q.eql rfl rfl (beq_iff_eq.2 (by omega))) rfl<|R.nil ?_
  refine R.aD rfl rfl ?_
  refine R.reg rfl<|R.u 2 rfl<|R.nil ?_
  have hz:l.take i++u++l.drop i=l:=by (first|(exfalso;omega)|exact lQ (by omega)|exact j8 hu (by omega) rfl|exact ou hu (by omega))
  rw [hz]
  exact R.w1 bm [0,2] [] rfl Tryz.results118 (RV.tmp rfl) rfl rfl rfl rfl
 ·
  refine R.q (q.eql rfl rfl (beq_eq_false_iff_ne.2 (by omega))) rfl<|R.nil ?_
  refine R.aI rfl rfl ?_
  refine R.reg rfl<|R.u 1 rfl<|R.q (q.len' (fun _=>Wd.row 0 rfl) rfl Tryz.underlying29) rfl<|R.u 1 rfl<|R.nil ?_
  refine R.reg rfl<|R.u 2 rfl<|?_
  by_cases h2:i=l.length
  ·
   refine R.q (q.eql rfl rfl (beq_iff_eq.2 (by omega))) rfl<|R.nil ?_
   refine R.aD rfl rfl ?_
   refine R.reg rfl<|R.u 2 rfl<|R.s rfl (s.app (l2:=u) 0 _ rfl rfl rfl (fun _=>Wd.row 1 rfl) jy (by first|omega|(simp;done)|(simp;omega)) (by first|omega|(simp;done)|(simp;omega)) (fun _=>rfl) rfl) fun v1=>R.u 1 rfl<|R.nil ?_
   have hz:l.take i++u++l.drop i=(l++u):=by (first|(exfalso;omega)|exact lQ (by omega)|exact j8 hu (by omega) rfl|exact ou hu (by omega))
   rw [hz]
   exact R.w1 v1 [0,2] [] rfl Tryz.results118 (RV.tmp rfl) rfl rfl rfl rfl
  ·
   refine R.q (q.eql rfl rfl (beq_eq_false_iff_ne.2 (by omega))) rfl<|R.nil ?_
   refine R.aI rfl rfl ?_
   refine R.reg rfl<|R.u 2 rfl<|R.q (q.add (r:=((l.length+u.length:Nat):Int)) rfl rfl (wr (by omega))) rfl<|R.u 1 rfl<|R.q (q.cap (fun _=>Wd.row 0 rfl) rfl Tryz.underlying29) rfl<|?_
   by_cases h3:(gV bm)<(l.length+u.length)
   ·
    refine R.q (q.gtr rfl rfl (decide_eq_true (by omega))) rfl<|R.nil ?_
    refine R.aD rfl rfl ?_
    refine R.reg rfl<|R.u 2 rfl<|R.q (q.hY (i:=i) (fun _=>Wd.row 0 rfl) rfl rfl Tryz.underlying29 nD rfl (by first|omega|(simp;omega))) rfl<|R.u 2 rfl<|R.q (q.add (r:=((l.length+u.length:Nat):Int)) rfl rfl (wr (by omega))) rfl<|R.u 1 rfl<|R.q (q.sub (r:=(((l.length+u.length)-i:Nat):Int)) rfl rfl (wr (by omega))) rfl<|R.s rfl (s.xS (o:=i) (m:=((l.length+u.length)-i)) (z0:=(⟨(⟨0,0⟩:Place),0⟩:Held)) 0 rfl rfl rfl rfl jy Tryz.underlying3 fA rfl (by omega) (by omega) (by omega) (by omega) (by omega) rfl) fun v2=>R.u 1 rfl<|R.nil ?_
    refine R.reg rfl<|R.u 2 rfl<|R.q (q.dI (i:=i) (fun _=>Wd.row 0 rfl) rfl rfl bD rfl (by first|omega|(simp;omega))) rfl<|R.u 1 rfl<|R.s rfl (s.tG (o:=i) (l2:=u) 0 _ rfl (fun _=>Wd.row 2 rfl) rfl rfl bD (by first|omega|(simp;done)|(simp;omega)) rfl rfl) fun _=>R.nil ?_
    refine R.gN (fuel:=9) (Wd w (blks [ag.row 85 bm (l:List Held),ag.row 85 wn (u:List Held)]++own) [ag.row 85 bm (l:List Held),ag.row 85 wn (u:List Held),ag.held w own] []) rfl mixed rfl ?_
    refine D.q (i:=0) rfl (by kernel_rfl) (fun _=>Wd.aM [1,2,3] [] rfl rfl rfl) rfl (q.mv rfl) rfl<|D.q (i:=1) rfl (by kernel_rfl) (fun _=>Wd.aM [1,2,3] [] rfl rfl rfl) rfl (q.mv rfl) rfl<|D.q (i:=2) rfl (by kernel_rfl) (fun _=>Wd.aM [1,2,3] [] rfl rfl rfl) rfl (q.mv rfl) rfl<|D.q (i:=3) rfl (by kernel_rfl) (fun _=>Wd.aM [1,2,3] [] rfl rfl rfl) rfl (q.add (r:=((i+u.length:Nat):Int)) rfl rfl (wr (by omega))) rfl<|D.q (i:=5) rfl (by kernel_rfl) (fun _=>Wd.aM [1,2,3] [] rfl rfl rfl) rfl (q.mv rfl) rfl<|D.q (i:=6) rfl (by kernel_rfl) (fun _=>Wd.aM [1,2,3] [] rfl rfl rfl) rfl (q.mv rfl) rfl<|D.q (i:=7) rfl (by kernel_rfl) (fun _=>Wd.aM [1,2,3] [] rfl rfl rfl) rfl (q.dI (i:=i) (fun _=>Wd.row 0 rfl) rfl rfl bD rfl (by first|omega|(simp;omega))) rfl<|D.one (i:=4) (by kernel_rfl) rfl ?_
    refine Do.s (s.c (Qt.a (q.dI (i:=(i+u.length)) (fun _=>Wd.row 0 rfl) rfl rfl bD rfl (by first|omega|(simp;omega)))) rfl) (fun _=>(fun _=>Wd.aM [1,2,3] [] rfl rfl rfl)) rfl fun _=>D.one (i:=8) (by kernel_rfl) rfl ?_
    refine Do.s (s.tG (o:=(i+u.length)) (l2:=(l.drop i)) 0 _ rfl (fun w hw=>Sl.from (hw.row 1 rfl) (by omega)) rfl rfl bD (by first|omega|(simp;done)|(simp;omega)) rfl rfl) (fun _=>(fun _=>Wd.aM [1,2,3] [] rfl rfl rfl)) rfl fun _=>D.done (by kernel_rfl)<|R.reg rfl<|R.u 2 rfl<|R.nil ?_
    have hz:l.take i++u++l.drop i=(((l.take i++List.replicate ((l.length+u.length)-i) (⟨(⟨0,0⟩:Place),0⟩:Held)).take i++u++(l.take i++List.replicate ((l.length+u.length)-i) (⟨(⟨0,0⟩:Place),0⟩:Held)).drop (i+u.length)).take (i+u.length)++(l.drop i)++((l.take i++List.replicate ((l.length+u.length)-i) (⟨(⟨0,0⟩:Place),0⟩:Held)).take i++u++(l.take i++List.replicate ((l.length+u.length)-i) (⟨(⟨0,0⟩:Place),0⟩:Held)).drop (i+u.length)).drop ((i+u.length)+(l.drop i).length)):=by (first|(exfalso;omega)|exact lQ (by omega)|exact j8 hu (by omega) rfl|exact ou hu (by omega))
    rw [hz]
    exact R.w1 v2 [0,3] [] rfl Tryz.results118 (RV.tmp rfl) rfl rfl rfl rfl
   ·
    refine R.q (q.gtr rfl rfl (decide_eq_false (by omega))) rfl<|R.nil ?_
    refine R.aI rfl rfl ?_
    refine R.reg rfl<|R.u 3 rfl<|R.q (q.add (r:=((l.length+u.length:Nat):Int)) rfl rfl (wr (by omega))) rfl<|R.q (q.De (i:=(l.length+u.length)) (fun _=>Wd.row 0 rfl) rfl rfl bD rfl (by first|omega|assumption)) rfl<|R.u 1 rfl<|R.nil ?_
    refine R.reg rfl<|R.u 4 rfl<|R.q (q.add (r:=((i+u.length:Nat):Int)) rfl rfl (wr (by omega))) rfl<|R.q (q.oh (i:=(i+u.length)) (fun _=>Wd.row 0 rfl) rfl rfl bD rfl (by omega) (by first|assumption|omega|(simp [eR];omega))) rfl<|R.q (q.Ei (i:=1) (j:=0) (tR:=4) Tryz.func156 rfl rfl (by kernel_rfl) (by kernel_rfl) bD rfl rfl (by decide) (by omega) (by omega) rfl rfl rfl rfl) rfl<|R.u 1 rfl<|R.nil ?_
    refine R.aD rfl rfl ?_
    refine R.gN (fuel:=9) (Wd w (blks [ag.row 85 bm (l:List Held),ag.row 85 wn (u:List Held)]++own) [ag.row 85 wn (u:List Held),ag.held w own] []) rfl mixed rfl ?_
    refine D.q (i:=0) rfl (by kernel_rfl) (fun _=>Wd.aM [1,2] [] rfl rfl rfl) rfl (q.mv rfl) rfl<|D.q (i:=1) rfl (by kernel_rfl) (fun _=>Wd.aM [1,2] [] rfl rfl rfl) rfl (q.mv rfl) rfl<|D.q (i:=2) rfl (by kernel_rfl) (fun _=>Wd.aM [1,2] [] rfl rfl rfl) rfl (q.mv rfl) rfl<|D.q (i:=3) rfl (by kernel_rfl) (fun _=>Wd.aM [1,2] [] rfl rfl rfl) rfl (q.add (r:=((i+u.length:Nat):Int)) rfl rfl (wr (by omega))) rfl<|D.q (i:=5) rfl (by kernel_rfl) (fun _=>Wd.aM [1,2] [] rfl rfl rfl) rfl (q.mv rfl) rfl<|D.q (i:=6) rfl (by kernel_rfl) (fun _=>Wd.aM [1,2] [] rfl rfl rfl) rfl (q.mv rfl) rfl<|D.two (i:=4) (j:=7) (by kernel_rfl) rfl rfl ?_ ?_
    ·
     refine Do.s (s.c (Qt.a (q.oh (i:=(i+u.length)) (fun _=>Wd.row 0 rfl) rfl rfl bD rfl (by omega) (by first|assumption|omega|(simp [eR];omega)))) rfl) (fun _=>(fun _=>Wd.aM [1,2] [] rfl rfl rfl)) rfl fun _=>D.one (i:=7) (by kernel_rfl) rfl ?_
     refine Do.s (s.c (Qt.a (q.oh (i:=i) (fun _=>Wd.row 0 rfl) rfl rfl bD rfl (by omega) (by first|assumption|omega|(simp [eR];omega)))) rfl) (fun _=>(fun _=>Wd.aM [1,2] [] rfl rfl rfl)) rfl fun _=>D.one (i:=8) (by kernel_rfl) rfl ?_
     refine Do.s (s.vN (o:=i) 0 _ rfl (by omega) (by omega) (by omega) (by first|assumption|omega) rfl rfl bD rfl rfl) (fun _=>(fun _=>Wd.aM [1,2] [] rfl rfl rfl)) rfl fun _=>D.done (by kernel_rfl)<|R.reg rfl<|R.u 2 rfl<|R.q (q.dI (i:=i) (fun _=>Wd.row 0 rfl) rfl rfl bD rfl (by first|omega|(simp;omega))) rfl<|R.u 1 rfl<|R.s rfl (s.tG (o:=i) (l2:=u) 0 _ rfl (fun _=>Wd.row 1 rfl) rfl rfl bD (by first|omega|(simp;done)|(simp;omega)) rfl rfl) fun _=>R.nil ?_
     refine R.reg rfl<|R.u 2 rfl<|R.nil ?_
     have hz:l.take i++u++l.drop i=((l.take (i+1)++l.drop i).take i++u++(l.take (i+1)++l.drop i).drop (i+u.length)):=by (first|(exfalso;omega)|exact lQ (by omega)|exact j8 hu (by omega) rfl|exact ou hu (by omega))
     rw [hz]
     exact R.w1 (hY bm (l.length+u.length)) [0,2] [] rfl Tryz.results118 (RV.tmp rfl) rfl rfl rfl rfl
    ·
     refine Do.s (s.c (Qt.a (q.oh (i:=i) (fun _=>Wd.row 0 rfl) rfl rfl bD rfl (by omega) (by first|assumption|omega|(simp [eR];omega)))) rfl) (fun _=>(fun _=>Wd.aM [1,2] [] rfl rfl rfl)) rfl fun _=>D.one (i:=4) (by kernel_rfl) rfl ?_
     refine Do.s (s.c (Qt.a (q.oh (i:=(i+u.length)) (fun _=>Wd.row 0 rfl) rfl rfl bD rfl (by omega) (by first|assumption|omega|(simp [eR];omega)))) rfl) (fun _=>(fun _=>Wd.aM [1,2] [] rfl rfl rfl)) rfl fun _=>D.one (i:=8) (by kernel_rfl) rfl ?_
     refine Do.s (s.vN (o:=i) 0 _ rfl (by omega) (by omega) (by omega) (by first|assumption|omega) rfl rfl bD rfl rfl) (fun _=>(fun _=>Wd.aM [1,2] [] rfl rfl rfl)) rfl fun _=>D.done (by kernel_rfl)<|R.reg rfl<|R.u 2 rfl<|R.q (q.dI (i:=i) (fun _=>Wd.row 0 rfl) rfl rfl bD rfl (by first|omega|(simp;omega))) rfl<|R.u 1 rfl<|R.s rfl (s.tG (o:=i) (l2:=u) 0 _ rfl (fun _=>Wd.row 1 rfl) rfl rfl bD (by first|omega|(simp;done)|(simp;omega)) rfl rfl) fun _=>R.nil ?_
     refine R.reg rfl<|R.u 2 rfl<|R.nil ?_
     have hz:l.take i++u++l.drop i=((l.take (i+1)++l.drop i).take i++u++(l.take (i+1)++l.drop i).drop (i+u.length)):=by (first|(exfalso;omega)|exact lQ (by omega)|exact j8 hu (by omega) rfl|exact ou hu (by omega))
     rw [hz]
     exact R.w1 (hY bm (l.length+u.length)) [0,2] [] rfl Tryz.results118 (RV.tmp rfl) rfl rfl rfl rfl
theorem pL (x:Int)(w:World)  : Calls Tryz.prog 177 #[iV x] w fun e w'=>e = .returned (.bool false)∧Ext w w':=by
 refine R.enter (n:=6) (vs:=[iV x]) [] [(0,iV x)] Tryz.func177 rfl rfl rfl rfl ?_
 refine R.reg rfl<|R.u 1 rfl<|R.nil ?_
 refine R.reg rfl<|R.u 2 rfl<|R.q (q.neq rfl rfl (bne_eq_false_iff_eq.2 (by omega))) rfl<|R.u 1 rfl<|R.nil ?_
 exact R.rv rfl Tryz.results177 rfl (rB (by (rfl)))
theorem m4 (x:Int)(y:Int)(w:World)  : Calls Tryz.prog 179 #[iV x,iV y] w fun e w'=>e = .returned (iV (kN x y))∧Ext w w':=by
 refine R.enter (n:=20) (vs:=[iV x,iV y]) [] [(0,iV x),(1,iV y)] Tryz.func179 rfl rfl rfl rfl ?_
 refine R.reg rfl<|R.u 1 rfl<|R.nil ?_
 refine R.reg rfl<|R.u 1 rfl<|R.c (q.call wa rfl rfl (fun w hw=>(pL (x) w  ))) rfl<|R.u 1 rfl<|R.nil ?_
 refine R.reg rfl<|R.u 1 rfl<|R.c (q.call wa rfl rfl (fun w hw=>(pL (y) w  ))) rfl<|R.u 1 rfl<|R.nil ?_
 refine R.reg rfl<|R.u 1 rfl<|R.nil ?_
 refine R.aI rfl rfl ?_
 refine R.reg rfl<|R.u 1 rfl<|R.nil ?_
 refine R.aI rfl rfl ?_
 refine R.reg rfl<|R.u 2 rfl<|?_
 by_cases h1:x<y
 ·
  refine R.q (q.lss rfl rfl (decide_eq_true (by omega))) rfl<|R.nil ?_
  refine R.aD rfl rfl ?_
  refine R.reg rfl<|R.u 1 rfl<|R.nil ?_
  exact R.rv rfl Tryz.results179 rfl (rI (by (unfold kN;first|rw [if_pos (by omega)] | rw [if_neg (by omega),if_pos (by omega)] | rw [if_neg (by omega),if_neg (by omega)])))
 ·
  refine R.q (q.lss rfl rfl (decide_eq_false (by omega))) rfl<|R.nil ?_
  refine R.aI rfl rfl ?_
  refine R.reg rfl<|R.u 2 rfl<|?_
  by_cases h2:y<x
  ·
   refine R.q (q.gtr rfl rfl (decide_eq_true (by omega))) rfl<|R.nil ?_
   refine R.aD rfl rfl ?_
   refine R.reg rfl<|R.u 1 rfl<|R.nil ?_
   exact R.rv rfl Tryz.results179 rfl (rI (by (unfold kN;first|rw [if_pos (by omega)] | rw [if_neg (by omega),if_pos (by omega)] | rw [if_neg (by omega),if_neg (by omega)])))
  ·
   refine R.q (q.gtr rfl rfl (decide_eq_false (by omega))) rfl<|R.nil ?_
   refine R.aI rfl rfl ?_
   refine R.reg rfl<|R.u 1 rfl<|R.nil ?_
   exact R.rv rfl Tryz.results179 rfl (rI (by (unfold kN;first|rw [if_pos (by omega)] | rw [if_neg (by omega),if_pos (by omega)] | rw [if_neg (by omega),if_neg (by omega)])))
theorem uQ (bm:Value)(l:List Int)(w:World)(cp:Sl w bm l):Calls Tryz.prog 178 #[bm] w fun e w'=>e = .returned (iV (wj l))∧Ext w w':=by
 have ql:=cp.dH
 refine R.enter (n:=18) (vs:=[bm]) [] [(0,bm)] Tryz.func178 rfl rfl rfl rfl ?_
 refine R.reg rfl<|R.u 1 rfl<|R.nil ?_
 refine R.reg rfl<|R.u 1 rfl<|R.nil ?_
 refine R.reg rfl<|R.u 1 rfl<|R.q (q.len' (fun _=>Wd.old cp) rfl Tryz.underlying60) rfl<|R.u 1 rfl<|R.nil ?_
 refine R.loop (fun k:Nat=>[(3,iV 0),(6,bm),(7,iV (l.length:Int)),(8,iV (k:Int))]) (fun k:Nat=>[]) (fun k:Nat=>[]) (fun k:Nat=>wj l=wj (l.drop k)) (fun k:Nat=>l.length-k) 0 rfl (by rfl) ⟨rfl,rfl,rfl,rfl,trivial⟩ (fun _=>Wd.pick [] [] rfl rfl rfl) ?_
 rintro k HA
 refine R.reg rfl<|?_
 by_cases h1:k<l.length
 ·
  refine R.q (q.lss rfl rfl (decide_eq_true (by omega))) rfl<|R.nil ?_
  refine R.aD rfl rfl ?_
  refine R.reg rfl<|?_
  obtain ⟨x1,hx1⟩:∃z,l[k]? = some z:=⟨_,List.getElem?_eq_getElem (by omega)⟩
  refine R.q (q.idx (i:=k) (fun _=>Wd.old cp) rfl rfl ct rfl hx1) rfl<|R.q (q.fk (fun _=>Wd.old cp) hx1 rfl av rfl) rfl<|R.u 1 rfl<|R.nil ?_
  refine R.reg rfl<|R.u 2 rfl<|?_
  by_cases h2:x1=0
  ·
   refine R.q (q.neq rfl rfl (bne_eq_false_iff_eq.2 (by omega))) rfl<|R.nil ?_
   refine R.aI rfl rfl ?_
   refine R.reg rfl<|R.q (q.add (r:=((k+1:Nat):Int)) rfl rfl (wr (by omega))) rfl<|R.u 1 rfl<|R.nil ?_
   refine R.back (k+1) rfl (by (rw [HA];exact wk hx1 (by omega))) (by omega) ⟨rfl,rfl,rfl,rfl,trivial⟩ (fun _=>Wd.pick [] [] rfl rfl rfl)
  ·
   refine R.q (q.neq rfl rfl (bne_iff_ne.2 (by omega))) rfl<|R.nil ?_
   refine R.aD rfl rfl ?_
   refine R.reg rfl<|R.u 2 rfl<|R.nil ?_
   exact R.rv rfl Tryz.results178 rfl (rI (by (rw [HA];exact (yc hx1 (by omega)).symm)))
 ·
  refine R.q (q.lss rfl rfl (decide_eq_false (by omega))) rfl<|R.nil ?_
  refine R.aI rfl rfl ?_
  refine R.reg rfl<|R.u 2 rfl<|R.nil ?_
  exact R.rv rfl Tryz.results178 rfl (rI (by (rw [HA,List.drop_of_length_le (by omega)];rfl)))
theorem qm (a:Place)(b:Place)(w:World)  : Calls Tryz.prog 155 #[.agg #[iV a.ao,iV a.Slot],.agg #[iV b.ao,iV b.Slot]] w fun e w'=>e = .returned (iV (kO a b))∧Ext w w':=by
 refine R.enter (n:=17) (vs:=[.agg #[iV a.ao,iV a.Slot],.agg #[iV b.ao,iV b.Slot]]) [] [(0,.agg #[iV a.ao,iV a.Slot]),(1,.agg #[iV b.ao,iV b.Slot])] Tryz.func155 rfl rfl rfl rfl ?_
 refine R.reg rfl<|R.s rfl (s.box (cs:=aE a) rfl rfl rfl) fun b1=>R.s rfl (s.box (cs:=aE b) rfl rfl rfl) fun b2=>R.u 1 rfl<|R.nil ?_
 refine R.gN (fuel:=13) (Wd w [] [ag.box b2 (aE b) 39,ag.box b1 (aE a) 39] []) rfl mixed rfl ?_
 refine D.q (i:=0) rfl (by kernel_rfl) (fun _=>Wd.aM [0,1] [] rfl rfl rfl) rfl (q.a8 (off':=0) rfl bG rfl) rfl<|D.q (i:=1) rfl (by kernel_rfl) (fun _=>Wd.aM [0,1] [] rfl rfl rfl) rfl (q.ld 1 rfl rfl av rfl) rfl<|D.q (i:=2) rfl (by kernel_rfl) (fun _=>Wd.aM [0,1] [] rfl rfl rfl) rfl (q.a8 (off':=0) rfl bG rfl) rfl<|D.q (i:=3) rfl (by kernel_rfl) (fun _=>Wd.aM [0,1] [] rfl rfl rfl) rfl (q.ld 0 rfl rfl av rfl) rfl<|D.q (i:=5) rfl (by kernel_rfl) (fun _=>Wd.aM [0,1] [] rfl rfl rfl) rfl (q.a8 (off':=1) rfl eS rfl) rfl<|D.q (i:=6) rfl (by kernel_rfl) (fun _=>Wd.aM [0,1] [] rfl rfl rfl) rfl (q.ld 1 rfl rfl av rfl) rfl<|D.q (i:=7) rfl (by kernel_rfl) (fun _=>Wd.aM [0,1] [] rfl rfl rfl) rfl (q.a8 (off':=1) rfl eS rfl) rfl<|D.q (i:=8) rfl (by kernel_rfl) (fun _=>Wd.aM [0,1] [] rfl rfl rfl) rfl (q.ld 0 rfl rfl av rfl) rfl<|D.one (i:=4) (by kernel_rfl) rfl ?_
 refine Do.s (s.c (q.call wb rfl rfl (fun w hw=>(m4 (a.ao) (b.ao) w  ))) rfl) (fun _=>(fun _=>Wd.aM [0,1] [] rfl rfl rfl)) rfl fun _=>D.one (i:=9) (by kernel_rfl) rfl ?_
 refine Do.s (s.c (q.call wb rfl rfl (fun w hw=>(m4 (a.Slot) (b.Slot) w  ))) rfl) (fun _=>(fun _=>Wd.aM [0,1] [] rfl rfl rfl)) rfl fun _=>D.one (i:=10) (by kernel_rfl) rfl ?_
 refine Do.s (s.bs (l:=([kN a.ao b.ao,kN a.Slot b.Slot]:List Int)) ct iH rfl rfl rfl rfl rfl rfl rfl) (fun _=>(fun _=>Wd.aM [1,2] [] rfl rfl rfl)) rfl fun b3=>D.one (i:=11) (by kernel_rfl) rfl ?_
 exact Do.s (s.c (q.call Ae rfl rfl (fun w hw=>(uQ _ ([kN a.ao b.ao,kN a.Slot b.Slot]) w (hw.row 0 rfl) ))) rfl) (fun _=>(fun _=>Wd.aM [1,2] [] rfl rfl rfl)) rfl fun _=>D.q (i:=12) rfl (by kernel_rfl) (fun _=>Wd.aM [1,2] [] rfl rfl rfl) rfl (q.as rfl) rfl<|D.done (by kernel_rfl)<|R.rv rfl Tryz.results155 rfl (rI (by (exact yd a b)))
theorem qn (h:Held)(pl:Place)(w:World)  : Calls Tryz.prog 154 #[.agg #[iV h.Place.ao,iV h.Place.Slot,iV h.aj],.agg #[iV pl.ao,iV pl.Slot]] w fun e w'=>e = .returned (iV (kO h.Place pl))∧Ext w w':=by
 refine R.enter (n:=9) (vs:=[.agg #[iV h.Place.ao,iV h.Place.Slot,iV h.aj],.agg #[iV pl.ao,iV pl.Slot]]) [] [(0,.agg #[iV h.Place.ao,iV h.Place.Slot,iV h.aj]),(1,.agg #[iV pl.ao,iV pl.Slot])] Tryz.func154 rfl rfl rfl rfl ?_
 refine R.reg rfl<|R.s rfl (s.box (cs:=eL h) rfl rfl rfl) fun b1=>R.s rfl (s.box (cs:=aE pl) rfl rfl rfl) fun b2=>R.u 1 rfl<|R.nil ?_
 refine R.reg rfl<|R.q (q.a8 (off':=0) rfl ef rfl) rfl<|R.q (q.xC (ds:=aE h.Place) 1 rfl rfl br rfl) rfl<|R.q (q.cT 0 rfl rfl br) rfl<|R.c (q.call Ad rfl rfl (fun w hw=>(qm (h.Place) (pl) w  ))) rfl<|R.u 1 rfl<|R.nil ?_
 exact R.rv rfl Tryz.results154 rfl (rI (by (rfl)))
theorem nw (bm:Value)(l:List Held)(t:Place)(c:Held→Place→Int)(Af:Nat)(Co:List Value)(ye:∀args w,(callFunc Af args).run Tryz.prog w = .ok (.enter Af args) w)(w:World)(cp:Sl w bm l)(C5:∀W (x1:Held) (x2:Place),Ext w W→Calls Tryz.prog Af ([x1.val,x2.val]++Co).toArray W fun e w'=>e = .returned (iV (c x1 x2))∧Ext W w')(hl:l.length≤1000000):Calls Tryz.prog 153 #[bm,.agg #[iV t.ao,iV t.Slot],.func (.func Af) #[] Co.toArray] w fun e w'=>e = .returned (.tuple #[iV (pb (fun x=>c x t) l:Int),.bool (tT (fun x=>c x t) l)])∧Ext w w':=by
 have ql:=cp.dH
 refine R.enter (n:=49) (vs:=[bm,.agg #[iV t.ao,iV t.Slot],.func (.func Af) #[] Co.toArray]) [] [(0,bm),(1,.agg #[iV t.ao,iV t.Slot]),(2,.func (.func Af) #[] Co.toArray)] Tryz.func153 rfl rfl rfl rfl ?_
 refine R.reg rfl<|R.s rfl (s.box (cs:=aE t) rfl rfl rfl) fun b1=>R.u 2 rfl<|R.nil ?_
 refine R.reg rfl<|R.u 1 rfl<|R.q (q.len' (fun _=>Wd.old cp) rfl Tryz.underlying29) rfl<|R.u 1 rfl<|R.nil ?_
 refine R.reg rfl<|R.u 3 rfl<|R.nil ?_
 refine R.loop (fun g_:Nat×Nat=>[(0,bm),(2,.func (.func Af) #[] Co.toArray),(4,.pointer (some ⟨b1,0,none⟩)),(8,iV (l.length:Int)),(9,iV (g_.1:Int)),(10,iV (g_.2:Int))]) (fun g_:Nat×Nat=>[ag.box b1 (aE t) 39]) (fun g_:Nat×Nat=>[]) (fun g_:Nat×Nat=>g_.1≤g_.2∧g_.2≤l.length∧bsGo (fun x=>c x t) l g_.1 g_.2=pb (fun x=>c x t) l) (fun g_:Nat×Nat=>g_.2-g_.1) (0,l.length) rfl (by exact ⟨Nat.zero_le _,Nat.le_refl _,rfl⟩) ⟨rfl,rfl,rfl,rfl,rfl,rfl,trivial⟩ (fun _=>Wd.pick [0] [] rfl rfl rfl) ?_
 rintro ⟨lo,hi⟩ ⟨DY,EN,HA⟩
 dsimp only at *
 refine R.reg rfl<|R.u 2 rfl<|?_
 by_cases h1:lo<hi
 ·
  refine R.q (q.lss rfl rfl (decide_eq_true (by omega))) rfl<|R.nil ?_
  refine R.aD rfl rfl ?_
  refine R.reg rfl<|R.u 2 rfl<|R.q (q.add (r:=((lo+hi:Nat):Int)) rfl rfl (wr (by omega))) rfl<|R.q (q.CZ (r:=(((lo+hi):Nat):Int)) rfl (by rw [Tryz.underlying3];rfl) Tryz.underlying138 (zM (by omega))) rfl<|R.q (q.shr (r:=((((lo+hi) / 2):Nat):Int)) rfl rfl (by decide) (Dm (by decide))) rfl<|R.q (q.CZ (r:=((((lo+hi) / 2):Nat):Int)) rfl (by rw [Tryz.underlying138];rfl) Tryz.underlying3 (wr (by omega))) rfl<|R.u 1 rfl<|R.nil ?_
  obtain ⟨x1,hx1⟩:∃z,l[((lo+hi) / 2)]? = some z:=⟨_,List.getElem?_eq_getElem (by omega)⟩
  by_cases h2:(c x1 t)<0
  ·
   refine R.dM rfl mixed (by kernel_rfl)<|Q.u 3 rfl<|Q.q (q.idx (i:=((lo+hi) / 2)) (fun _=>Wd.old cp) rfl rfl bD rfl hx1) rfl<|Q.q (q.dD (ds:=eL x1) (fun _=>Wd.old cp) hx1 rfl eB rfl) rfl<|Q.q (q.cT 0 rfl rfl br) rfl<|Q.c (q.call ye rfl rfl (fun w hw=>C5 w x1 t hw.ext)) rfl<|Q.q (q.lss rfl rfl (decide_eq_true (by omega))) rfl<|Q.nil ?_
   refine R.aD rfl rfl ?_
   refine R.reg rfl<|R.u 1 rfl<|R.q (q.add (r:=((((lo+hi) / 2)+1:Nat):Int)) rfl rfl (wr (by omega))) rfl<|R.u 1 rfl<|R.nil ?_
   refine R.back ((((lo+hi) / 2)+1),hi) rfl (by (exact ⟨by omega,by omega,(tU (by omega) hx1 (by omega)).symm.trans HA⟩)) (by dsimp only;omega) ⟨rfl,rfl,rfl,rfl,rfl,rfl,trivial⟩ (fun _=>Wd.pick [0] [] rfl rfl rfl)
  ·
   refine R.dM rfl mixed (by kernel_rfl)<|Q.u 3 rfl<|Q.q (q.idx (i:=((lo+hi) / 2)) (fun _=>Wd.old cp) rfl rfl bD rfl hx1) rfl<|Q.q (q.dD (ds:=eL x1) (fun _=>Wd.old cp) hx1 rfl eB rfl) rfl<|Q.q (q.cT 0 rfl rfl br) rfl<|Q.c (q.call ye rfl rfl (fun w hw=>C5 w x1 t hw.ext)) rfl<|Q.q (q.lss rfl rfl (decide_eq_false (by omega))) rfl<|Q.nil ?_
   refine R.aI rfl rfl ?_
   refine R.reg rfl<|R.u 2 rfl<|R.nil ?_
   refine R.back (lo,((lo+hi) / 2)) rfl (by (exact ⟨by omega,by omega,(tV (by omega) hx1 (by omega)).symm.trans HA⟩)) (by dsimp only;omega) ⟨rfl,rfl,rfl,rfl,rfl,rfl,trivial⟩ (fun _=>Wd.pick [0] [] rfl rfl rfl)
 ·
  refine R.q (q.lss rfl rfl (decide_eq_false (by omega))) rfl<|R.nil ?_
  refine R.aI rfl rfl ?_
  by_cases h3:lo<l.length
  ·
   obtain ⟨x2,hx2⟩:∃z,l[lo]? = some z:=⟨_,List.getElem?_eq_getElem (by omega)⟩
   by_cases h4:(c x2 t)=0
   ·
    refine R.dM rfl mixed (by kernel_rfl)<|Q.u 3 rfl<|Q.q (q.lss rfl rfl (decide_eq_true (by omega))) rfl<|Q.u 4 rfl<|Q.qg rfl (q.idx (i:=lo) (fun _=>Wd.old cp) rfl rfl bD rfl hx2) rfl<|Q.qg rfl (q.dD (ds:=eL x2) (fun _=>Wd.old cp) hx2 rfl eB rfl) rfl<|Q.qg rfl (q.cT 0 rfl rfl br) rfl<|Q.cg rfl (q.call ye rfl rfl (fun w hw=>C5 w x2 t hw.ext)) rfl<|Q.qg rfl (q.eql rfl rfl (beq_iff_eq.2 (by omega))) rfl<|Q.u 3 rfl<|Q.nil ?_
    exact R.C0 rfl Tryz.results153 rfl rfl (rI (by (exact congrArg (fun n:Nat=>(n:Int)) ((hZ (by omega)).symm.trans HA)))) (rB (by (have e:=(hZ (by omega)).symm.trans HA;unfold tT;rw [← e];first|(rw [hx2];first|exact (decide_eq_true ‹_›).symm|exact (decide_eq_false ‹_›).symm)|(rw [List.getElem?_eq_none (by omega)]))))
   ·
    refine R.dM rfl mixed (by kernel_rfl)<|Q.u 3 rfl<|Q.q (q.lss rfl rfl (decide_eq_true (by omega))) rfl<|Q.u 4 rfl<|Q.qg rfl (q.idx (i:=lo) (fun _=>Wd.old cp) rfl rfl bD rfl hx2) rfl<|Q.qg rfl (q.dD (ds:=eL x2) (fun _=>Wd.old cp) hx2 rfl eB rfl) rfl<|Q.qg rfl (q.cT 0 rfl rfl br) rfl<|Q.cg rfl (q.call ye rfl rfl (fun w hw=>C5 w x2 t hw.ext)) rfl<|Q.qg rfl (q.eql rfl rfl (beq_eq_false_iff_ne.2 (by omega))) rfl<|Q.u 3 rfl<|Q.nil ?_
    exact R.C0 rfl Tryz.results153 rfl rfl (rI (by (exact congrArg (fun n:Nat=>(n:Int)) ((hZ (by omega)).symm.trans HA)))) (rB (by (have e:=(hZ (by omega)).symm.trans HA;unfold tT;rw [← e];first|(rw [hx2];first|exact (decide_eq_true ‹_›).symm|exact (decide_eq_false ‹_›).symm)|(rw [List.getElem?_eq_none (by omega)]))))
  ·
   refine R.dM rfl mixed (by kernel_rfl)<|Q.u 3 rfl<|Q.q (q.lss rfl rfl (decide_eq_false (by omega))) rfl<|Q.u 12 rfl<|Q.nil ?_
   exact R.C0 rfl Tryz.results153 rfl rfl (rI (by (exact congrArg (fun n:Nat=>(n:Int)) ((hZ (by omega)).symm.trans HA)))) (rB (by (have e:=(hZ (by omega)).symm.trans HA;unfold tT;rw [← e];first|(rw [rfl];first|exact (decide_eq_true ‹_›).symm|exact (decide_eq_false ‹_›).symm)|(rw [List.getElem?_eq_none (by omega)]))))
theorem gI (bm:Value)(l:List Held)(pl:Place)(w:World)(cp:Sl w bm l)(hl:l.length≤1000000):Calls Tryz.prog 116 #[bm,.agg #[iV pl.ao,iV pl.Slot]] w fun e w'=>e = .returned (.tuple #[iV (dE l pl:Int),.bool (uO l pl)])∧Ext w w':=by
 have ql:=cp.dH
 refine R.enter (n:=11) (vs:=[bm,.agg #[iV pl.ao,iV pl.Slot]]) [] [(0,bm),(1,.agg #[iV pl.ao,iV pl.Slot])] Tryz.func116 rfl rfl rfl rfl ?_
 refine R.reg rfl<|R.s rfl (s.box (cs:=aE pl) rfl rfl rfl) fun b1=>R.u 2 rfl<|R.nil ?_
 refine R.reg rfl<|R.u 1 rfl<|R.q (q.cT 0 rfl rfl br) rfl<|R.c (q.call Ab rfl rfl (fun w hw=>(nw _ (l) (pl) (fun (h:Held) (pl:Place)=>kO h.Place pl) _ _ Ac w ((fun _=>Wd.old cp) w hw) (fun W h pl hW=>qn h pl  W  ) (by first|omega|assumption|(simp;done)|(simp;omega))))) rfl<|R.u 4 rfl<|R.nil ?_
 exact R.C0 rfl Tryz.results116 rfl rfl (rI (by (rfl))) (rB (by (rfl)))
theorem gk (p:Place)(w:World)  : Calls Tryz.prog 99 #[.agg #[iV p.ao,iV p.Slot]] w fun e w'=>e = .returned (e6 (aX p))∧Ext w w':=by
 refine R.enter (n:=22) (vs:=[.agg #[iV p.ao,iV p.Slot]]) [] [(0,.agg #[iV p.ao,iV p.Slot])] Tryz.func99 rfl rfl rfl rfl ?_
 refine R.reg rfl<|R.s rfl (s.box (cs:=aE p) rfl rfl rfl) fun b1=>R.u 1 rfl<|R.nil ?_
 refine R.reg rfl<|R.q (q.a8 (off':=0) rfl bG rfl) rfl<|R.q (q.ld 0 rfl rfl av rfl) rfl<|?_
 by_cases h1:p.ao<1
 ·
  refine R.q (q.lss rfl rfl (decide_eq_true (by omega))) rfl<|R.u 15 rfl<|R.nil ?_
  refine R.aD rfl rfl ?_
  refine R.reg rfl<|R.q (q.iface rfl bI) rfl<|R.u 1 rfl<|R.nil ?_
  exact R.rv rfl Tryz.results99 rfl (dP (by decide) (by (first|exact cZ (by omega)|exact cd (by omega)|exact (cd (by omega)).symm)))
 ·
  refine R.q (q.lss rfl rfl (decide_eq_false (by omega))) rfl<|R.u 1 rfl<|R.qg rfl (q.a8 (off':=0) rfl bG rfl) rfl<|R.qg rfl (q.ld 0 rfl rfl av rfl) rfl<|?_
  by_cases h2:4<p.ao
  ·
   refine R.qg rfl (q.gtr rfl rfl (decide_eq_true (by omega))) rfl<|R.u 11 rfl<|R.nil ?_
   refine R.aD rfl rfl ?_
   refine R.reg rfl<|R.q (q.iface rfl bI) rfl<|R.u 1 rfl<|R.nil ?_
   exact R.rv rfl Tryz.results99 rfl (dP (by decide) (by (first|exact cZ (by omega)|exact cd (by omega)|exact (cd (by omega)).symm)))
  ·
   refine R.qg rfl (q.gtr rfl rfl (decide_eq_false (by omega))) rfl<|R.u 2 rfl<|R.qg rfl (q.a8 (off':=1) rfl eS rfl) rfl<|R.qg rfl (q.ld 0 rfl rfl av rfl) rfl<|?_
   by_cases h3:p.Slot<0
   ·
    refine R.qg rfl (q.lss rfl rfl (decide_eq_true (by omega))) rfl<|R.u 6 rfl<|R.nil ?_
    refine R.aD rfl rfl ?_
    refine R.reg rfl<|R.q (q.iface rfl bI) rfl<|R.u 1 rfl<|R.nil ?_
    exact R.rv rfl Tryz.results99 rfl (dP (by decide) (by (first|exact cZ (by omega)|exact cd (by omega)|exact (cd (by omega)).symm)))
   ·
    refine R.qg rfl (q.lss rfl rfl (decide_eq_false (by omega))) rfl<|R.u 2 rfl<|R.qg rfl (q.a8 (off':=1) rfl eS rfl) rfl<|R.qg rfl (q.ld 0 rfl rfl av rfl) rfl<|?_
    by_cases h4:5<p.Slot
    ·
     refine R.qg rfl (q.gtr rfl rfl (decide_eq_true (by omega))) rfl<|R.u 1 rfl<|R.nil ?_
     refine R.aD rfl rfl ?_
     refine R.reg rfl<|R.q (q.iface rfl bI) rfl<|R.u 1 rfl<|R.nil ?_
     exact R.rv rfl Tryz.results99 rfl (dP (by decide) (by (first|exact cZ (by omega)|exact cd (by omega)|exact (cd (by omega)).symm)))
    ·
     refine R.qg rfl (q.gtr rfl rfl (decide_eq_false (by omega))) rfl<|R.u 1 rfl<|R.nil ?_
     refine R.aI rfl rfl ?_
     refine R.reg rfl<|R.u 1 rfl<|R.nil ?_
     exact R.rv rfl Tryz.results99 rfl (gO (by (first|exact cZ (by omega)|exact cd (by omega)|exact (cd (by omega)).symm)))
theorem lU (p:Place)(w:World)  : Calls Tryz.prog 67 #[.agg #[iV p.ao,iV p.Slot]] w fun e w'=>e = .returned (iV (aX p))∧Ext w w':=by
 refine R.enter (n:=21) (vs:=[.agg #[iV p.ao,iV p.Slot]]) [] [(0,.agg #[iV p.ao,iV p.Slot])] Tryz.func67 rfl rfl rfl rfl ?_
 refine R.reg rfl<|R.s rfl (s.box (cs:=aE p) rfl rfl rfl) fun b1=>R.u 1 rfl<|R.nil ?_
 refine R.reg rfl<|R.q (q.a8 (off':=0) rfl bG rfl) rfl<|R.q (q.ld 0 rfl rfl av rfl) rfl<|?_
 by_cases h1:p.ao<1
 ·
  refine R.q (q.lss rfl rfl (decide_eq_true (by omega))) rfl<|R.u 15 rfl<|R.nil ?_
  refine R.aD rfl rfl ?_
  refine R.reg rfl<|R.u 1 rfl<|R.nil ?_
  exact R.rv rfl Tryz.results67 rfl (rI (by (first|exact (cZ (by omega)).symm|exact (cd (by omega)).symm)))
 ·
  refine R.q (q.lss rfl rfl (decide_eq_false (by omega))) rfl<|R.u 1 rfl<|R.qg rfl (q.a8 (off':=0) rfl bG rfl) rfl<|R.qg rfl (q.ld 0 rfl rfl av rfl) rfl<|?_
  by_cases h2:4<p.ao
  ·
   refine R.qg rfl (q.gtr rfl rfl (decide_eq_true (by omega))) rfl<|R.u 11 rfl<|R.nil ?_
   refine R.aD rfl rfl ?_
   refine R.reg rfl<|R.u 1 rfl<|R.nil ?_
   exact R.rv rfl Tryz.results67 rfl (rI (by (first|exact (cZ (by omega)).symm|exact (cd (by omega)).symm)))
  ·
   refine R.qg rfl (q.gtr rfl rfl (decide_eq_false (by omega))) rfl<|R.u 2 rfl<|R.qg rfl (q.a8 (off':=1) rfl eS rfl) rfl<|R.qg rfl (q.ld 0 rfl rfl av rfl) rfl<|?_
   by_cases h3:p.Slot<0
   ·
    refine R.qg rfl (q.lss rfl rfl (decide_eq_true (by omega))) rfl<|R.u 6 rfl<|R.nil ?_
    refine R.aD rfl rfl ?_
    refine R.reg rfl<|R.u 1 rfl<|R.nil ?_
    exact R.rv rfl Tryz.results67 rfl (rI (by (first|exact (cZ (by omega)).symm|exact (cd (by omega)).symm)))
   ·
    refine R.qg rfl (q.lss rfl rfl (decide_eq_false (by omega))) rfl<|R.u 2 rfl<|R.qg rfl (q.a8 (off':=1) rfl eS rfl) rfl<|R.qg rfl (q.ld 0 rfl rfl av rfl) rfl<|?_
    by_cases h4:5<p.Slot
    ·
     refine R.qg rfl (q.gtr rfl rfl (decide_eq_true (by omega))) rfl<|R.u 1 rfl<|R.nil ?_
     refine R.aD rfl rfl ?_
     refine R.reg rfl<|R.u 1 rfl<|R.nil ?_
     exact R.rv rfl Tryz.results67 rfl (rI (by (first|exact (cZ (by omega)).symm|exact (cd (by omega)).symm)))
    ·
     refine R.qg rfl (q.gtr rfl rfl (decide_eq_false (by omega))) rfl<|R.u 1 rfl<|R.nil ?_
     refine R.aI rfl rfl ?_
     refine R.reg rfl<|R.u 1 rfl<|R.nil ?_
     exact R.rv rfl Tryz.results67 rfl (rI (by (first|exact (cZ (by omega)).symm|exact (cd (by omega)).symm)))
theorem iJ (bm:Value)(l:List Held)(p:Place)(w:World)(cp:Sl w bm l)(hl:l.length≤1000000):Calls Tryz.prog 106 #[bm,.agg #[iV p.ao,iV p.Slot]] w fun e w'=>e = .returned (iV (iQ l p))∧Ext w w':=by
 have ql:=cp.dH
 refine R.enter (n:=20) (vs:=[bm,.agg #[iV p.ao,iV p.Slot]]) [] [(0,bm),(1,.agg #[iV p.ao,iV p.Slot])] Tryz.func106 rfl rfl rfl rfl ?_
 refine R.reg rfl<|R.s rfl (s.box (cs:=aE p) rfl rfl rfl) fun b1=>R.u 1 rfl<|R.nil ?_
 refine R.reg rfl<|R.u 1 rfl<|R.q (q.cT 0 rfl rfl br) rfl<|?_
 have Eo:=nE l p
 rcases mB l p with dF|⟨iA,eC,dF,fU,gJ⟩
 ·
  refine R.c (q.call qi rfl rfl (fun w hw=>(cv (congrArg (fun b=>Value.tuple #[iV ((dE l p:Nat):Int),.bool b]) dF) (gI _ (l) (p) w ((fun _=>Wd.old cp) w hw) (by first|omega|assumption|(simp;done)|(simp;omega)))))) rfl<|R.u 5 rfl<|R.nil ?_
  refine R.reg rfl<|R.u 2 rfl<|R.nil ?_
  refine R.aD rfl rfl ?_
  refine R.reg rfl<|R.u 1 rfl<|R.nil ?_
  exact R.rv rfl Tryz.results106 rfl (rI (by (first|exact (sv dF).symm|exact (qk dF eC).symm)))
 ·
  refine R.c (q.call qi rfl rfl (fun w hw=>(cv (congrArg (fun b=>Value.tuple #[iV ((dE l p:Nat):Int),.bool b]) dF) (gI _ (l) (p) w ((fun _=>Wd.old cp) w hw) (by first|omega|assumption|(simp;done)|(simp;omega)))))) rfl<|R.u 5 rfl<|R.nil ?_
  refine R.reg rfl<|R.u 2 rfl<|R.nil ?_
  refine R.aI rfl rfl ?_
  refine R.reg rfl<|R.u 2 rfl<|R.q (q.idx (i:=(dE l p)) (fun _=>Wd.old cp) rfl rfl bD rfl eC) rfl<|R.q (q.dm (j':=2) (fun _=>Wd.old cp) eC rfl fZ rfl) rfl<|R.q (q.fk (fun _=>Wd.old cp) eC rfl av rfl) rfl<|R.u 1 rfl<|R.nil ?_
  exact R.rv rfl Tryz.results106 rfl (rI (by (first|exact (sv dF).symm|exact (qk dF eC).symm)))
theorem kB (bm:Value)(l:List Held)(p:Place)(id:Int)(w:World)(own:List Nat)(H:Wd w (blks []++own) ([]++[ag.held w own]) [ag.ls bm (l:List Held)] w)(hl:l.length≤100000):Calls Tryz.prog 74 #[bm,.agg #[iV p.ao,iV p.Slot],iV id] w fun e w' => ∃z:Value,e = .returned (z)∧Wd w (blks []++own) ([ag.row 85 z ((cE l p id):List Held)]++[ag.held w own]) [] w':=by
 have uP:=H.cX 0 rfl
 refine R.dc (n:=47) (vs:=[bm,.agg #[iV p.ao,iV p.Slot],iV id]) (B:=[ag.held w own]) [(0,bm),(1,.agg #[iV p.ao,iV p.Slot]),(2,iV id)] Tryz.func74 rfl rfl rfl rfl H ?_
 refine R.reg rfl<|R.s rfl (s.box (cs:=aE p) rfl rfl rfl) fun b1=>R.u 1 rfl<|R.nil ?_
 refine R.reg rfl<|R.u 1 rfl<|R.s (B':=(fun aH:Value=>[ag.row 85 aH (l:List Held),ag.box b1 (aE p) 39,ag.held w own])) (F':=(fun aH:Value=>[ag.ls bm (l:List Held)])) rfl (s.bJ (B0:=[]) (Br:=[ag.box b1 (aE p) 39,ag.held w own]) (F0:=[ag.ls bm (l:List Held)]) [0,1] [0] (fun aH:Value=>aH) (fun aH:Value=>[ag.row 85 aH (l:List Held)]) (fun aH:Value=>[]) rfl rfl rfl vX rfl rfl (fun w own hw H=>kZ bm (l) w own H (by first|omega|assumption|(simp;done)|(simp;omega))) rfl) fun z1=>R.u 1 rfl<|R.nil ?_
 refine R.reg rfl<|R.u 1 rfl<|R.q (q.cT 1 rfl rfl br) rfl<|?_
 have Eo:=nE l p
 rcases mB l p with dF|⟨iA,eC,dF,fU,gJ⟩
 ·
  refine R.c (q.call qi rfl rfl (fun w hw=>(cv (congrArg (fun b=>Value.tuple #[iV ((dE l p:Nat):Int),.bool b]) dF) (gI _ (l) (p) w (hw.row 0 rfl) (by first|omega|assumption|(simp;done)|(simp;omega)))))) rfl<|R.u 5 rfl<|R.nil ?_
  refine R.reg rfl<|R.u 6 rfl<|R.nil ?_
  refine R.aI rfl rfl ?_
  refine R.reg rfl<|R.u 2 rfl<|R.nil ?_
  refine R.aI rfl rfl ?_
  refine R.reg rfl<|R.u 1 rfl<|?_
  by_cases h1:id=0
  ·
   refine R.q (q.eql rfl rfl (beq_iff_eq.2 (by omega))) rfl<|R.u 1 rfl<|R.nil ?_
   refine R.aD rfl rfl ?_
   refine R.reg rfl<|R.u 2 rfl<|R.nil ?_
   have hz:cE l p id=l:=by (unfold cE;first|(rw [if_pos dF,if_pos ‹_›];done)|(rw [if_pos dF,if_neg ‹_›,fU];done)|(rw [if_neg (by rw [dF];simp),if_pos ‹_›];done)|(rw [if_neg (by rw [dF];simp),if_neg ‹_›];done))
   rw [hz]
   exact R.w1 z1 [0,2] [] rfl Tryz.results74 (RV.tmp rfl) rfl rfl rfl rfl
  ·
   refine R.q (q.eql rfl rfl (beq_eq_false_iff_ne.2 (by omega))) rfl<|R.u 1 rfl<|R.nil ?_
   refine R.aI rfl rfl ?_
   refine R.reg rfl<|R.u 2 rfl<|R.q (q.cT 1 rfl rfl br) rfl<|R.u 1 rfl<|R.q (q.build (cs:=[iV p.ao,iV p.Slot,iV id]) zd rfl rfl) rfl<|R.s rfl (s.bs (l:=([(⟨p,id⟩:Held)]:List Held)) bD fA rfl rfl rfl rfl rfl rfl rfl) fun b2=>R.s (B':=(fun aH:Value=>[ag.row 85 aH ((l.take (dE l p)++([(⟨p,id⟩:Held)])++l.drop (dE l p)):List Held),ag.box b1 (aE p) 39,ag.held w own])) (F':=(fun aH:Value=>[ag.ls bm (l:List Held)])) rfl (s.bJ (B0:=[ag.row 85 z1 (l:List Held),ag.row 85 (.slice (some ⟨b2,0,none⟩) 1 1) ([(⟨p,id⟩:Held)]:List Held)]) (Br:=[ag.box b1 (aE p) 39,ag.held w own]) (F0:=[]) [1,0,2,3] [] (fun aH:Value=>aH) (fun aH:Value=>[ag.row 85 aH ((l.take (dE l p)++([(⟨p,id⟩:Held)])++l.drop (dE l p)):List Held)]) (fun aH:Value=>[]) rfl rfl rfl zZ rfl rfl (fun w own hw H=>ox z1 (l) ((dE l p)) (.slice (some ⟨b2,0,none⟩) 1 1) ([(⟨p,id⟩:Held)]) w own H (by first|assumption|omega) (rfl) (by first|omega|assumption|(simp;done)|(simp;omega))) rfl) fun z2=>R.u 1 rfl<|R.nil ?_
   have hz:cE l p id=l.take (dE l p)++([(⟨p,id⟩:Held)])++l.drop (dE l p):=by (unfold cE;first|(rw [if_pos dF,if_pos ‹_›];done)|(rw [if_pos dF,if_neg ‹_›,fU];done)|(rw [if_neg (by rw [dF];simp),if_pos ‹_›];done)|(rw [if_neg (by rw [dF];simp),if_neg ‹_›];done))
   rw [hz]
   exact R.w1 z2 [0,2] [] rfl Tryz.results74 (RV.tmp rfl) rfl rfl rfl rfl
 ·
  refine R.c (q.call qi rfl rfl (fun w hw=>(cv (congrArg (fun b=>Value.tuple #[iV ((dE l p:Nat):Int),.bool b]) dF) (gI _ (l) (p) w (hw.row 0 rfl) (by first|omega|assumption|(simp;done)|(simp;omega)))))) rfl<|R.u 5 rfl<|R.nil ?_
  refine R.reg rfl<|R.u 3 rfl<|?_
  by_cases h2:id=0
  ·
   refine R.qg rfl (q.eql rfl rfl (beq_iff_eq.2 (by omega))) rfl<|R.u 2 rfl<|R.nil ?_
   refine R.aD rfl rfl ?_
   refine R.reg rfl<|R.u 3 rfl<|R.q (q.add (r:=(((dE l p)+1:Nat):Int)) rfl rfl (wr (by omega))) rfl<|R.s (B':=(fun aH:Value=>[ag.row 85 aH ((l.take (dE l p)++l.drop ((dE l p)+1)):List Held),ag.box b1 (aE p) 39,ag.held w own])) (F':=(fun aH:Value=>[ag.ls bm (l:List Held)])) rfl (s.bJ (B0:=[ag.row 85 z1 (l:List Held)]) (Br:=[ag.box b1 (aE p) 39,ag.held w own]) (F0:=[]) [0,1,2] [] (fun aH:Value=>aH) (fun aH:Value=>[ag.row 85 aH ((l.take (dE l p)++l.drop ((dE l p)+1)):List Held)]) (fun aH:Value=>[]) rfl rfl rfl zY rfl rfl (fun w own hw H=>ow z1 (l) ((dE l p)) (((dE l p)+1)) w own H (by omega)) rfl) fun z3=>R.u 1 rfl<|R.nil ?_
   have hz:cE l p id=l.take (dE l p)++l.drop ((dE l p)+1):=by (unfold cE;first|(rw [if_pos dF,if_pos ‹_›];done)|(rw [if_pos dF,if_neg ‹_›,fU];done)|(rw [if_neg (by rw [dF];simp),if_pos ‹_›];done)|(rw [if_neg (by rw [dF];simp),if_neg ‹_›];done))
   rw [hz]
   exact R.w1 z3 [0,2] [] rfl Tryz.results74 (RV.tmp rfl) rfl rfl rfl rfl
  ·
   refine R.qg rfl (q.eql rfl rfl (beq_eq_false_iff_ne.2 (by omega))) rfl<|R.u 2 rfl<|R.nil ?_
   refine R.aI rfl rfl ?_
   refine R.reg rfl<|R.u 2 rfl<|R.nil ?_
   refine R.aD rfl rfl ?_
   refine R.reg rfl<|R.u 3 rfl<|R.q (q.idx (i:=(dE l p)) (fun _=>Wd.row 0 rfl) rfl rfl bD rfl eC) rfl<|R.q (q.dm (j':=2) (fun _=>Wd.row 0 rfl) eC rfl fZ rfl) rfl<|R.s rfl (s.stP (o:=2) (z:=(⟨iA.Place,id⟩:Held)) (us:=[iV id]) 0 _ rfl eC rfl rfl rfl rfl rfl (by simp [Value.oneCell']) (.inr ⟨av,rfl⟩) rfl) fun _=>R.nil ?_
   refine R.reg rfl<|R.u 2 rfl<|R.nil ?_
   have hz:cE l p id=(l.set (dE l p) (⟨iA.Place,id⟩:Held)):=by (unfold cE;first|(rw [if_pos dF,if_pos ‹_›];done)|(rw [if_pos dF,if_neg ‹_›,fU];done)|(rw [if_neg (by rw [dF];simp),if_pos ‹_›];done)|(rw [if_neg (by rw [dF];simp),if_neg ‹_›];done))
   rw [hz]
   exact R.w1 z1 [0,2] [] rfl Tryz.results74 (RV.tmp rfl) rfl rfl rfl rfl
theorem wq (bm:Value)(l:List Held)(h:Int)(w:World)(cp:Sl w bm l)(hl:l.length≤1000000):Calls Tryz.prog 84 #[bm,iV h] w fun e w'=>e = .returned (iV (eu l h))∧Ext w w':=by
 have ql:=cp.dH
 refine R.enter (n:=17) (vs:=[bm,iV h]) [] [(0,bm),(1,iV h)] Tryz.func84 rfl rfl rfl rfl ?_
 refine R.reg rfl<|R.u 1 rfl<|R.nil ?_
 refine R.reg rfl<|R.u 1 rfl<|R.nil ?_
 refine R.loop (fun i:Nat=>[(0,bm),(1,iV h),(6,iV (i:Int))]) (fun i:Nat=>[]) (fun i:Nat=>[]) (fun i:Nat=>i≤6∧ia l h (6-i) i=eu l h) (fun i:Nat=>6-i) 0 rfl (by exact ⟨by omega,rfl⟩) ⟨rfl,rfl,rfl,trivial⟩ (fun _=>Wd.pick [] [] rfl rfl rfl) ?_
 rintro i ⟨hs,HA⟩
 refine R.reg rfl<|?_
 by_cases h1:i<6
 ·
  refine R.q (q.lss rfl rfl (decide_eq_true (by omega))) rfl<|R.nil ?_
  refine R.aD rfl rfl ?_
  refine R.reg rfl<|R.u 2 rfl<|R.nil ?_
  refine R.reg rfl<|R.u 3 rfl<|R.q (q.build (cs:=[iV h,iV (i:Int)]) mW rfl rfl) rfl<|R.c (q.call qh rfl rfl (fun w hw=>(iJ _ (l) ((⟨h,(i:Int)⟩:Place)) w ((fun _=>Wd.old cp) w hw) (by first|omega|assumption|(simp;done)|(simp;omega))))) rfl<|?_
  by_cases h2:iQ l (⟨h,(i:Int)⟩:Place)=0
  ·
   refine R.q (q.eql rfl rfl (beq_iff_eq.2 (by omega))) rfl<|R.nil ?_
   refine R.aD rfl rfl ?_
   refine R.reg rfl<|R.u 2 rfl<|R.nil ?_
   exact R.rv rfl Tryz.results84 rfl (rI (by (rw [← HA];exact (sy ‹_› (by omega)).symm)))
  ·
   refine R.q (q.eql rfl rfl (beq_eq_false_iff_ne.2 (by omega))) rfl<|R.nil ?_
   refine R.aI rfl rfl ?_
   refine R.reg rfl<|R.q (q.add (r:=((i+1:Nat):Int)) rfl rfl (wr (by omega))) rfl<|R.u 1 rfl<|R.nil ?_
   refine R.back (i+1) rfl (by (exact ⟨by omega,(qY ‹_› (by omega)).symm.trans HA⟩)) (by omega) ⟨rfl,rfl,rfl,trivial⟩ (fun _=>Wd.pick [] [] rfl rfl rfl)
 ·
  refine R.q (q.lss rfl rfl (decide_eq_false (by omega))) rfl<|R.nil ?_
  refine R.aI rfl rfl ?_
  refine R.reg rfl<|R.u 1 rfl<|R.nil ?_
  exact R.rv rfl Tryz.results84 rfl (rI (by (rw [← HA];have:i=6:=(by omega);subst this;rfl)))
theorem qo (bm:Value)(l:List Held)(w:World)(cp:Sl w bm l):Calls Tryz.prog 27 #[bm] w fun e w'=>e = .returned (.bool (ka l))∧Ext w w':=by
 have ql:=cp.dH
 refine R.enter (n:=65) (vs:=[bm]) [] [(0,bm)] Tryz.func27 rfl rfl rfl rfl ?_
 refine R.reg rfl<|R.u 1 rfl<|R.nil ?_
 refine R.reg rfl<|R.u 1 rfl<|R.nil ?_
 refine R.loop (fun k:Nat=>[(0,bm),(3,iV (k:Int))]) (fun k:Nat=>[]) (fun k:Nat=>[]) (fun k:Nat=>k≤l.length ∧ ∀j,j<k→GoodAt l j) (fun k:Nat=>l.length-k) 0 rfl (by exact ⟨by omega,fun j hj=>absurd hj (Nat.not_lt_zero _)⟩) ⟨rfl,rfl,trivial⟩ (fun _=>Wd.pick [] [] rfl rfl rfl) ?_
 rintro k ⟨hk,HA⟩
 refine R.reg rfl<|R.u 2 rfl<|R.q (q.len' (fun _=>Wd.old cp) rfl Tryz.underlying29) rfl<|?_
 by_cases h1:k<l.length
 ·
  refine R.q (q.lss rfl rfl (decide_eq_true (by omega))) rfl<|R.nil ?_
  refine R.aD rfl rfl ?_
  refine R.reg rfl<|R.u 2 rfl<|?_
  obtain ⟨x1,hx1⟩:∃z,l[k]? = some z:=⟨_,List.getElem?_eq_getElem (by omega)⟩
  have DZ:=kV x1.Place
  refine R.q (q.idx (i:=k) (fun _=>Wd.old cp) rfl rfl bD rfl hx1) rfl<|R.q (q.dm (j':=0) (fun _=>Wd.old cp) hx1 rfl ef rfl) rfl<|R.q (q.dD (ds:=aE x1.Place) (fun _=>Wd.old cp) hx1 rfl br rfl) rfl<|R.s rfl (s.alloc (cs:=[iV 0,iV 0]) oo rfl rfl) fun b1=>R.s rfl (s.st (us:=aE x1.Place) (cs':=aE x1.Place) 0 _ rfl rfl rfl rfl (.inl br) rfl rfl rfl rfl) fun _=>R.nil ?_
  refine R.reg rfl<|R.q (q.cT 0 rfl rfl br) rfl<|R.c (q.call Cg rfl rfl (fun w hw=>(lU (x1.Place) w  ))) rfl<|?_
  by_cases h2:0<aX x1.Place
  ·
   refine R.q (q.gtr rfl rfl (decide_eq_true (by omega))) rfl<|R.u 8 rfl<|R.nil ?_
   refine R.aD rfl rfl ?_
   refine R.reg rfl<|R.u 1 rfl<|R.nil ?_
   exact R.rv rfl Tryz.results27 rfl (rB (by (exact (iI (k:=k) (by omega) (fun g=>by have g0:=g _ hx1;first|omega|(have g1:=g0.2.2 _ (by omega) hx2;unfold e7 at g1;omega))).symm)))
  ·
   refine R.q (q.gtr rfl rfl (decide_eq_false (by omega))) rfl<|R.u 3 rfl<|R.qg rfl (q.idx (i:=k) (fun _=>Wd.old cp) rfl rfl bD rfl hx1) rfl<|R.qg rfl (q.dm (j':=2) (fun _=>Wd.old cp) hx1 rfl fZ rfl) rfl<|R.qg rfl (q.fk (fun _=>Wd.old cp) hx1 rfl av rfl) rfl<|?_
   by_cases h3:x1.aj=0
   ·
    refine R.qg rfl (q.eql rfl rfl (beq_iff_eq.2 (by omega))) rfl<|R.u 1 rfl<|R.nil ?_
    refine R.aD rfl rfl ?_
    refine R.reg rfl<|R.u 1 rfl<|R.nil ?_
    exact R.rv rfl Tryz.results27 rfl (rB (by (exact (iI (k:=k) (by omega) (fun g=>by have g0:=g _ hx1;first|omega|(have g1:=g0.2.2 _ (by omega) hx2;unfold e7 at g1;omega))).symm)))
   ·
    refine R.qg rfl (q.eql rfl rfl (beq_eq_false_iff_ne.2 (by omega))) rfl<|R.u 1 rfl<|R.nil ?_
    refine R.aI rfl rfl ?_
    by_cases h4:0<k
    ·
     obtain ⟨x2,hx2⟩:∃z,l[(k-1)]? = some z:=⟨_,List.getElem?_eq_getElem (by omega)⟩
     have D1:=kV x2.Place
     by_cases h5:x1.Place.ao<x2.Place.ao
     ·
      refine R.dM rfl mixed (by kernel_rfl)<|Q.u 1 rfl<|Q.q (q.gtr rfl rfl (decide_eq_true (by omega))) rfl<|Q.u 1 rfl<|Q.qg rfl (q.a8 (off':=0) rfl bG rfl) rfl<|Q.qg rfl (q.ld 0 rfl rfl av rfl) rfl<|Q.u 2 rfl<|Q.qg rfl (q.sub (r:=((k-1:Nat):Int)) rfl rfl (wr (by omega))) rfl<|Q.qg rfl (q.idx (i:=(k-1)) (fun _=>Wd.old cp) rfl rfl bD rfl hx2) rfl<|Q.qg rfl (q.dm (j':=0) (fun _=>Wd.old cp) hx2 rfl ef rfl) rfl<|Q.qg rfl (q.dm (j':=0) (fun _=>Wd.old cp) hx2 rfl bG rfl) rfl<|Q.qg rfl (q.fk (fun _=>Wd.old cp) hx2 rfl av rfl) rfl<|Q.qg rfl (q.lss rfl rfl (decide_eq_true (by omega))) rfl<|Q.u 25 rfl<|Q.nil ?_
      refine R.aD rfl rfl ?_
      refine R.reg rfl<|R.u 1 rfl<|R.nil ?_
      exact R.rv rfl Tryz.results27 rfl (rB (by (exact (iI (k:=k) (by omega) (fun g=>by have g0:=g _ hx1;first|omega|(have g1:=g0.2.2 _ (by omega) hx2;unfold e7 at g1;omega))).symm)))
     ·
      by_cases h6:x1.Place.ao=x2.Place.ao
      ·
       by_cases h7:x2.Place.Slot<x1.Place.Slot
       ·
        refine R.dM rfl mixed (by kernel_rfl)<|Q.u 1 rfl<|Q.q (q.gtr rfl rfl (decide_eq_true (by omega))) rfl<|Q.u 1 rfl<|Q.qg rfl (q.a8 (off':=0) rfl bG rfl) rfl<|Q.qg rfl (q.ld 0 rfl rfl av rfl) rfl<|Q.u 2 rfl<|Q.qg rfl (q.sub (r:=((k-1:Nat):Int)) rfl rfl (wr (by omega))) rfl<|Q.qg rfl (q.idx (i:=(k-1)) (fun _=>Wd.old cp) rfl rfl bD rfl hx2) rfl<|Q.qg rfl (q.dm (j':=0) (fun _=>Wd.old cp) hx2 rfl ef rfl) rfl<|Q.qg rfl (q.dm (j':=0) (fun _=>Wd.old cp) hx2 rfl bG rfl) rfl<|Q.qg rfl (q.fk (fun _=>Wd.old cp) hx2 rfl av rfl) rfl<|Q.qg rfl (q.lss rfl rfl (decide_eq_false (by omega))) rfl<|Q.u 1 rfl<|Q.qg rfl (q.a8 (off':=0) rfl bG rfl) rfl<|Q.qg rfl (q.ld 0 rfl rfl av rfl) rfl<|Q.u 2 rfl<|Q.qg rfl (q.sub (r:=((k-1:Nat):Int)) rfl rfl (wr (by omega))) rfl<|Q.qg rfl (q.idx (i:=(k-1)) (fun _=>Wd.old cp) rfl rfl bD rfl hx2) rfl<|Q.qg rfl (q.dm (j':=0) (fun _=>Wd.old cp) hx2 rfl ef rfl) rfl<|Q.qg rfl (q.dm (j':=0) (fun _=>Wd.old cp) hx2 rfl bG rfl) rfl<|Q.qg rfl (q.fk (fun _=>Wd.old cp) hx2 rfl av rfl) rfl<|Q.qg rfl (q.eql rfl rfl (beq_iff_eq.2 (by omega))) rfl<|Q.u 1 rfl<|Q.qg rfl (q.a8 (off':=1) rfl eS rfl) rfl<|Q.qg rfl (q.ld 0 rfl rfl av rfl) rfl<|Q.u 2 rfl<|Q.qg rfl (q.sub (r:=((k-1:Nat):Int)) rfl rfl (wr (by omega))) rfl<|Q.qg rfl (q.idx (i:=(k-1)) (fun _=>Wd.old cp) rfl rfl bD rfl hx2) rfl<|Q.qg rfl (q.dm (j':=0) (fun _=>Wd.old cp) hx2 rfl ef rfl) rfl<|Q.qg rfl (q.dm (j':=1) (fun _=>Wd.old cp) hx2 rfl eS rfl) rfl<|Q.qg rfl (q.fk (fun _=>Wd.old cp) hx2 rfl av rfl) rfl<|Q.qg rfl (q.leq rfl rfl (decide_eq_false (by omega))) rfl<|Q.u 3 rfl<|Q.nil ?_
        refine R.aI rfl rfl ?_
        refine R.reg rfl<|R.u 1 rfl<|R.q (q.add (r:=((k+1:Nat):Int)) rfl rfl (wr (by omega))) rfl<|R.u 1 rfl<|R.nil ?_
        refine R.back (k+1) rfl (by (exact ⟨by omega,mC HA (fun h hh=>by rw [hx1] at hh;injection hh with hh;subst hh;exact ⟨by omega,by omega,fun g h0 hg=>by unfold e7;first|omega|(rw [hx2] at hg;injection hg with hg;subst hg;omega)⟩)⟩)) (by omega) ⟨rfl,rfl,trivial⟩ (fun _=>Wd.pick [] [] rfl rfl rfl)
       ·
        refine R.dM rfl mixed (by kernel_rfl)<|Q.u 1 rfl<|Q.q (q.gtr rfl rfl (decide_eq_true (by omega))) rfl<|Q.u 1 rfl<|Q.qg rfl (q.a8 (off':=0) rfl bG rfl) rfl<|Q.qg rfl (q.ld 0 rfl rfl av rfl) rfl<|Q.u 2 rfl<|Q.qg rfl (q.sub (r:=((k-1:Nat):Int)) rfl rfl (wr (by omega))) rfl<|Q.qg rfl (q.idx (i:=(k-1)) (fun _=>Wd.old cp) rfl rfl bD rfl hx2) rfl<|Q.qg rfl (q.dm (j':=0) (fun _=>Wd.old cp) hx2 rfl ef rfl) rfl<|Q.qg rfl (q.dm (j':=0) (fun _=>Wd.old cp) hx2 rfl bG rfl) rfl<|Q.qg rfl (q.fk (fun _=>Wd.old cp) hx2 rfl av rfl) rfl<|Q.qg rfl (q.lss rfl rfl (decide_eq_false (by omega))) rfl<|Q.u 1 rfl<|Q.qg rfl (q.a8 (off':=0) rfl bG rfl) rfl<|Q.qg rfl (q.ld 0 rfl rfl av rfl) rfl<|Q.u 2 rfl<|Q.qg rfl (q.sub (r:=((k-1:Nat):Int)) rfl rfl (wr (by omega))) rfl<|Q.qg rfl (q.idx (i:=(k-1)) (fun _=>Wd.old cp) rfl rfl bD rfl hx2) rfl<|Q.qg rfl (q.dm (j':=0) (fun _=>Wd.old cp) hx2 rfl ef rfl) rfl<|Q.qg rfl (q.dm (j':=0) (fun _=>Wd.old cp) hx2 rfl bG rfl) rfl<|Q.qg rfl (q.fk (fun _=>Wd.old cp) hx2 rfl av rfl) rfl<|Q.qg rfl (q.eql rfl rfl (beq_iff_eq.2 (by omega))) rfl<|Q.u 1 rfl<|Q.qg rfl (q.a8 (off':=1) rfl eS rfl) rfl<|Q.qg rfl (q.ld 0 rfl rfl av rfl) rfl<|Q.u 2 rfl<|Q.qg rfl (q.sub (r:=((k-1:Nat):Int)) rfl rfl (wr (by omega))) rfl<|Q.qg rfl (q.idx (i:=(k-1)) (fun _=>Wd.old cp) rfl rfl bD rfl hx2) rfl<|Q.qg rfl (q.dm (j':=0) (fun _=>Wd.old cp) hx2 rfl ef rfl) rfl<|Q.qg rfl (q.dm (j':=1) (fun _=>Wd.old cp) hx2 rfl eS rfl) rfl<|Q.qg rfl (q.fk (fun _=>Wd.old cp) hx2 rfl av rfl) rfl<|Q.qg rfl (q.leq rfl rfl (decide_eq_true (by omega))) rfl<|Q.u 3 rfl<|Q.nil ?_
        refine R.aD rfl rfl ?_
        refine R.reg rfl<|R.u 1 rfl<|R.nil ?_
        exact R.rv rfl Tryz.results27 rfl (rB (by (exact (iI (k:=k) (by omega) (fun g=>by have g0:=g _ hx1;first|omega|(have g1:=g0.2.2 _ (by omega) hx2;unfold e7 at g1;omega))).symm)))
      ·
       refine R.dM rfl mixed (by kernel_rfl)<|Q.u 1 rfl<|Q.q (q.gtr rfl rfl (decide_eq_true (by omega))) rfl<|Q.u 1 rfl<|Q.qg rfl (q.a8 (off':=0) rfl bG rfl) rfl<|Q.qg rfl (q.ld 0 rfl rfl av rfl) rfl<|Q.u 2 rfl<|Q.qg rfl (q.sub (r:=((k-1:Nat):Int)) rfl rfl (wr (by omega))) rfl<|Q.qg rfl (q.idx (i:=(k-1)) (fun _=>Wd.old cp) rfl rfl bD rfl hx2) rfl<|Q.qg rfl (q.dm (j':=0) (fun _=>Wd.old cp) hx2 rfl ef rfl) rfl<|Q.qg rfl (q.dm (j':=0) (fun _=>Wd.old cp) hx2 rfl bG rfl) rfl<|Q.qg rfl (q.fk (fun _=>Wd.old cp) hx2 rfl av rfl) rfl<|Q.qg rfl (q.lss rfl rfl (decide_eq_false (by omega))) rfl<|Q.u 1 rfl<|Q.qg rfl (q.a8 (off':=0) rfl bG rfl) rfl<|Q.qg rfl (q.ld 0 rfl rfl av rfl) rfl<|Q.u 2 rfl<|Q.qg rfl (q.sub (r:=((k-1:Nat):Int)) rfl rfl (wr (by omega))) rfl<|Q.qg rfl (q.idx (i:=(k-1)) (fun _=>Wd.old cp) rfl rfl bD rfl hx2) rfl<|Q.qg rfl (q.dm (j':=0) (fun _=>Wd.old cp) hx2 rfl ef rfl) rfl<|Q.qg rfl (q.dm (j':=0) (fun _=>Wd.old cp) hx2 rfl bG rfl) rfl<|Q.qg rfl (q.fk (fun _=>Wd.old cp) hx2 rfl av rfl) rfl<|Q.qg rfl (q.eql rfl rfl (beq_eq_false_iff_ne.2 (by omega))) rfl<|Q.u 14 rfl<|Q.nil ?_
       refine R.aI rfl rfl ?_
       refine R.reg rfl<|R.u 1 rfl<|R.q (q.add (r:=((k+1:Nat):Int)) rfl rfl (wr (by omega))) rfl<|R.u 1 rfl<|R.nil ?_
       refine R.back (k+1) rfl (by (exact ⟨by omega,mC HA (fun h hh=>by rw [hx1] at hh;injection hh with hh;subst hh;exact ⟨by omega,by omega,fun g h0 hg=>by unfold e7;first|omega|(rw [hx2] at hg;injection hg with hg;subst hg;omega)⟩)⟩)) (by omega) ⟨rfl,rfl,trivial⟩ (fun _=>Wd.pick [] [] rfl rfl rfl)
    ·
     refine R.dM rfl mixed (by kernel_rfl)<|Q.u 1 rfl<|Q.q (q.gtr rfl rfl (decide_eq_false (by omega))) rfl<|Q.u 36 rfl<|Q.nil ?_
     refine R.aI rfl rfl ?_
     refine R.reg rfl<|R.u 1 rfl<|R.q (q.add (r:=((k+1:Nat):Int)) rfl rfl (wr (by omega))) rfl<|R.u 1 rfl<|R.nil ?_
     refine R.back (k+1) rfl (by (exact ⟨by omega,mC HA (fun h hh=>by rw [hx1] at hh;injection hh with hh;subst hh;exact ⟨by omega,by omega,fun g h0 hg=>by unfold e7;first|omega|(rw [hx2] at hg;injection hg with hg;subst hg;omega)⟩)⟩)) (by omega) ⟨rfl,rfl,trivial⟩ (fun _=>Wd.pick [] [] rfl rfl rfl)
 ·
  refine R.q (q.lss rfl rfl (decide_eq_false (by omega))) rfl<|R.nil ?_
  refine R.aI rfl rfl ?_
  refine R.reg rfl<|R.u 1 rfl<|R.nil ?_
  exact R.rv rfl Tryz.results27 rfl (rB (by (exact (lR (fun j hj=>HA j (by omega))).symm)))
end Go.Proofs.YtbkfhjaibhnkmaaGreatDoor
