import Derived.Test.YtbkfhjaibhnkmaaGreatDoorTRP13
import Derived.Test.YtbkfhjaibhnkmaaGreatDoorTRP11
import Derived.Test.YtbkfhjaibhnkmaaGreatDoorTRP14
namespace Go.Proofs.YtbkfhjaibhnkmaaGreatDoor
open Go Go.RowKit
set_option linter.unusedVariables false
set_option linter.unusedSimpArgs false
set_option maxRecDepth 100000
theorem kg (bf:Value)(l:List Held)(w:World)(own:List Nat)(H:Wd w (blks []++own) ([]++[ah.held w own]) [ah.ls bf (l:List Held)] w)(hl:l.length≤1000000):Calls Tryz.prog 110 #[bf] w fun e w' => ∃z:Value,e = .returned (z)∧Wd w (blks []++own) ([ah.row 85 z (l:List Held)]++[ah.held w own]) [] w':=by
  have uh:=H.cL 0 rfl
  refine R.cQ (n:=8) (vs:=[bf]) (B:=[ah.held w own]) [(0,bf)] Tryz.func110 rfl rfl rfl rfl H ?_
  refine R.reg rfl<|R.u 1 rfl<|R.nil ?_
  refine R.reg rfl<|R.u 1 rfl<|?_
  rcases Bool.eq_false_or_eq_true (jy bf) with h1|h1
  ·
    refine R.q (q.xF (congrArg Value.bool h1) (q.lV (fun _=>Wd.aS 0 rfl) rfl rfl Tryz.underlying29)) rfl<|R.nil ?_
    refine R.aE rfl rfl ?_
    refine R.reg rfl<|R.u 1 rfl<|R.nil ?_
    refine R.row0 (α:=Held) 85 ?_
    have hz:l=[]:=by (first|rfl|exact (List.nil_append _).symm|exact Sl.jy (H.aS 0 rfl) (by assumption))
    rw [hz]
    exact R.w1 (.slice none 0 0) [0,1] [] rfl Tryz.results110 (RV.tmp rfl) rfl rfl rfl rfl
  ·
    refine R.q (q.xF (congrArg Value.bool h1) (q.lV (fun _=>Wd.aS 0 rfl) rfl rfl Tryz.underlying29)) rfl<|R.nil ?_
    refine R.aH rfl rfl ?_
    refine R.reg rfl<|?_
    refine R.s rfl (s.bs (l:=([]:List Held)) bH eV rfl rfl rfl rfl rfl rfl rfl) fun b1=>?_
    refine R.u 1 rfl<|?_
    refine R.s rfl (s.app (l2:=l) 0 _ rfl rfl rfl (fun _=>Wd.aS 0 rfl) iT (by simp;omega) (by simp;omega) (fun _=>rfl) rfl) fun v1=>?_
    refine R.u 1 rfl<|R.nil ?_
    have hz:l=(([])++l):=by (first|rfl|exact (List.nil_append _).symm|exact Sl.jy (H.aS 0 rfl) (by assumption))
    rw [hz]
    exact R.w1 v1 [0,1] [] rfl Tryz.results110 (RV.tmp rfl) rfl rfl rfl rfl
theorem nk (bf:Value)(l:List Held)(i:Nat)(j:Nat)(w:World)(own:List Nat)(H:Wd w (blks [ah.row 85 bf (l:List Held)]++own) ([ah.row 85 bf (l:List Held)]++[ah.held w own]) [] w)(hij:i≤j∧j≤l.length):Calls Tryz.prog 117 #[bf,.int .i64 (i:Int),.int .i64 (j:Int)] w fun e w' => ∃z:Value,e = .returned (z)∧Wd w (blks [ah.row 85 bf (l:List Held)]++own) ([ah.row 85 z ((l.take i++l.drop j):List Held)]++[ah.held w own]) [] w':=by
  have uS:=H.cap 0 rfl;have uh:=H.nf 0 rfl
  refine R.cQ (n:=33) (vs:=[bf,.int .i64 (i:Int),.int .i64 (j:Int)]) (B:=[ah.row 85 bf (l:List Held),ah.held w own]) [(0,bf),(1,.int .i64 (i:Int)),(2,.int .i64 (j:Int))] Tryz.func117 rfl rfl rfl rfl H ?_
  refine R.reg rfl<|R.u 1 rfl<|R.nil ?_
  refine R.reg rfl<|R.u 4 rfl<|R.q (q.len' (fun _=>Wd.row 0 rfl) rfl Tryz.underlying29) rfl<|R.q (q.zO (i:=i) (j:=j) (q':=l.length) (fun _=>Wd.row 0 rfl) rfl rfl rfl rfl bH rfl rfl rfl (by omega) (by omega) (by omega)) rfl<|R.nil ?_
  refine R.reg rfl<|R.u 2 rfl<|?_
  by_cases h1:i=j
  ·
    refine R.q (q.eql rfl rfl (beq_iff_eq.2 (by omega))) rfl<|R.nil ?_
    refine R.aE rfl rfl ?_
    refine R.reg rfl<|R.u 2 rfl<|R.nil ?_
    have hz:l.take i++l.drop j=l:=by (first|rfl|exact iw (by omega))
    rw [hz]
    exact R.w1 bf [0,1] [] rfl Tryz.results117 (RV.tmp rfl) rfl rfl rfl rfl
  ·
    refine R.q (q.eql rfl rfl (beq_eq_false_iff_ne.2 (by omega))) rfl<|R.nil ?_
    refine R.aH rfl rfl ?_
    refine R.reg rfl<|R.u 1 rfl<|R.q (q.len' (fun _=>Wd.row 0 rfl) rfl Tryz.underlying29) rfl<|R.u 1 rfl<|R.nil ?_
    refine R.fT (fuel:=8) (Wd w (blks [ah.row 85 bf (l:List Held)]++own) [ah.held w own] []) rfl mixed rfl ?_
    refine D.q (i:=0) rfl (by kernel_rfl) (fun _=>Wd.aK [1] [] rfl rfl rfl) rfl (q.mv rfl) rfl<|D.q (i:=1) rfl (by kernel_rfl) (fun _=>Wd.aK [1] [] rfl rfl rfl) rfl (q.mv rfl) rfl<|D.q (i:=3) rfl (by kernel_rfl) (fun _=>Wd.aK [1] [] rfl rfl rfl) rfl (q.mv rfl) rfl<|D.q (i:=4) rfl (by kernel_rfl) (fun _=>Wd.aK [1] [] rfl rfl rfl) rfl (q.mv rfl) rfl<|?_
    refine D.two (i:=2) (j:=5) (by kernel_rfl) rfl rfl ?_ ?_
    ·
      refine Do.s (s.c (Qt.a (q.gJ (i:=i) (fun _=>Wd.row 0 rfl) rfl rfl Tryz.underlying29 mG rfl (by first|omega|(simp;omega)))) rfl) (fun _=>(fun _=>Wd.aK [1] [] rfl rfl rfl)) rfl fun _=>?_
      refine D.one (i:=5) (by kernel_rfl) rfl ?_
      refine Do.s (s.c (Qt.a (q.dw (i:=j) (fun _=>Wd.row 0 rfl) rfl rfl bH rfl (by first|omega|(simp;omega)))) rfl) (fun _=>(fun _=>Wd.aK [1] [] rfl rfl rfl)) rfl fun _=>?_
      refine D.one (i:=6) (by kernel_rfl) rfl ?_
      refine Do.s (s.oU (a:=i) (l2:=(l.drop j)) 0 _ rfl rfl rfl (fun w hw=>Sl.from ((fun _=>Wd.row 0 rfl) w hw) (by omega)) iT (by omega) (by simp;omega) rfl rfl) (fun _=>(fun _=>Wd.aK [1] [] rfl rfl rfl)) rfl fun _=>?_
      refine D.q (i:=7) rfl (by kernel_rfl) (fun _=>Wd.aK [1] [] rfl rfl rfl) rfl (q.as rfl) rfl<|D.done (by kernel_rfl)<|?_
      refine R.reg rfl<|R.u 2 rfl<|R.q (q.len' (fun _=>Wd.row 0 rfl) rfl Tryz.underlying29) rfl<|R.u 1 rfl<|R.q (q.sl2 (i:=(l.take i++(l.drop j)).length) (j:=l.length) (fun _=>Wd.row 0 rfl) rfl rfl rfl bH rfl rfl (by first|omega|(simp;omega)) (by first|assumption|omega|(simp;omega)|(simp [eA];omega))) rfl<|?_
      refine R.s rfl (s.sd (lo:=(l.take i++(l.drop j)).length) (hi:=l.length) (z0:=(⟨(⟨0,0⟩:Place),0⟩:Held)) 0 rfl rfl bH eV rfl (by first|omega|(simp;omega)) (by first|omega|(simp;omega)) (by first|assumption|omega|(simp;omega)|(simp [eA];omega))) fun _=>?_
      refine R.nil ?_
      refine R.reg rfl<|R.u 2 rfl<|R.nil ?_
      have hz:l.take i++l.drop j=(l.take i++(l.drop j)):=by (first|rfl|exact iw (by omega))
      rw [hz]
      exact R.w1 (gJ bf (i+(l.drop j).length)) [0,1] [] rfl Tryz.results117 (RV.tmp rfl) rfl rfl rfl rfl
    ·
      refine Do.s (s.c (Qt.a (q.dw (i:=j) (fun _=>Wd.row 0 rfl) rfl rfl bH rfl (by first|omega|(simp;omega)))) rfl) (fun _=>(fun _=>Wd.aK [1] [] rfl rfl rfl)) rfl fun _=>?_
      refine D.one (i:=2) (by kernel_rfl) rfl ?_
      refine Do.s (s.c (Qt.a (q.gJ (i:=i) (fun _=>Wd.row 0 rfl) rfl rfl Tryz.underlying29 mG rfl (by first|omega|(simp;omega)))) rfl) (fun _=>(fun _=>Wd.aK [1] [] rfl rfl rfl)) rfl fun _=>?_
      refine D.one (i:=6) (by kernel_rfl) rfl ?_
      refine Do.s (s.oU (a:=i) (l2:=(l.drop j)) 0 _ rfl rfl rfl (fun w hw=>Sl.from ((fun _=>Wd.row 0 rfl) w hw) (by omega)) iT (by omega) (by simp;omega) rfl rfl) (fun _=>(fun _=>Wd.aK [1] [] rfl rfl rfl)) rfl fun _=>?_
      refine D.q (i:=7) rfl (by kernel_rfl) (fun _=>Wd.aK [1] [] rfl rfl rfl) rfl (q.as rfl) rfl<|D.done (by kernel_rfl)<|?_
      refine R.reg rfl<|R.u 2 rfl<|R.q (q.len' (fun _=>Wd.row 0 rfl) rfl Tryz.underlying29) rfl<|R.u 1 rfl<|R.q (q.sl2 (i:=(l.take i++(l.drop j)).length) (j:=l.length) (fun _=>Wd.row 0 rfl) rfl rfl rfl bH rfl rfl (by first|omega|(simp;omega)) (by first|assumption|omega|(simp;omega)|(simp [eA];omega))) rfl<|?_
      refine R.s rfl (s.sd (lo:=(l.take i++(l.drop j)).length) (hi:=l.length) (z0:=(⟨(⟨0,0⟩:Place),0⟩:Held)) 0 rfl rfl bH eV rfl (by first|omega|(simp;omega)) (by first|omega|(simp;omega)) (by first|assumption|omega|(simp;omega)|(simp [eA];omega))) fun _=>?_
      refine R.nil ?_
      refine R.reg rfl<|R.u 2 rfl<|R.nil ?_
      have hz:l.take i++l.drop j=(l.take i++(l.drop j)):=by (first|rfl|exact iw (by omega))
      rw [hz]
      exact R.w1 (gJ bf (i+(l.drop j).length)) [0,1] [] rfl Tryz.results117 (RV.tmp rfl) rfl rfl rfl rfl
set_option maxRecDepth 100000 in
theorem nn (bf:Value)(l:List Held)(i:Nat)(uT:Value)(u:List Held)(w:World)(own:List Nat)(H:Wd w (blks [ah.row 85 bf (l:List Held),ah.row 85 uT (u:List Held)]++own) ([ah.row 85 bf (l:List Held),ah.row 85 uT (u:List Held)]++[ah.held w own]) [] w)(hi:i≤l.length)(hu:u.length=1)(hl:l.length≤1000000):Calls Tryz.prog 118 #[bf,.int .i64 (i:Int),uT] w fun e w' => ∃z:Value,e = .returned (z)∧Wd w (blks [ah.row 85 bf (l:List Held),ah.row 85 uT (u:List Held)]++own) ([ah.row 85 z ((l.take i++u++l.drop i):List Held)]++[ah.held w own]) [] w':=by
  have uS:=H.cap 0 rfl;have uh:=H.nf 0 rfl
  have C0:=H.cap 1 rfl;have C2:=H.nf 1 rfl
  refine R.cQ (n:=95) (vs:=[bf,.int .i64 (i:Int),uT]) (B:=[ah.row 85 bf (l:List Held),ah.row 85 uT (u:List Held),ah.held w own]) [(0,bf),(1,.int .i64 (i:Int)),(2,uT)] Tryz.func118 rfl rfl rfl rfl H ?_
  refine R.reg rfl<|R.u 1 rfl<|R.nil ?_
  refine R.reg rfl<|R.u 2 rfl<|R.q (q.dw (i:=i) (fun _=>Wd.row 0 rfl) rfl rfl bH rfl (by first|omega|(simp;omega))) rfl<|R.nil ?_
  refine R.reg rfl<|R.u 1 rfl<|R.q (q.len' (fun _=>Wd.row 1 rfl) rfl Tryz.underlying29) rfl<|R.u 1 rfl<|R.nil ?_
  refine R.reg rfl<|R.u 1 rfl<|?_
  by_cases h1:u.length=0
  ·
    refine R.q (q.eql rfl rfl (beq_iff_eq.2 (by omega))) rfl<|R.nil ?_
    refine R.aE rfl rfl ?_
    refine R.reg rfl<|R.u 2 rfl<|R.nil ?_
    have hz:l.take i++u++l.drop i=l:=by (first|(exfalso;omega)|exact k5 (by omega)|exact jA hu (by omega) rfl|exact nh hu (by omega))
    rw [hz]
    exact R.w1 bf [0,2] [] rfl Tryz.results118 (RV.tmp rfl) rfl rfl rfl rfl
  ·
    refine R.q (q.eql rfl rfl (beq_eq_false_iff_ne.2 (by omega))) rfl<|R.nil ?_
    refine R.aH rfl rfl ?_
    refine R.reg rfl<|R.u 1 rfl<|R.q (q.len' (fun _=>Wd.row 0 rfl) rfl Tryz.underlying29) rfl<|R.u 1 rfl<|R.nil ?_
    refine R.reg rfl<|R.u 2 rfl<|?_
    by_cases h2:i=l.length
    ·
      refine R.q (q.eql rfl rfl (beq_iff_eq.2 (by omega))) rfl<|R.nil ?_
      refine R.aE rfl rfl ?_
      refine R.reg rfl<|R.u 2 rfl<|?_
      refine R.s rfl (s.app (l2:=u) 0 _ rfl rfl rfl (fun _=>Wd.row 1 rfl) iT (by first|omega|(simp;done)|(simp;omega)) (by first|omega|(simp;done)|(simp;omega)) (fun _=>rfl) rfl) fun v1=>?_
      refine R.u 1 rfl<|R.nil ?_
      have hz:l.take i++u++l.drop i=(l++u):=by (first|(exfalso;omega)|exact k5 (by omega)|exact jA hu (by omega) rfl|exact nh hu (by omega))
      rw [hz]
      exact R.w1 v1 [0,2] [] rfl Tryz.results118 (RV.tmp rfl) rfl rfl rfl rfl
    ·
      refine R.q (q.eql rfl rfl (beq_eq_false_iff_ne.2 (by omega))) rfl<|R.nil ?_
      refine R.aH rfl rfl ?_
      refine R.reg rfl<|R.u 2 rfl<|R.q (q.add (r:=((l.length+u.length:Nat):Int)) rfl rfl (wr (by omega))) rfl<|R.u 1 rfl<|R.q (q.cap (fun _=>Wd.row 0 rfl) rfl Tryz.underlying29) rfl<|?_
      by_cases h3:(gv bf)<(l.length+u.length)
      ·
        refine R.q (q.gtr rfl rfl (decide_eq_true (by omega))) rfl<|R.nil ?_
        refine R.aE rfl rfl ?_
        refine R.reg rfl<|R.u 2 rfl<|R.q (q.gJ (i:=i) (fun _=>Wd.row 0 rfl) rfl rfl Tryz.underlying29 mG rfl (by first|omega|(simp;omega))) rfl<|R.u 2 rfl<|R.q (q.add (r:=((l.length+u.length:Nat):Int)) rfl rfl (wr (by omega))) rfl<|R.u 1 rfl<|R.q (q.sub (r:=(((l.length+u.length)-i:Nat):Int)) rfl rfl (wr (by omega))) rfl<|?_
        refine R.s rfl (s.wB (o:=i) (m:=((l.length+u.length)-i)) (z0:=(⟨(⟨0,0⟩:Place),0⟩:Held)) 0 rfl rfl rfl rfl iT Tryz.underlying3 eV rfl (by omega) (by omega) (by omega) (by omega) (by omega) rfl) fun v2=>?_
        refine R.u 1 rfl<|R.nil ?_
        refine R.reg rfl<|R.u 2 rfl<|R.q (q.dw (i:=i) (fun _=>Wd.row 0 rfl) rfl rfl bH rfl (by first|omega|(simp;omega))) rfl<|R.u 1 rfl<|?_
        refine R.s rfl (s.r9 (o:=i) (l2:=u) 0 _ rfl (fun _=>Wd.row 2 rfl) rfl rfl bH (by first|omega|(simp;done)|(simp;omega)) rfl rfl) fun _=>?_
        refine R.nil ?_
        refine R.fT (fuel:=9) (Wd w (blks [ah.row 85 bf (l:List Held),ah.row 85 uT (u:List Held)]++own) [ah.row 85 bf (l:List Held),ah.row 85 uT (u:List Held),ah.held w own] []) rfl mixed rfl ?_
        refine D.q (i:=0) rfl (by kernel_rfl) (fun _=>Wd.aK [1,2,3] [] rfl rfl rfl) rfl (q.mv rfl) rfl<|D.q (i:=1) rfl (by kernel_rfl) (fun _=>Wd.aK [1,2,3] [] rfl rfl rfl) rfl (q.mv rfl) rfl<|D.q (i:=2) rfl (by kernel_rfl) (fun _=>Wd.aK [1,2,3] [] rfl rfl rfl) rfl (q.mv rfl) rfl<|D.q (i:=3) rfl (by kernel_rfl) (fun _=>Wd.aK [1,2,3] [] rfl rfl rfl) rfl (q.add (r:=((i+u.length:Nat):Int)) rfl rfl (wr (by omega))) rfl<|D.q (i:=5) rfl (by kernel_rfl) (fun _=>Wd.aK [1,2,3] [] rfl rfl rfl) rfl (q.mv rfl) rfl<|D.q (i:=6) rfl (by kernel_rfl) (fun _=>Wd.aK [1,2,3] [] rfl rfl rfl) rfl (q.mv rfl) rfl<|D.q (i:=7) rfl (by kernel_rfl) (fun _=>Wd.aK [1,2,3] [] rfl rfl rfl) rfl (q.dw (i:=i) (fun _=>Wd.row 0 rfl) rfl rfl bH rfl (by first|omega|(simp;omega))) rfl<|?_
        refine D.one (i:=4) (by kernel_rfl) rfl ?_
        refine Do.s (s.c (Qt.a (q.dw (i:=(i+u.length)) (fun _=>Wd.row 0 rfl) rfl rfl bH rfl (by first|omega|(simp;omega)))) rfl) (fun _=>(fun _=>Wd.aK [1,2,3] [] rfl rfl rfl)) rfl fun _=>?_
        refine D.one (i:=8) (by kernel_rfl) rfl ?_
        refine Do.s (s.r9 (o:=(i+u.length)) (l2:=(l.drop i)) 0 _ rfl (fun w hw=>Sl.from ((fun _=>Wd.row 1 rfl) w hw) (by omega)) rfl rfl bH (by first|omega|(simp;done)|(simp;omega)) rfl rfl) (fun _=>(fun _=>Wd.aK [1,2,3] [] rfl rfl rfl)) rfl fun _=>?_
        refine D.done (by kernel_rfl)<|?_
        refine R.reg rfl<|R.u 2 rfl<|R.nil ?_
        have hz:l.take i++u++l.drop i=(((l.take i++List.replicate ((l.length+u.length)-i) (⟨(⟨0,0⟩:Place),0⟩:Held)).take i++u++(l.take i++List.replicate ((l.length+u.length)-i) (⟨(⟨0,0⟩:Place),0⟩:Held)).drop (i+u.length)).take (i+u.length)++(l.drop i)++((l.take i++List.replicate ((l.length+u.length)-i) (⟨(⟨0,0⟩:Place),0⟩:Held)).take i++u++(l.take i++List.replicate ((l.length+u.length)-i) (⟨(⟨0,0⟩:Place),0⟩:Held)).drop (i+u.length)).drop ((i+u.length)+(l.drop i).length)):=by (first|(exfalso;omega)|exact k5 (by omega)|exact jA hu (by omega) rfl|exact nh hu (by omega))
        rw [hz]
        exact R.w1 v2 [0,3] [] rfl Tryz.results118 (RV.tmp rfl) rfl rfl rfl rfl
      ·
        refine R.q (q.gtr rfl rfl (decide_eq_false (by omega))) rfl<|R.nil ?_
        refine R.aH rfl rfl ?_
        refine R.reg rfl<|R.u 3 rfl<|R.q (q.add (r:=((l.length+u.length:Nat):Int)) rfl rfl (wr (by omega))) rfl<|R.q (q.Bq (i:=(l.length+u.length)) (fun _=>Wd.row 0 rfl) rfl rfl bH rfl (by first|omega|assumption)) rfl<|R.u 1 rfl<|R.nil ?_
        refine R.reg rfl<|R.u 4 rfl<|R.q (q.add (r:=((i+u.length:Nat):Int)) rfl rfl (wr (by omega))) rfl<|R.q (q.m9 (i:=(i+u.length)) (fun _=>Wd.row 0 rfl) rfl rfl bH rfl (by omega) (by first|assumption|omega|(simp [eA];omega))) rfl<|R.q (q.Cq (i:=1) (j:=0) (tR:=4) Tryz.func156 rfl rfl (by kernel_rfl) (by kernel_rfl) bH rfl rfl (by decide) (by omega) (by omega) rfl rfl rfl rfl) rfl<|R.u 1 rfl<|R.nil ?_
        refine R.aE rfl rfl ?_
        refine R.fT (fuel:=9) (Wd w (blks [ah.row 85 bf (l:List Held),ah.row 85 uT (u:List Held)]++own) [ah.row 85 uT (u:List Held),ah.held w own] []) rfl mixed rfl ?_
        refine D.q (i:=0) rfl (by kernel_rfl) (fun _=>Wd.aK [1,2] [] rfl rfl rfl) rfl (q.mv rfl) rfl<|D.q (i:=1) rfl (by kernel_rfl) (fun _=>Wd.aK [1,2] [] rfl rfl rfl) rfl (q.mv rfl) rfl<|D.q (i:=2) rfl (by kernel_rfl) (fun _=>Wd.aK [1,2] [] rfl rfl rfl) rfl (q.mv rfl) rfl<|D.q (i:=3) rfl (by kernel_rfl) (fun _=>Wd.aK [1,2] [] rfl rfl rfl) rfl (q.add (r:=((i+u.length:Nat):Int)) rfl rfl (wr (by omega))) rfl<|D.q (i:=5) rfl (by kernel_rfl) (fun _=>Wd.aK [1,2] [] rfl rfl rfl) rfl (q.mv rfl) rfl<|D.q (i:=6) rfl (by kernel_rfl) (fun _=>Wd.aK [1,2] [] rfl rfl rfl) rfl (q.mv rfl) rfl<|?_
        refine D.two (i:=4) (j:=7) (by kernel_rfl) rfl rfl ?_ ?_
        ·
          refine Do.s (s.c (Qt.a (q.m9 (i:=(i+u.length)) (fun _=>Wd.row 0 rfl) rfl rfl bH rfl (by omega) (by first|assumption|omega|(simp [eA];omega)))) rfl) (fun _=>(fun _=>Wd.aK [1,2] [] rfl rfl rfl)) rfl fun _=>?_
          refine D.one (i:=7) (by kernel_rfl) rfl ?_
          refine Do.s (s.c (Qt.a (q.m9 (i:=i) (fun _=>Wd.row 0 rfl) rfl rfl bH rfl (by omega) (by first|assumption|omega|(simp [eA];omega)))) rfl) (fun _=>(fun _=>Wd.aK [1,2] [] rfl rfl rfl)) rfl fun _=>?_
          refine D.one (i:=8) (by kernel_rfl) rfl ?_
          refine Do.s (s.ux (o:=i) 0 _ rfl (by omega) (by omega) (by omega) (by first|assumption|omega) rfl rfl bH rfl rfl) (fun _=>(fun _=>Wd.aK [1,2] [] rfl rfl rfl)) rfl fun _=>?_
          refine D.done (by kernel_rfl)<|?_
          refine R.reg rfl<|R.u 2 rfl<|R.q (q.dw (i:=i) (fun _=>Wd.row 0 rfl) rfl rfl bH rfl (by first|omega|(simp;omega))) rfl<|R.u 1 rfl<|?_
          refine R.s rfl (s.r9 (o:=i) (l2:=u) 0 _ rfl (fun _=>Wd.row 1 rfl) rfl rfl bH (by first|omega|(simp;done)|(simp;omega)) rfl rfl) fun _=>?_
          refine R.nil ?_
          refine R.reg rfl<|R.u 2 rfl<|R.nil ?_
          have hz:l.take i++u++l.drop i=((l.take (i+1)++l.drop i).take i++u++(l.take (i+1)++l.drop i).drop (i+u.length)):=by (first|(exfalso;omega)|exact k5 (by omega)|exact jA hu (by omega) rfl|exact nh hu (by omega))
          rw [hz]
          exact R.w1 (gJ bf (l.length+u.length)) [0,2] [] rfl Tryz.results118 (RV.tmp rfl) rfl rfl rfl rfl
        ·
          refine Do.s (s.c (Qt.a (q.m9 (i:=i) (fun _=>Wd.row 0 rfl) rfl rfl bH rfl (by omega) (by first|assumption|omega|(simp [eA];omega)))) rfl) (fun _=>(fun _=>Wd.aK [1,2] [] rfl rfl rfl)) rfl fun _=>?_
          refine D.one (i:=4) (by kernel_rfl) rfl ?_
          refine Do.s (s.c (Qt.a (q.m9 (i:=(i+u.length)) (fun _=>Wd.row 0 rfl) rfl rfl bH rfl (by omega) (by first|assumption|omega|(simp [eA];omega)))) rfl) (fun _=>(fun _=>Wd.aK [1,2] [] rfl rfl rfl)) rfl fun _=>?_
          refine D.one (i:=8) (by kernel_rfl) rfl ?_
          refine Do.s (s.ux (o:=i) 0 _ rfl (by omega) (by omega) (by omega) (by first|assumption|omega) rfl rfl bH rfl rfl) (fun _=>(fun _=>Wd.aK [1,2] [] rfl rfl rfl)) rfl fun _=>?_
          refine D.done (by kernel_rfl)<|?_
          refine R.reg rfl<|R.u 2 rfl<|R.q (q.dw (i:=i) (fun _=>Wd.row 0 rfl) rfl rfl bH rfl (by first|omega|(simp;omega))) rfl<|R.u 1 rfl<|?_
          refine R.s rfl (s.r9 (o:=i) (l2:=u) 0 _ rfl (fun _=>Wd.row 1 rfl) rfl rfl bH (by first|omega|(simp;done)|(simp;omega)) rfl rfl) fun _=>?_
          refine R.nil ?_
          refine R.reg rfl<|R.u 2 rfl<|R.nil ?_
          have hz:l.take i++u++l.drop i=((l.take (i+1)++l.drop i).take i++u++(l.take (i+1)++l.drop i).drop (i+u.length)):=by (first|(exfalso;omega)|exact k5 (by omega)|exact jA hu (by omega) rfl|exact nh hu (by omega))
          rw [hz]
          exact R.w1 (gJ bf (l.length+u.length)) [0,2] [] rfl Tryz.results118 (RV.tmp rfl) rfl rfl rfl rfl
theorem oA (x:Int)(w:World)  : Calls Tryz.prog 177 #[.int .i64 x] w fun e w'=>e = .returned (.bool false)∧Ext w w':=by
  refine R.enter (n:=6) (vs:=[.int .i64 x]) [] [(0,.int .i64 x)] Tryz.func177 rfl rfl rfl rfl ?_
  refine R.reg rfl<|R.u 1 rfl<|R.nil ?_
  refine R.reg rfl<|R.u 2 rfl<|R.q (q.neq rfl rfl (bne_eq_false_iff_eq.2 (by omega))) rfl<|R.u 1 rfl<|R.nil ?_
  exact R.rv rfl Tryz.results177 rfl (rB (by (rfl)))
theorem l4 (x:Int)(y:Int)(w:World)  : Calls Tryz.prog 179 #[.int .i64 x,.int .i64 y] w fun e w'=>e = .returned (.int .i64 (j8 x y))∧Ext w w':=by
  refine R.enter (n:=20) (vs:=[.int .i64 x,.int .i64 y]) [] [(0,.int .i64 x),(1,.int .i64 y)] Tryz.func179 rfl rfl rfl rfl ?_
  refine R.reg rfl<|R.u 1 rfl<|R.nil ?_
  refine R.reg rfl<|R.u 1 rfl<|R.c (q.call uL rfl rfl (fun w hw=>(oA (x) w  ))) rfl<|R.u 1 rfl<|R.nil ?_
  refine R.reg rfl<|R.u 1 rfl<|R.c (q.call uL rfl rfl (fun w hw=>(oA (y) w  ))) rfl<|R.u 1 rfl<|R.nil ?_
  refine R.reg rfl<|R.u 1 rfl<|R.nil ?_
  refine R.aH rfl rfl ?_
  refine R.reg rfl<|R.u 1 rfl<|R.nil ?_
  refine R.aH rfl rfl ?_
  refine R.reg rfl<|R.u 2 rfl<|?_
  by_cases h1:x<y
  ·
    refine R.q (q.lss rfl rfl (decide_eq_true (by omega))) rfl<|R.nil ?_
    refine R.aE rfl rfl ?_
    refine R.reg rfl<|R.u 1 rfl<|R.nil ?_
    exact R.rv rfl Tryz.results179 rfl (rI (by (unfold j8;first|rw [if_pos (by omega)] | rw [if_neg (by omega),if_pos (by omega)] | rw [if_neg (by omega),if_neg (by omega)])))
  ·
    refine R.q (q.lss rfl rfl (decide_eq_false (by omega))) rfl<|R.nil ?_
    refine R.aH rfl rfl ?_
    refine R.reg rfl<|R.u 2 rfl<|?_
    by_cases h2:y<x
    ·
      refine R.q (q.gtr rfl rfl (decide_eq_true (by omega))) rfl<|R.nil ?_
      refine R.aE rfl rfl ?_
      refine R.reg rfl<|R.u 1 rfl<|R.nil ?_
      exact R.rv rfl Tryz.results179 rfl (rI (by (unfold j8;first|rw [if_pos (by omega)] | rw [if_neg (by omega),if_pos (by omega)] | rw [if_neg (by omega),if_neg (by omega)])))
    ·
      refine R.q (q.gtr rfl rfl (decide_eq_false (by omega))) rfl<|R.nil ?_
      refine R.aH rfl rfl ?_
      refine R.reg rfl<|R.u 1 rfl<|R.nil ?_
      exact R.rv rfl Tryz.results179 rfl (rI (by (unfold j8;first|rw [if_pos (by omega)] | rw [if_neg (by omega),if_pos (by omega)] | rw [if_neg (by omega),if_neg (by omega)])))
theorem tu (bf:Value)(l:List Int)(w:World)(dx:Sl w bf l):Calls Tryz.prog 178 #[bf] w fun e w'=>e = .returned (.int .i64 (uQ l))∧Ext w w':=by
  have pC:=dx.dQ
  refine R.enter (n:=18) (vs:=[bf]) [] [(0,bf)] Tryz.func178 rfl rfl rfl rfl ?_
  refine R.reg rfl<|R.u 1 rfl<|R.nil ?_
  refine R.reg rfl<|R.u 1 rfl<|R.nil ?_
  refine R.reg rfl<|R.u 1 rfl<|R.q (q.len' (fun _=>Wd.old dx) rfl Tryz.underlying60) rfl<|R.u 1 rfl<|R.nil ?_
  refine R.loop (fun k:Nat=>[(3,.int .i64 0),(6,bf),(7,.int .i64 (l.length:Int)),(8,.int .i64 (k:Int))]) (fun k:Nat=>[]) (fun k:Nat=>[]) (fun k:Nat=>uQ l=uQ (l.drop k)) (fun k:Nat=>l.length-k) 0 rfl (by rfl) ⟨rfl,rfl,rfl,rfl,trivial⟩ (fun _=>Wd.pick [] [] rfl rfl rfl) ?_
  rintro k HA
  refine R.reg rfl<|?_
  by_cases h1:k<l.length
  ·
    refine R.q (q.lss rfl rfl (decide_eq_true (by omega))) rfl<|R.nil ?_
    refine R.aE rfl rfl ?_
    refine R.reg rfl<|?_
    obtain ⟨x1,hx1⟩:∃z,l[k]? = some z:=⟨_,List.getElem?_eq_getElem (by omega)⟩
    refine R.q (q.idx (i:=k) (fun _=>Wd.old dx) rfl rfl cG rfl hx1) rfl<|R.q (q.hZ (fun _=>Wd.old dx) hx1 rfl aA rfl) rfl<|R.u 1 rfl<|R.nil ?_
    refine R.reg rfl<|R.u 2 rfl<|?_
    by_cases h2:x1=0
    ·
      refine R.q (q.neq rfl rfl (bne_eq_false_iff_eq.2 (by omega))) rfl<|R.nil ?_
      refine R.aH rfl rfl ?_
      refine R.reg rfl<|R.q (q.add (r:=((k+1:Nat):Int)) rfl rfl (wr (by omega))) rfl<|R.u 1 rfl<|R.nil ?_
      refine R.back (k+1) rfl (by (rw [HA];exact uR hx1 (by omega))) (by omega) ⟨rfl,rfl,rfl,rfl,trivial⟩ (fun _=>Wd.pick [] [] rfl rfl rfl)
    ·
      refine R.q (q.neq rfl rfl (bne_iff_ne.2 (by omega))) rfl<|R.nil ?_
      refine R.aE rfl rfl ?_
      refine R.reg rfl<|R.u 2 rfl<|R.nil ?_
      exact R.rv rfl Tryz.results178 rfl (rI (by (rw [HA];exact (wM hx1 (by omega)).symm)))
  ·
    refine R.q (q.lss rfl rfl (decide_eq_false (by omega))) rfl<|R.nil ?_
    refine R.aH rfl rfl ?_
    refine R.reg rfl<|R.u 2 rfl<|R.nil ?_
    exact R.rv rfl Tryz.results178 rfl (rI (by (rw [HA,List.drop_of_length_le (by omega)];rfl)))
theorem o7 (a:Place)(b:Place)(w:World)  : Calls Tryz.prog 155 #[.agg #[.int .i64 a.ag,.int .i64 a.Slot],.agg #[.int .i64 b.ag,.int .i64 b.Slot]] w fun e w'=>e = .returned (.int .i64 (j9 a b))∧Ext w w':=by
  refine R.enter (n:=17) (vs:=[.agg #[.int .i64 a.ag,.int .i64 a.Slot],.agg #[.int .i64 b.ag,.int .i64 b.Slot]]) [] [(0,.agg #[.int .i64 a.ag,.int .i64 a.Slot]),(1,.agg #[.int .i64 b.ag,.int .i64 b.Slot])] Tryz.func155 rfl rfl rfl rfl ?_
  refine R.reg rfl<|?_
  refine R.s rfl (s.box (cs:=[.int .i64 a.ag,.int .i64 a.Slot]) rfl rfl rfl) fun b1=>?_
  refine R.s rfl (s.box (cs:=[.int .i64 b.ag,.int .i64 b.Slot]) rfl rfl rfl) fun b2=>?_
  refine R.u 1 rfl<|R.nil ?_
  refine R.fT (fuel:=13) (Wd w [] [ah.box b2 [.int .i64 b.ag,.int .i64 b.Slot] 39,ah.box b1 [.int .i64 a.ag,.int .i64 a.Slot] 39] []) rfl mixed rfl ?_
  refine D.q (i:=0) rfl (by kernel_rfl) (fun _=>Wd.aK [0,1] [] rfl rfl rfl) rfl (q.aX (off':=0) rfl dE rfl) rfl<|D.q (i:=1) rfl (by kernel_rfl) (fun _=>Wd.aK [0,1] [] rfl rfl rfl) rfl (q.ld 1 rfl rfl aA rfl) rfl<|D.q (i:=2) rfl (by kernel_rfl) (fun _=>Wd.aK [0,1] [] rfl rfl rfl) rfl (q.aX (off':=0) rfl dE rfl) rfl<|D.q (i:=3) rfl (by kernel_rfl) (fun _=>Wd.aK [0,1] [] rfl rfl rfl) rfl (q.ld 0 rfl rfl aA rfl) rfl<|D.q (i:=5) rfl (by kernel_rfl) (fun _=>Wd.aK [0,1] [] rfl rfl rfl) rfl (q.aX (off':=1) rfl iq rfl) rfl<|D.q (i:=6) rfl (by kernel_rfl) (fun _=>Wd.aK [0,1] [] rfl rfl rfl) rfl (q.ld 1 rfl rfl aA rfl) rfl<|D.q (i:=7) rfl (by kernel_rfl) (fun _=>Wd.aK [0,1] [] rfl rfl rfl) rfl (q.aX (off':=1) rfl iq rfl) rfl<|D.q (i:=8) rfl (by kernel_rfl) (fun _=>Wd.aK [0,1] [] rfl rfl rfl) rfl (q.ld 0 rfl rfl aA rfl) rfl<|?_
  refine D.one (i:=4) (by kernel_rfl) rfl ?_
  refine Do.s (s.c (q.call uM rfl rfl (fun w hw=>(l4 (a.ag) (b.ag) w  ))) rfl) (fun _=>(fun _=>Wd.aK [0,1] [] rfl rfl rfl)) rfl fun _=>?_
  refine D.one (i:=9) (by kernel_rfl) rfl ?_
  refine Do.s (s.c (q.call uM rfl rfl (fun w hw=>(l4 (a.Slot) (b.Slot) w  ))) rfl) (fun _=>(fun _=>Wd.aK [0,1] [] rfl rfl rfl)) rfl fun _=>?_
  refine D.one (i:=10) (by kernel_rfl) rfl ?_
  refine Do.s (s.bs (l:=([j8 a.ag b.ag,j8 a.Slot b.Slot]:List Int)) cG iR rfl rfl rfl rfl rfl rfl rfl) (fun _=>(fun _=>Wd.aK [1,2] [] rfl rfl rfl)) rfl fun b3=>?_
  refine D.one (i:=11) (by kernel_rfl) rfl ?_
  refine Do.s (s.c (q.call yD rfl rfl (fun w hw=>(tu _ ([j8 a.ag b.ag,j8 a.Slot b.Slot]) w ((fun _=>Wd.row 0 rfl) w hw) ))) rfl) (fun _=>(fun _=>Wd.aK [1,2] [] rfl rfl rfl)) rfl fun _=>?_
  refine D.q (i:=12) rfl (by kernel_rfl) (fun _=>Wd.aK [1,2] [] rfl rfl rfl) rfl (q.as rfl) rfl<|D.done (by kernel_rfl)<|?_
  exact R.rv rfl Tryz.results155 rfl (rI (by (exact wN a b)))
theorem o8 (h:Held)(pl:Place)(w:World)  : Calls Tryz.prog 154 #[.agg #[.int .i64 h.Place.ag,.int .i64 h.Place.Slot,.int .i64 h.ak],.agg #[.int .i64 pl.ag,.int .i64 pl.Slot]] w fun e w'=>e = .returned (.int .i64 (j9 h.Place pl))∧Ext w w':=by
  refine R.enter (n:=9) (vs:=[.agg #[.int .i64 h.Place.ag,.int .i64 h.Place.Slot,.int .i64 h.ak],.agg #[.int .i64 pl.ag,.int .i64 pl.Slot]]) [] [(0,.agg #[.int .i64 h.Place.ag,.int .i64 h.Place.Slot,.int .i64 h.ak]),(1,.agg #[.int .i64 pl.ag,.int .i64 pl.Slot])] Tryz.func154 rfl rfl rfl rfl ?_
  refine R.reg rfl<|?_
  refine R.s rfl (s.box (cs:=[.int .i64 h.Place.ag,.int .i64 h.Place.Slot,.int .i64 h.ak]) rfl rfl rfl) fun b1=>?_
  refine R.s rfl (s.box (cs:=[.int .i64 pl.ag,.int .i64 pl.Slot]) rfl rfl rfl) fun b2=>?_
  refine R.u 1 rfl<|R.nil ?_
  refine R.reg rfl<|R.q (q.aX (off':=0) rfl lD rfl) rfl<|R.q (q.wh (ds:=[.int .i64 h.Place.ag,.int .i64 h.Place.Slot]) 1 rfl rfl bk rfl) rfl<|R.q (q.cF 0 rfl rfl bk) rfl<|R.c (q.call yC rfl rfl (fun w hw=>(o7 (h.Place) (pl) w  ))) rfl<|R.u 1 rfl<|R.nil ?_
  exact R.rv rfl Tryz.results154 rfl (rI (by (rfl)))
theorem mo (bf:Value)(l:List Held)(t:Place)(c:Held→Place→Int)(yF:Nat)(Aw:List Value)(wO:∀args w,(callFunc yF args).run Tryz.prog w = .ok (.enter yF args) w)(w:World)(dx:Sl w bf l)(Bh:∀W (x1:Held) (x2:Place),Ext w W→Calls Tryz.prog yF ([x1.val,x2.val]++Aw).toArray W fun e w'=>e = .returned (.int .i64 (c x1 x2))∧Ext W w')(hl:l.length≤1000000):Calls Tryz.prog 153 #[bf,.agg #[.int .i64 t.ag,.int .i64 t.Slot],.func (.func yF) #[] Aw.toArray] w fun e w'=>e = .returned (.tuple #[.int .i64 (wJ (fun x=>c x t) l:Int),.bool (wK (fun x=>c x t) l)])∧Ext w w':=by
  have pC:=dx.dQ
  refine R.enter (n:=49) (vs:=[bf,.agg #[.int .i64 t.ag,.int .i64 t.Slot],.func (.func yF) #[] Aw.toArray]) [] [(0,bf),(1,.agg #[.int .i64 t.ag,.int .i64 t.Slot]),(2,.func (.func yF) #[] Aw.toArray)] Tryz.func153 rfl rfl rfl rfl ?_
  refine R.reg rfl<|?_
  refine R.s rfl (s.box (cs:=[.int .i64 t.ag,.int .i64 t.Slot]) rfl rfl rfl) fun b1=>?_
  refine R.u 2 rfl<|R.nil ?_
  refine R.reg rfl<|R.u 1 rfl<|R.q (q.len' (fun _=>Wd.old dx) rfl Tryz.underlying29) rfl<|R.u 1 rfl<|R.nil ?_
  refine R.reg rfl<|R.u 3 rfl<|R.nil ?_
  refine R.loop (fun g_:Nat×Nat=>[(0,bf),(2,.func (.func yF) #[] Aw.toArray),(4,.pointer (some ⟨b1,0,none⟩)),(8,.int .i64 (l.length:Int)),(9,.int .i64 (g_.1:Int)),(10,.int .i64 (g_.2:Int))]) (fun g_:Nat×Nat=>[ah.box b1 [.int .i64 t.ag,.int .i64 t.Slot] 39]) (fun g_:Nat×Nat=>[]) (fun g_:Nat×Nat=>g_.1≤g_.2∧g_.2≤l.length∧bsGo (fun x=>c x t) l g_.1 g_.2=wJ (fun x=>c x t) l) (fun g_:Nat×Nat=>g_.2-g_.1) (0,l.length) rfl (by exact ⟨Nat.zero_le _,Nat.le_refl _,rfl⟩) ⟨rfl,rfl,rfl,rfl,rfl,rfl,trivial⟩ (fun _=>Wd.pick [0] [] rfl rfl rfl) ?_
  rintro ⟨lo,hi⟩ ⟨Ca,C4,HA⟩
  dsimp only at *
  refine R.reg rfl<|R.u 2 rfl<|?_
  by_cases h1:lo<hi
  ·
    refine R.q (q.lss rfl rfl (decide_eq_true (by omega))) rfl<|R.nil ?_
    refine R.aE rfl rfl ?_
    refine R.reg rfl<|R.u 2 rfl<|R.q (q.add (r:=((lo+hi:Nat):Int)) rfl rfl (wr (by omega))) rfl<|R.q (q.Bf (r:=(((lo+hi):Nat):Int)) rfl (by rw [Tryz.underlying3];rfl) Tryz.underlying138 (yn (by omega))) rfl<|R.q (q.shr (r:=((((lo+hi) / 2):Nat):Int)) rfl rfl (by decide) (BA (by decide))) rfl<|R.q (q.Bf (r:=((((lo+hi) / 2):Nat):Int)) rfl (by rw [Tryz.underlying138];rfl) Tryz.underlying3 (wr (by omega))) rfl<|R.u 1 rfl<|R.nil ?_
    obtain ⟨x1,hx1⟩:∃z,l[((lo+hi) / 2)]? = some z:=⟨_,List.getElem?_eq_getElem (by omega)⟩
    by_cases h2:(c x1 t)<0
    ·
      refine R.eU rfl mixed (by kernel_rfl)<|Q.u 3 rfl<|Q.q (q.idx (i:=((lo+hi) / 2)) (fun _=>Wd.old dx) rfl rfl bH rfl hx1) rfl<|Q.q (q.dY (ds:=[.int .i64 x1.Place.ag,.int .i64 x1.Place.Slot,.int .i64 x1.ak]) (fun _=>Wd.old dx) hx1 rfl dV rfl) rfl<|Q.q (q.cF 0 rfl rfl bk) rfl<|Q.c (q.call wO rfl rfl (fun w hw=>Bh w x1 t hw.ext)) rfl<|Q.q (q.lss rfl rfl (decide_eq_true (by omega))) rfl<|Q.nil ?_
      refine R.aE rfl rfl ?_
      refine R.reg rfl<|R.u 1 rfl<|R.q (q.add (r:=((((lo+hi) / 2)+1:Nat):Int)) rfl rfl (wr (by omega))) rfl<|R.u 1 rfl<|R.nil ?_
      refine R.back ((((lo+hi) / 2)+1),hi) rfl (by (exact ⟨by omega,by omega,(sv (by omega) hx1 (by omega)).symm.trans HA⟩)) (by dsimp only;omega) ⟨rfl,rfl,rfl,rfl,rfl,rfl,trivial⟩ (fun _=>Wd.pick [0] [] rfl rfl rfl)
    ·
      refine R.eU rfl mixed (by kernel_rfl)<|Q.u 3 rfl<|Q.q (q.idx (i:=((lo+hi) / 2)) (fun _=>Wd.old dx) rfl rfl bH rfl hx1) rfl<|Q.q (q.dY (ds:=[.int .i64 x1.Place.ag,.int .i64 x1.Place.Slot,.int .i64 x1.ak]) (fun _=>Wd.old dx) hx1 rfl dV rfl) rfl<|Q.q (q.cF 0 rfl rfl bk) rfl<|Q.c (q.call wO rfl rfl (fun w hw=>Bh w x1 t hw.ext)) rfl<|Q.q (q.lss rfl rfl (decide_eq_false (by omega))) rfl<|Q.nil ?_
      refine R.aH rfl rfl ?_
      refine R.reg rfl<|R.u 2 rfl<|R.nil ?_
      refine R.back (lo,((lo+hi) / 2)) rfl (by (exact ⟨by omega,by omega,(sy (by omega) hx1 (by omega)).symm.trans HA⟩)) (by dsimp only;omega) ⟨rfl,rfl,rfl,rfl,rfl,rfl,trivial⟩ (fun _=>Wd.pick [0] [] rfl rfl rfl)
  ·
    refine R.q (q.lss rfl rfl (decide_eq_false (by omega))) rfl<|R.nil ?_
    refine R.aH rfl rfl ?_
    by_cases h3:lo<l.length
    ·
      obtain ⟨x2,hx2⟩:∃z,l[lo]? = some z:=⟨_,List.getElem?_eq_getElem (by omega)⟩
      by_cases h4:(c x2 t)=0
      ·
        refine R.eU rfl mixed (by kernel_rfl)<|Q.u 3 rfl<|Q.q (q.lss rfl rfl (decide_eq_true (by omega))) rfl<|Q.u 4 rfl<|Q.qg rfl (q.idx (i:=lo) (fun _=>Wd.old dx) rfl rfl bH rfl hx2) rfl<|Q.qg rfl (q.dY (ds:=[.int .i64 x2.Place.ag,.int .i64 x2.Place.Slot,.int .i64 x2.ak]) (fun _=>Wd.old dx) hx2 rfl dV rfl) rfl<|Q.qg rfl (q.cF 0 rfl rfl bk) rfl<|Q.cg rfl (q.call wO rfl rfl (fun w hw=>Bh w x2 t hw.ext)) rfl<|Q.qg rfl (q.eql rfl rfl (beq_iff_eq.2 (by omega))) rfl<|Q.u 3 rfl<|Q.nil ?_
        exact R.Bg rfl Tryz.results153 rfl rfl (rI (by (exact congrArg (fun n:Nat=>(n:Int)) ((gM (by omega)).symm.trans HA)))) (rB (by (have e:=(gM (by omega)).symm.trans HA;unfold wK;rw [← e];first|(rw [hx2];first|exact (decide_eq_true (by assumption)).symm|exact (decide_eq_false (by assumption)).symm)|(rw [List.getElem?_eq_none (by omega)]))))
      ·
        refine R.eU rfl mixed (by kernel_rfl)<|Q.u 3 rfl<|Q.q (q.lss rfl rfl (decide_eq_true (by omega))) rfl<|Q.u 4 rfl<|Q.qg rfl (q.idx (i:=lo) (fun _=>Wd.old dx) rfl rfl bH rfl hx2) rfl<|Q.qg rfl (q.dY (ds:=[.int .i64 x2.Place.ag,.int .i64 x2.Place.Slot,.int .i64 x2.ak]) (fun _=>Wd.old dx) hx2 rfl dV rfl) rfl<|Q.qg rfl (q.cF 0 rfl rfl bk) rfl<|Q.cg rfl (q.call wO rfl rfl (fun w hw=>Bh w x2 t hw.ext)) rfl<|Q.qg rfl (q.eql rfl rfl (beq_eq_false_iff_ne.2 (by omega))) rfl<|Q.u 3 rfl<|Q.nil ?_
        exact R.Bg rfl Tryz.results153 rfl rfl (rI (by (exact congrArg (fun n:Nat=>(n:Int)) ((gM (by omega)).symm.trans HA)))) (rB (by (have e:=(gM (by omega)).symm.trans HA;unfold wK;rw [← e];first|(rw [hx2];first|exact (decide_eq_true (by assumption)).symm|exact (decide_eq_false (by assumption)).symm)|(rw [List.getElem?_eq_none (by omega)]))))
    ·
      refine R.eU rfl mixed (by kernel_rfl)<|Q.u 3 rfl<|Q.q (q.lss rfl rfl (decide_eq_false (by omega))) rfl<|Q.u 12 rfl<|Q.nil ?_
      exact R.Bg rfl Tryz.results153 rfl rfl (rI (by (exact congrArg (fun n:Nat=>(n:Int)) ((gM (by omega)).symm.trans HA)))) (rB (by (have e:=(gM (by omega)).symm.trans HA;unfold wK;rw [← e];first|(rw [rfl];first|exact (decide_eq_true (by assumption)).symm|exact (decide_eq_false (by assumption)).symm)|(rw [List.getElem?_eq_none (by omega)]))))
theorem f7 (bf:Value)(l:List Held)(pl:Place)(w:World)(dx:Sl w bf l)(hl:l.length≤1000000):Calls Tryz.prog 116 #[bf,.agg #[.int .i64 pl.ag,.int .i64 pl.Slot]] w fun e w'=>e = .returned (.tuple #[.int .i64 (dt l pl:Int),.bool (tt l pl)])∧Ext w w':=by
  have pC:=dx.dQ
  refine R.enter (n:=11) (vs:=[bf,.agg #[.int .i64 pl.ag,.int .i64 pl.Slot]]) [] [(0,bf),(1,.agg #[.int .i64 pl.ag,.int .i64 pl.Slot])] Tryz.func116 rfl rfl rfl rfl ?_
  refine R.reg rfl<|?_
  refine R.s rfl (s.box (cs:=[.int .i64 pl.ag,.int .i64 pl.Slot]) rfl rfl rfl) fun b1=>?_
  refine R.u 2 rfl<|R.nil ?_
  refine R.reg rfl<|R.u 1 rfl<|R.q (q.cF 0 rfl rfl bk) rfl<|R.c (q.call yA rfl rfl (fun w hw=>(mo _ (l) (pl) (fun (h:Held) (pl:Place)=>j9 h.Place pl) _ _ yB w ((fun _=>Wd.old dx) w hw) (fun W h pl hW=>o8 h pl  W  ) (by first|omega|assumption|(simp;done)|(simp;omega))))) rfl<|R.u 4 rfl<|R.nil ?_
  exact R.Bg rfl Tryz.results116 rfl rfl (rI (by (rfl))) (rB (by (rfl)))
theorem fI (p:Place)(w:World)  : Calls Tryz.prog 99 #[.agg #[.int .i64 p.ag,.int .i64 p.Slot]] w fun e w'=>e = .returned (eG (aW p))∧Ext w w':=by
  refine R.enter (n:=22) (vs:=[.agg #[.int .i64 p.ag,.int .i64 p.Slot]]) [] [(0,.agg #[.int .i64 p.ag,.int .i64 p.Slot])] Tryz.func99 rfl rfl rfl rfl ?_
  refine R.reg rfl<|?_
  refine R.s rfl (s.box (cs:=[.int .i64 p.ag,.int .i64 p.Slot]) rfl rfl rfl) fun b1=>?_
  refine R.u 1 rfl<|R.nil ?_
  refine R.reg rfl<|R.q (q.aX (off':=0) rfl dE rfl) rfl<|R.q (q.ld 0 rfl rfl aA rfl) rfl<|?_
  by_cases h1:p.ag<1
  ·
    refine R.q (q.lss rfl rfl (decide_eq_true (by omega))) rfl<|R.u 15 rfl<|R.nil ?_
    refine R.aE rfl rfl ?_
    refine R.reg rfl<|R.q (q.iface rfl bz) rfl<|R.u 1 rfl<|R.nil ?_
    exact R.rv rfl Tryz.results99 rfl (dC (by decide) (by (first|exact eX (by omega)|exact cS (by omega)|exact (cS (by omega)).symm)))
  ·
    refine R.q (q.lss rfl rfl (decide_eq_false (by omega))) rfl<|R.u 1 rfl<|R.qg rfl (q.aX (off':=0) rfl dE rfl) rfl<|R.qg rfl (q.ld 0 rfl rfl aA rfl) rfl<|?_
    by_cases h2:4<p.ag
    ·
      refine R.qg rfl (q.gtr rfl rfl (decide_eq_true (by omega))) rfl<|R.u 11 rfl<|R.nil ?_
      refine R.aE rfl rfl ?_
      refine R.reg rfl<|R.q (q.iface rfl bz) rfl<|R.u 1 rfl<|R.nil ?_
      exact R.rv rfl Tryz.results99 rfl (dC (by decide) (by (first|exact eX (by omega)|exact cS (by omega)|exact (cS (by omega)).symm)))
    ·
      refine R.qg rfl (q.gtr rfl rfl (decide_eq_false (by omega))) rfl<|R.u 2 rfl<|R.qg rfl (q.aX (off':=1) rfl iq rfl) rfl<|R.qg rfl (q.ld 0 rfl rfl aA rfl) rfl<|?_
      by_cases h3:p.Slot<0
      ·
        refine R.qg rfl (q.lss rfl rfl (decide_eq_true (by omega))) rfl<|R.u 6 rfl<|R.nil ?_
        refine R.aE rfl rfl ?_
        refine R.reg rfl<|R.q (q.iface rfl bz) rfl<|R.u 1 rfl<|R.nil ?_
        exact R.rv rfl Tryz.results99 rfl (dC (by decide) (by (first|exact eX (by omega)|exact cS (by omega)|exact (cS (by omega)).symm)))
      ·
        refine R.qg rfl (q.lss rfl rfl (decide_eq_false (by omega))) rfl<|R.u 2 rfl<|R.qg rfl (q.aX (off':=1) rfl iq rfl) rfl<|R.qg rfl (q.ld 0 rfl rfl aA rfl) rfl<|?_
        by_cases h4:5<p.Slot
        ·
          refine R.qg rfl (q.gtr rfl rfl (decide_eq_true (by omega))) rfl<|R.u 1 rfl<|R.nil ?_
          refine R.aE rfl rfl ?_
          refine R.reg rfl<|R.q (q.iface rfl bz) rfl<|R.u 1 rfl<|R.nil ?_
          exact R.rv rfl Tryz.results99 rfl (dC (by decide) (by (first|exact eX (by omega)|exact cS (by omega)|exact (cS (by omega)).symm)))
        ·
          refine R.qg rfl (q.gtr rfl rfl (decide_eq_false (by omega))) rfl<|R.u 1 rfl<|R.nil ?_
          refine R.aH rfl rfl ?_
          refine R.reg rfl<|R.u 1 rfl<|R.nil ?_
          exact R.rv rfl Tryz.results99 rfl (gj (by (first|exact eX (by omega)|exact cS (by omega)|exact (cS (by omega)).symm)))
theorem g9 (bf:Value)(l:List Held)(p:Place)(w:World)(dx:Sl w bf l)(hl:l.length≤1000000):Calls Tryz.prog 106 #[bf,.agg #[.int .i64 p.ag,.int .i64 p.Slot]] w fun e w'=>e = .returned (.int .i64 (hY l p))∧Ext w w':=by
  have pC:=dx.dQ
  refine R.enter (n:=20) (vs:=[bf,.agg #[.int .i64 p.ag,.int .i64 p.Slot]]) [] [(0,bf),(1,.agg #[.int .i64 p.ag,.int .i64 p.Slot])] Tryz.func106 rfl rfl rfl rfl ?_
  refine R.reg rfl<|?_
  refine R.s rfl (s.box (cs:=[.int .i64 p.ag,.int .i64 p.Slot]) rfl rfl rfl) fun b1=>?_
  refine R.u 1 rfl<|R.nil ?_
  refine R.reg rfl<|R.u 1 rfl<|R.q (q.cF 0 rfl rfl bk) rfl<|?_
  have Cy:=mH l p
  rcases lE l p with du|⟨cR,dZ,du,fr,f8⟩
  ·
    refine R.c (q.call oZ rfl rfl (fun w hw=>(cv (congrArg (fun b=>Value.tuple #[.int .i64 ((dt l p:Nat):Int),.bool b]) du) (f7 _ (l) (p) w ((fun _=>Wd.old dx) w hw) (by first|omega|assumption|(simp;done)|(simp;omega)))))) rfl<|R.u 5 rfl<|R.nil ?_
    refine R.reg rfl<|R.u 2 rfl<|R.nil ?_
    refine R.aE rfl rfl ?_
    refine R.reg rfl<|R.u 1 rfl<|R.nil ?_
    exact R.rv rfl Tryz.results106 rfl (rI (by (first|exact (qN du).symm|exact (o6 du dZ).symm)))
  ·
    refine R.c (q.call oZ rfl rfl (fun w hw=>(cv (congrArg (fun b=>Value.tuple #[.int .i64 ((dt l p:Nat):Int),.bool b]) du) (f7 _ (l) (p) w ((fun _=>Wd.old dx) w hw) (by first|omega|assumption|(simp;done)|(simp;omega)))))) rfl<|R.u 5 rfl<|R.nil ?_
    refine R.reg rfl<|R.u 2 rfl<|R.nil ?_
    refine R.aH rfl rfl ?_
    refine R.reg rfl<|R.u 2 rfl<|R.q (q.idx (i:=(dt l p)) (fun _=>Wd.old dx) rfl rfl bH rfl dZ) rfl<|R.q (q.iO (j':=2) (fun _=>Wd.old dx) dZ rfl fV rfl) rfl<|R.q (q.hZ (fun _=>Wd.old dx) dZ rfl aA rfl) rfl<|R.u 1 rfl<|R.nil ?_
    exact R.rv rfl Tryz.results106 rfl (rI (by (first|exact (qN du).symm|exact (o6 du dZ).symm)))
theorem jU (bf:Value)(l:List Held)(p:Place)(id:Int)(w:World)(own:List Nat)(H:Wd w (blks []++own) ([]++[ah.held w own]) [ah.ls bf (l:List Held)] w)(hl:l.length≤100000):Calls Tryz.prog 74 #[bf,.agg #[.int .i64 p.ag,.int .i64 p.Slot],.int .i64 id] w fun e w' => ∃z:Value,e = .returned (z)∧Wd w (blks []++own) ([ah.row 85 z ((ck l p id):List Held)]++[ah.held w own]) [] w':=by
  have uh:=H.cL 0 rfl
  refine R.cQ (n:=47) (vs:=[bf,.agg #[.int .i64 p.ag,.int .i64 p.Slot],.int .i64 id]) (B:=[ah.held w own]) [(0,bf),(1,.agg #[.int .i64 p.ag,.int .i64 p.Slot]),(2,.int .i64 id)] Tryz.func74 rfl rfl rfl rfl H ?_
  refine R.reg rfl<|?_
  refine R.s rfl (s.box (cs:=[.int .i64 p.ag,.int .i64 p.Slot]) rfl rfl rfl) fun b1=>?_
  refine R.u 1 rfl<|R.nil ?_
  refine R.reg rfl<|R.u 1 rfl<|?_
  refine R.s (B':=(fun aG:Value=>[ah.row 85 aG (l:List Held),ah.box b1 [.int .i64 p.ag,.int .i64 p.Slot] 39,ah.held w own])) (F':=(fun aG:Value=>[ah.ls bf (l:List Held)])) rfl (s.bA (B0:=[]) (Br:=[ah.box b1 [.int .i64 p.ag,.int .i64 p.Slot] 39,ah.held w own]) (F0:=[ah.ls bf (l:List Held)]) [0,1] [0] (fun aG:Value=>aG) (fun aG:Value=>[ah.row 85 aG (l:List Held)]) (fun aG:Value=>[]) rfl rfl rfl uG rfl rfl (fun w own hw H=>kg bf (l) w own H (by first|omega|assumption|(simp;done)|(simp;omega))) rfl) fun z1=>?_
  refine R.u 1 rfl<|R.nil ?_
  refine R.reg rfl<|R.u 1 rfl<|R.q (q.cF 1 rfl rfl bk) rfl<|?_
  have Cy:=mH l p
  rcases lE l p with du|⟨cR,dZ,du,fr,f8⟩
  ·
    refine R.c (q.call oZ rfl rfl (fun w hw=>(cv (congrArg (fun b=>Value.tuple #[.int .i64 ((dt l p:Nat):Int),.bool b]) du) (f7 _ (l) (p) w ((fun _=>Wd.row 0 rfl) w hw) (by first|omega|assumption|(simp;done)|(simp;omega)))))) rfl<|R.u 5 rfl<|R.nil ?_
    refine R.reg rfl<|R.u 6 rfl<|R.nil ?_
    refine R.aH rfl rfl ?_
    refine R.reg rfl<|R.u 2 rfl<|R.nil ?_
    refine R.aH rfl rfl ?_
    refine R.reg rfl<|R.u 1 rfl<|?_
    by_cases h1:id=0
    ·
      refine R.q (q.eql rfl rfl (beq_iff_eq.2 (by omega))) rfl<|R.u 1 rfl<|R.nil ?_
      refine R.aE rfl rfl ?_
      refine R.reg rfl<|R.u 2 rfl<|R.nil ?_
      have hz:ck l p id=l:=by (unfold ck;first|(rw [if_pos du,if_pos (by assumption)];done)|(rw [if_pos du,if_neg (by assumption),fr];done)|(rw [if_neg (by rw [du];simp),if_pos (by assumption)];done)|(rw [if_neg (by rw [du];simp),if_neg (by assumption)];done))
      rw [hz]
      exact R.w1 z1 [0,2] [] rfl Tryz.results74 (RV.tmp rfl) rfl rfl rfl rfl
    ·
      refine R.q (q.eql rfl rfl (beq_eq_false_iff_ne.2 (by omega))) rfl<|R.u 1 rfl<|R.nil ?_
      refine R.aH rfl rfl ?_
      refine R.reg rfl<|R.u 2 rfl<|R.q (q.cF 1 rfl rfl bk) rfl<|R.u 1 rfl<|R.q (q.build (cs:=[.int .i64 p.ag,.int .i64 p.Slot,.int .i64 id]) xH rfl rfl) rfl<|?_
      refine R.s rfl (s.bs (l:=([(⟨p,id⟩:Held)]:List Held)) bH eV rfl rfl rfl rfl rfl rfl rfl) fun b2=>?_
      refine R.s (B':=(fun aG:Value=>[ah.row 85 aG ((l.take (dt l p)++([(⟨p,id⟩:Held)])++l.drop (dt l p)):List Held),ah.box b1 [.int .i64 p.ag,.int .i64 p.Slot] 39,ah.held w own])) (F':=(fun aG:Value=>[ah.ls bf (l:List Held)])) rfl (s.bA (B0:=[ah.row 85 z1 (l:List Held),ah.row 85 (.slice (some ⟨b2,0,none⟩) 1 1) ([(⟨p,id⟩:Held)]:List Held)]) (Br:=[ah.box b1 [.int .i64 p.ag,.int .i64 p.Slot] 39,ah.held w own]) (F0:=[]) [1,0,2,3] [] (fun aG:Value=>aG) (fun aG:Value=>[ah.row 85 aG ((l.take (dt l p)++([(⟨p,id⟩:Held)])++l.drop (dt l p)):List Held)]) (fun aG:Value=>[]) rfl rfl rfl yy rfl rfl (fun w own hw H=>nn z1 (l) ((dt l p)) (.slice (some ⟨b2,0,none⟩) 1 1) ([(⟨p,id⟩:Held)]) w own H (by first|assumption|omega) (rfl) (by first|omega|assumption|(simp;done)|(simp;omega))) rfl) fun z2=>?_
      refine R.u 1 rfl<|R.nil ?_
      have hz:ck l p id=l.take (dt l p)++([(⟨p,id⟩:Held)])++l.drop (dt l p):=by (unfold ck;first|(rw [if_pos du,if_pos (by assumption)];done)|(rw [if_pos du,if_neg (by assumption),fr];done)|(rw [if_neg (by rw [du];simp),if_pos (by assumption)];done)|(rw [if_neg (by rw [du];simp),if_neg (by assumption)];done))
      rw [hz]
      exact R.w1 z2 [0,2] [] rfl Tryz.results74 (RV.tmp rfl) rfl rfl rfl rfl
  ·
    refine R.c (q.call oZ rfl rfl (fun w hw=>(cv (congrArg (fun b=>Value.tuple #[.int .i64 ((dt l p:Nat):Int),.bool b]) du) (f7 _ (l) (p) w ((fun _=>Wd.row 0 rfl) w hw) (by first|omega|assumption|(simp;done)|(simp;omega)))))) rfl<|R.u 5 rfl<|R.nil ?_
    refine R.reg rfl<|R.u 3 rfl<|?_
    by_cases h2:id=0
    ·
      refine R.qg rfl (q.eql rfl rfl (beq_iff_eq.2 (by omega))) rfl<|R.u 2 rfl<|R.nil ?_
      refine R.aE rfl rfl ?_
      refine R.reg rfl<|R.u 3 rfl<|R.q (q.add (r:=(((dt l p)+1:Nat):Int)) rfl rfl (wr (by omega))) rfl<|?_
      refine R.s (B':=(fun aG:Value=>[ah.row 85 aG ((l.take (dt l p)++l.drop ((dt l p)+1)):List Held),ah.box b1 [.int .i64 p.ag,.int .i64 p.Slot] 39,ah.held w own])) (F':=(fun aG:Value=>[ah.ls bf (l:List Held)])) rfl (s.bA (B0:=[ah.row 85 z1 (l:List Held)]) (Br:=[ah.box b1 [.int .i64 p.ag,.int .i64 p.Slot] 39,ah.held w own]) (F0:=[]) [0,1,2] [] (fun aG:Value=>aG) (fun aG:Value=>[ah.row 85 aG ((l.take (dt l p)++l.drop ((dt l p)+1)):List Held)]) (fun aG:Value=>[]) rfl rfl rfl yx rfl rfl (fun w own hw H=>nk z1 (l) ((dt l p)) (((dt l p)+1)) w own H (by omega)) rfl) fun z3=>?_
      refine R.u 1 rfl<|R.nil ?_
      have hz:ck l p id=l.take (dt l p)++l.drop ((dt l p)+1):=by (unfold ck;first|(rw [if_pos du,if_pos (by assumption)];done)|(rw [if_pos du,if_neg (by assumption),fr];done)|(rw [if_neg (by rw [du];simp),if_pos (by assumption)];done)|(rw [if_neg (by rw [du];simp),if_neg (by assumption)];done))
      rw [hz]
      exact R.w1 z3 [0,2] [] rfl Tryz.results74 (RV.tmp rfl) rfl rfl rfl rfl
    ·
      refine R.qg rfl (q.eql rfl rfl (beq_eq_false_iff_ne.2 (by omega))) rfl<|R.u 2 rfl<|R.nil ?_
      refine R.aH rfl rfl ?_
      refine R.reg rfl<|R.u 2 rfl<|R.nil ?_
      refine R.aE rfl rfl ?_
      refine R.reg rfl<|R.u 3 rfl<|R.q (q.idx (i:=(dt l p)) (fun _=>Wd.row 0 rfl) rfl rfl bH rfl dZ) rfl<|R.q (q.iO (j':=2) (fun _=>Wd.row 0 rfl) dZ rfl fV rfl) rfl<|?_
      refine R.s rfl (s.stP (o:=2) (z:=(⟨cR.Place,id⟩:Held)) (us:=[.int .i64 id]) 0 _ rfl dZ rfl rfl rfl rfl rfl (by simp [Value.oneCell']) (.inr ⟨aA,rfl⟩) rfl) fun _=>?_
      refine R.nil ?_
      refine R.reg rfl<|R.u 2 rfl<|R.nil ?_
      have hz:ck l p id=(l.set (dt l p) (⟨cR.Place,id⟩:Held)):=by (unfold ck;first|(rw [if_pos du,if_pos (by assumption)];done)|(rw [if_pos du,if_neg (by assumption),fr];done)|(rw [if_neg (by rw [du];simp),if_pos (by assumption)];done)|(rw [if_neg (by rw [du];simp),if_neg (by assumption)];done))
      rw [hz]
      exact R.w1 z1 [0,2] [] rfl Tryz.results74 (RV.tmp rfl) rfl rfl rfl rfl
theorem uU (bf:Value)(l:List Held)(h:Int)(w:World)(dx:Sl w bf l)(hl:l.length≤1000000):Calls Tryz.prog 84 #[bf,.int .i64 h] w fun e w'=>e = .returned (.int .i64 (dR l h))∧Ext w w':=by
  have pC:=dx.dQ
  refine R.enter (n:=17) (vs:=[bf,.int .i64 h]) [] [(0,bf),(1,.int .i64 h)] Tryz.func84 rfl rfl rfl rfl ?_
  refine R.reg rfl<|R.u 1 rfl<|R.nil ?_
  refine R.reg rfl<|R.u 1 rfl<|R.nil ?_
  refine R.loop (fun i:Nat=>[(0,bf),(1,.int .i64 h),(6,.int .i64 (i:Int))]) (fun i:Nat=>[]) (fun i:Nat=>[]) (fun i:Nat=>i≤6∧gN l h (6-i) i=dR l h) (fun i:Nat=>6-i) 0 rfl (by exact ⟨by omega,rfl⟩) ⟨rfl,rfl,rfl,trivial⟩ (fun _=>Wd.pick [] [] rfl rfl rfl) ?_
  rintro i ⟨hs,HA⟩
  refine R.reg rfl<|?_
  by_cases h1:i<6
  ·
    refine R.q (q.lss rfl rfl (decide_eq_true (by omega))) rfl<|R.nil ?_
    refine R.aE rfl rfl ?_
    refine R.reg rfl<|R.u 2 rfl<|R.nil ?_
    refine R.reg rfl<|R.u 3 rfl<|R.q (q.build (cs:=[.int .i64 h,.int .i64 (i:Int)]) lW rfl rfl) rfl<|R.c (q.call oY rfl rfl (fun w hw=>(g9 _ (l) ((⟨h,(i:Int)⟩:Place)) w ((fun _=>Wd.old dx) w hw) (by first|omega|assumption|(simp;done)|(simp;omega))))) rfl<|?_
    by_cases h2:hY l (⟨h,(i:Int)⟩:Place)=0
    ·
      refine R.q (q.eql rfl rfl (beq_iff_eq.2 (by omega))) rfl<|R.nil ?_
      refine R.aE rfl rfl ?_
      refine R.reg rfl<|R.u 2 rfl<|R.nil ?_
      exact R.rv rfl Tryz.results84 rfl (rI (by (rw [← HA];exact (qO (by assumption) (by omega)).symm)))
    ·
      refine R.q (q.eql rfl rfl (beq_eq_false_iff_ne.2 (by omega))) rfl<|R.nil ?_
      refine R.aH rfl rfl ?_
      refine R.reg rfl<|R.q (q.add (r:=((i+1:Nat):Int)) rfl rfl (wr (by omega))) rfl<|R.u 1 rfl<|R.nil ?_
      refine R.back (i+1) rfl (by (exact ⟨by omega,(pQ (by assumption) (by omega)).symm.trans HA⟩)) (by omega) ⟨rfl,rfl,rfl,trivial⟩ (fun _=>Wd.pick [] [] rfl rfl rfl)
  ·
    refine R.q (q.lss rfl rfl (decide_eq_false (by omega))) rfl<|R.nil ?_
    refine R.aH rfl rfl ?_
    refine R.reg rfl<|R.u 1 rfl<|R.nil ?_
    exact R.rv rfl Tryz.results84 rfl (rI (by (rw [← HA];have:i=6:=(by omega);subst this;rfl)))
end Go.Proofs.YtbkfhjaibhnkmaaGreatDoor
