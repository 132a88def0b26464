import Derived.Test.YtpipachmngdegaaGreatRSP14
import Derived.Test.YtpipachmngdegaaGreatRSP12
import Derived.Test.YtpipachmngdegaaGreatRSP15
import Derived.Test.YtpipachmngdegaaGreatRSP16
section
namespace Go.Proofs.YtpipachmngdegaaGreat
open Go Go.RowKit
set_option linter.unusedVariables false
set_option linter.unusedSimpArgs false
set_option maxRecDepth 100000
theorem il (bk:Value)(l:List Held)(w:World)(own:List Nat)(H:Wd w (blks []++own) ([]++[ah.held w own]) [ah.ls bk (l:List Held)] w)(hl:l.length≤1000000):Calls Tryz.prog 46 #[bk] w fun e w' => ∃z:Value,e = .returned (z)∧Wd w (blks []++own) ([ah.row 93 z (l:List Held)]++[ah.held w own]) [] w':=by
  have sV:=H.bS 0 rfl
  refine R.cC (n:=8) (vs:=[bk]) (B:=[ah.held w own]) [(0,bk)] Tryz.func46 rfl rfl rfl rfl H ?_
  refine R.reg rfl<|R.u 1 rfl<|R.nil ?_
  refine R.reg rfl<|R.u 1 rfl<|?_
  rcases Bool.eq_false_or_eq_true (jr bk) with h1|h1
  ·
    refine R.q (q.uH (congrArg Value.bool h1) (q.lj (fun _=>Wd.aO 0 rfl) rfl rfl Tryz.underlying27)) rfl<|R.nil ?_
    refine R.aI rfl rfl ?_
    refine R.reg rfl<|R.u 1 rfl<|R.nil ?_
    refine R.row0 (α:=Held) 93 ?_
    have hz:l=[]:=by (first|rfl|exact (List.nil_append _).symm|exact Sl.jr (H.aO 0 rfl) (by assumption))
    rw [hz]
    exact R.w1 (.slice none 0 0) [0,1] [] rfl Tryz.results46 (RV.tmp rfl) rfl rfl rfl rfl
  ·
    refine R.q (q.uH (congrArg Value.bool h1) (q.lj (fun _=>Wd.aO 0 rfl) rfl rfl Tryz.underlying27)) rfl<|R.nil ?_
    refine R.aH rfl rfl ?_
    refine R.reg rfl<|?_
    refine R.s rfl (s.bs (l:=([]:List Held)) bj cO rfl rfl rfl rfl rfl rfl rfl) fun b1=>?_
    refine R.u 1 rfl<|?_
    refine R.s rfl (s.app (l2:=l) 0 _ rfl rfl rfl (fun _=>Wd.aO 0 rfl) dr (by simp;omega) (by simp;omega) (fun _=>rfl) rfl) fun v1=>?_
    refine R.u 1 rfl<|R.nil ?_
    have hz:l=(([])++l):=by (first|rfl|exact (List.nil_append _).symm|exact Sl.jr (H.aO 0 rfl) (by assumption))
    rw [hz]
    exact R.w1 v1 [0,1] [] rfl Tryz.results46 (RV.tmp rfl) rfl rfl rfl rfl
theorem mh (bk:Value)(l:List Held)(i:Nat)(j:Nat)(w:World)(own:List Nat)(H:Wd w (blks [ah.row 93 bk (l:List Held)]++own) ([ah.row 93 bk (l:List Held)]++[ah.held w own]) [] w)(hij:i≤j∧j≤l.length):Calls Tryz.prog 69 #[bk,.int .i64 (i:Int),.int .i64 (j:Int)] w fun e w' => ∃z:Value,e = .returned (z)∧Wd w (blks [ah.row 93 bk (l:List Held)]++own) ([ah.row 93 z ((l.take i++l.drop j):List Held)]++[ah.held w own]) [] w':=by
  have sW:=H.cap 0 rfl;have sV:=H.pK 0 rfl
  refine R.cC (n:=33) (vs:=[bk,.int .i64 (i:Int),.int .i64 (j:Int)]) (B:=[ah.row 93 bk (l:List Held),ah.held w own]) [(0,bk),(1,.int .i64 (i:Int)),(2,.int .i64 (j:Int))] Tryz.func69 rfl rfl rfl rfl H ?_
  refine R.reg rfl<|R.u 1 rfl<|R.nil ?_
  refine R.reg rfl<|R.u 4 rfl<|R.q (q.len' (fun _=>Wd.row 0 rfl) rfl Tryz.underlying27) rfl<|R.q (q.wB (i:=i) (j:=j) (q':=l.length) (fun _=>Wd.row 0 rfl) rfl rfl rfl rfl bj rfl rfl rfl (by omega) (by omega) (by omega)) rfl<|R.nil ?_
  refine R.reg rfl<|R.u 2 rfl<|?_
  by_cases h1:i=j
  ·
    refine R.q (q.eql rfl rfl (beq_iff_eq.2 (by omega))) rfl<|R.nil ?_
    refine R.aI rfl rfl ?_
    refine R.reg rfl<|R.u 2 rfl<|R.nil ?_
    have hz:l.take i++l.drop j=l:=by (first|rfl|exact iL (by omega))
    rw [hz]
    exact R.w1 bk [0,1] [] rfl Tryz.results69 (RV.tmp rfl) rfl rfl rfl rfl
  ·
    refine R.q (q.eql rfl rfl (beq_eq_false_iff_ne.2 (by omega))) rfl<|R.nil ?_
    refine R.aH rfl rfl ?_
    refine R.reg rfl<|R.u 1 rfl<|R.q (q.len' (fun _=>Wd.row 0 rfl) rfl Tryz.underlying27) rfl<|R.u 1 rfl<|R.nil ?_
    refine R.gD (fuel:=8) (Wd w (blks [ah.row 93 bk (l:List Held)]++own) [ah.held w own] []) rfl mixed rfl ?_
    refine D.q (i:=0) rfl (by kernel_rfl) (fun _=>Wd.aV [1] [] rfl rfl rfl) rfl (q.mv rfl) rfl<|D.q (i:=1) rfl (by kernel_rfl) (fun _=>Wd.aV [1] [] rfl rfl rfl) rfl (q.mv rfl) rfl<|D.q (i:=3) rfl (by kernel_rfl) (fun _=>Wd.aV [1] [] rfl rfl rfl) rfl (q.mv rfl) rfl<|D.q (i:=4) rfl (by kernel_rfl) (fun _=>Wd.aV [1] [] rfl rfl rfl) rfl (q.mv rfl) rfl<|?_
    refine D.two (i:=2) (j:=5) (by kernel_rfl) rfl rfl ?_ ?_
    ·
      refine Do.s (s.c (Qt.a (q.gE (i:=i) (fun _=>Wd.row 0 rfl) rfl rfl Tryz.underlying27 lP rfl (by first|omega|(simp;omega)))) rfl) (fun _=>(fun _=>Wd.aV [1] [] rfl rfl rfl)) rfl fun _=>?_
      refine D.one (i:=5) (by kernel_rfl) rfl ?_
      refine Do.s (s.c (Qt.a (q.dj (i:=j) (fun _=>Wd.row 0 rfl) rfl rfl bj rfl (by first|omega|(simp;omega)))) rfl) (fun _=>(fun _=>Wd.aV [1] [] rfl rfl rfl)) rfl fun _=>?_
      refine D.one (i:=6) (by kernel_rfl) rfl ?_
      refine Do.s (s.nU (a:=i) (l2:=(l.drop j)) 0 _ rfl rfl rfl (fun w hw=>Sl.from ((fun _=>Wd.row 0 rfl) w hw) (by omega)) dr (by omega) (by simp;omega) rfl rfl) (fun _=>(fun _=>Wd.aV [1] [] rfl rfl rfl)) rfl fun _=>?_
      refine D.q (i:=7) rfl (by kernel_rfl) (fun _=>Wd.aV [1] [] rfl rfl rfl) rfl (q.as rfl) rfl<|D.done (by kernel_rfl)<|?_
      refine R.reg rfl<|R.u 2 rfl<|R.q (q.len' (fun _=>Wd.row 0 rfl) rfl Tryz.underlying27) rfl<|R.u 1 rfl<|R.q (q.sl2 (i:=(l.take i++(l.drop j)).length) (j:=l.length) (fun _=>Wd.row 0 rfl) rfl rfl rfl bj rfl rfl (by first|omega|(simp;omega)) (by first|assumption|omega|(simp;omega)|(simp [eo];omega))) rfl<|?_
      refine R.s rfl (s.qG (lo:=(l.take i++(l.drop j)).length) (hi:=l.length) (z0:=(⟨(⟨0,0⟩:Place),0⟩:Held)) 0 rfl rfl bj cO rfl (by first|omega|(simp;omega)) (by first|omega|(simp;omega)) (by first|assumption|omega|(simp;omega)|(simp [eo];omega))) fun _=>?_
      refine R.nil ?_
      refine R.reg rfl<|R.u 2 rfl<|R.nil ?_
      have hz:l.take i++l.drop j=(l.take i++(l.drop j)):=by (first|rfl|exact iL (by omega))
      rw [hz]
      exact R.w1 (gE bk (i+(l.drop j).length)) [0,1] [] rfl Tryz.results69 (RV.tmp rfl) rfl rfl rfl rfl
    ·
      refine Do.s (s.c (Qt.a (q.dj (i:=j) (fun _=>Wd.row 0 rfl) rfl rfl bj rfl (by first|omega|(simp;omega)))) rfl) (fun _=>(fun _=>Wd.aV [1] [] rfl rfl rfl)) rfl fun _=>?_
      refine D.one (i:=2) (by kernel_rfl) rfl ?_
      refine Do.s (s.c (Qt.a (q.gE (i:=i) (fun _=>Wd.row 0 rfl) rfl rfl Tryz.underlying27 lP rfl (by first|omega|(simp;omega)))) rfl) (fun _=>(fun _=>Wd.aV [1] [] rfl rfl rfl)) rfl fun _=>?_
      refine D.one (i:=6) (by kernel_rfl) rfl ?_
      refine Do.s (s.nU (a:=i) (l2:=(l.drop j)) 0 _ rfl rfl rfl (fun w hw=>Sl.from ((fun _=>Wd.row 0 rfl) w hw) (by omega)) dr (by omega) (by simp;omega) rfl rfl) (fun _=>(fun _=>Wd.aV [1] [] rfl rfl rfl)) rfl fun _=>?_
      refine D.q (i:=7) rfl (by kernel_rfl) (fun _=>Wd.aV [1] [] rfl rfl rfl) rfl (q.as rfl) rfl<|D.done (by kernel_rfl)<|?_
      refine R.reg rfl<|R.u 2 rfl<|R.q (q.len' (fun _=>Wd.row 0 rfl) rfl Tryz.underlying27) rfl<|R.u 1 rfl<|R.q (q.sl2 (i:=(l.take i++(l.drop j)).length) (j:=l.length) (fun _=>Wd.row 0 rfl) rfl rfl rfl bj rfl rfl (by first|omega|(simp;omega)) (by first|assumption|omega|(simp;omega)|(simp [eo];omega))) rfl<|?_
      refine R.s rfl (s.qG (lo:=(l.take i++(l.drop j)).length) (hi:=l.length) (z0:=(⟨(⟨0,0⟩:Place),0⟩:Held)) 0 rfl rfl bj cO rfl (by first|omega|(simp;omega)) (by first|omega|(simp;omega)) (by first|assumption|omega|(simp;omega)|(simp [eo];omega))) fun _=>?_
      refine R.nil ?_
      refine R.reg rfl<|R.u 2 rfl<|R.nil ?_
      have hz:l.take i++l.drop j=(l.take i++(l.drop j)):=by (first|rfl|exact iL (by omega))
      rw [hz]
      exact R.w1 (gE bk (i+(l.drop j).length)) [0,1] [] rfl Tryz.results69 (RV.tmp rfl) rfl rfl rfl rfl
set_option maxRecDepth 100000 in
theorem mj (bk:Value)(l:List Held)(i:Nat)(sX:Value)(u:List Held)(w:World)(own:List Nat)(H:Wd w (blks [ah.row 93 bk (l:List Held),ah.row 93 sX (u:List Held)]++own) ([ah.row 93 bk (l:List Held),ah.row 93 sX (u:List Held)]++[ah.held w own]) [] w)(hi:i≤l.length)(hu:u.length=1)(hl:l.length≤1000000):Calls Tryz.prog 70 #[bk,.int .i64 (i:Int),sX] w fun e w' => ∃z:Value,e = .returned (z)∧Wd w (blks [ah.row 93 bk (l:List Held),ah.row 93 sX (u:List Held)]++own) ([ah.row 93 z ((l.take i++u++l.drop i):List Held)]++[ah.held w own]) [] w':=by
  have sW:=H.cap 0 rfl;have sV:=H.pK 0 rfl
  have zK:=H.cap 1 rfl;have zL:=H.pK 1 rfl
  refine R.cC (n:=95) (vs:=[bk,.int .i64 (i:Int),sX]) (B:=[ah.row 93 bk (l:List Held),ah.row 93 sX (u:List Held),ah.held w own]) [(0,bk),(1,.int .i64 (i:Int)),(2,sX)] Tryz.func70 rfl rfl rfl rfl H ?_
  refine R.reg rfl<|R.u 1 rfl<|R.nil ?_
  refine R.reg rfl<|R.u 2 rfl<|R.q (q.dj (i:=i) (fun _=>Wd.row 0 rfl) rfl rfl bj rfl (by first|omega|(simp;omega))) rfl<|R.nil ?_
  refine R.reg rfl<|R.u 1 rfl<|R.q (q.len' (fun _=>Wd.row 1 rfl) rfl Tryz.underlying27) rfl<|R.u 1 rfl<|R.nil ?_
  refine R.reg rfl<|R.u 1 rfl<|?_
  by_cases h1:u.length=0
  ·
    refine R.q (q.eql rfl rfl (beq_iff_eq.2 (by omega))) rfl<|R.nil ?_
    refine R.aI rfl rfl ?_
    refine R.reg rfl<|R.u 2 rfl<|R.nil ?_
    have hz:l.take i++u++l.drop i=l:=by (first|(exfalso;omega)|exact kI (by omega)|exact ju hu (by omega) rfl|exact mg hu (by omega))
    rw [hz]
    exact R.w1 bk [0,2] [] rfl Tryz.results70 (RV.tmp rfl) rfl rfl rfl rfl
  ·
    refine R.q (q.eql rfl rfl (beq_eq_false_iff_ne.2 (by omega))) rfl<|R.nil ?_
    refine R.aH rfl rfl ?_
    refine R.reg rfl<|R.u 1 rfl<|R.q (q.len' (fun _=>Wd.row 0 rfl) rfl Tryz.underlying27) rfl<|R.u 1 rfl<|R.nil ?_
    refine R.reg rfl<|R.u 2 rfl<|?_
    by_cases h2:i=l.length
    ·
      refine R.q (q.eql rfl rfl (beq_iff_eq.2 (by omega))) rfl<|R.nil ?_
      refine R.aI rfl rfl ?_
      refine R.reg rfl<|R.u 2 rfl<|?_
      refine R.s rfl (s.app (l2:=u) 0 _ rfl rfl rfl (fun _=>Wd.row 1 rfl) dr (by first|omega|(simp;done)|(simp;omega)) (by first|omega|(simp;done)|(simp;omega)) (fun _=>rfl) rfl) fun v1=>?_
      refine R.u 1 rfl<|R.nil ?_
      have hz:l.take i++u++l.drop i=(l++u):=by (first|(exfalso;omega)|exact kI (by omega)|exact ju hu (by omega) rfl|exact mg hu (by omega))
      rw [hz]
      exact R.w1 v1 [0,2] [] rfl Tryz.results70 (RV.tmp rfl) rfl rfl rfl rfl
    ·
      refine R.q (q.eql rfl rfl (beq_eq_false_iff_ne.2 (by omega))) rfl<|R.nil ?_
      refine R.aH rfl rfl ?_
      refine R.reg rfl<|R.u 2 rfl<|R.q (q.add (r:=((l.length+u.length:Nat):Int)) rfl rfl (wr (by omega))) rfl<|R.u 1 rfl<|R.q (q.cap (fun _=>Wd.row 0 rfl) rfl Tryz.underlying27) rfl<|?_
      by_cases h3:(gw bk)<(l.length+u.length)
      ·
        refine R.q (q.gtr rfl rfl (decide_eq_true (by omega))) rfl<|R.nil ?_
        refine R.aI rfl rfl ?_
        refine R.reg rfl<|R.u 2 rfl<|R.q (q.gE (i:=i) (fun _=>Wd.row 0 rfl) rfl rfl Tryz.underlying27 lP rfl (by first|omega|(simp;omega))) rfl<|R.u 2 rfl<|R.q (q.add (r:=((l.length+u.length:Nat):Int)) rfl rfl (wr (by omega))) rfl<|R.u 1 rfl<|R.q (q.sub (r:=(((l.length+u.length)-i:Nat):Int)) rfl rfl (wr (by omega))) rfl<|?_
        refine R.s rfl (s.tQ (o:=i) (m:=((l.length+u.length)-i)) (z0:=(⟨(⟨0,0⟩:Place),0⟩:Held)) 0 rfl rfl rfl rfl dr Tryz.underlying3 cO rfl (by omega) (by omega) (by omega) (by omega) (by omega) rfl) fun v2=>?_
        refine R.u 1 rfl<|R.nil ?_
        refine R.reg rfl<|R.u 2 rfl<|R.q (q.dj (i:=i) (fun _=>Wd.row 0 rfl) rfl rfl bj rfl (by first|omega|(simp;omega))) rfl<|R.u 1 rfl<|?_
        refine R.s rfl (s.qF (o:=i) (l2:=u) 0 _ rfl (fun _=>Wd.row 2 rfl) rfl rfl bj (by first|omega|(simp;done)|(simp;omega)) rfl rfl) fun _=>?_
        refine R.nil ?_
        refine R.gD (fuel:=9) (Wd w (blks [ah.row 93 bk (l:List Held),ah.row 93 sX (u:List Held)]++own) [ah.row 93 bk (l:List Held),ah.row 93 sX (u:List Held),ah.held w own] []) rfl mixed rfl ?_
        refine D.q (i:=0) rfl (by kernel_rfl) (fun _=>Wd.aV [1,2,3] [] rfl rfl rfl) rfl (q.mv rfl) rfl<|D.q (i:=1) rfl (by kernel_rfl) (fun _=>Wd.aV [1,2,3] [] rfl rfl rfl) rfl (q.mv rfl) rfl<|D.q (i:=2) rfl (by kernel_rfl) (fun _=>Wd.aV [1,2,3] [] rfl rfl rfl) rfl (q.mv rfl) rfl<|D.q (i:=3) rfl (by kernel_rfl) (fun _=>Wd.aV [1,2,3] [] rfl rfl rfl) rfl (q.add (r:=((i+u.length:Nat):Int)) rfl rfl (wr (by omega))) rfl<|D.q (i:=5) rfl (by kernel_rfl) (fun _=>Wd.aV [1,2,3] [] rfl rfl rfl) rfl (q.mv rfl) rfl<|D.q (i:=6) rfl (by kernel_rfl) (fun _=>Wd.aV [1,2,3] [] rfl rfl rfl) rfl (q.mv rfl) rfl<|D.q (i:=7) rfl (by kernel_rfl) (fun _=>Wd.aV [1,2,3] [] rfl rfl rfl) rfl (q.dj (i:=i) (fun _=>Wd.row 0 rfl) rfl rfl bj rfl (by first|omega|(simp;omega))) rfl<|?_
        refine D.one (i:=4) (by kernel_rfl) rfl ?_
        refine Do.s (s.c (Qt.a (q.dj (i:=(i+u.length)) (fun _=>Wd.row 0 rfl) rfl rfl bj rfl (by first|omega|(simp;omega)))) rfl) (fun _=>(fun _=>Wd.aV [1,2,3] [] rfl rfl rfl)) rfl fun _=>?_
        refine D.one (i:=8) (by kernel_rfl) rfl ?_
        refine Do.s (s.qF (o:=(i+u.length)) (l2:=(l.drop i)) 0 _ rfl (fun w hw=>Sl.from ((fun _=>Wd.row 1 rfl) w hw) (by omega)) rfl rfl bj (by first|omega|(simp;done)|(simp;omega)) rfl rfl) (fun _=>(fun _=>Wd.aV [1,2,3] [] rfl rfl rfl)) rfl fun _=>?_
        refine D.done (by kernel_rfl)<|?_
        refine R.reg rfl<|R.u 2 rfl<|R.nil ?_
        have hz:l.take i++u++l.drop i=(((l.take i++List.replicate ((l.length+u.length)-i) (⟨(⟨0,0⟩:Place),0⟩:Held)).take i++u++(l.take i++List.replicate ((l.length+u.length)-i) (⟨(⟨0,0⟩:Place),0⟩:Held)).drop (i+u.length)).take (i+u.length)++(l.drop i)++((l.take i++List.replicate ((l.length+u.length)-i) (⟨(⟨0,0⟩:Place),0⟩:Held)).take i++u++(l.take i++List.replicate ((l.length+u.length)-i) (⟨(⟨0,0⟩:Place),0⟩:Held)).drop (i+u.length)).drop ((i+u.length)+(l.drop i).length)):=by (first|(exfalso;omega)|exact kI (by omega)|exact ju hu (by omega) rfl|exact mg hu (by omega))
        rw [hz]
        exact R.w1 v2 [0,3] [] rfl Tryz.results70 (RV.tmp rfl) rfl rfl rfl rfl
      ·
        refine R.q (q.gtr rfl rfl (decide_eq_false (by omega))) rfl<|R.nil ?_
        refine R.aH rfl rfl ?_
        refine R.reg rfl<|R.u 3 rfl<|R.q (q.add (r:=((l.length+u.length:Nat):Int)) rfl rfl (wr (by omega))) rfl<|R.q (q.yk (i:=(l.length+u.length)) (fun _=>Wd.row 0 rfl) rfl rfl bj rfl (by first|omega|assumption)) rfl<|R.u 1 rfl<|R.nil ?_
        refine R.reg rfl<|R.u 4 rfl<|R.q (q.add (r:=((i+u.length:Nat):Int)) rfl rfl (wr (by omega))) rfl<|R.q (q.l9 (i:=(i+u.length)) (fun _=>Wd.row 0 rfl) rfl rfl bj rfl (by omega) (by first|assumption|omega|(simp [eo];omega))) rfl<|R.q (q.zb (i:=1) (j:=0) (tR:=4) Tryz.func93 rfl rfl (by kernel_rfl) (by kernel_rfl) bj rfl rfl (by decide) (by omega) (by omega) rfl rfl rfl rfl) rfl<|R.u 1 rfl<|R.nil ?_
        refine R.aI rfl rfl ?_
        refine R.gD (fuel:=9) (Wd w (blks [ah.row 93 bk (l:List Held),ah.row 93 sX (u:List Held)]++own) [ah.row 93 sX (u:List Held),ah.held w own] []) rfl mixed rfl ?_
        refine D.q (i:=0) rfl (by kernel_rfl) (fun _=>Wd.aV [1,2] [] rfl rfl rfl) rfl (q.mv rfl) rfl<|D.q (i:=1) rfl (by kernel_rfl) (fun _=>Wd.aV [1,2] [] rfl rfl rfl) rfl (q.mv rfl) rfl<|D.q (i:=2) rfl (by kernel_rfl) (fun _=>Wd.aV [1,2] [] rfl rfl rfl) rfl (q.mv rfl) rfl<|D.q (i:=3) rfl (by kernel_rfl) (fun _=>Wd.aV [1,2] [] rfl rfl rfl) rfl (q.add (r:=((i+u.length:Nat):Int)) rfl rfl (wr (by omega))) rfl<|D.q (i:=5) rfl (by kernel_rfl) (fun _=>Wd.aV [1,2] [] rfl rfl rfl) rfl (q.mv rfl) rfl<|D.q (i:=6) rfl (by kernel_rfl) (fun _=>Wd.aV [1,2] [] rfl rfl rfl) rfl (q.mv rfl) rfl<|?_
        refine D.two (i:=4) (j:=7) (by kernel_rfl) rfl rfl ?_ ?_
        ·
          refine Do.s (s.c (Qt.a (q.l9 (i:=(i+u.length)) (fun _=>Wd.row 0 rfl) rfl rfl bj rfl (by omega) (by first|assumption|omega|(simp [eo];omega)))) rfl) (fun _=>(fun _=>Wd.aV [1,2] [] rfl rfl rfl)) rfl fun _=>?_
          refine D.one (i:=7) (by kernel_rfl) rfl ?_
          refine Do.s (s.c (Qt.a (q.l9 (i:=i) (fun _=>Wd.row 0 rfl) rfl rfl bj rfl (by omega) (by first|assumption|omega|(simp [eo];omega)))) rfl) (fun _=>(fun _=>Wd.aV [1,2] [] rfl rfl rfl)) rfl fun _=>?_
          refine D.one (i:=8) (by kernel_rfl) rfl ?_
          refine Do.s (s.sy (o:=i) 0 _ rfl (by omega) (by omega) (by omega) (by first|assumption|omega) rfl rfl bj rfl rfl) (fun _=>(fun _=>Wd.aV [1,2] [] rfl rfl rfl)) rfl fun _=>?_
          refine D.done (by kernel_rfl)<|?_
          refine R.reg rfl<|R.u 2 rfl<|R.q (q.dj (i:=i) (fun _=>Wd.row 0 rfl) rfl rfl bj rfl (by first|omega|(simp;omega))) rfl<|R.u 1 rfl<|?_
          refine R.s rfl (s.qF (o:=i) (l2:=u) 0 _ rfl (fun _=>Wd.row 1 rfl) rfl rfl bj (by first|omega|(simp;done)|(simp;omega)) rfl rfl) fun _=>?_
          refine R.nil ?_
          refine R.reg rfl<|R.u 2 rfl<|R.nil ?_
          have hz:l.take i++u++l.drop i=((l.take (i+1)++l.drop i).take i++u++(l.take (i+1)++l.drop i).drop (i+u.length)):=by (first|(exfalso;omega)|exact kI (by omega)|exact ju hu (by omega) rfl|exact mg hu (by omega))
          rw [hz]
          exact R.w1 (gE bk (l.length+u.length)) [0,2] [] rfl Tryz.results70 (RV.tmp rfl) rfl rfl rfl rfl
        ·
          refine Do.s (s.c (Qt.a (q.l9 (i:=i) (fun _=>Wd.row 0 rfl) rfl rfl bj rfl (by omega) (by first|assumption|omega|(simp [eo];omega)))) rfl) (fun _=>(fun _=>Wd.aV [1,2] [] rfl rfl rfl)) rfl fun _=>?_
          refine D.one (i:=4) (by kernel_rfl) rfl ?_
          refine Do.s (s.c (Qt.a (q.l9 (i:=(i+u.length)) (fun _=>Wd.row 0 rfl) rfl rfl bj rfl (by omega) (by first|assumption|omega|(simp [eo];omega)))) rfl) (fun _=>(fun _=>Wd.aV [1,2] [] rfl rfl rfl)) rfl fun _=>?_
          refine D.one (i:=8) (by kernel_rfl) rfl ?_
          refine Do.s (s.sy (o:=i) 0 _ rfl (by omega) (by omega) (by omega) (by first|assumption|omega) rfl rfl bj rfl rfl) (fun _=>(fun _=>Wd.aV [1,2] [] rfl rfl rfl)) rfl fun _=>?_
          refine D.done (by kernel_rfl)<|?_
          refine R.reg rfl<|R.u 2 rfl<|R.q (q.dj (i:=i) (fun _=>Wd.row 0 rfl) rfl rfl bj rfl (by first|omega|(simp;omega))) rfl<|R.u 1 rfl<|?_
          refine R.s rfl (s.qF (o:=i) (l2:=u) 0 _ rfl (fun _=>Wd.row 1 rfl) rfl rfl bj (by first|omega|(simp;done)|(simp;omega)) rfl rfl) fun _=>?_
          refine R.nil ?_
          refine R.reg rfl<|R.u 2 rfl<|R.nil ?_
          have hz:l.take i++u++l.drop i=((l.take (i+1)++l.drop i).take i++u++(l.take (i+1)++l.drop i).drop (i+u.length)):=by (first|(exfalso;omega)|exact kI (by omega)|exact ju hu (by omega) rfl|exact mg hu (by omega))
          rw [hz]
          exact R.w1 (gE bk (l.length+u.length)) [0,2] [] rfl Tryz.results70 (RV.tmp rfl) rfl rfl rfl rfl
theorem nx (x:Int)(w:World)  : Calls Tryz.prog 105 #[.int .i64 x] w fun e w'=>e = .returned (.bool false)∧Ext w w':=by
  refine R.enter (n:=6) (vs:=[.int .i64 x]) [] [(0,.int .i64 x)] Tryz.func105 rfl rfl rfl rfl ?_
  refine R.reg rfl<|R.u 1 rfl<|R.nil ?_
  refine R.reg rfl<|R.u 2 rfl<|R.q (q.neq rfl rfl (bne_eq_false_iff_eq.2 (by omega))) rfl<|R.u 1 rfl<|R.nil ?_
  exact R.rv rfl Tryz.results105 rfl (rB (by (rfl)))
theorem lr (x:Int)(y:Int)(w:World)  : Calls Tryz.prog 101 #[.int .i64 x,.int .i64 y] w fun e w'=>e = .returned (.int .i64 (jV x y))∧Ext w w':=by
  refine R.enter (n:=20) (vs:=[.int .i64 x,.int .i64 y]) [] [(0,.int .i64 x),(1,.int .i64 y)] Tryz.func101 rfl rfl rfl rfl ?_
  refine R.reg rfl<|R.u 1 rfl<|R.nil ?_
  refine R.reg rfl<|R.u 1 rfl<|R.c (q.call sM rfl rfl (fun w hw=>(nx (x) w  ))) rfl<|R.u 1 rfl<|R.nil ?_
  refine R.reg rfl<|R.u 1 rfl<|R.c (q.call sM rfl rfl (fun w hw=>(nx (y) w  ))) rfl<|R.u 1 rfl<|R.nil ?_
  refine R.reg rfl<|R.u 1 rfl<|R.nil ?_
  refine R.aH rfl rfl ?_
  refine R.reg rfl<|R.u 1 rfl<|R.nil ?_
  refine R.aH rfl rfl ?_
  refine R.reg rfl<|R.u 2 rfl<|?_
  by_cases h1:x<y
  ·
    refine R.q (q.lss rfl rfl (decide_eq_true (by omega))) rfl<|R.nil ?_
    refine R.aI rfl rfl ?_
    refine R.reg rfl<|R.u 1 rfl<|R.nil ?_
    exact R.rv rfl Tryz.results101 rfl (rI (by (unfold jV;first|rw [if_pos (by omega)] | rw [if_neg (by omega),if_pos (by omega)] | rw [if_neg (by omega),if_neg (by omega)])))
  ·
    refine R.q (q.lss rfl rfl (decide_eq_false (by omega))) rfl<|R.nil ?_
    refine R.aH rfl rfl ?_
    refine R.reg rfl<|R.u 2 rfl<|?_
    by_cases h2:y<x
    ·
      refine R.q (q.gtr rfl rfl (decide_eq_true (by omega))) rfl<|R.nil ?_
      refine R.aI rfl rfl ?_
      refine R.reg rfl<|R.u 1 rfl<|R.nil ?_
      exact R.rv rfl Tryz.results101 rfl (rI (by (unfold jV;first|rw [if_pos (by omega)] | rw [if_neg (by omega),if_pos (by omega)] | rw [if_neg (by omega),if_neg (by omega)])))
    ·
      refine R.q (q.gtr rfl rfl (decide_eq_false (by omega))) rfl<|R.nil ?_
      refine R.aH rfl rfl ?_
      refine R.reg rfl<|R.u 1 rfl<|R.nil ?_
      exact R.rv rfl Tryz.results101 rfl (rI (by (unfold jV;first|rw [if_pos (by omega)] | rw [if_neg (by omega),if_pos (by omega)] | rw [if_neg (by omega),if_neg (by omega)])))
theorem rO (bk:Value)(l:List Int)(w:World)(cF:Sl w bk l):Calls Tryz.prog 100 #[bk] w fun e w'=>e = .returned (.int .i64 (sR l))∧Ext w w':=by
  have lR:=cF.dI
  refine R.enter (n:=18) (vs:=[bk]) [] [(0,bk)] Tryz.func100 rfl rfl rfl rfl ?_
  refine R.reg rfl<|R.u 1 rfl<|R.nil ?_
  refine R.reg rfl<|R.u 1 rfl<|R.nil ?_
  refine R.reg rfl<|R.u 1 rfl<|R.q (q.len' (fun _=>Wd.old cF) rfl Tryz.underlying116) rfl<|R.u 1 rfl<|R.nil ?_
  refine R.loop (fun k:Nat=>[(3,.int .i64 0),(6,bk),(7,.int .i64 (l.length:Int)),(8,.int .i64 (k:Int))]) (fun k:Nat=>[]) (fun k:Nat=>[]) (fun k:Nat=>sR l=sR (l.drop k)) (fun k:Nat=>l.length-k) 0 rfl (by rfl) ⟨rfl,rfl,rfl,rfl,trivial⟩ (fun _=>Wd.pick [] [] rfl rfl rfl) ?_
  rintro k HA
  refine R.reg rfl<|?_
  by_cases h1:k<l.length
  ·
    refine R.q (q.lss rfl rfl (decide_eq_true (by omega))) rfl<|R.nil ?_
    refine R.aI rfl rfl ?_
    refine R.reg rfl<|?_
    obtain ⟨x1,hx1⟩:∃z,l[k]? = some z:=⟨_,List.getElem?_eq_getElem (by omega)⟩
    refine R.q (q.idx (i:=k) (fun _=>Wd.old cF) rfl rfl fL rfl hx1) rfl<|R.q (q.jU (fun _=>Wd.old cF) hx1 rfl aG rfl) rfl<|R.u 1 rfl<|R.nil ?_
    refine R.reg rfl<|R.u 2 rfl<|?_
    by_cases h2:x1=0
    ·
      refine R.q (q.neq rfl rfl (bne_eq_false_iff_eq.2 (by omega))) rfl<|R.nil ?_
      refine R.aH rfl rfl ?_
      refine R.reg rfl<|R.q (q.add (r:=((k+1:Nat):Int)) rfl rfl (wr (by omega))) rfl<|R.u 1 rfl<|R.nil ?_
      refine R.back (k+1) rfl (by (rw [HA];exact sS hx1 (by omega))) (by omega) ⟨rfl,rfl,rfl,rfl,trivial⟩ (fun _=>Wd.pick [] [] rfl rfl rfl)
    ·
      refine R.q (q.neq rfl rfl (bne_iff_ne.2 (by omega))) rfl<|R.nil ?_
      refine R.aI rfl rfl ?_
      refine R.reg rfl<|R.u 2 rfl<|R.nil ?_
      exact R.rv rfl Tryz.results100 rfl (rI (by (rw [HA];exact (t8 hx1 (by omega)).symm)))
  ·
    refine R.q (q.lss rfl rfl (decide_eq_false (by omega))) rfl<|R.nil ?_
    refine R.aH rfl rfl ?_
    refine R.reg rfl<|R.u 2 rfl<|R.nil ?_
    exact R.rv rfl Tryz.results100 rfl (rI (by (rw [HA,List.drop_of_length_le (by omega)];rfl)))
theorem n3 (a:Place)(b:Place)(w:World)  : Calls Tryz.prog 92 #[.agg #[.int .i64 a.ag,.int .i64 a.Slot],.agg #[.int .i64 b.ag,.int .i64 b.Slot]] w fun e w'=>e = .returned (.int .i64 (jW a b))∧Ext w w':=by
  refine R.enter (n:=17) (vs:=[.agg #[.int .i64 a.ag,.int .i64 a.Slot],.agg #[.int .i64 b.ag,.int .i64 b.Slot]]) [] [(0,.agg #[.int .i64 a.ag,.int .i64 a.Slot]),(1,.agg #[.int .i64 b.ag,.int .i64 b.Slot])] Tryz.func92 rfl rfl rfl rfl ?_
  refine R.reg rfl<|?_
  refine R.s rfl (s.box (cs:=[.int .i64 a.ag,.int .i64 a.Slot]) rfl rfl rfl) fun b1=>?_
  refine R.s rfl (s.box (cs:=[.int .i64 b.ag,.int .i64 b.Slot]) rfl rfl rfl) fun b2=>?_
  refine R.u 1 rfl<|R.nil ?_
  refine R.gD (fuel:=13) (Wd w [] [ah.box b2 [.int .i64 b.ag,.int .i64 b.Slot] 33,ah.box b1 [.int .i64 a.ag,.int .i64 a.Slot] 33] []) rfl mixed rfl ?_
  refine D.q (i:=0) rfl (by kernel_rfl) (fun _=>Wd.aV [0,1] [] rfl rfl rfl) rfl (q.aS (off':=0) rfl bZ rfl) rfl<|D.q (i:=1) rfl (by kernel_rfl) (fun _=>Wd.aV [0,1] [] rfl rfl rfl) rfl (q.ld 1 rfl rfl aG rfl) rfl<|D.q (i:=2) rfl (by kernel_rfl) (fun _=>Wd.aV [0,1] [] rfl rfl rfl) rfl (q.aS (off':=0) rfl bZ rfl) rfl<|D.q (i:=3) rfl (by kernel_rfl) (fun _=>Wd.aV [0,1] [] rfl rfl rfl) rfl (q.ld 0 rfl rfl aG rfl) rfl<|D.q (i:=5) rfl (by kernel_rfl) (fun _=>Wd.aV [0,1] [] rfl rfl rfl) rfl (q.aS (off':=1) rfl eE rfl) rfl<|D.q (i:=6) rfl (by kernel_rfl) (fun _=>Wd.aV [0,1] [] rfl rfl rfl) rfl (q.ld 1 rfl rfl aG rfl) rfl<|D.q (i:=7) rfl (by kernel_rfl) (fun _=>Wd.aV [0,1] [] rfl rfl rfl) rfl (q.aS (off':=1) rfl eE rfl) rfl<|D.q (i:=8) rfl (by kernel_rfl) (fun _=>Wd.aV [0,1] [] rfl rfl rfl) rfl (q.ld 0 rfl rfl aG rfl) rfl<|?_
  refine D.one (i:=4) (by kernel_rfl) rfl ?_
  refine Do.s (s.c (q.call sL rfl rfl (fun w hw=>(lr (a.ag) (b.ag) w  ))) rfl) (fun _=>(fun _=>Wd.aV [0,1] [] rfl rfl rfl)) rfl fun _=>?_
  refine D.one (i:=9) (by kernel_rfl) rfl ?_
  refine Do.s (s.c (q.call sL rfl rfl (fun w hw=>(lr (a.Slot) (b.Slot) w  ))) rfl) (fun _=>(fun _=>Wd.aV [0,1] [] rfl rfl rfl)) rfl fun _=>?_
  refine D.one (i:=10) (by kernel_rfl) rfl ?_
  refine Do.s (s.bs (l:=([jV a.ag b.ag,jV a.Slot b.Slot]:List Int)) fL iX rfl rfl rfl rfl rfl rfl rfl) (fun _=>(fun _=>Wd.aV [1,2] [] rfl rfl rfl)) rfl fun b3=>?_
  refine D.one (i:=11) (by kernel_rfl) rfl ?_
  refine Do.s (s.c (q.call vk rfl rfl (fun w hw=>(rO _ ([jV a.ag b.ag,jV a.Slot b.Slot]) w ((fun _=>Wd.row 0 rfl) w hw) ))) rfl) (fun _=>(fun _=>Wd.aV [1,2] [] rfl rfl rfl)) rfl fun _=>?_
  refine D.q (i:=12) rfl (by kernel_rfl) (fun _=>Wd.aV [1,2] [] rfl rfl rfl) rfl (q.as rfl) rfl<|D.done (by kernel_rfl)<|?_
  exact R.rv rfl Tryz.results92 rfl (rI (by (exact ua a b)))
theorem oa (h:Held)(pl:Place)(w:World)  : Calls Tryz.prog 91 #[.agg #[.int .i64 h.Place.ag,.int .i64 h.Place.Slot,.int .i64 h.ao],.agg #[.int .i64 pl.ag,.int .i64 pl.Slot]] w fun e w'=>e = .returned (.int .i64 (jW h.Place pl))∧Ext w w':=by
  refine R.enter (n:=9) (vs:=[.agg #[.int .i64 h.Place.ag,.int .i64 h.Place.Slot,.int .i64 h.ao],.agg #[.int .i64 pl.ag,.int .i64 pl.Slot]]) [] [(0,.agg #[.int .i64 h.Place.ag,.int .i64 h.Place.Slot,.int .i64 h.ao]),(1,.agg #[.int .i64 pl.ag,.int .i64 pl.Slot])] Tryz.func91 rfl rfl rfl rfl ?_
  refine R.reg rfl<|?_
  refine R.s rfl (s.box (cs:=[.int .i64 h.Place.ag,.int .i64 h.Place.Slot,.int .i64 h.ao]) rfl rfl rfl) fun b1=>?_
  refine R.s rfl (s.box (cs:=[.int .i64 pl.ag,.int .i64 pl.Slot]) rfl rfl rfl) fun b2=>?_
  refine R.u 1 rfl<|R.nil ?_
  refine R.reg rfl<|R.q (q.aS (off':=0) rfl iG rfl) rfl<|R.q (q.lE (ds:=[.int .i64 h.Place.ag,.int .i64 h.Place.Slot]) 1 rfl rfl aM rfl) rfl<|R.q (q.bI 0 rfl rfl aM) rfl<|R.c (q.call xv rfl rfl (fun w hw=>(n3 (h.Place) (pl) w  ))) rfl<|R.u 1 rfl<|R.nil ?_
  exact R.rv rfl Tryz.results91 rfl (rI (by (rfl)))
theorem lG (bk:Value)(l:List Held)(t:Place)(c:Held→Place→Int)(vo:Nat)(xB:List Value)(ub:∀args w,(callFunc vo args).run Tryz.prog w = .ok (.enter vo args) w)(w:World)(cF:Sl w bk l)(xX:∀W (x1:Held) (x2:Place),Ext w W→Calls Tryz.prog vo ([x1.val,x2.val]++xB).toArray W fun e w'=>e = .returned (.int .i64 (c x1 x2))∧Ext W w')(hl:l.length≤1000000):Calls Tryz.prog 90 #[bk,.agg #[.int .i64 t.ag,.int .i64 t.Slot],.func (.func vo) #[] xB.toArray] w fun e w'=>e = .returned (.tuple #[.int .i64 (tZ (fun x=>c x t) l:Int),.bool (t6 (fun x=>c x t) l)])∧Ext w w':=by
  have lR:=cF.dI
  refine R.enter (n:=49) (vs:=[bk,.agg #[.int .i64 t.ag,.int .i64 t.Slot],.func (.func vo) #[] xB.toArray]) [] [(0,bk),(1,.agg #[.int .i64 t.ag,.int .i64 t.Slot]),(2,.func (.func vo) #[] xB.toArray)] Tryz.func90 rfl rfl rfl rfl ?_
  refine R.reg rfl<|?_
  refine R.s rfl (s.box (cs:=[.int .i64 t.ag,.int .i64 t.Slot]) rfl rfl rfl) fun b1=>?_
  refine R.u 2 rfl<|R.nil ?_
  refine R.reg rfl<|R.u 1 rfl<|R.q (q.len' (fun _=>Wd.old cF) rfl Tryz.underlying27) rfl<|R.u 1 rfl<|R.nil ?_
  refine R.reg rfl<|R.u 3 rfl<|R.nil ?_
  refine R.loop (fun g_:Nat×Nat=>[(0,bk),(2,.func (.func vo) #[] xB.toArray),(4,.pointer (some ⟨b1,0,none⟩)),(8,.int .i64 (l.length:Int)),(9,.int .i64 (g_.1:Int)),(10,.int .i64 (g_.2:Int))]) (fun g_:Nat×Nat=>[ah.box b1 [.int .i64 t.ag,.int .i64 t.Slot] 33]) (fun g_:Nat×Nat=>[]) (fun g_:Nat×Nat=>g_.1≤g_.2∧g_.2≤l.length∧bsGo (fun x=>c x t) l g_.1 g_.2=tZ (fun x=>c x t) l) (fun g_:Nat×Nat=>g_.2-g_.1) (0,l.length) rfl (by exact ⟨Nat.zero_le _,Nat.le_refl _,rfl⟩) ⟨rfl,rfl,rfl,rfl,rfl,rfl,trivial⟩ (fun _=>Wd.pick [0] [] rfl rfl rfl) ?_
  rintro ⟨lo,hi⟩ ⟨yM,zM,HA⟩
  dsimp only at *
  refine R.reg rfl<|R.u 2 rfl<|?_
  by_cases h1:lo<hi
  ·
    refine R.q (q.lss rfl rfl (decide_eq_true (by omega))) rfl<|R.nil ?_
    refine R.aI rfl rfl ?_
    refine R.reg rfl<|R.u 2 rfl<|R.q (q.add (r:=((lo+hi:Nat):Int)) rfl rfl (wr (by omega))) rfl<|R.q (q.yJ (r:=(((lo+hi):Nat):Int)) rfl (by rw [Tryz.underlying3];rfl) Tryz.underlying138 (ve (by omega))) rfl<|R.q (q.shr (r:=((((lo+hi) / 2):Nat):Int)) rfl rfl (by decide) (yr (by decide))) rfl<|R.q (q.yJ (r:=((((lo+hi) / 2):Nat):Int)) rfl (by rw [Tryz.underlying138];rfl) Tryz.underlying3 (wr (by omega))) rfl<|R.u 1 rfl<|R.nil ?_
    obtain ⟨x1,hx1⟩:∃z,l[((lo+hi) / 2)]? = some z:=⟨_,List.getElem?_eq_getElem (by omega)⟩
    by_cases h2:(c x1 t)<0
    ·
      refine R.gq rfl mixed (by kernel_rfl)<|Q.u 3 rfl<|Q.q (q.idx (i:=((lo+hi) / 2)) (fun _=>Wd.old cF) rfl rfl bj rfl hx1) rfl<|Q.q (q.dx (ds:=[.int .i64 x1.Place.ag,.int .i64 x1.Place.Slot,.int .i64 x1.ao]) (fun _=>Wd.old cF) hx1 rfl dh rfl) rfl<|Q.q (q.bI 0 rfl rfl aM) rfl<|Q.c (q.call ub rfl rfl (fun w hw=>xX w x1 t hw.ext)) rfl<|Q.q (q.lss rfl rfl (decide_eq_true (by omega))) rfl<|Q.nil ?_
      refine R.aI rfl rfl ?_
      refine R.reg rfl<|R.u 1 rfl<|R.q (q.add (r:=((((lo+hi) / 2)+1:Nat):Int)) rfl rfl (wr (by omega))) rfl<|R.u 1 rfl<|R.nil ?_
      refine R.back ((((lo+hi) / 2)+1),hi) rfl (by (exact ⟨by omega,by omega,(qV (by omega) hx1 (by omega)).symm.trans HA⟩)) (by dsimp only;omega) ⟨rfl,rfl,rfl,rfl,rfl,rfl,trivial⟩ (fun _=>Wd.pick [0] [] rfl rfl rfl)
    ·
      refine R.gq rfl mixed (by kernel_rfl)<|Q.u 3 rfl<|Q.q (q.idx (i:=((lo+hi) / 2)) (fun _=>Wd.old cF) rfl rfl bj rfl hx1) rfl<|Q.q (q.dx (ds:=[.int .i64 x1.Place.ag,.int .i64 x1.Place.Slot,.int .i64 x1.ao]) (fun _=>Wd.old cF) hx1 rfl dh rfl) rfl<|Q.q (q.bI 0 rfl rfl aM) rfl<|Q.c (q.call ub rfl rfl (fun w hw=>xX w x1 t hw.ext)) rfl<|Q.q (q.lss rfl rfl (decide_eq_false (by omega))) rfl<|Q.nil ?_
      refine R.aH rfl rfl ?_
      refine R.reg rfl<|R.u 2 rfl<|R.nil ?_
      refine R.back (lo,((lo+hi) / 2)) rfl (by (exact ⟨by omega,by omega,(qW (by omega) hx1 (by omega)).symm.trans HA⟩)) (by dsimp only;omega) ⟨rfl,rfl,rfl,rfl,rfl,rfl,trivial⟩ (fun _=>Wd.pick [0] [] rfl rfl rfl)
  ·
    refine R.q (q.lss rfl rfl (decide_eq_false (by omega))) rfl<|R.nil ?_
    refine R.aH rfl rfl ?_
    by_cases h3:lo<l.length
    ·
      obtain ⟨x2,hx2⟩:∃z,l[lo]? = some z:=⟨_,List.getElem?_eq_getElem (by omega)⟩
      by_cases h4:(c x2 t)=0
      ·
        refine R.gq rfl mixed (by kernel_rfl)<|Q.u 3 rfl<|Q.q (q.lss rfl rfl (decide_eq_true (by omega))) rfl<|Q.u 4 rfl<|Q.qg rfl (q.idx (i:=lo) (fun _=>Wd.old cF) rfl rfl bj rfl hx2) rfl<|Q.qg rfl (q.dx (ds:=[.int .i64 x2.Place.ag,.int .i64 x2.Place.Slot,.int .i64 x2.ao]) (fun _=>Wd.old cF) hx2 rfl dh rfl) rfl<|Q.qg rfl (q.bI 0 rfl rfl aM) rfl<|Q.cg rfl (q.call ub rfl rfl (fun w hw=>xX w x2 t hw.ext)) rfl<|Q.qg rfl (q.eql rfl rfl (beq_iff_eq.2 (by omega))) rfl<|Q.u 3 rfl<|Q.nil ?_
        exact R.uC rfl Tryz.results90 rfl rfl (rI (by (exact congrArg (fun n:Nat=>(n:Int)) ((gN (by omega)).symm.trans HA)))) (rB (by (have e:=(gN (by omega)).symm.trans HA;unfold t6;rw [← e];first|(rw [hx2];first|exact (decide_eq_true (by assumption)).symm|exact (decide_eq_false (by assumption)).symm)|(rw [List.getElem?_eq_none (by omega)]))))
      ·
        refine R.gq rfl mixed (by kernel_rfl)<|Q.u 3 rfl<|Q.q (q.lss rfl rfl (decide_eq_true (by omega))) rfl<|Q.u 4 rfl<|Q.qg rfl (q.idx (i:=lo) (fun _=>Wd.old cF) rfl rfl bj rfl hx2) rfl<|Q.qg rfl (q.dx (ds:=[.int .i64 x2.Place.ag,.int .i64 x2.Place.Slot,.int .i64 x2.ao]) (fun _=>Wd.old cF) hx2 rfl dh rfl) rfl<|Q.qg rfl (q.bI 0 rfl rfl aM) rfl<|Q.cg rfl (q.call ub rfl rfl (fun w hw=>xX w x2 t hw.ext)) rfl<|Q.qg rfl (q.eql rfl rfl (beq_eq_false_iff_ne.2 (by omega))) rfl<|Q.u 3 rfl<|Q.nil ?_
        exact R.uC rfl Tryz.results90 rfl rfl (rI (by (exact congrArg (fun n:Nat=>(n:Int)) ((gN (by omega)).symm.trans HA)))) (rB (by (have e:=(gN (by omega)).symm.trans HA;unfold t6;rw [← e];first|(rw [hx2];first|exact (decide_eq_true (by assumption)).symm|exact (decide_eq_false (by assumption)).symm)|(rw [List.getElem?_eq_none (by omega)]))))
    ·
      refine R.gq rfl mixed (by kernel_rfl)<|Q.u 3 rfl<|Q.q (q.lss rfl rfl (decide_eq_false (by omega))) rfl<|Q.u 12 rfl<|Q.nil ?_
      exact R.uC rfl Tryz.results90 rfl rfl (rI (by (exact congrArg (fun n:Nat=>(n:Int)) ((gN (by omega)).symm.trans HA)))) (rB (by (have e:=(gN (by omega)).symm.trans HA;unfold t6;rw [← e];first|(rw [rfl];first|exact (decide_eq_true (by assumption)).symm|exact (decide_eq_false (by assumption)).symm)|(rw [List.getElem?_eq_none (by omega)]))))
theorem fY (bk:Value)(l:List Held)(pl:Place)(w:World)(cF:Sl w bk l)(hl:l.length≤1000000):Calls Tryz.prog 64 #[bk,.agg #[.int .i64 pl.ag,.int .i64 pl.Slot]] w fun e w'=>e = .returned (.tuple #[.int .i64 (dE l pl:Int),.bool (rL l pl)])∧Ext w w':=by
  have lR:=cF.dI
  refine R.enter (n:=11) (vs:=[bk,.agg #[.int .i64 pl.ag,.int .i64 pl.Slot]]) [] [(0,bk),(1,.agg #[.int .i64 pl.ag,.int .i64 pl.Slot])] Tryz.func64 rfl rfl rfl rfl ?_
  refine R.reg rfl<|?_
  refine R.s rfl (s.box (cs:=[.int .i64 pl.ag,.int .i64 pl.Slot]) rfl rfl rfl) fun b1=>?_
  refine R.u 2 rfl<|R.nil ?_
  refine R.reg rfl<|R.u 1 rfl<|R.q (q.bI 0 rfl rfl aM) rfl<|R.c (q.call xt rfl rfl (fun w hw=>(lG _ (l) (pl) (fun (h:Held) (pl:Place)=>jW h.Place pl) _ _ xu w ((fun _=>Wd.old cF) w hw) (fun W h pl hW=>oa h pl  W  ) (by first|omega|assumption|(simp;done)|(simp;omega))))) rfl<|R.u 4 rfl<|R.nil ?_
  exact R.uC rfl Tryz.results64 rfl rfl (rI (by (rfl))) (rB (by (rfl)))
theorem jv (p:Place)(w:World)  : Calls Tryz.prog 23 #[.agg #[.int .i64 p.ag,.int .i64 p.Slot]] w fun e w'=>e = .returned (ek (bH p))∧Ext w w':=by
  refine R.enter (n:=22) (vs:=[.agg #[.int .i64 p.ag,.int .i64 p.Slot]]) [] [(0,.agg #[.int .i64 p.ag,.int .i64 p.Slot])] Tryz.func23 rfl rfl rfl rfl ?_
  refine R.reg rfl<|?_
  refine R.s rfl (s.box (cs:=[.int .i64 p.ag,.int .i64 p.Slot]) rfl rfl rfl) fun b1=>?_
  refine R.u 1 rfl<|R.nil ?_
  refine R.reg rfl<|R.q (q.aS (off':=0) rfl bZ rfl) rfl<|R.q (q.ld 0 rfl rfl aG rfl) rfl<|?_
  by_cases h1:p.ag<1
  ·
    refine R.q (q.lss rfl rfl (decide_eq_true (by omega))) rfl<|R.u 15 rfl<|R.nil ?_
    refine R.aI rfl rfl ?_
    refine R.reg rfl<|R.q (q.iface rfl da) rfl<|R.u 1 rfl<|R.nil ?_
    exact R.rv rfl Tryz.results23 rfl (e5 (by decide) (by (first|exact df (by omega)|exact cz (by omega)|exact (cz (by omega)).symm)))
  ·
    refine R.q (q.lss rfl rfl (decide_eq_false (by omega))) rfl<|R.u 1 rfl<|R.qg rfl (q.aS (off':=0) rfl bZ rfl) rfl<|R.qg rfl (q.ld 0 rfl rfl aG rfl) rfl<|?_
    by_cases h2:4<p.ag
    ·
      refine R.qg rfl (q.gtr rfl rfl (decide_eq_true (by omega))) rfl<|R.u 11 rfl<|R.nil ?_
      refine R.aI rfl rfl ?_
      refine R.reg rfl<|R.q (q.iface rfl da) rfl<|R.u 1 rfl<|R.nil ?_
      exact R.rv rfl Tryz.results23 rfl (e5 (by decide) (by (first|exact df (by omega)|exact cz (by omega)|exact (cz (by omega)).symm)))
    ·
      refine R.qg rfl (q.gtr rfl rfl (decide_eq_false (by omega))) rfl<|R.u 2 rfl<|R.qg rfl (q.aS (off':=1) rfl eE rfl) rfl<|R.qg rfl (q.ld 0 rfl rfl aG rfl) rfl<|?_
      by_cases h3:p.Slot<0
      ·
        refine R.qg rfl (q.lss rfl rfl (decide_eq_true (by omega))) rfl<|R.u 6 rfl<|R.nil ?_
        refine R.aI rfl rfl ?_
        refine R.reg rfl<|R.q (q.iface rfl da) rfl<|R.u 1 rfl<|R.nil ?_
        exact R.rv rfl Tryz.results23 rfl (e5 (by decide) (by (first|exact df (by omega)|exact cz (by omega)|exact (cz (by omega)).symm)))
      ·
        refine R.qg rfl (q.lss rfl rfl (decide_eq_false (by omega))) rfl<|R.u 2 rfl<|R.qg rfl (q.aS (off':=1) rfl eE rfl) rfl<|R.qg rfl (q.ld 0 rfl rfl aG rfl) rfl<|?_
        by_cases h4:5<p.Slot
        ·
          refine R.qg rfl (q.gtr rfl rfl (decide_eq_true (by omega))) rfl<|R.u 1 rfl<|R.nil ?_
          refine R.aI rfl rfl ?_
          refine R.reg rfl<|R.q (q.iface rfl da) rfl<|R.u 1 rfl<|R.nil ?_
          exact R.rv rfl Tryz.results23 rfl (e5 (by decide) (by (first|exact df (by omega)|exact cz (by omega)|exact (cz (by omega)).symm)))
        ·
          refine R.qg rfl (q.gtr rfl rfl (decide_eq_false (by omega))) rfl<|R.u 1 rfl<|R.nil ?_
          refine R.aH rfl rfl ?_
          refine R.reg rfl<|R.u 1 rfl<|R.nil ?_
          exact R.rv rfl Tryz.results23 rfl (gu (by (first|exact df (by omega)|exact cz (by omega)|exact (cz (by omega)).symm)))
theorem hM (p:Place)(w:World)  : Calls Tryz.prog 26 #[.agg #[.int .i64 p.ag,.int .i64 p.Slot]] w fun e w'=>e = .returned (.int .i64 (bH p))∧Ext w w':=by
  refine R.enter (n:=21) (vs:=[.agg #[.int .i64 p.ag,.int .i64 p.Slot]]) [] [(0,.agg #[.int .i64 p.ag,.int .i64 p.Slot])] Tryz.func26 rfl rfl rfl rfl ?_
  refine R.reg rfl<|?_
  refine R.s rfl (s.box (cs:=[.int .i64 p.ag,.int .i64 p.Slot]) rfl rfl rfl) fun b1=>?_
  refine R.u 1 rfl<|R.nil ?_
  refine R.reg rfl<|R.q (q.aS (off':=0) rfl bZ rfl) rfl<|R.q (q.ld 0 rfl rfl aG rfl) rfl<|?_
  by_cases h1:p.ag<1
  ·
    refine R.q (q.lss rfl rfl (decide_eq_true (by omega))) rfl<|R.u 15 rfl<|R.nil ?_
    refine R.aI rfl rfl ?_
    refine R.reg rfl<|R.u 1 rfl<|R.nil ?_
    exact R.rv rfl Tryz.results26 rfl (rI (by (first|exact (df (by omega)).symm|exact (cz (by omega)).symm)))
  ·
    refine R.q (q.lss rfl rfl (decide_eq_false (by omega))) rfl<|R.u 1 rfl<|R.qg rfl (q.aS (off':=0) rfl bZ rfl) rfl<|R.qg rfl (q.ld 0 rfl rfl aG rfl) rfl<|?_
    by_cases h2:4<p.ag
    ·
      refine R.qg rfl (q.gtr rfl rfl (decide_eq_true (by omega))) rfl<|R.u 11 rfl<|R.nil ?_
      refine R.aI rfl rfl ?_
      refine R.reg rfl<|R.u 1 rfl<|R.nil ?_
      exact R.rv rfl Tryz.results26 rfl (rI (by (first|exact (df (by omega)).symm|exact (cz (by omega)).symm)))
    ·
      refine R.qg rfl (q.gtr rfl rfl (decide_eq_false (by omega))) rfl<|R.u 2 rfl<|R.qg rfl (q.aS (off':=1) rfl eE rfl) rfl<|R.qg rfl (q.ld 0 rfl rfl aG rfl) rfl<|?_
      by_cases h3:p.Slot<0
      ·
        refine R.qg rfl (q.lss rfl rfl (decide_eq_true (by omega))) rfl<|R.u 6 rfl<|R.nil ?_
        refine R.aI rfl rfl ?_
        refine R.reg rfl<|R.u 1 rfl<|R.nil ?_
        exact R.rv rfl Tryz.results26 rfl (rI (by (first|exact (df (by omega)).symm|exact (cz (by omega)).symm)))
      ·
        refine R.qg rfl (q.lss rfl rfl (decide_eq_false (by omega))) rfl<|R.u 2 rfl<|R.qg rfl (q.aS (off':=1) rfl eE rfl) rfl<|R.qg rfl (q.ld 0 rfl rfl aG rfl) rfl<|?_
        by_cases h4:5<p.Slot
        ·
          refine R.qg rfl (q.gtr rfl rfl (decide_eq_true (by omega))) rfl<|R.u 1 rfl<|R.nil ?_
          refine R.aI rfl rfl ?_
          refine R.reg rfl<|R.u 1 rfl<|R.nil ?_
          exact R.rv rfl Tryz.results26 rfl (rI (by (first|exact (df (by omega)).symm|exact (cz (by omega)).symm)))
        ·
          refine R.qg rfl (q.gtr rfl rfl (decide_eq_false (by omega))) rfl<|R.u 1 rfl<|R.nil ?_
          refine R.aH rfl rfl ?_
          refine R.reg rfl<|R.u 1 rfl<|R.nil ?_
          exact R.rv rfl Tryz.results26 rfl (rI (by (first|exact (df (by omega)).symm|exact (cz (by omega)).symm)))
theorem hN (bk:Value)(l:List Held)(p:Place)(w:World)(cF:Sl w bk l)(hl:l.length≤1000000):Calls Tryz.prog 25 #[bk,.agg #[.int .i64 p.ag,.int .i64 p.Slot]] w fun e w'=>e = .returned (.int .i64 (gI l p))∧Ext w w':=by
  have lR:=cF.dI
  refine R.enter (n:=20) (vs:=[bk,.agg #[.int .i64 p.ag,.int .i64 p.Slot]]) [] [(0,bk),(1,.agg #[.int .i64 p.ag,.int .i64 p.Slot])] Tryz.func25 rfl rfl rfl rfl ?_
  refine R.reg rfl<|?_
  refine R.s rfl (s.box (cs:=[.int .i64 p.ag,.int .i64 p.Slot]) rfl rfl rfl) fun b1=>?_
  refine R.u 1 rfl<|R.nil ?_
  refine R.reg rfl<|R.u 1 rfl<|R.q (q.bI 0 rfl rfl aM) rfl<|?_
  have zj:=lQ l p
  rcases kX l p with dt|⟨du,dP,dt,e6,fZ⟩
  ·
    refine R.c (q.call qR rfl rfl (fun w hw=>(cv (congrArg (fun b=>Value.tuple #[.int .i64 ((dE l p:Nat):Int),.bool b]) dt) (fY _ (l) (p) w ((fun _=>Wd.old cF) w hw) (by first|omega|assumption|(simp;done)|(simp;omega)))))) rfl<|R.u 5 rfl<|R.nil ?_
    refine R.reg rfl<|R.u 2 rfl<|R.nil ?_
    refine R.aI rfl rfl ?_
    refine R.reg rfl<|R.u 1 rfl<|R.nil ?_
    exact R.rv rfl Tryz.results25 rfl (rI (by (first|exact (pQ dt).symm|exact (nX dt dP).symm)))
  ·
    refine R.c (q.call qR rfl rfl (fun w hw=>(cv (congrArg (fun b=>Value.tuple #[.int .i64 ((dE l p:Nat):Int),.bool b]) dt) (fY _ (l) (p) w ((fun _=>Wd.old cF) w hw) (by first|omega|assumption|(simp;done)|(simp;omega)))))) rfl<|R.u 5 rfl<|R.nil ?_
    refine R.reg rfl<|R.u 2 rfl<|R.nil ?_
    refine R.aH rfl rfl ?_
    refine R.reg rfl<|R.u 2 rfl<|R.q (q.idx (i:=(dE l p)) (fun _=>Wd.old cF) rfl rfl bj rfl dP) rfl<|R.q (q.eJ (j':=2) (fun _=>Wd.old cF) dP rfl gK rfl) rfl<|R.q (q.jU (fun _=>Wd.old cF) dP rfl aG rfl) rfl<|R.u 1 rfl<|R.nil ?_
    exact R.rv rfl Tryz.results25 rfl (rI (by (first|exact (pQ dt).symm|exact (nX dt dP).symm)))
theorem jL (bk:Value)(l:List Held)(p:Place)(id:Int)(w:World)(own:List Nat)(H:Wd w (blks []++own) ([]++[ah.held w own]) [ah.ls bk (l:List Held)] w)(hl:l.length≤100000):Calls Tryz.prog 34 #[bk,.agg #[.int .i64 p.ag,.int .i64 p.Slot],.int .i64 id] w fun e w' => ∃z:Value,e = .returned (z)∧Wd w (blks []++own) ([ah.row 93 z ((bO l p id):List Held)]++[ah.held w own]) [] w':=by
  have sV:=H.bS 0 rfl
  refine R.cC (n:=47) (vs:=[bk,.agg #[.int .i64 p.ag,.int .i64 p.Slot],.int .i64 id]) (B:=[ah.held w own]) [(0,bk),(1,.agg #[.int .i64 p.ag,.int .i64 p.Slot]),(2,.int .i64 id)] Tryz.func34 rfl rfl rfl rfl H ?_
  refine R.reg rfl<|?_
  refine R.s rfl (s.box (cs:=[.int .i64 p.ag,.int .i64 p.Slot]) rfl rfl rfl) fun b1=>?_
  refine R.u 1 rfl<|R.nil ?_
  refine R.reg rfl<|R.u 1 rfl<|?_
  refine R.s (B':=(fun aL:Value=>[ah.row 93 aL (l:List Held),ah.box b1 [.int .i64 p.ag,.int .i64 p.Slot] 33,ah.held w own])) (F':=(fun aL:Value=>[ah.ls bk (l:List Held)])) rfl (s.bE (B0:=[]) (Br:=[ah.box b1 [.int .i64 p.ag,.int .i64 p.Slot] 33,ah.held w own]) (F0:=[ah.ls bk (l:List Held)]) [0,1] [0] (fun aL:Value=>aL) (fun aL:Value=>[ah.row 93 aL (l:List Held)]) (fun aL:Value=>[]) rfl rfl rfl sH rfl rfl (fun w own hw H=>il bk (l) w own H (by first|omega|assumption|(simp;done)|(simp;omega))) rfl) fun z1=>?_
  refine R.u 1 rfl<|R.nil ?_
  refine R.reg rfl<|R.u 1 rfl<|R.q (q.bI 1 rfl rfl aM) rfl<|?_
  have zj:=lQ l p
  rcases kX l p with dt|⟨du,dP,dt,e6,fZ⟩
  ·
    refine R.c (q.call qR rfl rfl (fun w hw=>(cv (congrArg (fun b=>Value.tuple #[.int .i64 ((dE l p:Nat):Int),.bool b]) dt) (fY _ (l) (p) w ((fun _=>Wd.row 0 rfl) w hw) (by first|omega|assumption|(simp;done)|(simp;omega)))))) rfl<|R.u 5 rfl<|R.nil ?_
    refine R.reg rfl<|R.u 6 rfl<|R.nil ?_
    refine R.aH rfl rfl ?_
    refine R.reg rfl<|R.u 2 rfl<|R.nil ?_
    refine R.aH rfl rfl ?_
    refine R.reg rfl<|R.u 1 rfl<|?_
    by_cases h1:id=0
    ·
      refine R.q (q.eql rfl rfl (beq_iff_eq.2 (by omega))) rfl<|R.u 1 rfl<|R.nil ?_
      refine R.aI rfl rfl ?_
      refine R.reg rfl<|R.u 2 rfl<|R.nil ?_
      have hz:bO l p id=l:=by (unfold bO;first|(rw [if_pos dt,if_pos (by assumption)];done)|(rw [if_pos dt,if_neg (by assumption),e6];done)|(rw [if_neg (by rw [dt];simp),if_pos (by assumption)];done)|(rw [if_neg (by rw [dt];simp),if_neg (by assumption)];done))
      rw [hz]
      exact R.w1 z1 [0,2] [] rfl Tryz.results34 (RV.tmp rfl) rfl rfl rfl rfl
    ·
      refine R.q (q.eql rfl rfl (beq_eq_false_iff_ne.2 (by omega))) rfl<|R.u 1 rfl<|R.nil ?_
      refine R.aH rfl rfl ?_
      refine R.reg rfl<|R.u 2 rfl<|R.q (q.bI 1 rfl rfl aM) rfl<|R.u 1 rfl<|R.q (q.build (cs:=[.int .i64 p.ag,.int .i64 p.Slot,.int .i64 id]) ma rfl rfl) rfl<|?_
      refine R.s rfl (s.bs (l:=([(⟨p,id⟩:Held)]:List Held)) bj cO rfl rfl rfl rfl rfl rfl rfl) fun b2=>?_
      refine R.s (B':=(fun aL:Value=>[ah.row 93 aL ((l.take (dE l p)++([(⟨p,id⟩:Held)])++l.drop (dE l p)):List Held),ah.box b1 [.int .i64 p.ag,.int .i64 p.Slot] 33,ah.held w own])) (F':=(fun aL:Value=>[ah.ls bk (l:List Held)])) rfl (s.bE (B0:=[ah.row 93 z1 (l:List Held),ah.row 93 (.slice (some ⟨b2,0,none⟩) 1 1) ([(⟨p,id⟩:Held)]:List Held)]) (Br:=[ah.box b1 [.int .i64 p.ag,.int .i64 p.Slot] 33,ah.held w own]) (F0:=[]) [1,0,2,3] [] (fun aL:Value=>aL) (fun aL:Value=>[ah.row 93 aL ((l.take (dE l p)++([(⟨p,id⟩:Held)])++l.drop (dE l p)):List Held)]) (fun aL:Value=>[]) rfl rfl rfl xe rfl rfl (fun w own hw H=>mj z1 (l) ((dE l p)) (.slice (some ⟨b2,0,none⟩) 1 1) ([(⟨p,id⟩:Held)]) w own H (by first|assumption|omega) (rfl) (by first|omega|assumption|(simp;done)|(simp;omega))) rfl) fun z2=>?_
      refine R.u 1 rfl<|R.nil ?_
      have hz:bO l p id=l.take (dE l p)++([(⟨p,id⟩:Held)])++l.drop (dE l p):=by (unfold bO;first|(rw [if_pos dt,if_pos (by assumption)];done)|(rw [if_pos dt,if_neg (by assumption),e6];done)|(rw [if_neg (by rw [dt];simp),if_pos (by assumption)];done)|(rw [if_neg (by rw [dt];simp),if_neg (by assumption)];done))
      rw [hz]
      exact R.w1 z2 [0,2] [] rfl Tryz.results34 (RV.tmp rfl) rfl rfl rfl rfl
  ·
    refine R.c (q.call qR rfl rfl (fun w hw=>(cv (congrArg (fun b=>Value.tuple #[.int .i64 ((dE l p:Nat):Int),.bool b]) dt) (fY _ (l) (p) w ((fun _=>Wd.row 0 rfl) w hw) (by first|omega|assumption|(simp;done)|(simp;omega)))))) rfl<|R.u 5 rfl<|R.nil ?_
    refine R.reg rfl<|R.u 3 rfl<|?_
    by_cases h2:id=0
    ·
      refine R.qg rfl (q.eql rfl rfl (beq_iff_eq.2 (by omega))) rfl<|R.u 2 rfl<|R.nil ?_
      refine R.aI rfl rfl ?_
      refine R.reg rfl<|R.u 3 rfl<|R.q (q.add (r:=(((dE l p)+1:Nat):Int)) rfl rfl (wr (by omega))) rfl<|?_
      refine R.s (B':=(fun aL:Value=>[ah.row 93 aL ((l.take (dE l p)++l.drop ((dE l p)+1)):List Held),ah.box b1 [.int .i64 p.ag,.int .i64 p.Slot] 33,ah.held w own])) (F':=(fun aL:Value=>[ah.ls bk (l:List Held)])) rfl (s.bE (B0:=[ah.row 93 z1 (l:List Held)]) (Br:=[ah.box b1 [.int .i64 p.ag,.int .i64 p.Slot] 33,ah.held w own]) (F0:=[]) [0,1,2] [] (fun aL:Value=>aL) (fun aL:Value=>[ah.row 93 aL ((l.take (dE l p)++l.drop ((dE l p)+1)):List Held)]) (fun aL:Value=>[]) rfl rfl rfl xd rfl rfl (fun w own hw H=>mh z1 (l) ((dE l p)) (((dE l p)+1)) w own H (by omega)) rfl) fun z3=>?_
      refine R.u 1 rfl<|R.nil ?_
      have hz:bO l p id=l.take (dE l p)++l.drop ((dE l p)+1):=by (unfold bO;first|(rw [if_pos dt,if_pos (by assumption)];done)|(rw [if_pos dt,if_neg (by assumption),e6];done)|(rw [if_neg (by rw [dt];simp),if_pos (by assumption)];done)|(rw [if_neg (by rw [dt];simp),if_neg (by assumption)];done))
      rw [hz]
      exact R.w1 z3 [0,2] [] rfl Tryz.results34 (RV.tmp rfl) rfl rfl rfl rfl
    ·
      refine R.qg rfl (q.eql rfl rfl (beq_eq_false_iff_ne.2 (by omega))) rfl<|R.u 2 rfl<|R.nil ?_
      refine R.aH rfl rfl ?_
      refine R.reg rfl<|R.u 2 rfl<|R.nil ?_
      refine R.aI rfl rfl ?_
      refine R.reg rfl<|R.u 3 rfl<|R.q (q.idx (i:=(dE l p)) (fun _=>Wd.row 0 rfl) rfl rfl bj rfl dP) rfl<|R.q (q.eJ (j':=2) (fun _=>Wd.row 0 rfl) dP rfl gK rfl) rfl<|?_
      refine R.s rfl (s.stP (o:=2) (z:=(⟨du.Place,id⟩:Held)) (us:=[.int .i64 id]) 0 _ rfl dP rfl rfl rfl rfl rfl (by simp [Value.oneCell']) (.inr ⟨aG,rfl⟩) rfl) fun _=>?_
      refine R.nil ?_
      refine R.reg rfl<|R.u 2 rfl<|R.nil ?_
      have hz:bO l p id=(l.set (dE l p) (⟨du.Place,id⟩:Held)):=by (unfold bO;first|(rw [if_pos dt,if_pos (by assumption)];done)|(rw [if_pos dt,if_neg (by assumption),e6];done)|(rw [if_neg (by rw [dt];simp),if_pos (by assumption)];done)|(rw [if_neg (by rw [dt];simp),if_neg (by assumption)];done))
      rw [hz]
      exact R.w1 z1 [0,2] [] rfl Tryz.results34 (RV.tmp rfl) rfl rfl rfl rfl
theorem sY (bk:Value)(l:List Held)(h:Int)(w:World)(cF:Sl w bk l)(hl:l.length≤1000000):Calls Tryz.prog 33 #[bk,.int .i64 h] w fun e w'=>e = .returned (.int .i64 (cE l h))∧Ext w w':=by
  have lR:=cF.dI
  refine R.enter (n:=17) (vs:=[bk,.int .i64 h]) [] [(0,bk),(1,.int .i64 h)] Tryz.func33 rfl rfl rfl rfl ?_
  refine R.reg rfl<|R.u 1 rfl<|R.nil ?_
  refine R.reg rfl<|R.u 1 rfl<|R.nil ?_
  refine R.loop (fun i:Nat=>[(0,bk),(1,.int .i64 h),(6,.int .i64 (i:Int))]) (fun i:Nat=>[]) (fun i:Nat=>[]) (fun i:Nat=>i≤6∧fR l h (6-i) i=cE l h) (fun i:Nat=>6-i) 0 rfl (by exact ⟨by omega,rfl⟩) ⟨rfl,rfl,rfl,trivial⟩ (fun _=>Wd.pick [] [] rfl rfl rfl) ?_
  rintro i ⟨hs,HA⟩
  refine R.reg rfl<|?_
  by_cases h1:i<6
  ·
    refine R.q (q.lss rfl rfl (decide_eq_true (by omega))) rfl<|R.nil ?_
    refine R.aI rfl rfl ?_
    refine R.reg rfl<|R.u 2 rfl<|R.nil ?_
    refine R.reg rfl<|R.u 3 rfl<|R.q (q.build (cs:=[.int .i64 h,.int .i64 (i:Int)]) jt rfl rfl) rfl<|R.c (q.call qK rfl rfl (fun w hw=>(hN _ (l) ((⟨h,(i:Int)⟩:Place)) w ((fun _=>Wd.old cF) w hw) (by first|omega|assumption|(simp;done)|(simp;omega))))) rfl<|?_
    by_cases h2:gI l (⟨h,(i:Int)⟩:Place)=0
    ·
      refine R.q (q.eql rfl rfl (beq_iff_eq.2 (by omega))) rfl<|R.nil ?_
      refine R.aI rfl rfl ?_
      refine R.reg rfl<|R.u 2 rfl<|R.nil ?_
      exact R.rv rfl Tryz.results33 rfl (rI (by (rw [← HA];exact (pR (by assumption) (by omega)).symm)))
    ·
      refine R.q (q.eql rfl rfl (beq_eq_false_iff_ne.2 (by omega))) rfl<|R.nil ?_
      refine R.aH rfl rfl ?_
      refine R.reg rfl<|R.q (q.add (r:=((i+1:Nat):Int)) rfl rfl (wr (by omega))) rfl<|R.u 1 rfl<|R.nil ?_
      refine R.back (i+1) rfl (by (exact ⟨by omega,(oP (by assumption) (by omega)).symm.trans HA⟩)) (by omega) ⟨rfl,rfl,rfl,trivial⟩ (fun _=>Wd.pick [] [] rfl rfl rfl)
  ·
    refine R.q (q.lss rfl rfl (decide_eq_false (by omega))) rfl<|R.nil ?_
    refine R.aH rfl rfl ?_
    refine R.reg rfl<|R.u 1 rfl<|R.nil ?_
    exact R.rv rfl Tryz.results33 rfl (rI (by (rw [← HA];have:i=6:=(by omega);subst this;rfl)))
theorem ny (bk:Value)(l:List Held)(p:Place)(w:World)(cF:Sl w bk l):Calls Tryz.prog 28 #[bk,.agg #[.int .i64 p.ag,.int .i64 p.Slot]] w fun e w'=>e = .returned (.int .i64 (gj l p))∧Ext w w':=by
  have lR:=cF.dI
  refine R.enter (n:=24) (vs:=[bk,.agg #[.int .i64 p.ag,.int .i64 p.Slot]]) [] [(0,bk),(1,.agg #[.int .i64 p.ag,.int .i64 p.Slot])] Tryz.func28 rfl rfl rfl rfl ?_
  refine R.reg rfl<|?_
  refine R.s rfl (s.box (cs:=[.int .i64 p.ag,.int .i64 p.Slot]) rfl rfl rfl) fun b1=>?_
  refine R.u 1 rfl<|R.nil ?_
  refine R.reg rfl<|R.u 1 rfl<|R.nil ?_
  refine R.loop (fun k:Nat=>[(0,bk),(3,.pointer (some ⟨b1,0,none⟩)),(5,.int .i64 (k:Int))]) (fun k:Nat=>[ah.box b1 [.int .i64 p.ag,.int .i64 p.Slot] 33]) (fun k:Nat=>[]) (fun k:Nat=>k≤l.length ∧ ∀ (j:Nat) y,j<k→l[j]? = some y→¬ y.Place=p) (fun k:Nat=>l.length-k) 0 rfl (by exact ⟨by omega,fun j x hj=>absurd hj (Nat.not_lt_zero _)⟩) ⟨rfl,rfl,rfl,trivial⟩ (fun _=>Wd.pick [0] [] rfl rfl rfl) ?_
  rintro k ⟨hk,HA⟩
  refine R.reg rfl<|R.u 2 rfl<|R.q (q.len' (fun _=>Wd.old cF) rfl Tryz.underlying27) rfl<|?_
  by_cases h1:k<l.length
  ·
    refine R.q (q.lss rfl rfl (decide_eq_true (by omega))) rfl<|R.nil ?_
    refine R.aI rfl rfl ?_
    obtain ⟨x1,hx1⟩:∃z,l[k]? = some z:=⟨_,List.getElem?_eq_getElem (by omega)⟩
    by_cases h2:x1.Place=p
    ·
      refine R.gq rfl mixed (by kernel_rfl)<|Q.u 2 rfl<|Q.q (q.idx (i:=k) (fun _=>Wd.old cF) rfl rfl bj rfl hx1) rfl<|Q.q (q.eJ (j':=0) (fun _=>Wd.old cF) hx1 rfl iG rfl) rfl<|Q.q (q.dx (ds:=[.int .i64 x1.Place.ag,.int .i64 x1.Place.Slot]) (fun _=>Wd.old cF) hx1 rfl aM rfl) rfl<|Q.q (q.bI 0 rfl rfl aM) rfl<|Q.q (q.wm (x:=x1.Place) (y:=p) eU rfl rfl h2) rfl<|Q.nil ?_
      refine R.aI rfl rfl ?_
      refine R.reg rfl<|R.u 2 rfl<|R.q (q.idx (i:=k) (fun _=>Wd.old cF) rfl rfl bj rfl hx1) rfl<|R.q (q.eJ (j':=2) (fun _=>Wd.old cF) hx1 rfl gK rfl) rfl<|R.q (q.jU (fun _=>Wd.old cF) hx1 rfl aG rfl) rfl<|R.u 1 rfl<|R.nil ?_
      exact R.rv rfl Tryz.results28 rfl (rI (by (exact (rM hx1 (by assumption) HA).symm)))
    ·
      refine R.gq rfl mixed (by kernel_rfl)<|Q.u 2 rfl<|Q.q (q.idx (i:=k) (fun _=>Wd.old cF) rfl rfl bj rfl hx1) rfl<|Q.q (q.eJ (j':=0) (fun _=>Wd.old cF) hx1 rfl iG rfl) rfl<|Q.q (q.dx (ds:=[.int .i64 x1.Place.ag,.int .i64 x1.Place.Slot]) (fun _=>Wd.old cF) hx1 rfl aM rfl) rfl<|Q.q (q.bI 0 rfl rfl aM) rfl<|Q.q (q.wn (x:=x1.Place) (y:=p) eU rfl rfl h2) rfl<|Q.nil ?_
      refine R.aH rfl rfl ?_
      refine R.reg rfl<|R.u 1 rfl<|R.q (q.add (r:=((k+1:Nat):Int)) rfl rfl (wr (by omega))) rfl<|R.u 1 rfl<|R.nil ?_
      refine R.back (k+1) rfl (by (exact ⟨by omega,fun j x hj hx=>if e:j=k then by subst e;rw [hx1] at hx;injection hx with hx;subst hx;assumption else HA j x (by omega) hx⟩)) (by omega) ⟨rfl,rfl,rfl,trivial⟩ (fun _=>Wd.pick [0] [] rfl rfl rfl)
  ·
    refine R.q (q.lss rfl rfl (decide_eq_false (by omega))) rfl<|R.nil ?_
    refine R.aH rfl rfl ?_
    refine R.reg rfl<|R.u 1 rfl<|R.nil ?_
    exact R.rv rfl Tryz.results28 rfl (rI (by (exact (pS (fun j y hj=>HA j y (by omega))).symm)))
theorem oT (bk:Value)(l:List Held)(h:Int)(w:World)(cF:Sl w bk l):Calls Tryz.prog 72 #[bk,.int .i64 h] w fun e w'=>e = .returned (.int .i64 (nY l h))∧Ext w w':=by
  have lR:=cF.dI
  refine R.enter (n:=17) (vs:=[bk,.int .i64 h]) [] [(0,bk),(1,.int .i64 h)] Tryz.func72 rfl rfl rfl rfl ?_
  refine R.reg rfl<|R.u 1 rfl<|R.nil ?_
  refine R.reg rfl<|R.u 1 rfl<|R.nil ?_
  refine R.loop (fun i:Nat=>[(0,bk),(1,.int .i64 h),(5,.int .i64 (i:Int))]) (fun i:Nat=>[]) (fun i:Nat=>[]) (fun i:Nat=>i≤6∧fX l h (6-i) i=nY l h) (fun i:Nat=>6-i) 0 rfl (by exact ⟨by omega,rfl⟩) ⟨rfl,rfl,rfl,trivial⟩ (fun _=>Wd.pick [] [] rfl rfl rfl) ?_
  rintro i ⟨hs,HA⟩
  refine R.reg rfl<|R.u 1 rfl<|?_
  by_cases h1:i<6
  ·
    refine R.q (q.lss rfl rfl (decide_eq_true (by omega))) rfl<|R.nil ?_
    refine R.aI rfl rfl ?_
    refine R.reg rfl<|R.u 3 rfl<|R.q (q.build (cs:=[.int .i64 h,.int .i64 (i:Int)]) jt rfl rfl) rfl<|R.c (q.call qL rfl rfl (fun w hw=>(ny _ (l) ((⟨h,(i:Int)⟩:Place)) w ((fun _=>Wd.old cF) w hw) ))) rfl<|?_
    by_cases h2:gj l (⟨h,(i:Int)⟩:Place)=0
    ·
      refine R.q (q.eql rfl rfl (beq_iff_eq.2 (by omega))) rfl<|R.nil ?_
      refine R.aI rfl rfl ?_
      refine R.reg rfl<|R.u 2 rfl<|R.nil ?_
      exact R.rv rfl Tryz.results72 rfl (rI (by (rw [← HA];exact (oS (by assumption) (by omega)).symm)))
    ·
      refine R.q (q.eql rfl rfl (beq_eq_false_iff_ne.2 (by omega))) rfl<|R.nil ?_
      refine R.aH rfl rfl ?_
      refine R.reg rfl<|R.u 1 rfl<|R.q (q.add (r:=((i+1:Nat):Int)) rfl rfl (wr (by omega))) rfl<|R.u 1 rfl<|R.nil ?_
      refine R.back (i+1) rfl (by (exact ⟨by omega,(nZ (by assumption) (by omega)).symm.trans HA⟩)) (by omega) ⟨rfl,rfl,rfl,trivial⟩ (fun _=>Wd.pick [] [] rfl rfl rfl)
  ·
    refine R.q (q.lss rfl rfl (decide_eq_false (by omega))) rfl<|R.nil ?_
    refine R.aH rfl rfl ?_
    refine R.reg rfl<|R.u 1 rfl<|R.nil ?_
    exact R.rv rfl Tryz.results72 rfl (rI (by (rw [← HA];have:i=6:=(by omega);subst this;rfl)))
theorem pU (bk:Value)(l:List Held)(p:Place)(id:Int)(w:World)(own:List Nat)(H:Wd w (blks []++own) ([]++[ah.held w own]) [ah.ls bk (l:List Held)] w)(hl:l.length≤100000):Calls Tryz.prog 73 #[bk,.agg #[.int .i64 p.ag,.int .i64 p.Slot],.int .i64 id] w fun e w' => ∃z:Value,e = .returned (z)∧Wd w (blks []++own) ([ah.row 93 z ((gx l p id):List Held)]++[ah.held w own]) [] w':=by
  have sV:=H.bS 0 rfl
  refine R.cC (n:=72) (vs:=[bk,.agg #[.int .i64 p.ag,.int .i64 p.Slot],.int .i64 id]) (B:=[ah.held w own]) [(0,bk),(1,.agg #[.int .i64 p.ag,.int .i64 p.Slot]),(2,.int .i64 id)] Tryz.func73 rfl rfl rfl rfl H ?_
  refine R.reg rfl<|?_
  refine R.s rfl (s.box (cs:=[.int .i64 p.ag,.int .i64 p.Slot]) rfl rfl rfl) fun b1=>?_
  refine R.u 1 rfl<|R.nil ?_
  refine R.reg rfl<|R.u 1 rfl<|R.nil ?_
  refine R.reg rfl<|R.u 1 rfl<|?_
  by_cases h1:id=0
  ·
    refine R.q (q.eql rfl rfl (beq_iff_eq.2 (by omega))) rfl<|R.u 1 rfl<|R.nil ?_
    refine R.reg rfl<|R.u 1 rfl<|R.nil ?_
    refine R.row0 (α:=Held) 93 ?_
    refine R.loop (fun g_:Nat×Bool×Value×(List Held)=>[(0,bk),(2,.int .i64 id),(4,.pointer (some ⟨b1,0,none⟩)),(7,g_.2.2.1),(8,.bool g_.2.1),(9,.int .i64 (g_.1:Int))]) (fun g_:Nat×Bool×Value×(List Held)=>[ah.row 93 g_.2.2.1 (g_.2.2.2:List Held),ah.box b1 [.int .i64 p.ag,.int .i64 p.Slot] 33,ah.held w own]) (fun g_:Nat×Bool×Value×(List Held)=>[ah.ls bk (l:List Held)]) (fun g_:Nat×Bool×Value×(List Held)=>g_.1≤l.length∧(g_.2.2.2,g_.2.1)=hJ (l.take g_.1) p id) (fun g_:Nat×Bool×Value×(List Held)=>l.length-g_.1) (0,true,(.slice none 0 0),[]) rfl (by exact ⟨by omega,by simp [hJ, *]⟩) ⟨rfl,rfl,rfl,rfl,rfl,rfl,trivial⟩ (fun _=>Wd.pick [0,1,2] [0] rfl rfl rfl) ?_
    rintro ⟨k,laid,v,acc⟩ ⟨hk,HA⟩
    dsimp only at *
    have hal:acc.length≤2*k:=by have:=nw (l.take k) p id;rw [← HA] at this;simp at this;omega
    refine R.reg rfl<|R.u 2 rfl<|R.q (q.len' (fun _=>Wd.aO 0 rfl) rfl Tryz.underlying27) rfl<|?_
    by_cases h2:k<l.length
    ·
      refine R.q (q.lss rfl rfl (decide_eq_true (by omega))) rfl<|R.nil ?_
      refine R.aI rfl rfl ?_
      refine R.reg rfl<|R.u 2 rfl<|?_
      obtain ⟨x1,hx1⟩:∃z,l[k]? = some z:=⟨_,List.getElem?_eq_getElem (by omega)⟩
      refine R.q (q.idx (i:=k) (fun _=>Wd.aO 0 rfl) rfl rfl bj rfl hx1) rfl<|R.q (q.eJ (j':=0) (fun _=>Wd.aO 0 rfl) hx1 rfl iG rfl) rfl<|R.q (q.dx (ds:=[.int .i64 x1.Place.ag,.int .i64 x1.Place.Slot]) (fun _=>Wd.aO 0 rfl) hx1 rfl aM rfl) rfl<|?_
      refine R.s rfl (s.alloc (cs:=[.int .i64 0,.int .i64 0]) kE rfl rfl) fun b2=>?_
      refine R.s rfl (s.st (us:=[.int .i64 x1.Place.ag,.int .i64 x1.Place.Slot]) (cs':=[.int .i64 x1.Place.ag,.int .i64 x1.Place.Slot]) 0 _ rfl rfl rfl rfl (.inl aM) rfl rfl rfl rfl) fun _=>?_
      refine R.nil ?_
      refine R.reg rfl<|R.u 1 rfl<|R.q (q.not rfl) rfl<|R.u 1 rfl<|?_
      cases laid
      ·
        refine R.qg rfl (q.aS (off':=0) rfl bZ rfl) rfl<|R.qg rfl (q.ld 2 rfl rfl aG rfl) rfl<|R.qg rfl (q.aS (off':=0) rfl bZ rfl) rfl<|R.qg rfl (q.ld 0 rfl rfl aG rfl) rfl<|?_
        by_cases h3:p.ag<x1.Place.ag
        ·
          refine R.qg rfl (q.lss rfl rfl (decide_eq_true (by omega))) rfl<|R.u 15 rfl<|R.nil ?_
          refine R.aI rfl rfl ?_
          refine R.reg rfl<|R.u 1 rfl<|R.q (q.bI 2 rfl rfl aM) rfl<|R.u 1 rfl<|R.q (q.build (cs:=[.int .i64 p.ag,.int .i64 p.Slot,.int .i64 id]) ma rfl rfl) rfl<|?_
          refine R.s rfl (s.bs (l:=([(⟨p,id⟩:Held)]:List Held)) bj cO rfl rfl rfl rfl rfl rfl rfl) fun b3=>?_
          refine R.s rfl (s.app (l2:=[(⟨p,id⟩:Held)]) 2 _ rfl rfl rfl (fun _=>Wd.row 0 rfl) dr (by first|omega|(simp;omega)) (by first|omega|(simp;omega)) (fun _=>rfl) rfl) fun v1=>?_
          refine R.u 1 rfl<|R.nil ?_
          refine R.reg rfl<|R.u 1 rfl<|R.nil ?_
          refine R.reg rfl<|R.q (q.bI 1 rfl rfl aM) rfl<|R.q (q.bI 3 rfl rfl aM) rfl<|?_
          by_cases h4:x1.Place=p
          ·
            refine R.q (q.gC (x:=x1.Place) (y:=p) eU rfl rfl h4) rfl<|R.nil ?_
            refine R.aH rfl rfl ?_
            refine R.reg rfl<|R.u 1 rfl<|R.q (q.add (r:=((k+1:Nat):Int)) rfl rfl (wr (by omega))) rfl<|R.u 1 rfl<|R.nil ?_
            refine R.back (k+1,true,v1,(acc++([(⟨p,id⟩:Held)]))) rfl (by (exact ⟨by omega,by rw [cD l p id k _ hx1,← HA];first|(rw [cy (by omega)];first|(rw [if_pos (by assumption)];done)|(rw [if_neg (by assumption)];done))|(rw [bX (by first|exact .inl rfl|exact .inr (by omega))];first|(rw [if_pos (by assumption)];done)|(rw [if_neg (by assumption)];done))⟩)) (by dsimp only;omega) ⟨rfl,rfl,rfl,rfl,rfl,rfl,trivial⟩ (fun _=>Wd.aV [2,3,4] [0] rfl rfl rfl)
          ·
            refine R.q (q.gZ (x:=x1.Place) (y:=p) eU rfl rfl h4) rfl<|R.nil ?_
            refine R.aI rfl rfl ?_
            refine R.reg rfl<|R.u 3 rfl<|R.q (q.idx (i:=k) (fun _=>Wd.aO 0 rfl) rfl rfl bj rfl hx1) rfl<|R.q (q.dx (ds:=[.int .i64 x1.Place.ag,.int .i64 x1.Place.Slot,.int .i64 x1.ao]) (fun _=>Wd.aO 0 rfl) hx1 rfl dh rfl) rfl<|?_
            refine R.s rfl (s.bs (l:=([x1]:List Held)) bj cO rfl rfl rfl rfl rfl rfl rfl) fun b4=>?_
            refine R.s rfl (s.app (l2:=[x1]) 3 _ rfl rfl rfl (fun _=>Wd.row 0 rfl) dr (by first|omega|(simp;omega)) (by first|omega|(simp;omega)) (fun _=>rfl) rfl) fun v2=>?_
            refine R.u 1 rfl<|R.nil ?_
            refine R.reg rfl<|R.u 1 rfl<|R.q (q.add (r:=((k+1:Nat):Int)) rfl rfl (wr (by omega))) rfl<|R.u 1 rfl<|R.nil ?_
            refine R.back (k+1,true,v2,((acc++([(⟨p,id⟩:Held)]))++([x1]))) rfl (by (exact ⟨by omega,by rw [cD l p id k _ hx1,← HA];first|(rw [cy (by omega)];first|(rw [if_pos (by assumption)];done)|(rw [if_neg (by assumption)];done))|(rw [bX (by first|exact .inl rfl|exact .inr (by omega))];first|(rw [if_pos (by assumption)];done)|(rw [if_neg (by assumption)];done))⟩)) (by dsimp only;omega) ⟨rfl,rfl,rfl,rfl,rfl,rfl,trivial⟩ (fun _=>Wd.aV [3,4,5] [0] rfl rfl rfl)
        ·
          refine R.qg rfl (q.lss rfl rfl (decide_eq_false (by omega))) rfl<|R.u 1 rfl<|R.qg rfl (q.aS (off':=0) rfl bZ rfl) rfl<|R.qg rfl (q.ld 2 rfl rfl aG rfl) rfl<|R.qg rfl (q.aS (off':=0) rfl bZ rfl) rfl<|R.qg rfl (q.ld 0 rfl rfl aG rfl) rfl<|?_
          by_cases h5:p.ag=x1.Place.ag
          ·
            refine R.qg rfl (q.eql rfl rfl (beq_iff_eq.2 (by omega))) rfl<|R.u 1 rfl<|R.qg rfl (q.aS (off':=1) rfl eE rfl) rfl<|R.qg rfl (q.ld 2 rfl rfl aG rfl) rfl<|R.qg rfl (q.aS (off':=1) rfl eE rfl) rfl<|R.qg rfl (q.ld 0 rfl rfl aG rfl) rfl<|?_
            by_cases h6:x1.Place.Slot<p.Slot
            ·
              refine R.qg rfl (q.leq rfl rfl (decide_eq_false (by omega))) rfl<|R.u 3 rfl<|R.nil ?_
              refine R.aH rfl rfl ?_
              refine R.reg rfl<|R.q (q.bI 0 rfl rfl aM) rfl<|R.q (q.bI 2 rfl rfl aM) rfl<|?_
              by_cases h7:x1.Place=p
              ·
                refine R.q (q.gC (x:=x1.Place) (y:=p) eU rfl rfl h7) rfl<|R.nil ?_
                refine R.aH rfl rfl ?_
                refine R.reg rfl<|R.u 1 rfl<|R.q (q.add (r:=((k+1:Nat):Int)) rfl rfl (wr (by omega))) rfl<|R.u 1 rfl<|R.nil ?_
                refine R.back (k+1,false,v,acc) rfl (by (exact ⟨by omega,by rw [cD l p id k _ hx1,← HA];first|(rw [cy (by omega)];first|(rw [if_pos (by assumption)];done)|(rw [if_neg (by assumption)];done))|(rw [bX (by first|exact .inl rfl|exact .inr (by omega))];first|(rw [if_pos (by assumption)];done)|(rw [if_neg (by assumption)];done))⟩)) (by dsimp only;omega) ⟨rfl,rfl,rfl,rfl,rfl,rfl,trivial⟩ (fun _=>Wd.aV [1,2,3] [0] rfl rfl rfl)
              ·
                refine R.q (q.gZ (x:=x1.Place) (y:=p) eU rfl rfl h7) rfl<|R.nil ?_
                refine R.aI rfl rfl ?_
                refine R.reg rfl<|R.u 3 rfl<|R.q (q.idx (i:=k) (fun _=>Wd.aO 0 rfl) rfl rfl bj rfl hx1) rfl<|R.q (q.dx (ds:=[.int .i64 x1.Place.ag,.int .i64 x1.Place.Slot,.int .i64 x1.ao]) (fun _=>Wd.aO 0 rfl) hx1 rfl dh rfl) rfl<|?_
                refine R.s rfl (s.bs (l:=([x1]:List Held)) bj cO rfl rfl rfl rfl rfl rfl rfl) fun b5=>?_
                refine R.s rfl (s.app (l2:=[x1]) 2 _ rfl rfl rfl (fun _=>Wd.row 0 rfl) dr (by first|omega|(simp;omega)) (by first|omega|(simp;omega)) (fun _=>rfl) rfl) fun v3=>?_
                refine R.u 1 rfl<|R.nil ?_
                refine R.reg rfl<|R.u 1 rfl<|R.q (q.add (r:=((k+1:Nat):Int)) rfl rfl (wr (by omega))) rfl<|R.u 1 rfl<|R.nil ?_
                refine R.back (k+1,false,v3,(acc++([x1]))) rfl (by (exact ⟨by omega,by rw [cD l p id k _ hx1,← HA];first|(rw [cy (by omega)];first|(rw [if_pos (by assumption)];done)|(rw [if_neg (by assumption)];done))|(rw [bX (by first|exact .inl rfl|exact .inr (by omega))];first|(rw [if_pos (by assumption)];done)|(rw [if_neg (by assumption)];done))⟩)) (by dsimp only;omega) ⟨rfl,rfl,rfl,rfl,rfl,rfl,trivial⟩ (fun _=>Wd.aV [2,3,4] [0] rfl rfl rfl)
            ·
              refine R.qg rfl (q.leq rfl rfl (decide_eq_true (by omega))) rfl<|R.u 3 rfl<|R.nil ?_
              refine R.aI rfl rfl ?_
              refine R.reg rfl<|R.u 1 rfl<|R.q (q.bI 2 rfl rfl aM) rfl<|R.u 1 rfl<|R.q (q.build (cs:=[.int .i64 p.ag,.int .i64 p.Slot,.int .i64 id]) ma rfl rfl) rfl<|?_
              refine R.s rfl (s.bs (l:=([(⟨p,id⟩:Held)]:List Held)) bj cO rfl rfl rfl rfl rfl rfl rfl) fun b6=>?_
              refine R.s rfl (s.app (l2:=[(⟨p,id⟩:Held)]) 2 _ rfl rfl rfl (fun _=>Wd.row 0 rfl) dr (by first|omega|(simp;omega)) (by first|omega|(simp;omega)) (fun _=>rfl) rfl) fun v4=>?_
              refine R.u 1 rfl<|R.nil ?_
              refine R.reg rfl<|R.u 1 rfl<|R.nil ?_
              refine R.reg rfl<|R.q (q.bI 1 rfl rfl aM) rfl<|R.q (q.bI 3 rfl rfl aM) rfl<|?_
              by_cases h8:x1.Place=p
              ·
                refine R.q (q.gC (x:=x1.Place) (y:=p) eU rfl rfl h8) rfl<|R.nil ?_
                refine R.aH rfl rfl ?_
                refine R.reg rfl<|R.u 1 rfl<|R.q (q.add (r:=((k+1:Nat):Int)) rfl rfl (wr (by omega))) rfl<|R.u 1 rfl<|R.nil ?_
                refine R.back (k+1,true,v4,(acc++([(⟨p,id⟩:Held)]))) rfl (by (exact ⟨by omega,by rw [cD l p id k _ hx1,← HA];first|(rw [cy (by omega)];first|(rw [if_pos (by assumption)];done)|(rw [if_neg (by assumption)];done))|(rw [bX (by first|exact .inl rfl|exact .inr (by omega))];first|(rw [if_pos (by assumption)];done)|(rw [if_neg (by assumption)];done))⟩)) (by dsimp only;omega) ⟨rfl,rfl,rfl,rfl,rfl,rfl,trivial⟩ (fun _=>Wd.aV [2,3,4] [0] rfl rfl rfl)
              ·
                refine R.q (q.gZ (x:=x1.Place) (y:=p) eU rfl rfl h8) rfl<|R.nil ?_
                refine R.aI rfl rfl ?_
                refine R.reg rfl<|R.u 3 rfl<|R.q (q.idx (i:=k) (fun _=>Wd.aO 0 rfl) rfl rfl bj rfl hx1) rfl<|R.q (q.dx (ds:=[.int .i64 x1.Place.ag,.int .i64 x1.Place.Slot,.int .i64 x1.ao]) (fun _=>Wd.aO 0 rfl) hx1 rfl dh rfl) rfl<|?_
                refine R.s rfl (s.bs (l:=([x1]:List Held)) bj cO rfl rfl rfl rfl rfl rfl rfl) fun b7=>?_
                refine R.s rfl (s.app (l2:=[x1]) 3 _ rfl rfl rfl (fun _=>Wd.row 0 rfl) dr (by first|omega|(simp;omega)) (by first|omega|(simp;omega)) (fun _=>rfl) rfl) fun v5=>?_
                refine R.u 1 rfl<|R.nil ?_
                refine R.reg rfl<|R.u 1 rfl<|R.q (q.add (r:=((k+1:Nat):Int)) rfl rfl (wr (by omega))) rfl<|R.u 1 rfl<|R.nil ?_
                refine R.back (k+1,true,v5,((acc++([(⟨p,id⟩:Held)]))++([x1]))) rfl (by (exact ⟨by omega,by rw [cD l p id k _ hx1,← HA];first|(rw [cy (by omega)];first|(rw [if_pos (by assumption)];done)|(rw [if_neg (by assumption)];done))|(rw [bX (by first|exact .inl rfl|exact .inr (by omega))];first|(rw [if_pos (by assumption)];done)|(rw [if_neg (by assumption)];done))⟩)) (by dsimp only;omega) ⟨rfl,rfl,rfl,rfl,rfl,rfl,trivial⟩ (fun _=>Wd.aV [3,4,5] [0] rfl rfl rfl)
          ·
            refine R.qg rfl (q.eql rfl rfl (beq_eq_false_iff_ne.2 (by omega))) rfl<|R.u 9 rfl<|R.nil ?_
            refine R.aH rfl rfl ?_
            refine R.reg rfl<|R.q (q.bI 0 rfl rfl aM) rfl<|R.q (q.bI 2 rfl rfl aM) rfl<|?_
            by_cases h9:x1.Place=p
            ·
              refine R.q (q.gC (x:=x1.Place) (y:=p) eU rfl rfl h9) rfl<|R.nil ?_
              refine R.aH rfl rfl ?_
              refine R.reg rfl<|R.u 1 rfl<|R.q (q.add (r:=((k+1:Nat):Int)) rfl rfl (wr (by omega))) rfl<|R.u 1 rfl<|R.nil ?_
              refine R.back (k+1,false,v,acc) rfl (by (exact ⟨by omega,by rw [cD l p id k _ hx1,← HA];first|(rw [cy (by omega)];first|(rw [if_pos (by assumption)];done)|(rw [if_neg (by assumption)];done))|(rw [bX (by first|exact .inl rfl|exact .inr (by omega))];first|(rw [if_pos (by assumption)];done)|(rw [if_neg (by assumption)];done))⟩)) (by dsimp only;omega) ⟨rfl,rfl,rfl,rfl,rfl,rfl,trivial⟩ (fun _=>Wd.aV [1,2,3] [0] rfl rfl rfl)
            ·
              refine R.q (q.gZ (x:=x1.Place) (y:=p) eU rfl rfl h9) rfl<|R.nil ?_
              refine R.aI rfl rfl ?_
              refine R.reg rfl<|R.u 3 rfl<|R.q (q.idx (i:=k) (fun _=>Wd.aO 0 rfl) rfl rfl bj rfl hx1) rfl<|R.q (q.dx (ds:=[.int .i64 x1.Place.ag,.int .i64 x1.Place.Slot,.int .i64 x1.ao]) (fun _=>Wd.aO 0 rfl) hx1 rfl dh rfl) rfl<|?_
              refine R.s rfl (s.bs (l:=([x1]:List Held)) bj cO rfl rfl rfl rfl rfl rfl rfl) fun b8=>?_
              refine R.s rfl (s.app (l2:=[x1]) 2 _ rfl rfl rfl (fun _=>Wd.row 0 rfl) dr (by first|omega|(simp;omega)) (by first|omega|(simp;omega)) (fun _=>rfl) rfl) fun v6=>?_
              refine R.u 1 rfl<|R.nil ?_
              refine R.reg rfl<|R.u 1 rfl<|R.q (q.add (r:=((k+1:Nat):Int)) rfl rfl (wr (by omega))) rfl<|R.u 1 rfl<|R.nil ?_
              refine R.back (k+1,false,v6,(acc++([x1]))) rfl (by (exact ⟨by omega,by rw [cD l p id k _ hx1,← HA];first|(rw [cy (by omega)];first|(rw [if_pos (by assumption)];done)|(rw [if_neg (by assumption)];done))|(rw [bX (by first|exact .inl rfl|exact .inr (by omega))];first|(rw [if_pos (by assumption)];done)|(rw [if_neg (by assumption)];done))⟩)) (by dsimp only;omega) ⟨rfl,rfl,rfl,rfl,rfl,rfl,trivial⟩ (fun _=>Wd.aV [2,3,4] [0] rfl rfl rfl)
      ·
        refine R.u 20 rfl<|R.nil ?_
        refine R.aH rfl rfl ?_
        refine R.reg rfl<|R.q (q.bI 0 rfl rfl aM) rfl<|R.q (q.bI 2 rfl rfl aM) rfl<|?_
        by_cases h10:x1.Place=p
        ·
          refine R.q (q.gC (x:=x1.Place) (y:=p) eU rfl rfl h10) rfl<|R.nil ?_
          refine R.aH rfl rfl ?_
          refine R.reg rfl<|R.u 1 rfl<|R.q (q.add (r:=((k+1:Nat):Int)) rfl rfl (wr (by omega))) rfl<|R.u 1 rfl<|R.nil ?_
          refine R.back (k+1,true,v,acc) rfl (by (exact ⟨by omega,by rw [cD l p id k _ hx1,← HA];first|(rw [cy (by omega)];first|(rw [if_pos (by assumption)];done)|(rw [if_neg (by assumption)];done))|(rw [bX (by first|exact .inl rfl|exact .inr (by omega))];first|(rw [if_pos (by assumption)];done)|(rw [if_neg (by assumption)];done))⟩)) (by dsimp only;omega) ⟨rfl,rfl,rfl,rfl,rfl,rfl,trivial⟩ (fun _=>Wd.aV [1,2,3] [0] rfl rfl rfl)
        ·
          refine R.q (q.gZ (x:=x1.Place) (y:=p) eU rfl rfl h10) rfl<|R.nil ?_
          refine R.aI rfl rfl ?_
          refine R.reg rfl<|R.u 3 rfl<|R.q (q.idx (i:=k) (fun _=>Wd.aO 0 rfl) rfl rfl bj rfl hx1) rfl<|R.q (q.dx (ds:=[.int .i64 x1.Place.ag,.int .i64 x1.Place.Slot,.int .i64 x1.ao]) (fun _=>Wd.aO 0 rfl) hx1 rfl dh rfl) rfl<|?_
          refine R.s rfl (s.bs (l:=([x1]:List Held)) bj cO rfl rfl rfl rfl rfl rfl rfl) fun b9=>?_
          refine R.s rfl (s.app (l2:=[x1]) 2 _ rfl rfl rfl (fun _=>Wd.row 0 rfl) dr (by first|omega|(simp;omega)) (by first|omega|(simp;omega)) (fun _=>rfl) rfl) fun v7=>?_
          refine R.u 1 rfl<|R.nil ?_
          refine R.reg rfl<|R.u 1 rfl<|R.q (q.add (r:=((k+1:Nat):Int)) rfl rfl (wr (by omega))) rfl<|R.u 1 rfl<|R.nil ?_
          refine R.back (k+1,true,v7,(acc++([x1]))) rfl (by (exact ⟨by omega,by rw [cD l p id k _ hx1,← HA];first|(rw [cy (by omega)];first|(rw [if_pos (by assumption)];done)|(rw [if_neg (by assumption)];done))|(rw [bX (by first|exact .inl rfl|exact .inr (by omega))];first|(rw [if_pos (by assumption)];done)|(rw [if_neg (by assumption)];done))⟩)) (by dsimp only;omega) ⟨rfl,rfl,rfl,rfl,rfl,rfl,trivial⟩ (fun _=>Wd.aV [2,3,4] [0] rfl rfl rfl)
    ·
      refine R.q (q.lss rfl rfl (decide_eq_false (by omega))) rfl<|R.nil ?_
      refine R.aH rfl rfl ?_
      refine R.reg rfl<|R.u 1 rfl<|R.q (q.not rfl) rfl<|R.nil ?_
      cases laid
      ·
        refine R.aI rfl rfl ?_
        refine R.reg rfl<|R.u 1 rfl<|R.q (q.bI 1 rfl rfl aM) rfl<|R.u 1 rfl<|R.q (q.build (cs:=[.int .i64 p.ag,.int .i64 p.Slot,.int .i64 id]) ma rfl rfl) rfl<|?_
        refine R.s rfl (s.bs (l:=([(⟨p,id⟩:Held)]:List Held)) bj cO rfl rfl rfl rfl rfl rfl rfl) fun b10=>?_
        refine R.s rfl (s.app (l2:=[(⟨p,id⟩:Held)]) 1 _ rfl rfl rfl (fun _=>Wd.row 0 rfl) dr (by first|omega|(simp;omega)) (by first|omega|(simp;omega)) (fun _=>rfl) rfl) fun v8=>?_
        refine R.u 1 rfl<|R.nil ?_
        refine R.reg rfl<|R.u 2 rfl<|R.nil ?_
        have hz:gx l p id=(acc++([(⟨p,id⟩:Held)])):=by (unfold gx;rw [List.take_of_length_le (by omega)] at HA;rw [← HA];dsimp only;first|exact if_pos rfl|exact if_neg Bool.false_ne_true)
        rw [hz]
        exact R.w1 v8 [1,3] [] rfl Tryz.results73 (RV.tmp rfl) rfl rfl rfl rfl
      ·
        refine R.aH rfl rfl ?_
        refine R.reg rfl<|R.u 2 rfl<|R.nil ?_
        have hz:gx l p id=acc:=by (unfold gx;rw [List.take_of_length_le (by omega)] at HA;rw [← HA];dsimp only;first|exact if_pos rfl|exact if_neg Bool.false_ne_true)
        rw [hz]
        exact R.w1 v [0,2] [] rfl Tryz.results73 (RV.tmp rfl) rfl rfl rfl rfl
  ·
    refine R.q (q.eql rfl rfl (beq_eq_false_iff_ne.2 (by omega))) rfl<|R.u 1 rfl<|R.nil ?_
    refine R.reg rfl<|R.u 1 rfl<|R.nil ?_
    refine R.row0 (α:=Held) 93 ?_
    refine R.loop (fun g_:Nat×Bool×Value×(List Held)=>[(0,bk),(2,.int .i64 id),(4,.pointer (some ⟨b1,0,none⟩)),(7,g_.2.2.1),(8,.bool g_.2.1),(9,.int .i64 (g_.1:Int))]) (fun g_:Nat×Bool×Value×(List Held)=>[ah.row 93 g_.2.2.1 (g_.2.2.2:List Held),ah.box b1 [.int .i64 p.ag,.int .i64 p.Slot] 33,ah.held w own]) (fun g_:Nat×Bool×Value×(List Held)=>[ah.ls bk (l:List Held)]) (fun g_:Nat×Bool×Value×(List Held)=>g_.1≤l.length∧(g_.2.2.2,g_.2.1)=hJ (l.take g_.1) p id) (fun g_:Nat×Bool×Value×(List Held)=>l.length-g_.1) (0,false,(.slice none 0 0),[]) rfl (by exact ⟨by omega,by simp [hJ, *]⟩) ⟨rfl,rfl,rfl,rfl,rfl,rfl,trivial⟩ (fun _=>Wd.pick [0,1,2] [0] rfl rfl rfl) ?_
    rintro ⟨k,laid,v,acc⟩ ⟨hk,HA⟩
    dsimp only at *
    have hal:acc.length≤2*k:=by have:=nw (l.take k) p id;rw [← HA] at this;simp at this;omega
    refine R.reg rfl<|R.u 2 rfl<|R.q (q.len' (fun _=>Wd.aO 0 rfl) rfl Tryz.underlying27) rfl<|?_
    by_cases h11:k<l.length
    ·
      refine R.q (q.lss rfl rfl (decide_eq_true (by omega))) rfl<|R.nil ?_
      refine R.aI rfl rfl ?_
      refine R.reg rfl<|R.u 2 rfl<|?_
      obtain ⟨x2,hx2⟩:∃z,l[k]? = some z:=⟨_,List.getElem?_eq_getElem (by omega)⟩
      refine R.q (q.idx (i:=k) (fun _=>Wd.aO 0 rfl) rfl rfl bj rfl hx2) rfl<|R.q (q.eJ (j':=0) (fun _=>Wd.aO 0 rfl) hx2 rfl iG rfl) rfl<|R.q (q.dx (ds:=[.int .i64 x2.Place.ag,.int .i64 x2.Place.Slot]) (fun _=>Wd.aO 0 rfl) hx2 rfl aM rfl) rfl<|?_
      refine R.s rfl (s.alloc (cs:=[.int .i64 0,.int .i64 0]) kE rfl rfl) fun b11=>?_
      refine R.s rfl (s.st (us:=[.int .i64 x2.Place.ag,.int .i64 x2.Place.Slot]) (cs':=[.int .i64 x2.Place.ag,.int .i64 x2.Place.Slot]) 0 _ rfl rfl rfl rfl (.inl aM) rfl rfl rfl rfl) fun _=>?_
      refine R.nil ?_
      refine R.reg rfl<|R.u 1 rfl<|R.q (q.not rfl) rfl<|R.u 1 rfl<|?_
      cases laid
      ·
        refine R.qg rfl (q.aS (off':=0) rfl bZ rfl) rfl<|R.qg rfl (q.ld 2 rfl rfl aG rfl) rfl<|R.qg rfl (q.aS (off':=0) rfl bZ rfl) rfl<|R.qg rfl (q.ld 0 rfl rfl aG rfl) rfl<|?_
        by_cases h12:p.ag<x2.Place.ag
        ·
          refine R.qg rfl (q.lss rfl rfl (decide_eq_true (by omega))) rfl<|R.u 15 rfl<|R.nil ?_
          refine R.aI rfl rfl ?_
          refine R.reg rfl<|R.u 1 rfl<|R.q (q.bI 2 rfl rfl aM) rfl<|R.u 1 rfl<|R.q (q.build (cs:=[.int .i64 p.ag,.int .i64 p.Slot,.int .i64 id]) ma rfl rfl) rfl<|?_
          refine R.s rfl (s.bs (l:=([(⟨p,id⟩:Held)]:List Held)) bj cO rfl rfl rfl rfl rfl rfl rfl) fun b12=>?_
          refine R.s rfl (s.app (l2:=[(⟨p,id⟩:Held)]) 2 _ rfl rfl rfl (fun _=>Wd.row 0 rfl) dr (by first|omega|(simp;omega)) (by first|omega|(simp;omega)) (fun _=>rfl) rfl) fun v9=>?_
          refine R.u 1 rfl<|R.nil ?_
          refine R.reg rfl<|R.u 1 rfl<|R.nil ?_
          refine R.reg rfl<|R.q (q.bI 1 rfl rfl aM) rfl<|R.q (q.bI 3 rfl rfl aM) rfl<|?_
          by_cases yv:x2.Place=p
          ·
            refine R.q (q.gC (x:=x2.Place) (y:=p) eU rfl rfl yv) rfl<|R.nil ?_
            refine R.aH rfl rfl ?_
            refine R.reg rfl<|R.u 1 rfl<|R.q (q.add (r:=((k+1:Nat):Int)) rfl rfl (wr (by omega))) rfl<|R.u 1 rfl<|R.nil ?_
            refine R.back (k+1,true,v9,(acc++([(⟨p,id⟩:Held)]))) rfl (by (exact ⟨by omega,by rw [cD l p id k _ hx2,← HA];first|(rw [cy (by omega)];first|(rw [if_pos (by assumption)];done)|(rw [if_neg (by assumption)];done))|(rw [bX (by first|exact .inl rfl|exact .inr (by omega))];first|(rw [if_pos (by assumption)];done)|(rw [if_neg (by assumption)];done))⟩)) (by dsimp only;omega) ⟨rfl,rfl,rfl,rfl,rfl,rfl,trivial⟩ (fun _=>Wd.aV [2,3,4] [0] rfl rfl rfl)
          ·
            refine R.q (q.gZ (x:=x2.Place) (y:=p) eU rfl rfl yv) rfl<|R.nil ?_
            refine R.aI rfl rfl ?_
            refine R.reg rfl<|R.u 3 rfl<|R.q (q.idx (i:=k) (fun _=>Wd.aO 0 rfl) rfl rfl bj rfl hx2) rfl<|R.q (q.dx (ds:=[.int .i64 x2.Place.ag,.int .i64 x2.Place.Slot,.int .i64 x2.ao]) (fun _=>Wd.aO 0 rfl) hx2 rfl dh rfl) rfl<|?_
            refine R.s rfl (s.bs (l:=([x2]:List Held)) bj cO rfl rfl rfl rfl rfl rfl rfl) fun b13=>?_
            refine R.s rfl (s.app (l2:=[x2]) 3 _ rfl rfl rfl (fun _=>Wd.row 0 rfl) dr (by first|omega|(simp;omega)) (by first|omega|(simp;omega)) (fun _=>rfl) rfl) fun v10=>?_
            refine R.u 1 rfl<|R.nil ?_
            refine R.reg rfl<|R.u 1 rfl<|R.q (q.add (r:=((k+1:Nat):Int)) rfl rfl (wr (by omega))) rfl<|R.u 1 rfl<|R.nil ?_
            refine R.back (k+1,true,v10,((acc++([(⟨p,id⟩:Held)]))++([x2]))) rfl (by (exact ⟨by omega,by rw [cD l p id k _ hx2,← HA];first|(rw [cy (by omega)];first|(rw [if_pos (by assumption)];done)|(rw [if_neg (by assumption)];done))|(rw [bX (by first|exact .inl rfl|exact .inr (by omega))];first|(rw [if_pos (by assumption)];done)|(rw [if_neg (by assumption)];done))⟩)) (by dsimp only;omega) ⟨rfl,rfl,rfl,rfl,rfl,rfl,trivial⟩ (fun _=>Wd.aV [3,4,5] [0] rfl rfl rfl)
        ·
          refine R.qg rfl (q.lss rfl rfl (decide_eq_false (by omega))) rfl<|R.u 1 rfl<|R.qg rfl (q.aS (off':=0) rfl bZ rfl) rfl<|R.qg rfl (q.ld 2 rfl rfl aG rfl) rfl<|R.qg rfl (q.aS (off':=0) rfl bZ rfl) rfl<|R.qg rfl (q.ld 0 rfl rfl aG rfl) rfl<|?_
          by_cases zk:p.ag=x2.Place.ag
          ·
            refine R.qg rfl (q.eql rfl rfl (beq_iff_eq.2 (by omega))) rfl<|R.u 1 rfl<|R.qg rfl (q.aS (off':=1) rfl eE rfl) rfl<|R.qg rfl (q.ld 2 rfl rfl aG rfl) rfl<|R.qg rfl (q.aS (off':=1) rfl eE rfl) rfl<|R.qg rfl (q.ld 0 rfl rfl aG rfl) rfl<|?_
            by_cases zN:x2.Place.Slot<p.Slot
            ·
              refine R.qg rfl (q.leq rfl rfl (decide_eq_false (by omega))) rfl<|R.u 3 rfl<|R.nil ?_
              refine R.aH rfl rfl ?_
              refine R.reg rfl<|R.q (q.bI 0 rfl rfl aM) rfl<|R.q (q.bI 2 rfl rfl aM) rfl<|?_
              by_cases h16:x2.Place=p
              ·
                refine R.q (q.gC (x:=x2.Place) (y:=p) eU rfl rfl h16) rfl<|R.nil ?_
                refine R.aH rfl rfl ?_
                refine R.reg rfl<|R.u 1 rfl<|R.q (q.add (r:=((k+1:Nat):Int)) rfl rfl (wr (by omega))) rfl<|R.u 1 rfl<|R.nil ?_
                refine R.back (k+1,false,v,acc) rfl (by (exact ⟨by omega,by rw [cD l p id k _ hx2,← HA];first|(rw [cy (by omega)];first|(rw [if_pos (by assumption)];done)|(rw [if_neg (by assumption)];done))|(rw [bX (by first|exact .inl rfl|exact .inr (by omega))];first|(rw [if_pos (by assumption)];done)|(rw [if_neg (by assumption)];done))⟩)) (by dsimp only;omega) ⟨rfl,rfl,rfl,rfl,rfl,rfl,trivial⟩ (fun _=>Wd.aV [1,2,3] [0] rfl rfl rfl)
              ·
                refine R.q (q.gZ (x:=x2.Place) (y:=p) eU rfl rfl h16) rfl<|R.nil ?_
                refine R.aI rfl rfl ?_
                refine R.reg rfl<|R.u 3 rfl<|R.q (q.idx (i:=k) (fun _=>Wd.aO 0 rfl) rfl rfl bj rfl hx2) rfl<|R.q (q.dx (ds:=[.int .i64 x2.Place.ag,.int .i64 x2.Place.Slot,.int .i64 x2.ao]) (fun _=>Wd.aO 0 rfl) hx2 rfl dh rfl) rfl<|?_
                refine R.s rfl (s.bs (l:=([x2]:List Held)) bj cO rfl rfl rfl rfl rfl rfl rfl) fun b14=>?_
                refine R.s rfl (s.app (l2:=[x2]) 2 _ rfl rfl rfl (fun _=>Wd.row 0 rfl) dr (by first|omega|(simp;omega)) (by first|omega|(simp;omega)) (fun _=>rfl) rfl) fun v11=>?_
                refine R.u 1 rfl<|R.nil ?_
                refine R.reg rfl<|R.u 1 rfl<|R.q (q.add (r:=((k+1:Nat):Int)) rfl rfl (wr (by omega))) rfl<|R.u 1 rfl<|R.nil ?_
                refine R.back (k+1,false,v11,(acc++([x2]))) rfl (by (exact ⟨by omega,by rw [cD l p id k _ hx2,← HA];first|(rw [cy (by omega)];first|(rw [if_pos (by assumption)];done)|(rw [if_neg (by assumption)];done))|(rw [bX (by first|exact .inl rfl|exact .inr (by omega))];first|(rw [if_pos (by assumption)];done)|(rw [if_neg (by assumption)];done))⟩)) (by dsimp only;omega) ⟨rfl,rfl,rfl,rfl,rfl,rfl,trivial⟩ (fun _=>Wd.aV [2,3,4] [0] rfl rfl rfl)
            ·
              refine R.qg rfl (q.leq rfl rfl (decide_eq_true (by omega))) rfl<|R.u 3 rfl<|R.nil ?_
              refine R.aI rfl rfl ?_
              refine R.reg rfl<|R.u 1 rfl<|R.q (q.bI 2 rfl rfl aM) rfl<|R.u 1 rfl<|R.q (q.build (cs:=[.int .i64 p.ag,.int .i64 p.Slot,.int .i64 id]) ma rfl rfl) rfl<|?_
              refine R.s rfl (s.bs (l:=([(⟨p,id⟩:Held)]:List Held)) bj cO rfl rfl rfl rfl rfl rfl rfl) fun b15=>?_
              refine R.s rfl (s.app (l2:=[(⟨p,id⟩:Held)]) 2 _ rfl rfl rfl (fun _=>Wd.row 0 rfl) dr (by first|omega|(simp;omega)) (by first|omega|(simp;omega)) (fun _=>rfl) rfl) fun v12=>?_
              refine R.u 1 rfl<|R.nil ?_
              refine R.reg rfl<|R.u 1 rfl<|R.nil ?_
              refine R.reg rfl<|R.q (q.bI 1 rfl rfl aM) rfl<|R.q (q.bI 3 rfl rfl aM) rfl<|?_
              by_cases yN:x2.Place=p
              ·
                refine R.q (q.gC (x:=x2.Place) (y:=p) eU rfl rfl yN) rfl<|R.nil ?_
                refine R.aH rfl rfl ?_
                refine R.reg rfl<|R.u 1 rfl<|R.q (q.add (r:=((k+1:Nat):Int)) rfl rfl (wr (by omega))) rfl<|R.u 1 rfl<|R.nil ?_
                refine R.back (k+1,true,v12,(acc++([(⟨p,id⟩:Held)]))) rfl (by (exact ⟨by omega,by rw [cD l p id k _ hx2,← HA];first|(rw [cy (by omega)];first|(rw [if_pos (by assumption)];done)|(rw [if_neg (by assumption)];done))|(rw [bX (by first|exact .inl rfl|exact .inr (by omega))];first|(rw [if_pos (by assumption)];done)|(rw [if_neg (by assumption)];done))⟩)) (by dsimp only;omega) ⟨rfl,rfl,rfl,rfl,rfl,rfl,trivial⟩ (fun _=>Wd.aV [2,3,4] [0] rfl rfl rfl)
              ·
                refine R.q (q.gZ (x:=x2.Place) (y:=p) eU rfl rfl yN) rfl<|R.nil ?_
                refine R.aI rfl rfl ?_
                refine R.reg rfl<|R.u 3 rfl<|R.q (q.idx (i:=k) (fun _=>Wd.aO 0 rfl) rfl rfl bj rfl hx2) rfl<|R.q (q.dx (ds:=[.int .i64 x2.Place.ag,.int .i64 x2.Place.Slot,.int .i64 x2.ao]) (fun _=>Wd.aO 0 rfl) hx2 rfl dh rfl) rfl<|?_
                refine R.s rfl (s.bs (l:=([x2]:List Held)) bj cO rfl rfl rfl rfl rfl rfl rfl) fun b16=>?_
                refine R.s rfl (s.app (l2:=[x2]) 3 _ rfl rfl rfl (fun _=>Wd.row 0 rfl) dr (by first|omega|(simp;omega)) (by first|omega|(simp;omega)) (fun _=>rfl) rfl) fun v13=>?_
                refine R.u 1 rfl<|R.nil ?_
                refine R.reg rfl<|R.u 1 rfl<|R.q (q.add (r:=((k+1:Nat):Int)) rfl rfl (wr (by omega))) rfl<|R.u 1 rfl<|R.nil ?_
                refine R.back (k+1,true,v13,((acc++([(⟨p,id⟩:Held)]))++([x2]))) rfl (by (exact ⟨by omega,by rw [cD l p id k _ hx2,← HA];first|(rw [cy (by omega)];first|(rw [if_pos (by assumption)];done)|(rw [if_neg (by assumption)];done))|(rw [bX (by first|exact .inl rfl|exact .inr (by omega))];first|(rw [if_pos (by assumption)];done)|(rw [if_neg (by assumption)];done))⟩)) (by dsimp only;omega) ⟨rfl,rfl,rfl,rfl,rfl,rfl,trivial⟩ (fun _=>Wd.aV [3,4,5] [0] rfl rfl rfl)
          ·
            refine R.qg rfl (q.eql rfl rfl (beq_eq_false_iff_ne.2 (by omega))) rfl<|R.u 9 rfl<|R.nil ?_
            refine R.aH rfl rfl ?_
            refine R.reg rfl<|R.q (q.bI 0 rfl rfl aM) rfl<|R.q (q.bI 2 rfl rfl aM) rfl<|?_
            by_cases h18:x2.Place=p
            ·
              refine R.q (q.gC (x:=x2.Place) (y:=p) eU rfl rfl h18) rfl<|R.nil ?_
              refine R.aH rfl rfl ?_
              refine R.reg rfl<|R.u 1 rfl<|R.q (q.add (r:=((k+1:Nat):Int)) rfl rfl (wr (by omega))) rfl<|R.u 1 rfl<|R.nil ?_
              refine R.back (k+1,false,v,acc) rfl (by (exact ⟨by omega,by rw [cD l p id k _ hx2,← HA];first|(rw [cy (by omega)];first|(rw [if_pos (by assumption)];done)|(rw [if_neg (by assumption)];done))|(rw [bX (by first|exact .inl rfl|exact .inr (by omega))];first|(rw [if_pos (by assumption)];done)|(rw [if_neg (by assumption)];done))⟩)) (by dsimp only;omega) ⟨rfl,rfl,rfl,rfl,rfl,rfl,trivial⟩ (fun _=>Wd.aV [1,2,3] [0] rfl rfl rfl)
            ·
              refine R.q (q.gZ (x:=x2.Place) (y:=p) eU rfl rfl h18) rfl<|R.nil ?_
              refine R.aI rfl rfl ?_
              refine R.reg rfl<|R.u 3 rfl<|R.q (q.idx (i:=k) (fun _=>Wd.aO 0 rfl) rfl rfl bj rfl hx2) rfl<|R.q (q.dx (ds:=[.int .i64 x2.Place.ag,.int .i64 x2.Place.Slot,.int .i64 x2.ao]) (fun _=>Wd.aO 0 rfl) hx2 rfl dh rfl) rfl<|?_
              refine R.s rfl (s.bs (l:=([x2]:List Held)) bj cO rfl rfl rfl rfl rfl rfl rfl) fun b17=>?_
              refine R.s rfl (s.app (l2:=[x2]) 2 _ rfl rfl rfl (fun _=>Wd.row 0 rfl) dr (by first|omega|(simp;omega)) (by first|omega|(simp;omega)) (fun _=>rfl) rfl) fun v14=>?_
              refine R.u 1 rfl<|R.nil ?_
              refine R.reg rfl<|R.u 1 rfl<|R.q (q.add (r:=((k+1:Nat):Int)) rfl rfl (wr (by omega))) rfl<|R.u 1 rfl<|R.nil ?_
              refine R.back (k+1,false,v14,(acc++([x2]))) rfl (by (exact ⟨by omega,by rw [cD l p id k _ hx2,← HA];first|(rw [cy (by omega)];first|(rw [if_pos (by assumption)];done)|(rw [if_neg (by assumption)];done))|(rw [bX (by first|exact .inl rfl|exact .inr (by omega))];first|(rw [if_pos (by assumption)];done)|(rw [if_neg (by assumption)];done))⟩)) (by dsimp only;omega) ⟨rfl,rfl,rfl,rfl,rfl,rfl,trivial⟩ (fun _=>Wd.aV [2,3,4] [0] rfl rfl rfl)
      ·
        refine R.u 20 rfl<|R.nil ?_
        refine R.aH rfl rfl ?_
        refine R.reg rfl<|R.q (q.bI 0 rfl rfl aM) rfl<|R.q (q.bI 2 rfl rfl aM) rfl<|?_
        by_cases h19:x2.Place=p
        ·
          refine R.q (q.gC (x:=x2.Place) (y:=p) eU rfl rfl h19) rfl<|R.nil ?_
          refine R.aH rfl rfl ?_
          refine R.reg rfl<|R.u 1 rfl<|R.q (q.add (r:=((k+1:Nat):Int)) rfl rfl (wr (by omega))) rfl<|R.u 1 rfl<|R.nil ?_
          refine R.back (k+1,true,v,acc) rfl (by (exact ⟨by omega,by rw [cD l p id k _ hx2,← HA];first|(rw [cy (by omega)];first|(rw [if_pos (by assumption)];done)|(rw [if_neg (by assumption)];done))|(rw [bX (by first|exact .inl rfl|exact .inr (by omega))];first|(rw [if_pos (by assumption)];done)|(rw [if_neg (by assumption)];done))⟩)) (by dsimp only;omega) ⟨rfl,rfl,rfl,rfl,rfl,rfl,trivial⟩ (fun _=>Wd.aV [1,2,3] [0] rfl rfl rfl)
        ·
          refine R.q (q.gZ (x:=x2.Place) (y:=p) eU rfl rfl h19) rfl<|R.nil ?_
          refine R.aI rfl rfl ?_
          refine R.reg rfl<|R.u 3 rfl<|R.q (q.idx (i:=k) (fun _=>Wd.aO 0 rfl) rfl rfl bj rfl hx2) rfl<|R.q (q.dx (ds:=[.int .i64 x2.Place.ag,.int .i64 x2.Place.Slot,.int .i64 x2.ao]) (fun _=>Wd.aO 0 rfl) hx2 rfl dh rfl) rfl<|?_
          refine R.s rfl (s.bs (l:=([x2]:List Held)) bj cO rfl rfl rfl rfl rfl rfl rfl) fun b18=>?_
          refine R.s rfl (s.app (l2:=[x2]) 2 _ rfl rfl rfl (fun _=>Wd.row 0 rfl) dr (by first|omega|(simp;omega)) (by first|omega|(simp;omega)) (fun _=>rfl) rfl) fun v15=>?_
          refine R.u 1 rfl<|R.nil ?_
          refine R.reg rfl<|R.u 1 rfl<|R.q (q.add (r:=((k+1:Nat):Int)) rfl rfl (wr (by omega))) rfl<|R.u 1 rfl<|R.nil ?_
          refine R.back (k+1,true,v15,(acc++([x2]))) rfl (by (exact ⟨by omega,by rw [cD l p id k _ hx2,← HA];first|(rw [cy (by omega)];first|(rw [if_pos (by assumption)];done)|(rw [if_neg (by assumption)];done))|(rw [bX (by first|exact .inl rfl|exact .inr (by omega))];first|(rw [if_pos (by assumption)];done)|(rw [if_neg (by assumption)];done))⟩)) (by dsimp only;omega) ⟨rfl,rfl,rfl,rfl,rfl,rfl,trivial⟩ (fun _=>Wd.aV [2,3,4] [0] rfl rfl rfl)
    ·
      refine R.q (q.lss rfl rfl (decide_eq_false (by omega))) rfl<|R.nil ?_
      refine R.aH rfl rfl ?_
      refine R.reg rfl<|R.u 1 rfl<|R.q (q.not rfl) rfl<|R.nil ?_
      cases laid
      ·
        refine R.aI rfl rfl ?_
        refine R.reg rfl<|R.u 1 rfl<|R.q (q.bI 1 rfl rfl aM) rfl<|R.u 1 rfl<|R.q (q.build (cs:=[.int .i64 p.ag,.int .i64 p.Slot,.int .i64 id]) ma rfl rfl) rfl<|?_
        refine R.s rfl (s.bs (l:=([(⟨p,id⟩:Held)]:List Held)) bj cO rfl rfl rfl rfl rfl rfl rfl) fun b19=>?_
        refine R.s rfl (s.app (l2:=[(⟨p,id⟩:Held)]) 1 _ rfl rfl rfl (fun _=>Wd.row 0 rfl) dr (by first|omega|(simp;omega)) (by first|omega|(simp;omega)) (fun _=>rfl) rfl) fun v16=>?_
        refine R.u 1 rfl<|R.nil ?_
        refine R.reg rfl<|R.u 2 rfl<|R.nil ?_
        have hz:gx l p id=(acc++([(⟨p,id⟩:Held)])):=by (unfold gx;rw [List.take_of_length_le (by omega)] at HA;rw [← HA];dsimp only;first|exact if_pos rfl|exact if_neg Bool.false_ne_true)
        rw [hz]
        exact R.w1 v16 [1,3] [] rfl Tryz.results73 (RV.tmp rfl) rfl rfl rfl rfl
      ·
        refine R.aH rfl rfl ?_
        refine R.reg rfl<|R.u 2 rfl<|R.nil ?_
        have hz:gx l p id=acc:=by (unfold gx;rw [List.take_of_length_le (by omega)] at HA;rw [← HA];dsimp only;first|exact if_pos rfl|exact if_neg Bool.false_ne_true)
        rw [hz]
        exact R.w1 v [0,2] [] rfl Tryz.results73 (RV.tmp rfl) rfl rfl rfl rfl
end Go.Proofs.YtpipachmngdegaaGreat
end
