import Derived.Test.YtpipachmngdegaaTCP21
import Derived.Test.YtpipachmngdegaaTCP17
import Derived.Test.YtpipachmngdegaaTCP22
section
namespace Go.Proofs.Ytpipachmngdegaa
open Go Go.RowKit
set_option linter.unusedVariables false
set_option linter.unusedSimpArgs false
set_option maxRecDepth 100000
theorem iK (bR:Value)(l:List Change)(w:World)(own:List Nat)(H:Wd w (blks []++own) ([]++[ah.held w own]) [ah.ls bR (l:List Change)] w)(hl:l.length≤1000000):Calls Try.prog 60 #[bR] w fun e w' => ∃z:Value,e = .returned (z)∧Wd w (blks []++own) ([ah.row 51 z (l:List Change)]++[ah.held w own]) [] w':=by
  have vC:=H.jD 0 rfl
  refine R.bW (n:=8) (vs:=[bR]) (B:=[ah.held w own]) [(0,bR)] Try.func60 rfl rfl rfl rfl H ?_
  refine R.reg rfl<|R.u 1 rfl<|R.nil ?_
  refine R.reg rfl<|R.u 1 rfl<|?_
  rcases Bool.eq_false_or_eq_true (lC bR) with h1|h1
  ·
    refine R.q (q.xh (congrArg Value.bool h1) (q.qu (fun _=>Wd.bZ 0 rfl) rfl rfl Try.underlying46)) rfl<|R.nil ?_
    refine R.aK rfl rfl ?_
    refine R.reg rfl<|R.u 1 rfl<|R.nil ?_
    refine R.row0 (α:=Change) 51 ?_
    have hz:l=[]:=by (first|rfl|exact (List.nil_append _).symm|exact Sl.lC (H.bZ 0 rfl) (by assumption))
    rw [hz]
    exact R.w1 (.slice none 0 0) [0,1] [] rfl Try.results60 (RV.tmp rfl) rfl rfl rfl rfl
  ·
    refine R.q (q.xh (congrArg Value.bool h1) (q.qu (fun _=>Wd.bZ 0 rfl) rfl rfl Try.underlying46)) rfl<|R.nil ?_
    refine R.aI rfl rfl ?_
    refine R.reg rfl<|?_
    refine R.s rfl (s.bs (l:=([]:List Change)) aT bT rfl rfl rfl rfl rfl rfl rfl) fun b1=>?_
    refine R.u 1 rfl<|?_
    refine R.s rfl (s.app (l2:=l) 0 _ rfl rfl rfl (fun _=>Wd.bZ 0 rfl) ek (by simp;omega) (by simp;omega) (fun _=>rfl) rfl) fun v1=>?_
    refine R.u 1 rfl<|R.nil ?_
    have hz:l=(([])++l):=by (first|rfl|exact (List.nil_append _).symm|exact Sl.lC (H.bZ 0 rfl) (by assumption))
    rw [hz]
    exact R.w1 v1 [0,1] [] rfl Try.results60 (RV.tmp rfl) rfl rfl rfl rfl
theorem kv (bR:Value)(l:List Change)(i:Nat)(j:Nat)(w:World)(own:List Nat)(H:Wd w (blks [ah.row 51 bR (l:List Change)]++own) ([ah.row 51 bR (l:List Change)]++[ah.held w own]) [] w)(hij:i≤j∧j≤l.length):Calls Try.prog 67 #[bR,.int .i64 (i:Int),.int .i64 (j:Int)] w fun e w' => ∃z:Value,e = .returned (z)∧Wd w (blks [ah.row 51 bR (l:List Change)]++own) ([ah.row 51 z ((l.take i++l.drop j):List Change)]++[ah.held w own]) [] w':=by
  have wb:=H.cap 0 rfl;have vC:=H.aU 0 rfl
  refine R.bW (n:=33) (vs:=[bR,.int .i64 (i:Int),.int .i64 (j:Int)]) (B:=[ah.row 51 bR (l:List Change),ah.held w own]) [(0,bR),(1,.int .i64 (i:Int)),(2,.int .i64 (j:Int))] Try.func67 rfl rfl rfl rfl H ?_
  refine R.reg rfl<|R.u 1 rfl<|R.nil ?_
  refine R.reg rfl<|R.u 4 rfl<|R.q (q.len' (fun _=>Wd.row 0 rfl) rfl Try.underlying46) rfl<|R.q (q.qp (i:=i) (j:=j) (q':=l.length) (fun _=>Wd.row 0 rfl) rfl rfl rfl rfl aT rfl rfl rfl (by omega) (by omega) (by omega)) rfl<|R.nil ?_
  refine R.reg rfl<|R.u 2 rfl<|?_
  by_cases h1:i=j
  ·
    refine R.q (q.eql rfl rfl (beq_iff_eq.2 (by omega))) rfl<|R.nil ?_
    refine R.aK rfl rfl ?_
    refine R.reg rfl<|R.u 2 rfl<|R.nil ?_
    have hz:l.take i++l.drop j=l:=by (first|rfl|exact lO (by omega))
    rw [hz]
    exact R.w1 bR [0,1] [] rfl Try.results67 (RV.tmp rfl) rfl rfl rfl rfl
  ·
    refine R.q (q.eql rfl rfl (beq_eq_false_iff_ne.2 (by omega))) rfl<|R.nil ?_
    refine R.aI rfl rfl ?_
    refine R.reg rfl<|R.u 1 rfl<|R.q (q.len' (fun _=>Wd.row 0 rfl) rfl Try.underlying46) rfl<|R.u 1 rfl<|R.nil ?_
    refine R.eT (fuel:=8) (Wd w (blks [ah.row 51 bR (l:List Change)]++own) [ah.held w own] []) rfl mixed rfl ?_
    refine D.q (i:=0) rfl (by kernel_rfl) (fun _=>Wd.aA [1] [] rfl rfl rfl) rfl (q.mv rfl) rfl<|D.q (i:=1) rfl (by kernel_rfl) (fun _=>Wd.aA [1] [] rfl rfl rfl) rfl (q.mv rfl) rfl<|D.q (i:=3) rfl (by kernel_rfl) (fun _=>Wd.aA [1] [] rfl rfl rfl) rfl (q.mv rfl) rfl<|D.q (i:=4) rfl (by kernel_rfl) (fun _=>Wd.aA [1] [] rfl rfl rfl) rfl (q.mv rfl) rfl<|?_
    refine D.two (i:=2) (j:=5) (by kernel_rfl) rfl rfl ?_ ?_
    ·
      refine Do.s (s.c (Qt.a (q.iV (i:=i) (fun _=>Wd.row 0 rfl) rfl rfl Try.underlying46 nP rfl (by first|omega|(simp;omega)))) rfl) (fun _=>(fun _=>Wd.aA [1] [] rfl rfl rfl)) rfl fun _=>?_
      refine D.one (i:=5) (by kernel_rfl) rfl ?_
      refine Do.s (s.c (Qt.a (q.cJ (i:=j) (fun _=>Wd.row 0 rfl) rfl rfl aT rfl (by first|omega|(simp;omega)))) rfl) (fun _=>(fun _=>Wd.aA [1] [] rfl rfl rfl)) rfl fun _=>?_
      refine D.one (i:=6) (by kernel_rfl) rfl ?_
      refine Do.s (s.sA (a:=i) (l2:=(l.drop j)) 0 _ rfl rfl rfl (fun w hw=>Sl.from ((fun _=>Wd.row 0 rfl) w hw) (by omega)) ek (by omega) (by simp;omega) rfl rfl) (fun _=>(fun _=>Wd.aA [1] [] rfl rfl rfl)) rfl fun _=>?_
      refine D.q (i:=7) rfl (by kernel_rfl) (fun _=>Wd.aA [1] [] rfl rfl rfl) rfl (q.as rfl) rfl<|D.done (by kernel_rfl)<|?_
      refine R.reg rfl<|R.u 2 rfl<|R.q (q.len' (fun _=>Wd.row 0 rfl) rfl Try.underlying46) rfl<|R.u 1 rfl<|R.q (q.sl2 (i:=(l.take i++(l.drop j)).length) (j:=l.length) (fun _=>Wd.row 0 rfl) rfl rfl rfl aT rfl rfl (by first|omega|(simp;omega)) (by first|assumption|omega|(simp;omega)|(simp [eN];omega))) rfl<|?_
      refine R.s rfl (s.vm (lo:=(l.take i++(l.drop j)).length) (hi:=l.length) (z0:=(⟨⟨#[]⟩,⟨#[]⟩,false⟩:Change)) 0 rfl rfl aT bT rfl (by first|omega|(simp;omega)) (by first|omega|(simp;omega)) (by first|assumption|omega|(simp;omega)|(simp [eN];omega))) fun _=>?_
      refine R.nil ?_
      refine R.reg rfl<|R.u 2 rfl<|R.nil ?_
      have hz:l.take i++l.drop j=(l.take i++(l.drop j)):=by (first|rfl|exact lO (by omega))
      rw [hz]
      exact R.w1 (iV bR (i+(l.drop j).length)) [0,1] [] rfl Try.results67 (RV.tmp rfl) rfl rfl rfl rfl
    ·
      refine Do.s (s.c (Qt.a (q.cJ (i:=j) (fun _=>Wd.row 0 rfl) rfl rfl aT rfl (by first|omega|(simp;omega)))) rfl) (fun _=>(fun _=>Wd.aA [1] [] rfl rfl rfl)) rfl fun _=>?_
      refine D.one (i:=2) (by kernel_rfl) rfl ?_
      refine Do.s (s.c (Qt.a (q.iV (i:=i) (fun _=>Wd.row 0 rfl) rfl rfl Try.underlying46 nP rfl (by first|omega|(simp;omega)))) rfl) (fun _=>(fun _=>Wd.aA [1] [] rfl rfl rfl)) rfl fun _=>?_
      refine D.one (i:=6) (by kernel_rfl) rfl ?_
      refine Do.s (s.sA (a:=i) (l2:=(l.drop j)) 0 _ rfl rfl rfl (fun w hw=>Sl.from ((fun _=>Wd.row 0 rfl) w hw) (by omega)) ek (by omega) (by simp;omega) rfl rfl) (fun _=>(fun _=>Wd.aA [1] [] rfl rfl rfl)) rfl fun _=>?_
      refine D.q (i:=7) rfl (by kernel_rfl) (fun _=>Wd.aA [1] [] rfl rfl rfl) rfl (q.as rfl) rfl<|D.done (by kernel_rfl)<|?_
      refine R.reg rfl<|R.u 2 rfl<|R.q (q.len' (fun _=>Wd.row 0 rfl) rfl Try.underlying46) rfl<|R.u 1 rfl<|R.q (q.sl2 (i:=(l.take i++(l.drop j)).length) (j:=l.length) (fun _=>Wd.row 0 rfl) rfl rfl rfl aT rfl rfl (by first|omega|(simp;omega)) (by first|assumption|omega|(simp;omega)|(simp [eN];omega))) rfl<|?_
      refine R.s rfl (s.vm (lo:=(l.take i++(l.drop j)).length) (hi:=l.length) (z0:=(⟨⟨#[]⟩,⟨#[]⟩,false⟩:Change)) 0 rfl rfl aT bT rfl (by first|omega|(simp;omega)) (by first|omega|(simp;omega)) (by first|assumption|omega|(simp;omega)|(simp [eN];omega))) fun _=>?_
      refine R.nil ?_
      refine R.reg rfl<|R.u 2 rfl<|R.nil ?_
      have hz:l.take i++l.drop j=(l.take i++(l.drop j)):=by (first|rfl|exact lO (by omega))
      rw [hz]
      exact R.w1 (iV bR (i+(l.drop j).length)) [0,1] [] rfl Try.results67 (RV.tmp rfl) rfl rfl rfl rfl
set_option maxRecDepth 100000 in
theorem kx (bR:Value)(l:List Change)(i:Nat)(s8:Value)(u:List Change)(w:World)(own:List Nat)(H:Wd w (blks [ah.row 51 bR (l:List Change),ah.row 51 s8 (u:List Change)]++own) ([ah.row 51 bR (l:List Change),ah.row 51 s8 (u:List Change)]++[ah.held w own]) [] w)(hi:i≤l.length)(hu:u.length=1)(hl:l.length≤1000000):Calls Try.prog 68 #[bR,.int .i64 (i:Int),s8] w fun e w' => ∃z:Value,e = .returned (z)∧Wd w (blks [ah.row 51 bR (l:List Change),ah.row 51 s8 (u:List Change)]++own) ([ah.row 51 z ((l.take i++u++l.drop i):List Change)]++[ah.held w own]) [] w':=by
  have wb:=H.cap 0 rfl;have vC:=H.aU 0 rfl
  have Aq:=H.cap 1 rfl;have Ar:=H.aU 1 rfl
  refine R.bW (n:=95) (vs:=[bR,.int .i64 (i:Int),s8]) (B:=[ah.row 51 bR (l:List Change),ah.row 51 s8 (u:List Change),ah.held w own]) [(0,bR),(1,.int .i64 (i:Int)),(2,s8)] Try.func68 rfl rfl rfl rfl H ?_
  refine R.reg rfl<|R.u 1 rfl<|R.nil ?_
  refine R.reg rfl<|R.u 2 rfl<|R.q (q.cJ (i:=i) (fun _=>Wd.row 0 rfl) rfl rfl aT rfl (by first|omega|(simp;omega))) rfl<|R.nil ?_
  refine R.reg rfl<|R.u 1 rfl<|R.q (q.len' (fun _=>Wd.row 1 rfl) rfl Try.underlying46) rfl<|R.u 1 rfl<|R.nil ?_
  refine R.reg rfl<|R.u 1 rfl<|?_
  by_cases h1:u.length=0
  ·
    refine R.q (q.eql rfl rfl (beq_iff_eq.2 (by omega))) rfl<|R.nil ?_
    refine R.aK rfl rfl ?_
    refine R.reg rfl<|R.u 2 rfl<|R.nil ?_
    have hz:l.take i++u++l.drop i=l:=by (first|(exfalso;omega)|exact j5 (by omega)|exact i6 hu (by omega) rfl|exact lN hu (by omega))
    rw [hz]
    exact R.w1 bR [0,2] [] rfl Try.results68 (RV.tmp rfl) rfl rfl rfl rfl
  ·
    refine R.q (q.eql rfl rfl (beq_eq_false_iff_ne.2 (by omega))) rfl<|R.nil ?_
    refine R.aI rfl rfl ?_
    refine R.reg rfl<|R.u 1 rfl<|R.q (q.len' (fun _=>Wd.row 0 rfl) rfl Try.underlying46) rfl<|R.u 1 rfl<|R.nil ?_
    refine R.reg rfl<|R.u 2 rfl<|?_
    by_cases h2:i=l.length
    ·
      refine R.q (q.eql rfl rfl (beq_iff_eq.2 (by omega))) rfl<|R.nil ?_
      refine R.aK rfl rfl ?_
      refine R.reg rfl<|R.u 2 rfl<|?_
      refine R.s rfl (s.app (l2:=u) 0 _ rfl rfl rfl (fun _=>Wd.row 1 rfl) ek (by first|omega|(simp;done)|(simp;omega)) (by first|omega|(simp;done)|(simp;omega)) (fun _=>rfl) rfl) fun v1=>?_
      refine R.u 1 rfl<|R.nil ?_
      have hz:l.take i++u++l.drop i=(l++u):=by (first|(exfalso;omega)|exact j5 (by omega)|exact i6 hu (by omega) rfl|exact lN hu (by omega))
      rw [hz]
      exact R.w1 v1 [0,2] [] rfl Try.results68 (RV.tmp rfl) rfl rfl rfl rfl
    ·
      refine R.q (q.eql rfl rfl (beq_eq_false_iff_ne.2 (by omega))) rfl<|R.nil ?_
      refine R.aI rfl rfl ?_
      refine R.reg rfl<|R.u 2 rfl<|R.q (q.add (r:=((l.length+u.length:Nat):Int)) rfl rfl (wr (by omega))) rfl<|R.u 1 rfl<|R.q (q.cap (fun _=>Wd.row 0 rfl) rfl Try.underlying46) rfl<|?_
      by_cases h3:(fP bR)<(l.length+u.length)
      ·
        refine R.q (q.gtr rfl rfl (decide_eq_true (by omega))) rfl<|R.nil ?_
        refine R.aK rfl rfl ?_
        refine R.reg rfl<|R.u 2 rfl<|R.q (q.iV (i:=i) (fun _=>Wd.row 0 rfl) rfl rfl Try.underlying46 nP rfl (by first|omega|(simp;omega))) rfl<|R.u 2 rfl<|R.q (q.add (r:=((l.length+u.length:Nat):Int)) rfl rfl (wr (by omega))) rfl<|R.u 1 rfl<|R.q (q.sub (r:=(((l.length+u.length)-i:Nat):Int)) rfl rfl (wr (by omega))) rfl<|?_
        refine R.s rfl (s.uo (o:=i) (m:=((l.length+u.length)-i)) (z0:=(⟨⟨#[]⟩,⟨#[]⟩,false⟩:Change)) 0 rfl rfl rfl rfl ek Try.underlying3 bT rfl (by omega) (by omega) (by omega) (by omega) (by omega) rfl) fun v2=>?_
        refine R.u 1 rfl<|R.nil ?_
        refine R.reg rfl<|R.u 2 rfl<|R.q (q.cJ (i:=i) (fun _=>Wd.row 0 rfl) rfl rfl aT rfl (by first|omega|(simp;omega))) rfl<|R.u 1 rfl<|?_
        refine R.s rfl (s.qq (o:=i) (l2:=u) 0 _ rfl (fun _=>Wd.row 2 rfl) rfl rfl aT (by first|omega|(simp;done)|(simp;omega)) rfl rfl) fun _=>?_
        refine R.nil ?_
        refine R.eT (fuel:=9) (Wd w (blks [ah.row 51 bR (l:List Change),ah.row 51 s8 (u:List Change)]++own) [ah.row 51 bR (l:List Change),ah.row 51 s8 (u:List Change),ah.held w own] []) rfl mixed rfl ?_
        refine D.q (i:=0) rfl (by kernel_rfl) (fun _=>Wd.aA [1,2,3] [] rfl rfl rfl) rfl (q.mv rfl) rfl<|D.q (i:=1) rfl (by kernel_rfl) (fun _=>Wd.aA [1,2,3] [] rfl rfl rfl) rfl (q.mv rfl) rfl<|D.q (i:=2) rfl (by kernel_rfl) (fun _=>Wd.aA [1,2,3] [] rfl rfl rfl) rfl (q.mv rfl) rfl<|D.q (i:=3) rfl (by kernel_rfl) (fun _=>Wd.aA [1,2,3] [] rfl rfl rfl) rfl (q.add (r:=((i+u.length:Nat):Int)) rfl rfl (wr (by omega))) rfl<|D.q (i:=5) rfl (by kernel_rfl) (fun _=>Wd.aA [1,2,3] [] rfl rfl rfl) rfl (q.mv rfl) rfl<|D.q (i:=6) rfl (by kernel_rfl) (fun _=>Wd.aA [1,2,3] [] rfl rfl rfl) rfl (q.mv rfl) rfl<|D.q (i:=7) rfl (by kernel_rfl) (fun _=>Wd.aA [1,2,3] [] rfl rfl rfl) rfl (q.cJ (i:=i) (fun _=>Wd.row 0 rfl) rfl rfl aT rfl (by first|omega|(simp;omega))) rfl<|?_
        refine D.one (i:=4) (by kernel_rfl) rfl ?_
        refine Do.s (s.c (Qt.a (q.cJ (i:=(i+u.length)) (fun _=>Wd.row 0 rfl) rfl rfl aT rfl (by first|omega|(simp;omega)))) rfl) (fun _=>(fun _=>Wd.aA [1,2,3] [] rfl rfl rfl)) rfl fun _=>?_
        refine D.one (i:=8) (by kernel_rfl) rfl ?_
        refine Do.s (s.qq (o:=(i+u.length)) (l2:=(l.drop i)) 0 _ rfl (fun w hw=>Sl.from ((fun _=>Wd.row 1 rfl) w hw) (by omega)) rfl rfl aT (by first|omega|(simp;done)|(simp;omega)) rfl rfl) (fun _=>(fun _=>Wd.aA [1,2,3] [] rfl rfl rfl)) rfl fun _=>?_
        refine D.done (by kernel_rfl)<|?_
        refine R.reg rfl<|R.u 2 rfl<|R.nil ?_
        have hz:l.take i++u++l.drop i=(((l.take i++List.replicate ((l.length+u.length)-i) (⟨⟨#[]⟩,⟨#[]⟩,false⟩:Change)).take i++u++(l.take i++List.replicate ((l.length+u.length)-i) (⟨⟨#[]⟩,⟨#[]⟩,false⟩:Change)).drop (i+u.length)).take (i+u.length)++(l.drop i)++((l.take i++List.replicate ((l.length+u.length)-i) (⟨⟨#[]⟩,⟨#[]⟩,false⟩:Change)).take i++u++(l.take i++List.replicate ((l.length+u.length)-i) (⟨⟨#[]⟩,⟨#[]⟩,false⟩:Change)).drop (i+u.length)).drop ((i+u.length)+(l.drop i).length)):=by (first|(exfalso;omega)|exact j5 (by omega)|exact i6 hu (by omega) rfl|exact lN hu (by omega))
        rw [hz]
        exact R.w1 v2 [0,3] [] rfl Try.results68 (RV.tmp rfl) rfl rfl rfl rfl
      ·
        refine R.q (q.gtr rfl rfl (decide_eq_false (by omega))) rfl<|R.nil ?_
        refine R.aI rfl rfl ?_
        refine R.reg rfl<|R.u 3 rfl<|R.q (q.add (r:=((l.length+u.length:Nat):Int)) rfl rfl (wr (by omega))) rfl<|R.q (q.yF (i:=(l.length+u.length)) (fun _=>Wd.row 0 rfl) rfl rfl aT rfl (by first|omega|assumption)) rfl<|R.u 1 rfl<|R.nil ?_
        refine R.reg rfl<|R.u 4 rfl<|R.q (q.add (r:=((i+u.length:Nat):Int)) rfl rfl (wr (by omega))) rfl<|R.q (q.lz (i:=(i+u.length)) (fun _=>Wd.row 0 rfl) rfl rfl aT rfl (by omega) (by first|assumption|omega|(simp [eN];omega))) rfl<|R.q (q.zD (i:=1) (j:=0) (tR:=4) Try.func76 rfl rfl (by kernel_rfl) (by kernel_rfl) aT rfl rfl (by decide) (by omega) (by omega) rfl rfl rfl rfl) rfl<|R.u 1 rfl<|R.nil ?_
        refine R.aK rfl rfl ?_
        refine R.eT (fuel:=9) (Wd w (blks [ah.row 51 bR (l:List Change),ah.row 51 s8 (u:List Change)]++own) [ah.row 51 s8 (u:List Change),ah.held w own] []) rfl mixed rfl ?_
        refine D.q (i:=0) rfl (by kernel_rfl) (fun _=>Wd.aA [1,2] [] rfl rfl rfl) rfl (q.mv rfl) rfl<|D.q (i:=1) rfl (by kernel_rfl) (fun _=>Wd.aA [1,2] [] rfl rfl rfl) rfl (q.mv rfl) rfl<|D.q (i:=2) rfl (by kernel_rfl) (fun _=>Wd.aA [1,2] [] rfl rfl rfl) rfl (q.mv rfl) rfl<|D.q (i:=3) rfl (by kernel_rfl) (fun _=>Wd.aA [1,2] [] rfl rfl rfl) rfl (q.add (r:=((i+u.length:Nat):Int)) rfl rfl (wr (by omega))) rfl<|D.q (i:=5) rfl (by kernel_rfl) (fun _=>Wd.aA [1,2] [] rfl rfl rfl) rfl (q.mv rfl) rfl<|D.q (i:=6) rfl (by kernel_rfl) (fun _=>Wd.aA [1,2] [] rfl rfl rfl) rfl (q.mv rfl) rfl<|?_
        refine D.two (i:=4) (j:=7) (by kernel_rfl) rfl rfl ?_ ?_
        ·
          refine Do.s (s.c (Qt.a (q.lz (i:=(i+u.length)) (fun _=>Wd.row 0 rfl) rfl rfl aT rfl (by omega) (by first|assumption|omega|(simp [eN];omega)))) rfl) (fun _=>(fun _=>Wd.aA [1,2] [] rfl rfl rfl)) rfl fun _=>?_
          refine D.one (i:=7) (by kernel_rfl) rfl ?_
          refine Do.s (s.c (Qt.a (q.lz (i:=i) (fun _=>Wd.row 0 rfl) rfl rfl aT rfl (by omega) (by first|assumption|omega|(simp [eN];omega)))) rfl) (fun _=>(fun _=>Wd.aA [1,2] [] rfl rfl rfl)) rfl fun _=>?_
          refine D.one (i:=8) (by kernel_rfl) rfl ?_
          refine Do.s (s.sD (o:=i) 0 _ rfl (by omega) (by omega) (by omega) (by first|assumption|omega) rfl rfl aT rfl rfl) (fun _=>(fun _=>Wd.aA [1,2] [] rfl rfl rfl)) rfl fun _=>?_
          refine D.done (by kernel_rfl)<|?_
          refine R.reg rfl<|R.u 2 rfl<|R.q (q.cJ (i:=i) (fun _=>Wd.row 0 rfl) rfl rfl aT rfl (by first|omega|(simp;omega))) rfl<|R.u 1 rfl<|?_
          refine R.s rfl (s.qq (o:=i) (l2:=u) 0 _ rfl (fun _=>Wd.row 1 rfl) rfl rfl aT (by first|omega|(simp;done)|(simp;omega)) rfl rfl) fun _=>?_
          refine R.nil ?_
          refine R.reg rfl<|R.u 2 rfl<|R.nil ?_
          have hz:l.take i++u++l.drop i=((l.take (i+1)++l.drop i).take i++u++(l.take (i+1)++l.drop i).drop (i+u.length)):=by (first|(exfalso;omega)|exact j5 (by omega)|exact i6 hu (by omega) rfl|exact lN hu (by omega))
          rw [hz]
          exact R.w1 (iV bR (l.length+u.length)) [0,2] [] rfl Try.results68 (RV.tmp rfl) rfl rfl rfl rfl
        ·
          refine Do.s (s.c (Qt.a (q.lz (i:=i) (fun _=>Wd.row 0 rfl) rfl rfl aT rfl (by omega) (by first|assumption|omega|(simp [eN];omega)))) rfl) (fun _=>(fun _=>Wd.aA [1,2] [] rfl rfl rfl)) rfl fun _=>?_
          refine D.one (i:=4) (by kernel_rfl) rfl ?_
          refine Do.s (s.c (Qt.a (q.lz (i:=(i+u.length)) (fun _=>Wd.row 0 rfl) rfl rfl aT rfl (by omega) (by first|assumption|omega|(simp [eN];omega)))) rfl) (fun _=>(fun _=>Wd.aA [1,2] [] rfl rfl rfl)) rfl fun _=>?_
          refine D.one (i:=8) (by kernel_rfl) rfl ?_
          refine Do.s (s.sD (o:=i) 0 _ rfl (by omega) (by omega) (by omega) (by first|assumption|omega) rfl rfl aT rfl rfl) (fun _=>(fun _=>Wd.aA [1,2] [] rfl rfl rfl)) rfl fun _=>?_
          refine D.done (by kernel_rfl)<|?_
          refine R.reg rfl<|R.u 2 rfl<|R.q (q.cJ (i:=i) (fun _=>Wd.row 0 rfl) rfl rfl aT rfl (by first|omega|(simp;omega))) rfl<|R.u 1 rfl<|?_
          refine R.s rfl (s.qq (o:=i) (l2:=u) 0 _ rfl (fun _=>Wd.row 1 rfl) rfl rfl aT (by first|omega|(simp;done)|(simp;omega)) rfl rfl) fun _=>?_
          refine R.nil ?_
          refine R.reg rfl<|R.u 2 rfl<|R.nil ?_
          have hz:l.take i++u++l.drop i=((l.take (i+1)++l.drop i).take i++u++(l.take (i+1)++l.drop i).drop (i+u.length)):=by (first|(exfalso;omega)|exact j5 (by omega)|exact i6 hu (by omega) rfl|exact lN hu (by omega))
          rw [hz]
          exact R.w1 (iV bR (l.length+u.length)) [0,2] [] rfl Try.results68 (RV.tmp rfl) rfl rfl rfl rfl
theorem lT (a b:ByteArray)(w:World):Calls Try.prog 66 #[.string a,.string b] w fun e w'=>e = .returned (.int .i64 (oS a b))∧Ext w w' :=
  (Try.strings_Compare a b w).mono fun e w' ⟨h1,h2⟩=>⟨by rw [h1,← jm,← jm,uD],by rw [h2];exact Ext.refl _⟩
theorem nS (x:Change)(k:ByteArray)(w:World)  : Calls Try.prog 65 #[.agg #[.string x.Key,.string x.Val,.bool x.Gone],.string k] w fun e w'=>e = .returned (.int .i64 (fK k x))∧Ext w w':=by
  refine R.enter (n:=9) (vs:=[.agg #[.string x.Key,.string x.Val,.bool x.Gone],.string k]) [] [(0,.agg #[.string x.Key,.string x.Val,.bool x.Gone]),(1,.string k)] Try.func65 rfl rfl rfl rfl ?_
  refine R.reg rfl<|?_
  refine R.s rfl (s.box (cs:=[.string x.Key,.string x.Val,.bool x.Gone]) rfl rfl rfl) fun b1=>?_
  refine R.u 1 rfl<|R.nil ?_
  refine R.reg rfl<|R.q (q.bJ (off':=0) rfl bu rfl) rfl<|R.q (q.ld 0 rfl rfl bB rfl) rfl<|R.u 1 rfl<|R.c (q.call xO rfl rfl (fun w hw=>(lT (x.Key) (k) w  ))) rfl<|R.u 1 rfl<|R.nil ?_
  exact R.rv rfl Try.results65 rfl (rI (by (rfl)))
theorem j9 (bR:Value)(l:List Change)(t:ByteArray)(c:Change→ByteArray→Int)(wc:Nat)(xX:List Value)(xY:∀args w,(callFunc wc args).run Try.prog w = .ok (.enter wc args) w)(w:World)(oz:Sl w bR l)(zd:∀W (x1:Change) (x2:ByteArray),Ext w W→Calls Try.prog wc ([x1.val,.string x2]++xX).toArray W fun e w'=>e = .returned (.int .i64 (c x1 x2))∧Ext W w')(hl:l.length≤1000000):Calls Try.prog 64 #[bR,.string t,.func (.func wc) #[] xX.toArray] w fun e w'=>e = .returned (.tuple #[.int .i64 (eU (fun x=>c x t) l:Int),.bool (j6 (fun x=>c x t) l)])∧Ext w w':=by
  have yq:=oz.jZ
  refine R.enter (n:=49) (vs:=[bR,.string t,.func (.func wc) #[] xX.toArray]) [] [(0,bR),(1,.string t),(2,.func (.func wc) #[] xX.toArray)] Try.func64 rfl rfl rfl rfl ?_
  refine R.reg rfl<|R.u 2 rfl<|R.nil ?_
  refine R.reg rfl<|R.u 1 rfl<|R.q (q.len' (fun _=>Wd.old oz) rfl Try.underlying46) rfl<|R.u 1 rfl<|R.nil ?_
  refine R.reg rfl<|R.u 3 rfl<|R.nil ?_
  refine R.loop (fun g_:Nat×Nat=>[(0,bR),(1,.string t),(2,.func (.func wc) #[] xX.toArray),(8,.int .i64 (l.length:Int)),(9,.int .i64 (g_.1:Int)),(10,.int .i64 (g_.2:Int))]) (fun g_:Nat×Nat=>[]) (fun g_:Nat×Nat=>[]) (fun g_:Nat×Nat=>g_.1≤g_.2∧g_.2≤l.length∧bsGo (fun x=>c x t) l g_.1 g_.2=eU (fun x=>c x t) l) (fun g_:Nat×Nat=>g_.2-g_.1) (0,l.length) rfl (by exact ⟨Nat.zero_le _,Nat.le_refl _,rfl⟩) ⟨rfl,rfl,rfl,rfl,rfl,rfl,trivial⟩ (fun _=>Wd.pick [] [] rfl rfl rfl) ?_
  rintro ⟨lo,hi⟩ ⟨yr,Au,HA⟩
  dsimp only at *
  refine R.reg rfl<|R.u 2 rfl<|?_
  by_cases h1:lo<hi
  ·
    refine R.q (q.lss rfl rfl (decide_eq_true (by omega))) rfl<|R.nil ?_
    refine R.aK rfl rfl ?_
    refine R.reg rfl<|R.u 2 rfl<|R.q (q.add (r:=((lo+hi:Nat):Int)) rfl rfl (wr (by omega))) rfl<|R.q (q.iu (r:=(((lo+hi):Nat):Int)) rfl (by rw [Try.underlying3];rfl) Try.underlying111 (pF (by omega))) rfl<|R.q (q.shr (r:=((((lo+hi) / 2):Nat):Int)) rfl rfl (by decide) (vR (by decide))) rfl<|R.q (q.iu (r:=((((lo+hi) / 2):Nat):Int)) rfl (by rw [Try.underlying111];rfl) Try.underlying3 (wr (by omega))) rfl<|R.u 1 rfl<|R.nil ?_
    refine R.reg rfl<|R.u 3 rfl<|?_
    obtain ⟨x1,hx1⟩:∃z,l[((lo+hi) / 2)]? = some z:=⟨_,List.getElem?_eq_getElem (by omega)⟩
    refine R.q (q.idx (i:=((lo+hi) / 2)) (fun _=>Wd.old oz) rfl rfl aT rfl hx1) rfl<|R.q (q.iU (ds:=[.string x1.Key,.string x1.Val,.bool x1.Gone]) (fun _=>Wd.old oz) hx1 rfl aX rfl) rfl<|R.u 1 rfl<|R.c (q.call xY rfl rfl (fun w hw=>zd w x1 t hw.ext)) rfl<|?_
    by_cases h2:(c x1 t)<0
    ·
      refine R.q (q.lss rfl rfl (decide_eq_true (by omega))) rfl<|R.nil ?_
      refine R.aK rfl rfl ?_
      refine R.reg rfl<|R.u 1 rfl<|R.q (q.add (r:=((((lo+hi) / 2)+1:Nat):Int)) rfl rfl (wr (by omega))) rfl<|R.u 1 rfl<|R.nil ?_
      refine R.back ((((lo+hi) / 2)+1),hi) rfl (by (exact ⟨by omega,by omega,(qK (by omega) hx1 (by omega)).symm.trans HA⟩)) (by dsimp only;omega) ⟨rfl,rfl,rfl,rfl,rfl,rfl,trivial⟩ (fun _=>Wd.pick [] [] rfl rfl rfl)
    ·
      refine R.q (q.lss rfl rfl (decide_eq_false (by omega))) rfl<|R.nil ?_
      refine R.aI rfl rfl ?_
      refine R.reg rfl<|R.u 2 rfl<|R.nil ?_
      refine R.back (lo,((lo+hi) / 2)) rfl (by (exact ⟨by omega,by omega,(qL (by omega) hx1 (by omega)).symm.trans HA⟩)) (by dsimp only;omega) ⟨rfl,rfl,rfl,rfl,rfl,rfl,trivial⟩ (fun _=>Wd.pick [] [] rfl rfl rfl)
  ·
    refine R.q (q.lss rfl rfl (decide_eq_false (by omega))) rfl<|R.nil ?_
    refine R.aI rfl rfl ?_
    refine R.reg rfl<|R.u 3 rfl<|?_
    by_cases h3:lo<l.length
    ·
      refine R.q (q.lss rfl rfl (decide_eq_true (by omega))) rfl<|R.u 4 rfl<|?_
      obtain ⟨x2,hx2⟩:∃z,l[lo]? = some z:=⟨_,List.getElem?_eq_getElem (by omega)⟩
      refine R.qg rfl (q.idx (i:=lo) (fun _=>Wd.old oz) rfl rfl aT rfl hx2) rfl<|R.qg rfl (q.iU (ds:=[.string x2.Key,.string x2.Val,.bool x2.Gone]) (fun _=>Wd.old oz) hx2 rfl aX rfl) rfl<|R.u 1 rfl<|R.cg rfl (q.call xY rfl rfl (fun w hw=>zd w x2 t hw.ext)) rfl<|?_
      by_cases h4:(c x2 t)=0
      ·
        refine R.qg rfl (q.eql rfl rfl (beq_iff_eq.2 (by omega))) rfl<|R.u 3 rfl<|R.nil ?_
        exact R.uh rfl Try.results64 rfl rfl (rI (by (exact congrArg (fun n:Nat=>(n:Int)) ((gA (by omega)).symm.trans HA)))) (rB (by (have e:=(gA (by omega)).symm.trans HA;unfold j6;rw [← e];first|(rw [hx2];first|exact (decide_eq_true (by assumption)).symm|exact (decide_eq_false (by assumption)).symm)|(rw [List.getElem?_eq_none (by omega)]))))
      ·
        refine R.qg rfl (q.eql rfl rfl (beq_eq_false_iff_ne.2 (by omega))) rfl<|R.u 3 rfl<|R.nil ?_
        exact R.uh rfl Try.results64 rfl rfl (rI (by (exact congrArg (fun n:Nat=>(n:Int)) ((gA (by omega)).symm.trans HA)))) (rB (by (have e:=(gA (by omega)).symm.trans HA;unfold j6;rw [← e];first|(rw [hx2];first|exact (decide_eq_true (by assumption)).symm|exact (decide_eq_false (by assumption)).symm)|(rw [List.getElem?_eq_none (by omega)]))))
    ·
      refine R.q (q.lss rfl rfl (decide_eq_false (by omega))) rfl<|R.u 12 rfl<|R.nil ?_
      exact R.uh rfl Try.results64 rfl rfl (rI (by (exact congrArg (fun n:Nat=>(n:Int)) ((gA (by omega)).symm.trans HA)))) (rB (by (have e:=(gA (by omega)).symm.trans HA;unfold j6;rw [← e];first|(rw [rfl];first|exact (decide_eq_true (by assumption)).symm|exact (decide_eq_false (by assumption)).symm)|(rw [List.getElem?_eq_none (by omega)]))))
theorem dZ (c:Change)(w:World)  : Calls Try.prog 48 #[.agg #[.string c.Key,.string c.Val,.bool c.Gone]] w fun e w'=>e = .returned (bF (ea c))∧Ext w w':=by
  refine R.enter (n:=27) (vs:=[.agg #[.string c.Key,.string c.Val,.bool c.Gone]]) [] [(0,.agg #[.string c.Key,.string c.Val,.bool c.Gone])] Try.func48 rfl rfl rfl rfl ?_
  refine R.reg rfl<|?_
  refine R.s rfl (s.box (cs:=[.string c.Key,.string c.Val,.bool c.Gone]) rfl rfl rfl) fun b1=>?_
  refine R.u 1 rfl<|R.nil ?_
  refine R.reg rfl<|R.q (q.bJ (off':=0) rfl bu rfl) rfl<|R.q (q.ld 0 rfl rfl bB rfl) rfl<|?_
  by_cases h1:c.Key=⟨#[]⟩
  ·
    refine R.q (q.wW rfl rfl h1) rfl<|R.u 9 rfl<|R.nil ?_
    refine R.aK rfl rfl ?_
    refine R.reg rfl<|R.q (q.iface rfl cD) rfl<|R.u 1 rfl<|R.nil ?_
    exact R.rv rfl Try.results48 rfl (fO (by decide) (by (unfold ea;first|(rw [if_pos (by first|exact .inl (by assumption)|exact .inr ⟨by assumption,by assumption⟩)])|(rw [if_neg (by rintro (hh|⟨hh,hk⟩) <;> first|contradiction|(simp_all;done)),if_pos (by omega)])|(rw [if_neg (by rintro (hh|⟨hh,hk⟩) <;> first|contradiction|(simp_all;done)),if_neg (by omega)]))))
  ·
    refine R.q (q.wX rfl rfl h1) rfl<|R.u 1 rfl<|R.qg rfl (q.bJ (off':=2) rfl hX rfl) rfl<|R.qg rfl (q.ld 0 rfl rfl eO rfl) rfl<|R.u 1 rfl<|?_
    rcases Bool.eq_false_or_eq_true (c.Gone) with h2|h2
    ·
      rw [h2]
      refine R.qg rfl (q.bJ (off':=1) rfl dV rfl) rfl<|R.qg rfl (q.ld 0 rfl rfl bB rfl) rfl<|?_
      by_cases h3:c.Val=⟨#[]⟩
      ·
        refine R.qg rfl (q.j0 rfl rfl h3) rfl<|R.u 2 rfl<|R.nil ?_
        refine R.aI rfl rfl ?_
        refine R.reg rfl<|R.q (q.bJ (off':=0) rfl bu rfl) rfl<|R.q (q.ld 0 rfl rfl bB rfl) rfl<|R.q (q.fN rfl Try.underlying9) rfl<|?_
        by_cases h4:8<c.Key.size
        ·
          refine R.q (q.gtr rfl rfl (decide_eq_true (by omega))) rfl<|R.u 6 rfl<|R.nil ?_
          refine R.aK rfl rfl ?_
          refine R.reg rfl<|R.q (q.iface rfl cD) rfl<|R.u 1 rfl<|R.nil ?_
          exact R.rv rfl Try.results48 rfl (fO (by decide) (by (unfold ea;first|(rw [if_pos (by first|exact .inl (by assumption)|exact .inr ⟨by assumption,by assumption⟩)])|(rw [if_neg (by rintro (hh|⟨hh,hk⟩) <;> first|contradiction|(simp_all;done)),if_pos (by omega)])|(rw [if_neg (by rintro (hh|⟨hh,hk⟩) <;> first|contradiction|(simp_all;done)),if_neg (by omega)]))))
        ·
          refine R.q (q.gtr rfl rfl (decide_eq_false (by omega))) rfl<|R.u 1 rfl<|R.qg rfl (q.bJ (off':=1) rfl dV rfl) rfl<|R.qg rfl (q.ld 0 rfl rfl bB rfl) rfl<|R.qg rfl (q.fN rfl Try.underlying9) rfl<|?_
          by_cases h5:24<c.Val.size
          ·
            refine R.qg rfl (q.gtr rfl rfl (decide_eq_true (by omega))) rfl<|R.u 1 rfl<|R.nil ?_
            refine R.aK rfl rfl ?_
            refine R.reg rfl<|R.q (q.iface rfl cD) rfl<|R.u 1 rfl<|R.nil ?_
            exact R.rv rfl Try.results48 rfl (fO (by decide) (by (unfold ea;first|(rw [if_pos (by first|exact .inl (by assumption)|exact .inr ⟨by assumption,by assumption⟩)])|(rw [if_neg (by rintro (hh|⟨hh,hk⟩) <;> first|contradiction|(simp_all;done)),if_pos (by omega)])|(rw [if_neg (by rintro (hh|⟨hh,hk⟩) <;> first|contradiction|(simp_all;done)),if_neg (by omega)]))))
          ·
            refine R.qg rfl (q.gtr rfl rfl (decide_eq_false (by omega))) rfl<|R.u 1 rfl<|R.nil ?_
            refine R.aI rfl rfl ?_
            refine R.reg rfl<|R.u 1 rfl<|R.nil ?_
            exact R.rv rfl Try.results48 rfl (lp (by (unfold ea;first|(rw [if_pos (by first|exact .inl (by assumption)|exact .inr ⟨by assumption,by assumption⟩)])|(rw [if_neg (by rintro (hh|⟨hh,hk⟩) <;> first|contradiction|(simp_all;done)),if_pos (by omega)])|(rw [if_neg (by rintro (hh|⟨hh,hk⟩) <;> first|contradiction|(simp_all;done)),if_neg (by omega)]))))
      ·
        refine R.qg rfl (q.lq rfl rfl h3) rfl<|R.u 2 rfl<|R.nil ?_
        refine R.aK rfl rfl ?_
        refine R.reg rfl<|R.q (q.iface rfl cD) rfl<|R.u 1 rfl<|R.nil ?_
        exact R.rv rfl Try.results48 rfl (fO (by decide) (by (unfold ea;first|(rw [if_pos (by first|exact .inl (by assumption)|exact .inr ⟨by assumption,by assumption⟩)])|(rw [if_neg (by rintro (hh|⟨hh,hk⟩) <;> first|contradiction|(simp_all;done)),if_pos (by omega)])|(rw [if_neg (by rintro (hh|⟨hh,hk⟩) <;> first|contradiction|(simp_all;done)),if_neg (by omega)]))))
    ·
      rw [h2]
      refine R.u 5 rfl<|R.nil ?_
      refine R.aI rfl rfl ?_
      refine R.reg rfl<|R.q (q.bJ (off':=0) rfl bu rfl) rfl<|R.q (q.ld 0 rfl rfl bB rfl) rfl<|R.q (q.fN rfl Try.underlying9) rfl<|?_
      by_cases h6:8<c.Key.size
      ·
        refine R.q (q.gtr rfl rfl (decide_eq_true (by omega))) rfl<|R.u 6 rfl<|R.nil ?_
        refine R.aK rfl rfl ?_
        refine R.reg rfl<|R.q (q.iface rfl cD) rfl<|R.u 1 rfl<|R.nil ?_
        exact R.rv rfl Try.results48 rfl (fO (by decide) (by (unfold ea;first|(rw [if_pos (by first|exact .inl (by assumption)|exact .inr ⟨by assumption,by assumption⟩)])|(rw [if_neg (by rintro (hh|⟨hh,hk⟩) <;> first|contradiction|(simp_all;done)),if_pos (by omega)])|(rw [if_neg (by rintro (hh|⟨hh,hk⟩) <;> first|contradiction|(simp_all;done)),if_neg (by omega)]))))
      ·
        refine R.q (q.gtr rfl rfl (decide_eq_false (by omega))) rfl<|R.u 1 rfl<|R.qg rfl (q.bJ (off':=1) rfl dV rfl) rfl<|R.qg rfl (q.ld 0 rfl rfl bB rfl) rfl<|R.qg rfl (q.fN rfl Try.underlying9) rfl<|?_
        by_cases h7:24<c.Val.size
        ·
          refine R.qg rfl (q.gtr rfl rfl (decide_eq_true (by omega))) rfl<|R.u 1 rfl<|R.nil ?_
          refine R.aK rfl rfl ?_
          refine R.reg rfl<|R.q (q.iface rfl cD) rfl<|R.u 1 rfl<|R.nil ?_
          exact R.rv rfl Try.results48 rfl (fO (by decide) (by (unfold ea;first|(rw [if_pos (by first|exact .inl (by assumption)|exact .inr ⟨by assumption,by assumption⟩)])|(rw [if_neg (by rintro (hh|⟨hh,hk⟩) <;> first|contradiction|(simp_all;done)),if_pos (by omega)])|(rw [if_neg (by rintro (hh|⟨hh,hk⟩) <;> first|contradiction|(simp_all;done)),if_neg (by omega)]))))
        ·
          refine R.qg rfl (q.gtr rfl rfl (decide_eq_false (by omega))) rfl<|R.u 1 rfl<|R.nil ?_
          refine R.aI rfl rfl ?_
          refine R.reg rfl<|R.u 1 rfl<|R.nil ?_
          exact R.rv rfl Try.results48 rfl (lp (by (unfold ea;first|(rw [if_pos (by first|exact .inl (by assumption)|exact .inr ⟨by assumption,by assumption⟩)])|(rw [if_neg (by rintro (hh|⟨hh,hk⟩) <;> first|contradiction|(simp_all;done)),if_pos (by omega)])|(rw [if_neg (by rintro (hh|⟨hh,hk⟩) <;> first|contradiction|(simp_all;done)),if_neg (by omega)]))))
theorem nT (c:Change)(w:World)  : Calls Try.prog 62 #[.agg #[.string c.Key,.string c.Val,.bool c.Gone]] w fun e w'=>e = .returned (.tuple #[.string ((dO c).1),bF ((dO c).2)])∧Ext w w':=by
  have f0:=aQ c
  refine R.enter (n:=26) (vs:=[.agg #[.string c.Key,.string c.Val,.bool c.Gone]]) [] [(0,.agg #[.string c.Key,.string c.Val,.bool c.Gone])] Try.func62 rfl rfl rfl rfl ?_
  refine R.reg rfl<|?_
  refine R.s rfl (s.box (cs:=[.string c.Key,.string c.Val,.bool c.Gone]) rfl rfl rfl) fun b1=>?_
  refine R.u 2 rfl<|R.nil ?_
  refine R.reg rfl<|R.q (q.mD 0 rfl rfl aX) rfl<|R.c (q.call mZ rfl rfl (fun w hw=>(dZ (c) w  ))) rfl<|R.u 1 rfl<|R.nil ?_
  refine R.reg rfl<|R.u 1 rfl<|?_
  by_cases h1:ea c=0
  ·
    obtain ⟨z1,z2,z3,z4⟩:=dx h1
    refine R.q (q.dj rfl rfl Try.underlying28 (by omega)) rfl<|R.nil ?_
    refine R.aI rfl rfl ?_
    refine R.reg rfl<|R.u 1 rfl<|R.nil ?_
    refine R.reg rfl<|R.q (q.bJ (off':=2) rfl hX rfl) rfl<|R.q (q.ld 0 rfl rfl eO rfl) rfl<|R.nil ?_
    refine R.cond rfl rfl (fun h2=>?_) (fun h2=>?_)
    ·
      refine R.reg rfl<|R.u 1 rfl<|R.nil ?_
      refine R.reg rfl<|R.u 1 rfl<|R.q (q.bJ (off':=0) rfl bu rfl) rfl<|R.q (q.ld 0 rfl rfl bB rfl) rfl<|R.q (q.fN rfl Try.underlying9) rfl<|R.q (q.iu (r:=((c.Key.size:Nat):Int)) rfl (by rw [Try.underlying3];rfl) Try.underlying5 (lA (by omega))) rfl<|?_
      refine R.s rfl (s.bs (l:=([(1:UInt8),(UInt8.ofNat c.Key.size)]:List UInt8)) aJ cd rfl rfl rfl rfl rfl (bn rfl (bn (bU (by omega)) cS)) rfl) fun b2=>?_
      refine R.q (q.eM (fun _=>Wd.row 0 rfl) rfl aJ Try.underlying5 Try.underlying9) rfl<|R.q (q.bJ (off':=0) rfl bu rfl) rfl<|R.q (q.ld 1 rfl rfl bB rfl) rfl<|R.q (q.cat rfl rfl (by first|omega|(simp only [ByteArray.size_append,aD,List.length_cons,List.length_nil];omega))) rfl<|R.q (q.bJ (off':=1) rfl dV rfl) rfl<|R.q (q.ld 1 rfl rfl bB rfl) rfl<|R.q (q.cat rfl rfl (by first|omega|(simp only [ByteArray.size_append,aD,List.length_cons,List.length_nil];omega))) rfl<|R.u 2 rfl<|R.nil ?_
      exact R.uh rfl Try.results62 rfl rfl (rS (by (unfold dO;first|(rw [if_neg (by omega)];done)|(rw [if_neg (by omega)];omega)|(rw [if_pos (by omega)];done)|(rw [if_pos (by omega),show c.Gone=true from by assumption];rfl)|(rw [if_pos (by omega),show c.Gone=false from by assumption];rfl)))) (lp (by (unfold dO;first|(rw [if_neg (by omega)];done)|(rw [if_neg (by omega)];omega)|(rw [if_pos (by omega)];done)|(rw [if_pos (by omega),show c.Gone=true from by assumption];rfl)|(rw [if_pos (by omega),show c.Gone=false from by assumption];rfl))))
    ·
      refine R.reg rfl<|R.u 1 rfl<|R.q (q.bJ (off':=0) rfl bu rfl) rfl<|R.q (q.ld 0 rfl rfl bB rfl) rfl<|R.q (q.fN rfl Try.underlying9) rfl<|R.q (q.iu (r:=((c.Key.size:Nat):Int)) rfl (by rw [Try.underlying3];rfl) Try.underlying5 (lA (by omega))) rfl<|?_
      refine R.s rfl (s.bs (l:=([(0:UInt8),(UInt8.ofNat c.Key.size)]:List UInt8)) aJ cd rfl rfl rfl rfl rfl (bn rfl (bn (bU (by omega)) cS)) rfl) fun b3=>?_
      refine R.q (q.eM (fun _=>Wd.row 0 rfl) rfl aJ Try.underlying5 Try.underlying9) rfl<|R.q (q.bJ (off':=0) rfl bu rfl) rfl<|R.q (q.ld 1 rfl rfl bB rfl) rfl<|R.q (q.cat rfl rfl (by first|omega|(simp only [ByteArray.size_append,aD,List.length_cons,List.length_nil];omega))) rfl<|R.q (q.bJ (off':=1) rfl dV rfl) rfl<|R.q (q.ld 1 rfl rfl bB rfl) rfl<|R.q (q.cat rfl rfl (by first|omega|(simp only [ByteArray.size_append,aD,List.length_cons,List.length_nil];omega))) rfl<|R.u 2 rfl<|R.nil ?_
      exact R.uh rfl Try.results62 rfl rfl (rS (by (unfold dO;first|(rw [if_neg (by omega)];done)|(rw [if_neg (by omega)];omega)|(rw [if_pos (by omega)];done)|(rw [if_pos (by omega),show c.Gone=true from by assumption];rfl)|(rw [if_pos (by omega),show c.Gone=false from by assumption];rfl)))) (lp (by (unfold dO;first|(rw [if_neg (by omega)];done)|(rw [if_neg (by omega)];omega)|(rw [if_pos (by omega)];done)|(rw [if_pos (by omega),show c.Gone=true from by assumption];rfl)|(rw [if_pos (by omega),show c.Gone=false from by assumption];rfl))))
  ·
    refine R.q (q.fy rfl rfl Try.underlying28 (by omega)) rfl<|R.nil ?_
    refine R.aK rfl rfl ?_
    refine R.reg rfl<|R.u 3 rfl<|R.nil ?_
    exact R.uh rfl Try.results62 rfl rfl (rS (by (unfold dO;first|(rw [if_neg (by omega)];done)|(rw [if_neg (by omega)];omega)|(rw [if_pos (by omega)];done)|(rw [if_pos (by omega),show c.Gone=true from by assumption];rfl)|(rw [if_pos (by omega),show c.Gone=false from by assumption];rfl)))) (rE (by (unfold dO;first|(rw [if_neg (by omega)];done)|(rw [if_neg (by omega)];omega)|(rw [if_pos (by omega)];done)|(rw [if_pos (by omega),show c.Gone=true from by assumption];rfl)|(rw [if_pos (by omega),show c.Gone=false from by assumption];rfl))))
theorem da {s:ByteArray}(h:s.size<2):ib s=(c0,4):=by unfold ib;rw [if_pos (.inl h)]
theorem dc {s:ByteArray}{y:UInt8}(hy:s.data[0]? = some y)(h:1<y.toNat):ib s=(c0,4):=by unfold ib;rw [if_pos (.inr (.inl (by rw [ag hy];exact h)))]
theorem df {s:ByteArray}{y:UInt8}(hy:s.data[1]? = some y)(h:s.size<2+y.toNat):ib s=(c0,4):=by unfold ib;rw [if_pos (.inr (.inr (by rw [ag hy];exact h)))]
theorem bg {s:ByteArray}{y z:UInt8}{b:Bool}(hy:s.data[0]? = some y)(hz:s.data[1]? = some z)(h1:¬ s.size<2)(h2:¬ 1<y.toNat)(h3:¬ s.size<2+z.toNat)(hb:b=decide (y.toNat=1)) :
    ib s=if ea ⟨s.extract 2 (2+z.toNat),s.extract (2+z.toNat) s.size,b⟩=0 then (⟨s.extract 2 (2+z.toNat),s.extract (2+z.toNat) s.size,b⟩,0) else (c0,4):=by
  have e1:=ag hy;have e2:=ag hz
  unfold ib;rw [if_neg (by rw [e1,e2];omega)];unfold sY;rw [e1,e2,hb]
theorem nU (sb:ByteArray)(w:World)(hs:sb.size≤1000000):Calls Try.prog 45 #[.string sb] w fun e w'=>e = .returned (.tuple #[Change.val ((ib sb).1),bF ((ib sb).2)])∧Ext w w':=by
  refine R.enter (n:=45) (vs:=[.string sb]) [] [(0,.string sb)] Try.func45 rfl rfl rfl rfl ?_
  refine R.reg rfl<|?_
  refine R.s rfl (s.alloc (cs:=[.string (⟨#[]⟩),.string (⟨#[]⟩),.bool false]) bT rfl rfl) fun b1=>?_
  refine R.u 1 rfl<|R.nil ?_
  refine R.reg rfl<|R.u 1 rfl<|R.q (q.fN rfl Try.underlying9) rfl<|?_
  by_cases h1:sb.size<2
  ·
    refine R.q (q.lss rfl rfl (decide_eq_true (by omega))) rfl<|R.u 14 rfl<|R.nil ?_
    refine R.aK rfl rfl ?_
    refine R.reg rfl<|R.q (q.build (cs:=[.string (⟨#[]⟩),.string (⟨#[]⟩),.bool false]) j3 rfl rfl) rfl<|R.q (q.iface rfl cD) rfl<|?_
    refine R.s rfl (s.st (us:=[.string (⟨#[]⟩),.string (⟨#[]⟩),.bool false]) (cs':=[.string (⟨#[]⟩),.string (⟨#[]⟩),.bool false]) 0 _ rfl rfl rfl rfl (.inl aX) rfl rfl rfl rfl) fun _=>?_
    refine R.u 1 rfl<|R.nil ?_
    exact R.vN rfl Try.results45 (RV.cell 0 rfl rfl aX) (RV.tmp rfl) (congrArg Change.val (show (⟨⟨#[]⟩,⟨#[]⟩,false⟩:Change)=(ib sb).1 from by (first|(rw [da (by omega)];first|done|rfl)|(rw [dc hy1 (by omega)];first|done|rfl)|(rw [df hy2 (by omega)];first|done|rfl)|(have f1:=aQ (⟨sb.extract 2 (2+y2.toNat),sb.extract (2+y2.toNat) sb.size,true⟩:Change);rw [bg (b:=true) hy1 hy2 (by omega) (by omega) (by omega) (decide_eq_true (by omega)).symm,if_pos (by omega)];first|done|rfl)|(have f1:=aQ (⟨sb.extract 2 (2+y2.toNat),sb.extract (2+y2.toNat) sb.size,false⟩:Change);rw [bg (b:=false) hy1 hy2 (by omega) (by omega) (by omega) (decide_eq_false (by omega)).symm,if_pos (by omega)];first|done|rfl)|(have f1:=aQ (⟨sb.extract 2 (2+y2.toNat),sb.extract (2+y2.toNat) sb.size,true⟩:Change);rw [bg (b:=true) hy1 hy2 (by omega) (by omega) (by omega) (decide_eq_true (by omega)).symm,if_neg (by omega)];first|done|rfl)|(have f1:=aQ (⟨sb.extract 2 (2+y2.toNat),sb.extract (2+y2.toNat) sb.size,false⟩:Change);rw [bg (b:=false) hy1 hy2 (by omega) (by omega) (by omega) (decide_eq_false (by omega)).symm,if_neg (by omega)];first|done|rfl)))) (fO (by decide) (by (first|(rw [da (by omega)];first|done|rfl)|(rw [dc hy1 (by omega)];first|done|rfl)|(rw [df hy2 (by omega)];first|done|rfl)|(have f1:=aQ (⟨sb.extract 2 (2+y2.toNat),sb.extract (2+y2.toNat) sb.size,true⟩:Change);rw [bg (b:=true) hy1 hy2 (by omega) (by omega) (by omega) (decide_eq_true (by omega)).symm,if_pos (by omega)];first|done|rfl)|(have f1:=aQ (⟨sb.extract 2 (2+y2.toNat),sb.extract (2+y2.toNat) sb.size,false⟩:Change);rw [bg (b:=false) hy1 hy2 (by omega) (by omega) (by omega) (decide_eq_false (by omega)).symm,if_pos (by omega)];first|done|rfl)|(have f1:=aQ (⟨sb.extract 2 (2+y2.toNat),sb.extract (2+y2.toNat) sb.size,true⟩:Change);rw [bg (b:=true) hy1 hy2 (by omega) (by omega) (by omega) (decide_eq_true (by omega)).symm,if_neg (by omega)];first|done|rfl)|(have f1:=aQ (⟨sb.extract 2 (2+y2.toNat),sb.extract (2+y2.toNat) sb.size,false⟩:Change);rw [bg (b:=false) hy1 hy2 (by omega) (by omega) (by omega) (decide_eq_false (by omega)).symm,if_neg (by omega)];first|done|rfl))))
  ·
    refine R.q (q.lss rfl rfl (decide_eq_false (by omega))) rfl<|R.u 2 rfl<|?_
    obtain ⟨y1,hy1⟩:∃z,sb.data[0]? = some z:=⟨_,Array.getElem?_eq_getElem (show 0<sb.size from by omega)⟩
    have yt:=y1.toNat_lt
    refine R.qg rfl (q.dS (i:=0) rfl rfl Try.underlying9 rfl hy1) rfl<|?_
    by_cases h2:1<y1.toNat
    ·
      refine R.qg rfl (q.gtr rfl rfl (decide_eq_true (by omega))) rfl<|R.u 10 rfl<|R.nil ?_
      refine R.aK rfl rfl ?_
      refine R.reg rfl<|R.q (q.build (cs:=[.string (⟨#[]⟩),.string (⟨#[]⟩),.bool false]) j3 rfl rfl) rfl<|R.q (q.iface rfl cD) rfl<|?_
      refine R.s rfl (s.st (us:=[.string (⟨#[]⟩),.string (⟨#[]⟩),.bool false]) (cs':=[.string (⟨#[]⟩),.string (⟨#[]⟩),.bool false]) 0 _ rfl rfl rfl rfl (.inl aX) rfl rfl rfl rfl) fun _=>?_
      refine R.u 1 rfl<|R.nil ?_
      exact R.vN rfl Try.results45 (RV.cell 0 rfl rfl aX) (RV.tmp rfl) (congrArg Change.val (show (⟨⟨#[]⟩,⟨#[]⟩,false⟩:Change)=(ib sb).1 from by (first|(rw [da (by omega)];first|done|rfl)|(rw [dc hy1 (by omega)];first|done|rfl)|(rw [df hy2 (by omega)];first|done|rfl)|(have f1:=aQ (⟨sb.extract 2 (2+y2.toNat),sb.extract (2+y2.toNat) sb.size,true⟩:Change);rw [bg (b:=true) hy1 hy2 (by omega) (by omega) (by omega) (decide_eq_true (by omega)).symm,if_pos (by omega)];first|done|rfl)|(have f1:=aQ (⟨sb.extract 2 (2+y2.toNat),sb.extract (2+y2.toNat) sb.size,false⟩:Change);rw [bg (b:=false) hy1 hy2 (by omega) (by omega) (by omega) (decide_eq_false (by omega)).symm,if_pos (by omega)];first|done|rfl)|(have f1:=aQ (⟨sb.extract 2 (2+y2.toNat),sb.extract (2+y2.toNat) sb.size,true⟩:Change);rw [bg (b:=true) hy1 hy2 (by omega) (by omega) (by omega) (decide_eq_true (by omega)).symm,if_neg (by omega)];first|done|rfl)|(have f1:=aQ (⟨sb.extract 2 (2+y2.toNat),sb.extract (2+y2.toNat) sb.size,false⟩:Change);rw [bg (b:=false) hy1 hy2 (by omega) (by omega) (by omega) (decide_eq_false (by omega)).symm,if_neg (by omega)];first|done|rfl)))) (fO (by decide) (by (first|(rw [da (by omega)];first|done|rfl)|(rw [dc hy1 (by omega)];first|done|rfl)|(rw [df hy2 (by omega)];first|done|rfl)|(have f1:=aQ (⟨sb.extract 2 (2+y2.toNat),sb.extract (2+y2.toNat) sb.size,true⟩:Change);rw [bg (b:=true) hy1 hy2 (by omega) (by omega) (by omega) (decide_eq_true (by omega)).symm,if_pos (by omega)];first|done|rfl)|(have f1:=aQ (⟨sb.extract 2 (2+y2.toNat),sb.extract (2+y2.toNat) sb.size,false⟩:Change);rw [bg (b:=false) hy1 hy2 (by omega) (by omega) (by omega) (decide_eq_false (by omega)).symm,if_pos (by omega)];first|done|rfl)|(have f1:=aQ (⟨sb.extract 2 (2+y2.toNat),sb.extract (2+y2.toNat) sb.size,true⟩:Change);rw [bg (b:=true) hy1 hy2 (by omega) (by omega) (by omega) (decide_eq_true (by omega)).symm,if_neg (by omega)];first|done|rfl)|(have f1:=aQ (⟨sb.extract 2 (2+y2.toNat),sb.extract (2+y2.toNat) sb.size,false⟩:Change);rw [bg (b:=false) hy1 hy2 (by omega) (by omega) (by omega) (decide_eq_false (by omega)).symm,if_neg (by omega)];first|done|rfl))))
    ·
      refine R.qg rfl (q.gtr rfl rfl (decide_eq_false (by omega))) rfl<|R.u 3 rfl<|?_
      obtain ⟨y2,hy2⟩:∃z,sb.data[1]? = some z:=⟨_,Array.getElem?_eq_getElem (show 1<sb.size from by omega)⟩
      have yu:=y2.toNat_lt
      refine R.qg rfl (q.dS (i:=1) rfl rfl Try.underlying9 rfl hy2) rfl<|R.qg rfl (q.iu (r:=((y2.toNat:Nat):Int)) rfl (by rw [Try.underlying5];rfl) Try.underlying3 (wr (by omega))) rfl<|R.qg rfl (q.add (r:=((2+y2.toNat:Nat):Int)) rfl rfl (wr (by omega))) rfl<|R.u 1 rfl<|R.qg rfl (q.fN rfl Try.underlying9) rfl<|?_
      by_cases h3:sb.size<(2+y2.toNat)
      ·
        refine R.qg rfl (q.gtr rfl rfl (decide_eq_true (by omega))) rfl<|R.u 1 rfl<|R.nil ?_
        refine R.aK rfl rfl ?_
        refine R.reg rfl<|R.q (q.build (cs:=[.string (⟨#[]⟩),.string (⟨#[]⟩),.bool false]) j3 rfl rfl) rfl<|R.q (q.iface rfl cD) rfl<|?_
        refine R.s rfl (s.st (us:=[.string (⟨#[]⟩),.string (⟨#[]⟩),.bool false]) (cs':=[.string (⟨#[]⟩),.string (⟨#[]⟩),.bool false]) 0 _ rfl rfl rfl rfl (.inl aX) rfl rfl rfl rfl) fun _=>?_
        refine R.u 1 rfl<|R.nil ?_
        exact R.vN rfl Try.results45 (RV.cell 0 rfl rfl aX) (RV.tmp rfl) (congrArg Change.val (show (⟨⟨#[]⟩,⟨#[]⟩,false⟩:Change)=(ib sb).1 from by (first|(rw [da (by omega)];first|done|rfl)|(rw [dc hy1 (by omega)];first|done|rfl)|(rw [df hy2 (by omega)];first|done|rfl)|(have f1:=aQ (⟨sb.extract 2 (2+y2.toNat),sb.extract (2+y2.toNat) sb.size,true⟩:Change);rw [bg (b:=true) hy1 hy2 (by omega) (by omega) (by omega) (decide_eq_true (by omega)).symm,if_pos (by omega)];first|done|rfl)|(have f1:=aQ (⟨sb.extract 2 (2+y2.toNat),sb.extract (2+y2.toNat) sb.size,false⟩:Change);rw [bg (b:=false) hy1 hy2 (by omega) (by omega) (by omega) (decide_eq_false (by omega)).symm,if_pos (by omega)];first|done|rfl)|(have f1:=aQ (⟨sb.extract 2 (2+y2.toNat),sb.extract (2+y2.toNat) sb.size,true⟩:Change);rw [bg (b:=true) hy1 hy2 (by omega) (by omega) (by omega) (decide_eq_true (by omega)).symm,if_neg (by omega)];first|done|rfl)|(have f1:=aQ (⟨sb.extract 2 (2+y2.toNat),sb.extract (2+y2.toNat) sb.size,false⟩:Change);rw [bg (b:=false) hy1 hy2 (by omega) (by omega) (by omega) (decide_eq_false (by omega)).symm,if_neg (by omega)];first|done|rfl)))) (fO (by decide) (by (first|(rw [da (by omega)];first|done|rfl)|(rw [dc hy1 (by omega)];first|done|rfl)|(rw [df hy2 (by omega)];first|done|rfl)|(have f1:=aQ (⟨sb.extract 2 (2+y2.toNat),sb.extract (2+y2.toNat) sb.size,true⟩:Change);rw [bg (b:=true) hy1 hy2 (by omega) (by omega) (by omega) (decide_eq_true (by omega)).symm,if_pos (by omega)];first|done|rfl)|(have f1:=aQ (⟨sb.extract 2 (2+y2.toNat),sb.extract (2+y2.toNat) sb.size,false⟩:Change);rw [bg (b:=false) hy1 hy2 (by omega) (by omega) (by omega) (decide_eq_false (by omega)).symm,if_pos (by omega)];first|done|rfl)|(have f1:=aQ (⟨sb.extract 2 (2+y2.toNat),sb.extract (2+y2.toNat) sb.size,true⟩:Change);rw [bg (b:=true) hy1 hy2 (by omega) (by omega) (by omega) (decide_eq_true (by omega)).symm,if_neg (by omega)];first|done|rfl)|(have f1:=aQ (⟨sb.extract 2 (2+y2.toNat),sb.extract (2+y2.toNat) sb.size,false⟩:Change);rw [bg (b:=false) hy1 hy2 (by omega) (by omega) (by omega) (decide_eq_false (by omega)).symm,if_neg (by omega)];first|done|rfl))))
      ·
        refine R.qg rfl (q.gtr rfl rfl (decide_eq_false (by omega))) rfl<|R.u 1 rfl<|R.nil ?_
        refine R.aI rfl rfl ?_
        refine R.reg rfl<|R.u 1 rfl<|R.q (q.dS (i:=1) rfl rfl Try.underlying9 rfl hy2) rfl<|R.q (q.iu (r:=((y2.toNat:Nat):Int)) rfl (by rw [Try.underlying5];rfl) Try.underlying3 (wr (by omega))) rfl<|R.q (q.add (r:=((2+y2.toNat:Nat):Int)) rfl rfl (wr (by omega))) rfl<|R.u 1 rfl<|R.nil ?_
        by_cases h4:y1.toNat=1
        ·
          refine R.eT (fuel:=12) (Wd w [] [ah.box b1 [.string (⟨#[]⟩),.string (⟨#[]⟩),.bool false] 51] []) rfl mixed rfl ?_
          refine D.q (i:=0) rfl (by kernel_rfl) (fun _=>Wd.aA [0] [] rfl rfl rfl) rfl (q.mv rfl) rfl<|D.q (i:=1) rfl (by kernel_rfl) (fun _=>Wd.aA [0] [] rfl rfl rfl) rfl (q.mv rfl) rfl<|D.q (i:=2) rfl (by kernel_rfl) (fun _=>Wd.aA [0] [] rfl rfl rfl) rfl (q.qt (i:=2) (j:=(2+y2.toNat)) rfl rfl rfl Try.underlying9 rfl rfl (by omega) (by omega)) rfl<|D.q (i:=3) rfl (by kernel_rfl) (fun _=>Wd.aA [0] [] rfl rfl rfl) rfl (q.mv rfl) rfl<|D.q (i:=4) rfl (by kernel_rfl) (fun _=>Wd.aA [0] [] rfl rfl rfl) rfl (q.mv rfl) rfl<|D.q (i:=5) rfl (by kernel_rfl) (fun _=>Wd.aA [0] [] rfl rfl rfl) rfl (q.sE (i:=(2+y2.toNat)) rfl rfl Try.underlying9 rfl (by omega)) rfl<|D.q (i:=6) rfl (by kernel_rfl) (fun _=>Wd.aA [0] [] rfl rfl rfl) rfl (q.mv rfl) rfl<|D.q (i:=7) rfl (by kernel_rfl) (fun _=>Wd.aA [0] [] rfl rfl rfl) rfl (q.dS (i:=0) rfl rfl Try.underlying9 rfl hy1) rfl<|D.q (i:=8) rfl (by kernel_rfl) (fun _=>Wd.aA [0] [] rfl rfl rfl) rfl (q.eql rfl rfl (beq_iff_eq.2 (by omega))) rfl<|D.q (i:=9) rfl (by kernel_rfl) (fun _=>Wd.aA [0] [] rfl rfl rfl) rfl (q.build (cs:=[.string (sb.extract 2 (2+y2.toNat)),.string (sb.extract (2+y2.toNat) sb.size),.bool true]) j3 rfl rfl) rfl<|?_
          refine D.one (i:=10) (by kernel_rfl) rfl ?_
          refine Do.s (s.alloc (cs:=[.string (⟨#[]⟩),.string (⟨#[]⟩),.bool false]) bT rfl rfl) (fun _=>(fun _=>Wd.aA [1] [] rfl rfl rfl)) rfl fun b2=>?_
          refine D.one (i:=11) (by kernel_rfl) rfl ?_
          refine Do.s (s.st (us:=[.string (sb.extract 2 (2+y2.toNat)),.string (sb.extract (2+y2.toNat) sb.size),.bool true]) (cs':=[.string (sb.extract 2 (2+y2.toNat)),.string (sb.extract (2+y2.toNat) sb.size),.bool true]) 0 _ rfl rfl rfl rfl (.inl aX) rfl rfl rfl rfl) (fun _=>(fun _=>Wd.aA [1] [] rfl rfl rfl)) rfl fun _=>?_
          refine D.done (by kernel_rfl)<|?_
          refine R.reg rfl<|R.q (q.mD 0 rfl rfl aX) rfl<|R.c (q.call mZ rfl rfl (fun w hw=>(dZ ((⟨(sb.extract 2 (2+y2.toNat)),(sb.extract (2+y2.toNat) sb.size),true⟩:Change)) w  ))) rfl<|?_
          by_cases h5:ea (⟨(sb.extract 2 (2+y2.toNat)),(sb.extract (2+y2.toNat) sb.size),true⟩:Change)=0
          ·
            refine R.q (q.dj rfl rfl Try.underlying28 (by omega)) rfl<|R.nil ?_
            refine R.aI rfl rfl ?_
            refine R.reg rfl<|R.q (q.mD 0 rfl rfl aX) rfl<|?_
            refine R.s rfl (s.st (us:=[.string (sb.extract 2 (2+y2.toNat)),.string (sb.extract (2+y2.toNat) sb.size),.bool true]) (cs':=[.string (sb.extract 2 (2+y2.toNat)),.string (sb.extract (2+y2.toNat) sb.size),.bool true]) 1 _ rfl rfl rfl rfl (.inl aX) rfl rfl rfl rfl) fun _=>?_
            refine R.u 1 rfl<|R.nil ?_
            exact R.vN rfl Try.results45 (RV.cell 1 rfl rfl aX) (RV.tmp rfl) (congrArg Change.val (show (⟨(sb.extract 2 (2+y2.toNat)),(sb.extract (2+y2.toNat) sb.size),true⟩:Change)=(ib sb).1 from by (first|(rw [da (by omega)];first|done|rfl)|(rw [dc hy1 (by omega)];first|done|rfl)|(rw [df hy2 (by omega)];first|done|rfl)|(have f1:=aQ (⟨sb.extract 2 (2+y2.toNat),sb.extract (2+y2.toNat) sb.size,true⟩:Change);rw [bg (b:=true) hy1 hy2 (by omega) (by omega) (by omega) (decide_eq_true (by omega)).symm,if_pos (by omega)];first|done|rfl)|(have f1:=aQ (⟨sb.extract 2 (2+y2.toNat),sb.extract (2+y2.toNat) sb.size,false⟩:Change);rw [bg (b:=false) hy1 hy2 (by omega) (by omega) (by omega) (decide_eq_false (by omega)).symm,if_pos (by omega)];first|done|rfl)|(have f1:=aQ (⟨sb.extract 2 (2+y2.toNat),sb.extract (2+y2.toNat) sb.size,true⟩:Change);rw [bg (b:=true) hy1 hy2 (by omega) (by omega) (by omega) (decide_eq_true (by omega)).symm,if_neg (by omega)];first|done|rfl)|(have f1:=aQ (⟨sb.extract 2 (2+y2.toNat),sb.extract (2+y2.toNat) sb.size,false⟩:Change);rw [bg (b:=false) hy1 hy2 (by omega) (by omega) (by omega) (decide_eq_false (by omega)).symm,if_neg (by omega)];first|done|rfl)))) (lp (by (first|(rw [da (by omega)];first|done|rfl)|(rw [dc hy1 (by omega)];first|done|rfl)|(rw [df hy2 (by omega)];first|done|rfl)|(have f1:=aQ (⟨sb.extract 2 (2+y2.toNat),sb.extract (2+y2.toNat) sb.size,true⟩:Change);rw [bg (b:=true) hy1 hy2 (by omega) (by omega) (by omega) (decide_eq_true (by omega)).symm,if_pos (by omega)];first|done|rfl)|(have f1:=aQ (⟨sb.extract 2 (2+y2.toNat),sb.extract (2+y2.toNat) sb.size,false⟩:Change);rw [bg (b:=false) hy1 hy2 (by omega) (by omega) (by omega) (decide_eq_false (by omega)).symm,if_pos (by omega)];first|done|rfl)|(have f1:=aQ (⟨sb.extract 2 (2+y2.toNat),sb.extract (2+y2.toNat) sb.size,true⟩:Change);rw [bg (b:=true) hy1 hy2 (by omega) (by omega) (by omega) (decide_eq_true (by omega)).symm,if_neg (by omega)];first|done|rfl)|(have f1:=aQ (⟨sb.extract 2 (2+y2.toNat),sb.extract (2+y2.toNat) sb.size,false⟩:Change);rw [bg (b:=false) hy1 hy2 (by omega) (by omega) (by omega) (decide_eq_false (by omega)).symm,if_neg (by omega)];first|done|rfl))))
          ·
            refine R.q (q.fy rfl rfl Try.underlying28 (by omega)) rfl<|R.nil ?_
            refine R.aK rfl rfl ?_
            refine R.reg rfl<|R.q (q.build (cs:=[.string (⟨#[]⟩),.string (⟨#[]⟩),.bool false]) j3 rfl rfl) rfl<|R.q (q.iface rfl cD) rfl<|?_
            refine R.s rfl (s.st (us:=[.string (⟨#[]⟩),.string (⟨#[]⟩),.bool false]) (cs':=[.string (⟨#[]⟩),.string (⟨#[]⟩),.bool false]) 1 _ rfl rfl rfl rfl (.inl aX) rfl rfl rfl rfl) fun _=>?_
            refine R.u 1 rfl<|R.nil ?_
            exact R.vN rfl Try.results45 (RV.cell 1 rfl rfl aX) (RV.tmp rfl) (congrArg Change.val (show (⟨⟨#[]⟩,⟨#[]⟩,false⟩:Change)=(ib sb).1 from by (first|(rw [da (by omega)];first|done|rfl)|(rw [dc hy1 (by omega)];first|done|rfl)|(rw [df hy2 (by omega)];first|done|rfl)|(have f1:=aQ (⟨sb.extract 2 (2+y2.toNat),sb.extract (2+y2.toNat) sb.size,true⟩:Change);rw [bg (b:=true) hy1 hy2 (by omega) (by omega) (by omega) (decide_eq_true (by omega)).symm,if_pos (by omega)];first|done|rfl)|(have f1:=aQ (⟨sb.extract 2 (2+y2.toNat),sb.extract (2+y2.toNat) sb.size,false⟩:Change);rw [bg (b:=false) hy1 hy2 (by omega) (by omega) (by omega) (decide_eq_false (by omega)).symm,if_pos (by omega)];first|done|rfl)|(have f1:=aQ (⟨sb.extract 2 (2+y2.toNat),sb.extract (2+y2.toNat) sb.size,true⟩:Change);rw [bg (b:=true) hy1 hy2 (by omega) (by omega) (by omega) (decide_eq_true (by omega)).symm,if_neg (by omega)];first|done|rfl)|(have f1:=aQ (⟨sb.extract 2 (2+y2.toNat),sb.extract (2+y2.toNat) sb.size,false⟩:Change);rw [bg (b:=false) hy1 hy2 (by omega) (by omega) (by omega) (decide_eq_false (by omega)).symm,if_neg (by omega)];first|done|rfl)))) (fO (by decide) (by (first|(rw [da (by omega)];first|done|rfl)|(rw [dc hy1 (by omega)];first|done|rfl)|(rw [df hy2 (by omega)];first|done|rfl)|(have f1:=aQ (⟨sb.extract 2 (2+y2.toNat),sb.extract (2+y2.toNat) sb.size,true⟩:Change);rw [bg (b:=true) hy1 hy2 (by omega) (by omega) (by omega) (decide_eq_true (by omega)).symm,if_pos (by omega)];first|done|rfl)|(have f1:=aQ (⟨sb.extract 2 (2+y2.toNat),sb.extract (2+y2.toNat) sb.size,false⟩:Change);rw [bg (b:=false) hy1 hy2 (by omega) (by omega) (by omega) (decide_eq_false (by omega)).symm,if_pos (by omega)];first|done|rfl)|(have f1:=aQ (⟨sb.extract 2 (2+y2.toNat),sb.extract (2+y2.toNat) sb.size,true⟩:Change);rw [bg (b:=true) hy1 hy2 (by omega) (by omega) (by omega) (decide_eq_true (by omega)).symm,if_neg (by omega)];first|done|rfl)|(have f1:=aQ (⟨sb.extract 2 (2+y2.toNat),sb.extract (2+y2.toNat) sb.size,false⟩:Change);rw [bg (b:=false) hy1 hy2 (by omega) (by omega) (by omega) (decide_eq_false (by omega)).symm,if_neg (by omega)];first|done|rfl))))
        ·
          refine R.eT (fuel:=12) (Wd w [] [ah.box b1 [.string (⟨#[]⟩),.string (⟨#[]⟩),.bool false] 51] []) rfl mixed rfl ?_
          refine D.q (i:=0) rfl (by kernel_rfl) (fun _=>Wd.aA [0] [] rfl rfl rfl) rfl (q.mv rfl) rfl<|D.q (i:=1) rfl (by kernel_rfl) (fun _=>Wd.aA [0] [] rfl rfl rfl) rfl (q.mv rfl) rfl<|D.q (i:=2) rfl (by kernel_rfl) (fun _=>Wd.aA [0] [] rfl rfl rfl) rfl (q.qt (i:=2) (j:=(2+y2.toNat)) rfl rfl rfl Try.underlying9 rfl rfl (by omega) (by omega)) rfl<|D.q (i:=3) rfl (by kernel_rfl) (fun _=>Wd.aA [0] [] rfl rfl rfl) rfl (q.mv rfl) rfl<|D.q (i:=4) rfl (by kernel_rfl) (fun _=>Wd.aA [0] [] rfl rfl rfl) rfl (q.mv rfl) rfl<|D.q (i:=5) rfl (by kernel_rfl) (fun _=>Wd.aA [0] [] rfl rfl rfl) rfl (q.sE (i:=(2+y2.toNat)) rfl rfl Try.underlying9 rfl (by omega)) rfl<|D.q (i:=6) rfl (by kernel_rfl) (fun _=>Wd.aA [0] [] rfl rfl rfl) rfl (q.mv rfl) rfl<|D.q (i:=7) rfl (by kernel_rfl) (fun _=>Wd.aA [0] [] rfl rfl rfl) rfl (q.dS (i:=0) rfl rfl Try.underlying9 rfl hy1) rfl<|D.q (i:=8) rfl (by kernel_rfl) (fun _=>Wd.aA [0] [] rfl rfl rfl) rfl (q.eql rfl rfl (beq_eq_false_iff_ne.2 (by omega))) rfl<|D.q (i:=9) rfl (by kernel_rfl) (fun _=>Wd.aA [0] [] rfl rfl rfl) rfl (q.build (cs:=[.string (sb.extract 2 (2+y2.toNat)),.string (sb.extract (2+y2.toNat) sb.size),.bool false]) j3 rfl rfl) rfl<|?_
          refine D.one (i:=10) (by kernel_rfl) rfl ?_
          refine Do.s (s.alloc (cs:=[.string (⟨#[]⟩),.string (⟨#[]⟩),.bool false]) bT rfl rfl) (fun _=>(fun _=>Wd.aA [1] [] rfl rfl rfl)) rfl fun b3=>?_
          refine D.one (i:=11) (by kernel_rfl) rfl ?_
          refine Do.s (s.st (us:=[.string (sb.extract 2 (2+y2.toNat)),.string (sb.extract (2+y2.toNat) sb.size),.bool false]) (cs':=[.string (sb.extract 2 (2+y2.toNat)),.string (sb.extract (2+y2.toNat) sb.size),.bool false]) 0 _ rfl rfl rfl rfl (.inl aX) rfl rfl rfl rfl) (fun _=>(fun _=>Wd.aA [1] [] rfl rfl rfl)) rfl fun _=>?_
          refine D.done (by kernel_rfl)<|?_
          refine R.reg rfl<|R.q (q.mD 0 rfl rfl aX) rfl<|R.c (q.call mZ rfl rfl (fun w hw=>(dZ ((⟨(sb.extract 2 (2+y2.toNat)),(sb.extract (2+y2.toNat) sb.size),false⟩:Change)) w  ))) rfl<|?_
          by_cases h6:ea (⟨(sb.extract 2 (2+y2.toNat)),(sb.extract (2+y2.toNat) sb.size),false⟩:Change)=0
          ·
            refine R.q (q.dj rfl rfl Try.underlying28 (by omega)) rfl<|R.nil ?_
            refine R.aI rfl rfl ?_
            refine R.reg rfl<|R.q (q.mD 0 rfl rfl aX) rfl<|?_
            refine R.s rfl (s.st (us:=[.string (sb.extract 2 (2+y2.toNat)),.string (sb.extract (2+y2.toNat) sb.size),.bool false]) (cs':=[.string (sb.extract 2 (2+y2.toNat)),.string (sb.extract (2+y2.toNat) sb.size),.bool false]) 1 _ rfl rfl rfl rfl (.inl aX) rfl rfl rfl rfl) fun _=>?_
            refine R.u 1 rfl<|R.nil ?_
            exact R.vN rfl Try.results45 (RV.cell 1 rfl rfl aX) (RV.tmp rfl) (congrArg Change.val (show (⟨(sb.extract 2 (2+y2.toNat)),(sb.extract (2+y2.toNat) sb.size),false⟩:Change)=(ib sb).1 from by (first|(rw [da (by omega)];first|done|rfl)|(rw [dc hy1 (by omega)];first|done|rfl)|(rw [df hy2 (by omega)];first|done|rfl)|(have f1:=aQ (⟨sb.extract 2 (2+y2.toNat),sb.extract (2+y2.toNat) sb.size,true⟩:Change);rw [bg (b:=true) hy1 hy2 (by omega) (by omega) (by omega) (decide_eq_true (by omega)).symm,if_pos (by omega)];first|done|rfl)|(have f1:=aQ (⟨sb.extract 2 (2+y2.toNat),sb.extract (2+y2.toNat) sb.size,false⟩:Change);rw [bg (b:=false) hy1 hy2 (by omega) (by omega) (by omega) (decide_eq_false (by omega)).symm,if_pos (by omega)];first|done|rfl)|(have f1:=aQ (⟨sb.extract 2 (2+y2.toNat),sb.extract (2+y2.toNat) sb.size,true⟩:Change);rw [bg (b:=true) hy1 hy2 (by omega) (by omega) (by omega) (decide_eq_true (by omega)).symm,if_neg (by omega)];first|done|rfl)|(have f1:=aQ (⟨sb.extract 2 (2+y2.toNat),sb.extract (2+y2.toNat) sb.size,false⟩:Change);rw [bg (b:=false) hy1 hy2 (by omega) (by omega) (by omega) (decide_eq_false (by omega)).symm,if_neg (by omega)];first|done|rfl)))) (lp (by (first|(rw [da (by omega)];first|done|rfl)|(rw [dc hy1 (by omega)];first|done|rfl)|(rw [df hy2 (by omega)];first|done|rfl)|(have f1:=aQ (⟨sb.extract 2 (2+y2.toNat),sb.extract (2+y2.toNat) sb.size,true⟩:Change);rw [bg (b:=true) hy1 hy2 (by omega) (by omega) (by omega) (decide_eq_true (by omega)).symm,if_pos (by omega)];first|done|rfl)|(have f1:=aQ (⟨sb.extract 2 (2+y2.toNat),sb.extract (2+y2.toNat) sb.size,false⟩:Change);rw [bg (b:=false) hy1 hy2 (by omega) (by omega) (by omega) (decide_eq_false (by omega)).symm,if_pos (by omega)];first|done|rfl)|(have f1:=aQ (⟨sb.extract 2 (2+y2.toNat),sb.extract (2+y2.toNat) sb.size,true⟩:Change);rw [bg (b:=true) hy1 hy2 (by omega) (by omega) (by omega) (decide_eq_true (by omega)).symm,if_neg (by omega)];first|done|rfl)|(have f1:=aQ (⟨sb.extract 2 (2+y2.toNat),sb.extract (2+y2.toNat) sb.size,false⟩:Change);rw [bg (b:=false) hy1 hy2 (by omega) (by omega) (by omega) (decide_eq_false (by omega)).symm,if_neg (by omega)];first|done|rfl))))
          ·
            refine R.q (q.fy rfl rfl Try.underlying28 (by omega)) rfl<|R.nil ?_
            refine R.aK rfl rfl ?_
            refine R.reg rfl<|R.q (q.build (cs:=[.string (⟨#[]⟩),.string (⟨#[]⟩),.bool false]) j3 rfl rfl) rfl<|R.q (q.iface rfl cD) rfl<|?_
            refine R.s rfl (s.st (us:=[.string (⟨#[]⟩),.string (⟨#[]⟩),.bool false]) (cs':=[.string (⟨#[]⟩),.string (⟨#[]⟩),.bool false]) 1 _ rfl rfl rfl rfl (.inl aX) rfl rfl rfl rfl) fun _=>?_
            refine R.u 1 rfl<|R.nil ?_
            exact R.vN rfl Try.results45 (RV.cell 1 rfl rfl aX) (RV.tmp rfl) (congrArg Change.val (show (⟨⟨#[]⟩,⟨#[]⟩,false⟩:Change)=(ib sb).1 from by (first|(rw [da (by omega)];first|done|rfl)|(rw [dc hy1 (by omega)];first|done|rfl)|(rw [df hy2 (by omega)];first|done|rfl)|(have f1:=aQ (⟨sb.extract 2 (2+y2.toNat),sb.extract (2+y2.toNat) sb.size,true⟩:Change);rw [bg (b:=true) hy1 hy2 (by omega) (by omega) (by omega) (decide_eq_true (by omega)).symm,if_pos (by omega)];first|done|rfl)|(have f1:=aQ (⟨sb.extract 2 (2+y2.toNat),sb.extract (2+y2.toNat) sb.size,false⟩:Change);rw [bg (b:=false) hy1 hy2 (by omega) (by omega) (by omega) (decide_eq_false (by omega)).symm,if_pos (by omega)];first|done|rfl)|(have f1:=aQ (⟨sb.extract 2 (2+y2.toNat),sb.extract (2+y2.toNat) sb.size,true⟩:Change);rw [bg (b:=true) hy1 hy2 (by omega) (by omega) (by omega) (decide_eq_true (by omega)).symm,if_neg (by omega)];first|done|rfl)|(have f1:=aQ (⟨sb.extract 2 (2+y2.toNat),sb.extract (2+y2.toNat) sb.size,false⟩:Change);rw [bg (b:=false) hy1 hy2 (by omega) (by omega) (by omega) (decide_eq_false (by omega)).symm,if_neg (by omega)];first|done|rfl)))) (fO (by decide) (by (first|(rw [da (by omega)];first|done|rfl)|(rw [dc hy1 (by omega)];first|done|rfl)|(rw [df hy2 (by omega)];first|done|rfl)|(have f1:=aQ (⟨sb.extract 2 (2+y2.toNat),sb.extract (2+y2.toNat) sb.size,true⟩:Change);rw [bg (b:=true) hy1 hy2 (by omega) (by omega) (by omega) (decide_eq_true (by omega)).symm,if_pos (by omega)];first|done|rfl)|(have f1:=aQ (⟨sb.extract 2 (2+y2.toNat),sb.extract (2+y2.toNat) sb.size,false⟩:Change);rw [bg (b:=false) hy1 hy2 (by omega) (by omega) (by omega) (decide_eq_false (by omega)).symm,if_pos (by omega)];first|done|rfl)|(have f1:=aQ (⟨sb.extract 2 (2+y2.toNat),sb.extract (2+y2.toNat) sb.size,true⟩:Change);rw [bg (b:=true) hy1 hy2 (by omega) (by omega) (by omega) (decide_eq_true (by omega)).symm,if_neg (by omega)];first|done|rfl)|(have f1:=aQ (⟨sb.extract 2 (2+y2.toNat),sb.extract (2+y2.toNat) sb.size,false⟩:Change);rw [bg (b:=false) hy1 hy2 (by omega) (by omega) (by omega) (decide_eq_false (by omega)).symm,if_neg (by omega)];first|done|rfl))))
theorem nV {α:Type}{f:α→Int}{l:List α}(h:j6 f l=true):eU f l<l.length:=by
  obtain ⟨x,hx,_⟩:=sV h
  exact (List.getElem?_eq_some_iff.1 hx).1
theorem iE (dP:Value)(rows:List Change)(bR:Value)(l:List Change)(w:World)(own:List Nat)(H:Wd w (blks []++own) ([]++[ah.held w own]) [ah.ls dP (rows:List Change),ah.ls bR (l:List Change)] w)(hl:rows.length+l.length≤100000):Calls Try.prog 56 #[dP,bR] w fun e w' => ∃z:Value,e = .returned (z)∧Wd w (blks []++own) ([ah.row 51 z ((a7 rows l):List Change)]++[ah.held w own]) [] w':=by
  have wh:=H.jD 0 rfl
  have vC:=H.jD 1 rfl
  refine R.bW (n:=52) (vs:=[dP,bR]) (B:=[ah.held w own]) [(0,dP),(1,bR)] Try.func56 rfl rfl rfl rfl H ?_
  refine R.reg rfl<|R.u 1 rfl<|R.nil ?_
  refine R.reg rfl<|R.u 1 rfl<|?_
  refine R.s (B':=(fun aW:Value=>[ah.row 51 aW (rows:List Change),ah.held w own])) (F':=(fun aW:Value=>[ah.ls dP (rows:List Change),ah.ls bR (l:List Change)])) rfl (s.bD (B0:=[]) (Br:=[ah.held w own]) (F0:=[ah.ls dP (rows:List Change)]) [0] [0] (fun aW:Value=>aW) (fun aW:Value=>[ah.row 51 aW (rows:List Change)]) (fun aW:Value=>[]) rfl rfl rfl vz rfl rfl (fun w own hw H=>iK dP (rows) w own H (by first|omega|assumption|(simp;done)|(simp;omega))) rfl) fun z1=>?_
  refine R.u 1 rfl<|R.nil ?_
  refine R.reg rfl<|R.u 1 rfl<|R.q (q.len' (fun _=>Wd.bZ 1 rfl) rfl Try.underlying46) rfl<|R.u 1 rfl<|R.nil ?_
  refine R.loop (fun g_:Nat×Value×(List Change)=>[(0,g_.2.1),(11,bR),(12,.int .i64 (l.length:Int)),(13,.int .i64 (g_.1:Int))]) (fun g_:Nat×Value×(List Change)=>[ah.row 51 g_.2.1 (g_.2.2:List Change),ah.held w own]) (fun g_:Nat×Value×(List Change)=>[ah.ls dP (rows:List Change),ah.ls bR (l:List Change)]) (fun g_:Nat×Value×(List Change)=>g_.1≤l.length∧g_.2.2=a7 rows (l.take g_.1)) (fun g_:Nat×Value×(List Change)=>l.length-g_.1) (0,z1,rows) rfl (by exact ⟨by omega,rfl⟩) ⟨rfl,rfl,rfl,rfl,trivial⟩ (fun _=>Wd.pick [0,1] [0,1] rfl rfl rfl) ?_
  rintro ⟨k,u,rs⟩ ⟨hk,HR⟩
  dsimp only at *
  have hrl:=fj (l.take k) rows;rw [← HR,List.length_take] at hrl
  refine R.reg rfl<|?_
  by_cases h1:k<l.length
  ·
    refine R.q (q.lss rfl rfl (decide_eq_true (by omega))) rfl<|R.nil ?_
    refine R.aK rfl rfl ?_
    refine R.reg rfl<|?_
    obtain ⟨x1,hx1⟩:∃z,l[k]? = some z:=⟨_,List.getElem?_eq_getElem (by omega)⟩
    refine R.q (q.idx (i:=k) (fun _=>Wd.bZ 1 rfl) rfl rfl aT rfl hx1) rfl<|R.q (q.iU (ds:=[.string x1.Key,.string x1.Val,.bool x1.Gone]) (fun _=>Wd.bZ 1 rfl) hx1 rfl aX rfl) rfl<|?_
    refine R.s rfl (s.alloc (cs:=[.string (⟨#[]⟩),.string (⟨#[]⟩),.bool false]) bT rfl rfl) fun b1=>?_
    refine R.s rfl (s.st (us:=[.string x1.Key,.string x1.Val,.bool x1.Gone]) (cs':=[.string x1.Key,.string x1.Val,.bool x1.Gone]) 0 _ rfl rfl rfl rfl (.inl aX) rfl rfl rfl rfl) fun _=>?_
    refine R.nil ?_
    refine R.reg rfl<|R.u 1 rfl<|R.q (q.bJ (off':=0) rfl bu rfl) rfl<|R.q (q.ld 0 rfl rfl bB rfl) rfl<|R.c (q.call xL rfl rfl (fun w hw=>(j9 _ (rs) (x1.Key) (fun (x:Change) (k:ByteArray)=>fK k x) _ _ xM w ((fun _=>Wd.row 1 rfl) w hw) (fun W x k hW=>nS x k  W  ) (by first|omega|assumption|(simp;done)|(simp;omega))))) rfl<|R.u 5 rfl<|R.nil ?_
    refine R.reg rfl<|R.u 2 rfl<|?_
    rcases Bool.eq_false_or_eq_true (j6 (fun x=>(fun (x:Change) (k:ByteArray)=>fK k x) x x1.Key) rs) with h2|h2
    ·
      rw [h2]
      refine R.qg rfl (q.bJ (off':=2) rfl hX rfl) rfl<|R.qg rfl (q.ld 0 rfl rfl eO rfl) rfl<|R.u 2 rfl<|R.nil ?_
      refine R.cond rfl rfl (fun h3=>?_) (fun h3=>?_)
      ·
        have hb0:eU (fun x=>(fun (x:Change) (k:ByteArray)=>fK k x) x x1.Key) rs≤rs.length:=jF;have hb1:eU (fun x=>fK x1.Key x) rs≤rs.length:=jF;have ze:eU (fun x=>fK x1.Key x) rs=eU (fun x=>(fun (x:Change) (k:ByteArray)=>fK k x) x x1.Key) rs:=rfl
        have zL:eU (fun x=>(fun (x:Change) (k:ByteArray)=>fK k x) x x1.Key) rs<rs.length:=nV (by assumption);have zM:eU (fun x=>fK x1.Key x) rs<rs.length:=nV (by assumption)
        refine R.reg rfl<|R.u 3 rfl<|R.q (q.add (r:=((eU (fun x=>(fun (x:Change) (k:ByteArray)=>fK k x) x x1.Key) rs+1:Nat):Int)) rfl rfl (wr (by omega))) rfl<|?_
        refine R.s (B':=(fun aW:Value=>[ah.row 51 aW ((rs.take (eU (fun x=>(fun (x:Change) (k:ByteArray)=>fK k x) x x1.Key) rs)++rs.drop (eU (fun x=>(fun (x:Change) (k:ByteArray)=>fK k x) x x1.Key) rs+1)):List Change),ah.box b1 [.string x1.Key,.string x1.Val,.bool x1.Gone] 51,ah.held w own])) (F':=(fun aW:Value=>[ah.ls dP (rows:List Change),ah.ls bR (l:List Change)])) rfl (s.bD (B0:=[ah.row 51 u (rs:List Change)]) (Br:=[ah.box b1 [.string x1.Key,.string x1.Val,.bool x1.Gone] 51,ah.held w own]) (F0:=[]) [1,0,2] [] (fun aW:Value=>aW) (fun aW:Value=>[ah.row 51 aW ((rs.take (eU (fun x=>(fun (x:Change) (k:ByteArray)=>fK k x) x x1.Key) rs)++rs.drop (eU (fun x=>(fun (x:Change) (k:ByteArray)=>fK k x) x x1.Key) rs+1)):List Change)]) (fun aW:Value=>[]) rfl rfl rfl xP rfl rfl (fun w own hw H=>by have yr:=kv u (rs) (eU (fun x=>(fun (x:Change) (k:ByteArray)=>fK k x) x x1.Key) rs) ((eU (fun x=>(fun (x:Change) (k:ByteArray)=>fK k x) x x1.Key) rs+1)) w own H (by omega);exact yr) rfl) fun z2=>?_
        refine R.u 1 rfl<|R.nil ?_
        refine R.reg rfl<|R.q (q.add (r:=((k+1:Nat):Int)) rfl rfl (wr (by omega))) rfl<|R.u 1 rfl<|R.nil ?_
        refine R.back (k+1,z2,rs.take (eU (fun x=>(fun (x:Change) (k:ByteArray)=>fK k x) x x1.Key) rs)++rs.drop (eU (fun x=>(fun (x:Change) (k:ByteArray)=>fK k x) x x1.Key) rs+1)) rfl (by (exact ⟨by omega,by rw [iD hx1,← HR];unfold mF;first|(rw [if_pos (show j6 (fK x1.Key) rs=true from by assumption),if_pos (by first|assumption|(simpa using ‹(!x1.Gone)=false›))];done)|(rw [if_pos (show j6 (fK x1.Key) rs=true from by assumption),if_neg (by rw [show x1.Gone=false from by first|assumption|(simpa using ‹(!x1.Gone)=true›)];decide)];done)|(rw [if_neg (by rw [show j6 (fK x1.Key) rs=false from by assumption];decide),if_pos (by first|assumption|(simpa using ‹(!x1.Gone)=false›))];done)|(rw [if_neg (by rw [show j6 (fK x1.Key) rs=false from by assumption];decide),if_neg (by rw [show x1.Gone=false from by first|assumption|(simpa using ‹(!x1.Gone)=true›)];decide)];done)⟩)) (by dsimp only;omega) ⟨rfl,rfl,rfl,rfl,trivial⟩ (fun _=>Wd.aA [0,2] [0,1] rfl rfl rfl)
      ·
        refine R.reg rfl<|R.u 2 rfl<|R.nil ?_
        refine R.aK rfl rfl ?_
        have hb0:eU (fun x=>(fun (x:Change) (k:ByteArray)=>fK k x) x x1.Key) rs≤rs.length:=jF;have hb1:eU (fun x=>fK x1.Key x) rs≤rs.length:=jF;have ze:eU (fun x=>fK x1.Key x) rs=eU (fun x=>(fun (x:Change) (k:ByteArray)=>fK k x) x x1.Key) rs:=rfl
        have zL:eU (fun x=>(fun (x:Change) (k:ByteArray)=>fK k x) x x1.Key) rs<rs.length:=nV (by assumption);have zM:eU (fun x=>fK x1.Key x) rs<rs.length:=nV (by assumption)
        refine R.reg rfl<|R.u 2 rfl<|R.q (q.mD 0 rfl rfl aX) rfl<|?_
        obtain ⟨x2,hx2⟩:∃z,rs[eU (fun x=>(fun (x:Change) (k:ByteArray)=>fK k x) x x1.Key) rs]? = some z:=⟨_,List.getElem?_eq_getElem (by omega)⟩
        refine R.q (q.idx (i:=eU (fun x=>(fun (x:Change) (k:ByteArray)=>fK k x) x x1.Key) rs) (fun _=>Wd.row 1 rfl) rfl rfl aT rfl hx2) rfl<|?_
        refine R.s rfl (s.yp (z:=x1) 1 _ rfl hx2 rfl rfl rfl rfl (.inl aX) rfl) fun _=>?_
        refine R.nil ?_
        refine R.reg rfl<|R.q (q.add (r:=((k+1:Nat):Int)) rfl rfl (wr (by omega))) rfl<|R.u 1 rfl<|R.nil ?_
        refine R.back (k+1,u,(rs.set (eU (fun x=>(fun (x:Change) (k:ByteArray)=>fK k x) x x1.Key) rs) x1)) rfl (by (exact ⟨by omega,by rw [iD hx1,← HR];unfold mF;first|(rw [if_pos (show j6 (fK x1.Key) rs=true from by assumption),if_pos (by first|assumption|(simpa using ‹(!x1.Gone)=false›))];done)|(rw [if_pos (show j6 (fK x1.Key) rs=true from by assumption),if_neg (by rw [show x1.Gone=false from by first|assumption|(simpa using ‹(!x1.Gone)=true›)];decide)];done)|(rw [if_neg (by rw [show j6 (fK x1.Key) rs=false from by assumption];decide),if_pos (by first|assumption|(simpa using ‹(!x1.Gone)=false›))];done)|(rw [if_neg (by rw [show j6 (fK x1.Key) rs=false from by assumption];decide),if_neg (by rw [show x1.Gone=false from by first|assumption|(simpa using ‹(!x1.Gone)=true›)];decide)];done)⟩)) (by dsimp only;omega) ⟨rfl,rfl,rfl,rfl,trivial⟩ (fun _=>Wd.aA [1,2] [0,1] rfl rfl rfl)
    ·
      rw [h2]
      refine R.u 4 rfl<|R.nil ?_
      refine R.aI rfl rfl ?_
      refine R.reg rfl<|R.u 2 rfl<|R.nil ?_
      refine R.aI rfl rfl ?_
      refine R.reg rfl<|R.q (q.bJ (off':=2) rfl hX rfl) rfl<|R.q (q.ld 0 rfl rfl eO rfl) rfl<|R.q (q.not rfl) rfl<|R.u 1 rfl<|R.nil ?_
      refine R.cond rfl rfl (fun h4=>?_) (fun h4=>?_)
      ·
        have hb0:eU (fun x=>(fun (x:Change) (k:ByteArray)=>fK k x) x x1.Key) rs≤rs.length:=jF;have hb1:eU (fun x=>fK x1.Key x) rs≤rs.length:=jF;have ze:eU (fun x=>fK x1.Key x) rs=eU (fun x=>(fun (x:Change) (k:ByteArray)=>fK k x) x x1.Key) rs:=rfl
        refine R.reg rfl<|R.u 2 rfl<|R.q (q.mD 0 rfl rfl aX) rfl<|?_
        refine R.s rfl (s.bs (l:=([x1]:List Change)) aT bT rfl rfl rfl rfl rfl rfl rfl) fun b2=>?_
        refine R.s (B':=(fun aW:Value=>[ah.row 51 aW ((rs.take (eU (fun x=>(fun (x:Change) (k:ByteArray)=>fK k x) x x1.Key) rs)++([x1])++rs.drop (eU (fun x=>(fun (x:Change) (k:ByteArray)=>fK k x) x x1.Key) rs)):List Change),ah.box b1 [.string x1.Key,.string x1.Val,.bool x1.Gone] 51,ah.held w own])) (F':=(fun aW:Value=>[ah.ls dP (rows:List Change),ah.ls bR (l:List Change)])) rfl (s.bD (B0:=[ah.row 51 u (rs:List Change),ah.row 51 (.slice (some ⟨b2,0,none⟩) 1 1) ([x1]:List Change)]) (Br:=[ah.box b1 [.string x1.Key,.string x1.Val,.bool x1.Gone] 51,ah.held w own]) (F0:=[]) [2,0,1,3] [] (fun aW:Value=>aW) (fun aW:Value=>[ah.row 51 aW ((rs.take (eU (fun x=>(fun (x:Change) (k:ByteArray)=>fK k x) x x1.Key) rs)++([x1])++rs.drop (eU (fun x=>(fun (x:Change) (k:ByteArray)=>fK k x) x x1.Key) rs)):List Change)]) (fun aW:Value=>[]) rfl rfl rfl xQ rfl rfl (fun w own hw H=>by have yr:=kx u (rs) (eU (fun x=>(fun (x:Change) (k:ByteArray)=>fK k x) x x1.Key) rs) (.slice (some ⟨b2,0,none⟩) 1 1) ([x1]) w own H (by first|assumption|omega) (rfl) (by first|omega|assumption|(simp;done)|(simp;omega));exact yr) rfl) fun z3=>?_
        refine R.u 1 rfl<|R.nil ?_
        refine R.reg rfl<|R.q (q.add (r:=((k+1:Nat):Int)) rfl rfl (wr (by omega))) rfl<|R.u 1 rfl<|R.nil ?_
        refine R.back (k+1,z3,rs.take (eU (fun x=>(fun (x:Change) (k:ByteArray)=>fK k x) x x1.Key) rs)++([x1])++rs.drop (eU (fun x=>(fun (x:Change) (k:ByteArray)=>fK k x) x x1.Key) rs)) rfl (by (exact ⟨by omega,by rw [iD hx1,← HR];unfold mF;first|(rw [if_pos (show j6 (fK x1.Key) rs=true from by assumption),if_pos (by first|assumption|(simpa using ‹(!x1.Gone)=false›))];done)|(rw [if_pos (show j6 (fK x1.Key) rs=true from by assumption),if_neg (by rw [show x1.Gone=false from by first|assumption|(simpa using ‹(!x1.Gone)=true›)];decide)];done)|(rw [if_neg (by rw [show j6 (fK x1.Key) rs=false from by assumption];decide),if_pos (by first|assumption|(simpa using ‹(!x1.Gone)=false›))];done)|(rw [if_neg (by rw [show j6 (fK x1.Key) rs=false from by assumption];decide),if_neg (by rw [show x1.Gone=false from by first|assumption|(simpa using ‹(!x1.Gone)=true›)];decide)];done)⟩)) (by dsimp only;omega) ⟨rfl,rfl,rfl,rfl,trivial⟩ (fun _=>Wd.aA [0,2] [0,1] rfl rfl rfl)
      ·
        refine R.reg rfl<|R.q (q.add (r:=((k+1:Nat):Int)) rfl rfl (wr (by omega))) rfl<|R.u 1 rfl<|R.nil ?_
        refine R.back (k+1,u,rs) rfl (by (exact ⟨by omega,by rw [iD hx1,← HR];unfold mF;first|(rw [if_pos (show j6 (fK x1.Key) rs=true from by assumption),if_pos (by first|assumption|(simpa using ‹(!x1.Gone)=false›))];done)|(rw [if_pos (show j6 (fK x1.Key) rs=true from by assumption),if_neg (by rw [show x1.Gone=false from by first|assumption|(simpa using ‹(!x1.Gone)=true›)];decide)];done)|(rw [if_neg (by rw [show j6 (fK x1.Key) rs=false from by assumption];decide),if_pos (by first|assumption|(simpa using ‹(!x1.Gone)=false›))];done)|(rw [if_neg (by rw [show j6 (fK x1.Key) rs=false from by assumption];decide),if_neg (by rw [show x1.Gone=false from by first|assumption|(simpa using ‹(!x1.Gone)=true›)];decide)];done)⟩)) (by dsimp only;omega) ⟨rfl,rfl,rfl,rfl,trivial⟩ (fun _=>Wd.aA [1,2] [0,1] rfl rfl rfl)
  ·
    refine R.q (q.lss rfl rfl (decide_eq_false (by omega))) rfl<|R.nil ?_
    refine R.aI rfl rfl ?_
    refine R.reg rfl<|R.u 2 rfl<|R.nil ?_
    have hz:a7 rows l=rs:=by (rw [HR,List.take_of_length_le (by omega)])
    rw [hz]
    exact R.w1 u [0,1] [] rfl Try.results56 (RV.tmp rfl) rfl rfl rfl rfl
theorem gO (dP:Value)(rows:List Change)(bR:Value)(l:List Change)(w:World)(own:List Nat)(H:Wd w (blks []++own) ([]++[ah.held w own]) [ah.ls dP (rows:List Change),ah.ls bR (l:List Change)] w)(hl:rows.length+l.length≤100000):Calls Try.prog 36 #[dP,bR] w fun e w' => ∃z:Value,e = .returned (z)∧Wd w (blks []++own) ([ah.row 51 z ((bz rows l):List Change)]++[ah.held w own]) [] w':=by
  have wh:=H.jD 0 rfl
  have vC:=H.jD 1 rfl
  refine R.bW (n:=80) (vs:=[dP,bR]) (B:=[ah.held w own]) [(0,dP),(1,bR)] Try.func36 rfl rfl rfl rfl H ?_
  refine R.reg rfl<|R.u 1 rfl<|R.nil ?_
  refine R.reg rfl<|R.u 1 rfl<|?_
  refine R.s rfl (s.app0 (l2:=rows) rfl rfl (fun _=>Wd.bZ 0 rfl) ek (by first|omega|(simp;omega)) (by first|omega|(simp;omega)) rfl) fun v1=>?_
  refine R.u 1 rfl<|R.nil ?_
  refine R.reg rfl<|R.u 1 rfl<|R.nil ?_
  refine R.loop (fun g_:Nat×Value×(List Change)=>[(1,bR),(5,g_.2.1),(6,.int .i64 (g_.1:Int))]) (fun g_:Nat×Value×(List Change)=>[ah.row 51 g_.2.1 (g_.2.2:List Change),ah.held w own]) (fun g_:Nat×Value×(List Change)=>[ah.ls dP (rows:List Change),ah.ls bR (l:List Change)]) (fun g_:Nat×Value×(List Change)=>g_.1≤l.length∧g_.2.2=bz rows (l.take g_.1)) (fun g_:Nat×Value×(List Change)=>l.length-g_.1) (0,v1,rows) rfl (by exact ⟨by omega,by first|rfl|exact (List.nil_append _)⟩) ⟨rfl,rfl,rfl,trivial⟩ (fun _=>Wd.pick [0,1] [0,1] rfl rfl rfl) ?_
  rintro ⟨k,u,rs⟩ ⟨hk,HR⟩
  dsimp only at *
  have hrl:=fT (l.take k) rows;rw [← HR,List.length_take] at hrl
  refine R.reg rfl<|R.u 2 rfl<|R.q (q.len' (fun _=>Wd.bZ 1 rfl) rfl Try.underlying46) rfl<|?_
  by_cases h1:k<l.length
  ·
    refine R.q (q.lss rfl rfl (decide_eq_true (by omega))) rfl<|R.nil ?_
    refine R.aK rfl rfl ?_
    refine R.reg rfl<|R.u 1 rfl<|R.nil ?_
    refine R.reg rfl<|R.u 2 rfl<|?_
    obtain ⟨x1,hx1⟩:∃z,l[k]? = some z:=⟨_,List.getElem?_eq_getElem (by omega)⟩
    refine R.q (q.idx (i:=k) (fun _=>Wd.bZ 1 rfl) rfl rfl aT rfl hx1) rfl<|R.q (q.im (j':=2) (fun _=>Wd.bZ 1 rfl) hx1 rfl hX rfl) rfl<|R.q (q.iP (fun _=>Wd.bZ 1 rfl) hx1 rfl eO rfl) rfl<|R.u 1 rfl<|R.nil ?_
    refine R.reg rfl<|R.u 1 rfl<|R.nil ?_
    refine R.row0 (α:=Change) 51 ?_
    refine R.loop (fun g_:Nat×Bool×Value×(List Change)=>[(1,bR),(5,u),(6,.int .i64 (k:Int)),(7,g_.2.2.1),(8,.bool g_.2.1),(9,.int .i64 (g_.1:Int))]) (fun g_:Nat×Bool×Value×(List Change)=>[ah.row 51 g_.2.2.1 (g_.2.2.2:List Change),ah.row 51 u (rs:List Change),ah.held w own]) (fun g_:Nat×Bool×Value×(List Change)=>[ah.ls dP (rows:List Change),ah.ls bR (l:List Change)]) (fun g_:Nat×Bool×Value×(List Change)=>g_.1≤rs.length∧(g_.2.2.2,g_.2.1)=mG (rs.take g_.1) x1) (fun g_:Nat×Bool×Value×(List Change)=>rs.length-g_.1) (0,x1.Gone,(.slice none 0 0),[]) rfl (by exact ⟨by omega,rfl⟩) ⟨rfl,rfl,rfl,rfl,rfl,rfl,trivial⟩ (fun _=>Wd.pick [0,1,2] [0,1] rfl rfl rfl) ?_
    rintro ⟨m,b,u2,os⟩ ⟨hm,HO⟩
    dsimp only at *
    have hol:=lP x1 (rs.take m) ([],x1.Gone);rw [show (rs.take m).foldl (bX x1) ([],x1.Gone)=(os,b) from HO.symm,List.length_take] at hol;have zN:os.length≤m+1:=(by have q1:(if b=true then 0 else 1)+os.length=os.length+(if b=true then 0 else 1):=Nat.add_comm _ _;dsimp only at hol;have q2:(if x1.Gone=true then 0 else 1)≤1:=(by split <;> omega);simp only [List.length_nil] at hol;omega)
    refine R.reg rfl<|R.u 2 rfl<|R.q (q.len' (fun _=>Wd.row 1 rfl) rfl Try.underlying46) rfl<|?_
    by_cases h2:m<rs.length
    ·
      refine R.q (q.lss rfl rfl (decide_eq_true (by omega))) rfl<|R.nil ?_
      refine R.aK rfl rfl ?_
      cases b
      ·
        obtain ⟨x2,hx2⟩:∃z,rs[m]? = some z:=⟨_,List.getElem?_eq_getElem (by omega)⟩
        rcases Bool.eq_false_or_eq_true ((gh x1.Key x2.Key||decide (x1.Key=x2.Key))) with h3|h3
        ·
          refine R.d9 rfl mixed (by kernel_rfl)<|Q.u 5 rfl<|Q.qg rfl (q.idx (i:=k) (fun _=>Wd.bZ 1 rfl) rfl rfl aT rfl hx1) rfl<|Q.qg rfl (q.im (j':=0) (fun _=>Wd.bZ 1 rfl) hx1 rfl bu rfl) rfl<|Q.qg rfl (q.iP (fun _=>Wd.bZ 1 rfl) hx1 rfl bB rfl) rfl<|Q.u 2 rfl<|Q.qg rfl (q.idx (i:=m) (fun _=>Wd.row 1 rfl) rfl rfl aT rfl hx2) rfl<|Q.qg rfl (q.im (j':=0) (fun _=>Wd.row 1 rfl) hx2 rfl bu rfl) rfl<|Q.qg rfl (q.iP (fun _=>Wd.row 1 rfl) hx2 rfl bB rfl) rfl<|Q.qg rfl (q.xj rfl rfl h3) rfl<|Q.u 1 rfl<|Q.nil ?_
          refine R.aK rfl rfl ?_
          refine R.reg rfl<|R.u 3 rfl<|R.q (q.idx (i:=k) (fun _=>Wd.bZ 1 rfl) rfl rfl aT rfl hx1) rfl<|R.q (q.iU (ds:=[.string x1.Key,.string x1.Val,.bool x1.Gone]) (fun _=>Wd.bZ 1 rfl) hx1 rfl aX rfl) rfl<|?_
          refine R.s rfl (s.bs (l:=([x1]:List Change)) aT bT rfl rfl rfl rfl rfl rfl rfl) fun b1=>?_
          refine R.s rfl (s.app (l2:=[x1]) 1 _ rfl rfl rfl (fun _=>Wd.row 0 rfl) ek (by first|omega|(simp;omega)) (by first|omega|(simp;omega)) (fun _=>rfl) rfl) fun v2=>?_
          refine R.u 1 rfl<|R.nil ?_
          refine R.reg rfl<|R.u 1 rfl<|R.nil ?_
          by_cases h4:x2.Key=x1.Key
          ·
            refine R.d9 rfl mixed (by kernel_rfl)<|Q.u 2 rfl<|Q.q (q.idx (i:=m) (fun _=>Wd.row 2 rfl) rfl rfl aT rfl hx2) rfl<|Q.q (q.im (j':=0) (fun _=>Wd.row 2 rfl) hx2 rfl bu rfl) rfl<|Q.q (q.iP (fun _=>Wd.row 2 rfl) hx2 rfl bB rfl) rfl<|Q.u 2 rfl<|Q.q (q.idx (i:=k) (fun _=>Wd.bZ 1 rfl) rfl rfl aT rfl hx1) rfl<|Q.q (q.im (j':=0) (fun _=>Wd.bZ 1 rfl) hx1 rfl bu rfl) rfl<|Q.q (q.iP (fun _=>Wd.bZ 1 rfl) hx1 rfl bB rfl) rfl<|Q.q (q.j0 rfl rfl h4) rfl<|Q.nil ?_
            refine R.aI rfl rfl ?_
            refine R.reg rfl<|R.u 1 rfl<|R.q (q.add (r:=((m+1:Nat):Int)) rfl rfl (wr (by omega))) rfl<|R.u 1 rfl<|R.nil ?_
            refine R.back ((m+1),true,v2,(os++([x1]))) rfl (by (exact ⟨by omega,by rw [gj hx2,← HO];unfold bX;dsimp only;(repeat' split) <;> first|rfl|(exfalso;simp_all;done)|(simp_all;done)⟩)) (by dsimp only;omega) ⟨rfl,rfl,rfl,rfl,rfl,rfl,trivial⟩ (fun _=>Wd.aA [1,2,3] [0,1] rfl rfl rfl)
          ·
            refine R.d9 rfl mixed (by kernel_rfl)<|Q.u 2 rfl<|Q.q (q.idx (i:=m) (fun _=>Wd.row 2 rfl) rfl rfl aT rfl hx2) rfl<|Q.q (q.im (j':=0) (fun _=>Wd.row 2 rfl) hx2 rfl bu rfl) rfl<|Q.q (q.iP (fun _=>Wd.row 2 rfl) hx2 rfl bB rfl) rfl<|Q.u 2 rfl<|Q.q (q.idx (i:=k) (fun _=>Wd.bZ 1 rfl) rfl rfl aT rfl hx1) rfl<|Q.q (q.im (j':=0) (fun _=>Wd.bZ 1 rfl) hx1 rfl bu rfl) rfl<|Q.q (q.iP (fun _=>Wd.bZ 1 rfl) hx1 rfl bB rfl) rfl<|Q.q (q.lq rfl rfl h4) rfl<|Q.nil ?_
            refine R.aK rfl rfl ?_
            refine R.reg rfl<|R.u 3 rfl<|R.q (q.idx (i:=m) (fun _=>Wd.row 2 rfl) rfl rfl aT rfl hx2) rfl<|R.q (q.iU (ds:=[.string x2.Key,.string x2.Val,.bool x2.Gone]) (fun _=>Wd.row 2 rfl) hx2 rfl aX rfl) rfl<|?_
            refine R.s rfl (s.bs (l:=([x2]:List Change)) aT bT rfl rfl rfl rfl rfl rfl rfl) fun b2=>?_
            refine R.s rfl (s.app (l2:=[x2]) 2 _ rfl rfl rfl (fun _=>Wd.row 0 rfl) ek (by first|omega|(simp;omega)) (by first|omega|(simp;omega)) (fun _=>rfl) rfl) fun v3=>?_
            refine R.u 1 rfl<|R.nil ?_
            refine R.reg rfl<|R.u 1 rfl<|R.q (q.add (r:=((m+1:Nat):Int)) rfl rfl (wr (by omega))) rfl<|R.u 1 rfl<|R.nil ?_
            refine R.back ((m+1),true,v3,((os++([x1]))++([x2]))) rfl (by (exact ⟨by omega,by rw [gj hx2,← HO];unfold bX;dsimp only;(repeat' split) <;> first|rfl|(exfalso;simp_all;done)|(simp_all;done)⟩)) (by dsimp only;omega) ⟨rfl,rfl,rfl,rfl,rfl,rfl,trivial⟩ (fun _=>Wd.aA [2,3,4] [0,1] rfl rfl rfl)
        ·
          refine R.d9 rfl mixed (by kernel_rfl)<|Q.u 5 rfl<|Q.qg rfl (q.idx (i:=k) (fun _=>Wd.bZ 1 rfl) rfl rfl aT rfl hx1) rfl<|Q.qg rfl (q.im (j':=0) (fun _=>Wd.bZ 1 rfl) hx1 rfl bu rfl) rfl<|Q.qg rfl (q.iP (fun _=>Wd.bZ 1 rfl) hx1 rfl bB rfl) rfl<|Q.u 2 rfl<|Q.qg rfl (q.idx (i:=m) (fun _=>Wd.row 1 rfl) rfl rfl aT rfl hx2) rfl<|Q.qg rfl (q.im (j':=0) (fun _=>Wd.row 1 rfl) hx2 rfl bu rfl) rfl<|Q.qg rfl (q.iP (fun _=>Wd.row 1 rfl) hx2 rfl bB rfl) rfl<|Q.qg rfl (q.xj rfl rfl h3) rfl<|Q.u 1 rfl<|Q.nil ?_
          refine R.aI rfl rfl ?_
          by_cases h5:x2.Key=x1.Key
          ·
            refine R.d9 rfl mixed (by kernel_rfl)<|Q.u 2 rfl<|Q.q (q.idx (i:=m) (fun _=>Wd.row 1 rfl) rfl rfl aT rfl hx2) rfl<|Q.q (q.im (j':=0) (fun _=>Wd.row 1 rfl) hx2 rfl bu rfl) rfl<|Q.q (q.iP (fun _=>Wd.row 1 rfl) hx2 rfl bB rfl) rfl<|Q.u 2 rfl<|Q.q (q.idx (i:=k) (fun _=>Wd.bZ 1 rfl) rfl rfl aT rfl hx1) rfl<|Q.q (q.im (j':=0) (fun _=>Wd.bZ 1 rfl) hx1 rfl bu rfl) rfl<|Q.q (q.iP (fun _=>Wd.bZ 1 rfl) hx1 rfl bB rfl) rfl<|Q.q (q.j0 rfl rfl h5) rfl<|Q.nil ?_
            refine R.aI rfl rfl ?_
            refine R.reg rfl<|R.u 1 rfl<|R.q (q.add (r:=((m+1:Nat):Int)) rfl rfl (wr (by omega))) rfl<|R.u 1 rfl<|R.nil ?_
            refine R.back ((m+1),false,u2,os) rfl (by (exact ⟨by omega,by rw [gj hx2,← HO];unfold bX;dsimp only;(repeat' split) <;> first|rfl|(exfalso;simp_all;done)|(simp_all;done)⟩)) (by dsimp only;omega) ⟨rfl,rfl,rfl,rfl,rfl,rfl,trivial⟩ (fun _=>Wd.aA [0,1,2] [0,1] rfl rfl rfl)
          ·
            refine R.d9 rfl mixed (by kernel_rfl)<|Q.u 2 rfl<|Q.q (q.idx (i:=m) (fun _=>Wd.row 1 rfl) rfl rfl aT rfl hx2) rfl<|Q.q (q.im (j':=0) (fun _=>Wd.row 1 rfl) hx2 rfl bu rfl) rfl<|Q.q (q.iP (fun _=>Wd.row 1 rfl) hx2 rfl bB rfl) rfl<|Q.u 2 rfl<|Q.q (q.idx (i:=k) (fun _=>Wd.bZ 1 rfl) rfl rfl aT rfl hx1) rfl<|Q.q (q.im (j':=0) (fun _=>Wd.bZ 1 rfl) hx1 rfl bu rfl) rfl<|Q.q (q.iP (fun _=>Wd.bZ 1 rfl) hx1 rfl bB rfl) rfl<|Q.q (q.lq rfl rfl h5) rfl<|Q.nil ?_
            refine R.aK rfl rfl ?_
            refine R.reg rfl<|R.u 3 rfl<|R.q (q.idx (i:=m) (fun _=>Wd.row 1 rfl) rfl rfl aT rfl hx2) rfl<|R.q (q.iU (ds:=[.string x2.Key,.string x2.Val,.bool x2.Gone]) (fun _=>Wd.row 1 rfl) hx2 rfl aX rfl) rfl<|?_
            refine R.s rfl (s.bs (l:=([x2]:List Change)) aT bT rfl rfl rfl rfl rfl rfl rfl) fun b3=>?_
            refine R.s rfl (s.app (l2:=[x2]) 1 _ rfl rfl rfl (fun _=>Wd.row 0 rfl) ek (by first|omega|(simp;omega)) (by first|omega|(simp;omega)) (fun _=>rfl) rfl) fun v4=>?_
            refine R.u 1 rfl<|R.nil ?_
            refine R.reg rfl<|R.u 1 rfl<|R.q (q.add (r:=((m+1:Nat):Int)) rfl rfl (wr (by omega))) rfl<|R.u 1 rfl<|R.nil ?_
            refine R.back ((m+1),false,v4,(os++([x2]))) rfl (by (exact ⟨by omega,by rw [gj hx2,← HO];unfold bX;dsimp only;(repeat' split) <;> first|rfl|(exfalso;simp_all;done)|(simp_all;done)⟩)) (by dsimp only;omega) ⟨rfl,rfl,rfl,rfl,rfl,rfl,trivial⟩ (fun _=>Wd.aA [1,2,3] [0,1] rfl rfl rfl)
      ·
        refine R.d9 rfl mixed (by kernel_rfl)<|Q.u 15 rfl<|Q.nil ?_
        refine R.aI rfl rfl ?_
        obtain ⟨x3,hx3⟩:∃z,rs[m]? = some z:=⟨_,List.getElem?_eq_getElem (by omega)⟩
        by_cases h6:x3.Key=x1.Key
        ·
          refine R.d9 rfl mixed (by kernel_rfl)<|Q.u 2 rfl<|Q.q (q.idx (i:=m) (fun _=>Wd.row 1 rfl) rfl rfl aT rfl hx3) rfl<|Q.q (q.im (j':=0) (fun _=>Wd.row 1 rfl) hx3 rfl bu rfl) rfl<|Q.q (q.iP (fun _=>Wd.row 1 rfl) hx3 rfl bB rfl) rfl<|Q.u 2 rfl<|Q.q (q.idx (i:=k) (fun _=>Wd.bZ 1 rfl) rfl rfl aT rfl hx1) rfl<|Q.q (q.im (j':=0) (fun _=>Wd.bZ 1 rfl) hx1 rfl bu rfl) rfl<|Q.q (q.iP (fun _=>Wd.bZ 1 rfl) hx1 rfl bB rfl) rfl<|Q.q (q.j0 rfl rfl h6) rfl<|Q.nil ?_
          refine R.aI rfl rfl ?_
          refine R.reg rfl<|R.u 1 rfl<|R.q (q.add (r:=((m+1:Nat):Int)) rfl rfl (wr (by omega))) rfl<|R.u 1 rfl<|R.nil ?_
          refine R.back ((m+1),true,u2,os) rfl (by (exact ⟨by omega,by rw [gj hx3,← HO];unfold bX;dsimp only;(repeat' split) <;> first|rfl|(exfalso;simp_all;done)|(simp_all;done)⟩)) (by dsimp only;omega) ⟨rfl,rfl,rfl,rfl,rfl,rfl,trivial⟩ (fun _=>Wd.aA [0,1,2] [0,1] rfl rfl rfl)
        ·
          refine R.d9 rfl mixed (by kernel_rfl)<|Q.u 2 rfl<|Q.q (q.idx (i:=m) (fun _=>Wd.row 1 rfl) rfl rfl aT rfl hx3) rfl<|Q.q (q.im (j':=0) (fun _=>Wd.row 1 rfl) hx3 rfl bu rfl) rfl<|Q.q (q.iP (fun _=>Wd.row 1 rfl) hx3 rfl bB rfl) rfl<|Q.u 2 rfl<|Q.q (q.idx (i:=k) (fun _=>Wd.bZ 1 rfl) rfl rfl aT rfl hx1) rfl<|Q.q (q.im (j':=0) (fun _=>Wd.bZ 1 rfl) hx1 rfl bu rfl) rfl<|Q.q (q.iP (fun _=>Wd.bZ 1 rfl) hx1 rfl bB rfl) rfl<|Q.q (q.lq rfl rfl h6) rfl<|Q.nil ?_
          refine R.aK rfl rfl ?_
          refine R.reg rfl<|R.u 3 rfl<|R.q (q.idx (i:=m) (fun _=>Wd.row 1 rfl) rfl rfl aT rfl hx3) rfl<|R.q (q.iU (ds:=[.string x3.Key,.string x3.Val,.bool x3.Gone]) (fun _=>Wd.row 1 rfl) hx3 rfl aX rfl) rfl<|?_
          refine R.s rfl (s.bs (l:=([x3]:List Change)) aT bT rfl rfl rfl rfl rfl rfl rfl) fun b4=>?_
          refine R.s rfl (s.app (l2:=[x3]) 1 _ rfl rfl rfl (fun _=>Wd.row 0 rfl) ek (by first|omega|(simp;omega)) (by first|omega|(simp;omega)) (fun _=>rfl) rfl) fun v5=>?_
          refine R.u 1 rfl<|R.nil ?_
          refine R.reg rfl<|R.u 1 rfl<|R.q (q.add (r:=((m+1:Nat):Int)) rfl rfl (wr (by omega))) rfl<|R.u 1 rfl<|R.nil ?_
          refine R.back ((m+1),true,v5,(os++([x3]))) rfl (by (exact ⟨by omega,by rw [gj hx3,← HO];unfold bX;dsimp only;(repeat' split) <;> first|rfl|(exfalso;simp_all;done)|(simp_all;done)⟩)) (by dsimp only;omega) ⟨rfl,rfl,rfl,rfl,rfl,rfl,trivial⟩ (fun _=>Wd.aA [1,2,3] [0,1] rfl rfl rfl)
    ·
      refine R.q (q.lss rfl rfl (decide_eq_false (by omega))) rfl<|R.nil ?_
      refine R.aI rfl rfl ?_
      refine R.reg rfl<|R.u 1 rfl<|R.q (q.not rfl) rfl<|R.nil ?_
      cases b
      ·
        refine R.aK rfl rfl ?_
        refine R.reg rfl<|R.u 3 rfl<|R.q (q.idx (i:=k) (fun _=>Wd.bZ 1 rfl) rfl rfl aT rfl hx1) rfl<|R.q (q.iU (ds:=[.string x1.Key,.string x1.Val,.bool x1.Gone]) (fun _=>Wd.bZ 1 rfl) hx1 rfl aX rfl) rfl<|?_
        refine R.s rfl (s.bs (l:=([x1]:List Change)) aT bT rfl rfl rfl rfl rfl rfl rfl) fun b5=>?_
        refine R.s rfl (s.app (l2:=[x1]) 1 _ rfl rfl rfl (fun _=>Wd.row 0 rfl) ek (by first|omega|(simp;omega)) (by first|omega|(simp;omega)) (fun _=>rfl) rfl) fun v6=>?_
        refine R.u 1 rfl<|R.nil ?_
        refine R.reg rfl<|R.u 2 rfl<|R.nil ?_
        refine R.reg rfl<|R.u 1 rfl<|R.q (q.add (r:=((k+1:Nat):Int)) rfl rfl (wr (by omega))) rfl<|R.u 1 rfl<|R.nil ?_
        refine R.back (k+1,v6,(os++([x1]))) rfl (by (exact ⟨by omega,by rw [List.take_of_length_le (by omega)] at HO;rw [j7 hx1,← HR];unfold qN;rw [← HO];rfl⟩)) (by dsimp only;omega) ⟨rfl,rfl,rfl,trivial⟩ (fun _=>Wd.aA [1,3] [0,1] rfl rfl rfl)
      ·
        refine R.aI rfl rfl ?_
        refine R.reg rfl<|R.u 2 rfl<|R.nil ?_
        refine R.reg rfl<|R.u 1 rfl<|R.q (q.add (r:=((k+1:Nat):Int)) rfl rfl (wr (by omega))) rfl<|R.u 1 rfl<|R.nil ?_
        refine R.back (k+1,u2,os) rfl (by (exact ⟨by omega,by rw [List.take_of_length_le (by omega)] at HO;rw [j7 hx1,← HR];unfold qN;rw [← HO];rfl⟩)) (by dsimp only;omega) ⟨rfl,rfl,rfl,trivial⟩ (fun _=>Wd.aA [0,2] [0,1] rfl rfl rfl)
  ·
    refine R.q (q.lss rfl rfl (decide_eq_false (by omega))) rfl<|R.nil ?_
    refine R.aI rfl rfl ?_
    refine R.reg rfl<|R.u 2 rfl<|R.nil ?_
    have hz:bz rows l=rs:=by (rw [HR,List.take_of_length_le (by omega)])
    rw [hz]
    exact R.w1 u [0,1] [] rfl Try.results36 (RV.tmp rfl) rfl rfl rfl rfl
end Go.Proofs.Ytpipachmngdegaa
end
