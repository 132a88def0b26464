import Derived.Test.YtpipachmngdegaaGreatRSP17
import Derived.Test.YtpipachmngdegaaGreatRSP23
import Derived.Test.YtpipachmngdegaaGreatRSP26
import Derived.Test.YtpipachmngdegaaGreatRSP28
section
namespace Go.Proofs.YtpipachmngdegaaGreat
open Go Go.RowKit
set_option linter.unusedVariables false
set_option linter.unusedSimpArgs false
set_option maxRecDepth 100000
theorem fa (bk:Value)(l:List ao)(w:World)(own:List Nat)(H:Wd w (blks []++own) ([]++[ah.held w own]) [ah.ls bk (l:List ao)] w)(hl:l.length≤1000000):Calls Tryz.prog 44 #[bk] w fun e w' => ∃z:Value,e = .returned (z)∧Wd w (blks []++own) ([ah.row 39 z (l:List ao)]++[ah.held w own]) [] w':=by
  have sV:=H.bS 0 rfl
  refine R.cC (n:=8) (vs:=[bk]) (B:=[ah.held w own]) [(0,bk)] Tryz.func44 rfl rfl rfl rfl H ?_
  refine R.reg rfl<|R.u 1 rfl<|R.nil ?_
  refine R.reg rfl<|R.u 1 rfl<|?_
  rcases Bool.eq_false_or_eq_true (jr bk) with h1|h1
  ·
    refine R.q (q.uH (congrArg Value.bool h1) (q.lj (fun _=>Wd.aO 0 rfl) rfl rfl Tryz.underlying25)) rfl<|R.nil ?_
    refine R.aI rfl rfl ?_
    refine R.reg rfl<|R.u 1 rfl<|R.nil ?_
    refine R.row0 (α:=ao) 39 ?_
    have hz:l=[]:=by (first|rfl|exact (List.nil_append _).symm|exact Sl.jr (H.aO 0 rfl) (by assumption))
    rw [hz]
    exact R.w1 (.slice none 0 0) [0,1] [] rfl Tryz.results44 (RV.tmp rfl) rfl rfl rfl rfl
  ·
    refine R.q (q.uH (congrArg Value.bool h1) (q.lj (fun _=>Wd.aO 0 rfl) rfl rfl Tryz.underlying25)) rfl<|R.nil ?_
    refine R.aH rfl rfl ?_
    refine R.reg rfl<|?_
    refine R.s rfl (s.bs (l:=([]:List ao)) cG aY rfl rfl rfl rfl rfl rfl rfl) fun b1=>?_
    refine R.u 1 rfl<|?_
    refine R.s rfl (s.app (l2:=l) 0 _ rfl rfl rfl (fun _=>Wd.aO 0 rfl) eH (by simp;omega) (by simp;omega) (fun _=>rfl) rfl) fun v1=>?_
    refine R.u 1 rfl<|R.nil ?_
    have hz:l=(([])++l):=by (first|rfl|exact (List.nil_append _).symm|exact Sl.jr (H.aO 0 rfl) (by assumption))
    rw [hz]
    exact R.w1 v1 [0,1] [] rfl Tryz.results44 (RV.tmp rfl) rfl rfl rfl rfl
theorem eL (bk:Value)(l:List ai)(w:World)(own:List Nat)(H:Wd w (blks []++own) ([]++[ah.held w own]) [ah.ls bk (l:List ai)] w)(hl:l.length≤1000000):Calls Tryz.prog 45 #[bk] w fun e w' => ∃z:Value,e = .returned (z)∧Wd w (blks []++own) ([ah.row 74 z (l:List ai)]++[ah.held w own]) [] w':=by
  have sV:=H.bS 0 rfl
  refine R.cC (n:=8) (vs:=[bk]) (B:=[ah.held w own]) [(0,bk)] Tryz.func45 rfl rfl rfl rfl H ?_
  refine R.reg rfl<|R.u 1 rfl<|R.nil ?_
  refine R.reg rfl<|R.u 1 rfl<|?_
  rcases Bool.eq_false_or_eq_true (jr bk) with h1|h1
  ·
    refine R.q (q.uH (congrArg Value.bool h1) (q.lj (fun _=>Wd.aO 0 rfl) rfl rfl Tryz.underlying26)) rfl<|R.nil ?_
    refine R.aI rfl rfl ?_
    refine R.reg rfl<|R.u 1 rfl<|R.nil ?_
    refine R.row0 (α:=ai) 74 ?_
    have hz:l=[]:=by (first|rfl|exact (List.nil_append _).symm|exact Sl.jr (H.aO 0 rfl) (by assumption))
    rw [hz]
    exact R.w1 (.slice none 0 0) [0,1] [] rfl Tryz.results45 (RV.tmp rfl) rfl rfl rfl rfl
  ·
    refine R.q (q.uH (congrArg Value.bool h1) (q.lj (fun _=>Wd.aO 0 rfl) rfl rfl Tryz.underlying26)) rfl<|R.nil ?_
    refine R.aH rfl rfl ?_
    refine R.reg rfl<|?_
    refine R.s rfl (s.bs (l:=([]:List ai)) dJ fK rfl rfl rfl rfl rfl rfl rfl) fun b1=>?_
    refine R.u 1 rfl<|?_
    refine R.s rfl (s.app (l2:=l) 0 _ rfl rfl rfl (fun _=>Wd.aO 0 rfl) hG (by simp;omega) (by simp;omega) (fun _=>rfl) rfl) fun v1=>?_
    refine R.u 1 rfl<|R.nil ?_
    have hz:l=(([])++l):=by (first|rfl|exact (List.nil_append _).symm|exact Sl.jr (H.aO 0 rfl) (by assumption))
    rw [hz]
    exact R.w1 v1 [0,1] [] rfl Tryz.results45 (RV.tmp rfl) rfl rfl rfl rfl
theorem dH (bk:Value)(l:List Note)(w:World)(own:List Nat)(H:Wd w (blks []++own) ([]++[ah.held w own]) [ah.ls bk (l:List Note)] w)(hl:l.length≤1000000):Calls Tryz.prog 36 #[bk] w fun e w' => ∃z:Value,e = .returned (z)∧Wd w (blks []++own) ([ah.row 52 z (l:List Note)]++[ah.held w own]) [] w':=by
  have sV:=H.bS 0 rfl
  refine R.cC (n:=8) (vs:=[bk]) (B:=[ah.held w own]) [(0,bk)] Tryz.func36 rfl rfl rfl rfl H ?_
  refine R.reg rfl<|R.u 1 rfl<|R.nil ?_
  refine R.reg rfl<|R.u 1 rfl<|?_
  rcases Bool.eq_false_or_eq_true (jr bk) with h1|h1
  ·
    refine R.q (q.uH (congrArg Value.bool h1) (q.lj (fun _=>Wd.aO 0 rfl) rfl rfl Tryz.underlying28)) rfl<|R.nil ?_
    refine R.aI rfl rfl ?_
    refine R.reg rfl<|R.u 1 rfl<|R.nil ?_
    refine R.row0 (α:=Note) 52 ?_
    have hz:l=[]:=by (first|rfl|exact (List.nil_append _).symm|exact Sl.jr (H.aO 0 rfl) (by assumption))
    rw [hz]
    exact R.w1 (.slice none 0 0) [0,1] [] rfl Tryz.results36 (RV.tmp rfl) rfl rfl rfl rfl
  ·
    refine R.q (q.uH (congrArg Value.bool h1) (q.lj (fun _=>Wd.aO 0 rfl) rfl rfl Tryz.underlying28)) rfl<|R.nil ?_
    refine R.aH rfl rfl ?_
    refine R.reg rfl<|?_
    refine R.s rfl (s.bs (l:=([]:List Note)) cB cr rfl rfl rfl rfl rfl rfl rfl) fun b1=>?_
    refine R.u 1 rfl<|?_
    refine R.s rfl (s.app (l2:=l) 0 _ rfl rfl rfl (fun _=>Wd.aO 0 rfl) cU (by simp;omega) (by simp;omega) (fun _=>rfl) rfl) fun v1=>?_
    refine R.u 1 rfl<|R.nil ?_
    have hz:l=(([])++l):=by (first|rfl|exact (List.nil_append _).symm|exact Sl.jr (H.aO 0 rfl) (by assumption))
    rw [hz]
    exact R.w1 v1 [0,1] [] rfl Tryz.results36 (RV.tmp rfl) rfl rfl rfl rfl
theorem jB (bk:Value)(l:List Note)(i:Nat)(j:Nat)(w:World)(own:List Nat)(H:Wd w (blks [ah.row 52 bk (l:List Note)]++own) ([ah.row 52 bk (l:List Note)]++[ah.held w own]) [] w)(hij:i≤j∧j≤l.length):Calls Tryz.prog 35 #[bk,.int .i64 (i:Int),.int .i64 (j:Int)] w fun e w' => ∃z:Value,e = .returned (z)∧Wd w (blks [ah.row 52 bk (l:List Note)]++own) ([ah.row 52 z ((l.take i++l.drop j):List Note)]++[ah.held w own]) [] w':=by
  have sW:=H.cap 0 rfl;have sV:=H.pK 0 rfl
  refine R.cC (n:=33) (vs:=[bk,.int .i64 (i:Int),.int .i64 (j:Int)]) (B:=[ah.row 52 bk (l:List Note),ah.held w own]) [(0,bk),(1,.int .i64 (i:Int)),(2,.int .i64 (j:Int))] Tryz.func35 rfl rfl rfl rfl H ?_
  refine R.reg rfl<|R.u 1 rfl<|R.nil ?_
  refine R.reg rfl<|R.u 4 rfl<|R.q (q.len' (fun _=>Wd.row 0 rfl) rfl Tryz.underlying28) rfl<|R.q (q.wB (i:=i) (j:=j) (q':=l.length) (fun _=>Wd.row 0 rfl) rfl rfl rfl rfl cB rfl rfl rfl (by omega) (by omega) (by omega)) rfl<|R.nil ?_
  refine R.reg rfl<|R.u 2 rfl<|?_
  by_cases h1:i=j
  ·
    refine R.q (q.eql rfl rfl (beq_iff_eq.2 (by omega))) rfl<|R.nil ?_
    refine R.aI rfl rfl ?_
    refine R.reg rfl<|R.u 2 rfl<|R.nil ?_
    have hz:l.take i++l.drop j=l:=by (first|rfl|exact iL (by omega))
    rw [hz]
    exact R.w1 bk [0,1] [] rfl Tryz.results35 (RV.tmp rfl) rfl rfl rfl rfl
  ·
    refine R.q (q.eql rfl rfl (beq_eq_false_iff_ne.2 (by omega))) rfl<|R.nil ?_
    refine R.aH rfl rfl ?_
    refine R.reg rfl<|R.u 1 rfl<|R.q (q.len' (fun _=>Wd.row 0 rfl) rfl Tryz.underlying28) rfl<|R.u 1 rfl<|R.nil ?_
    refine R.gD (fuel:=8) (Wd w (blks [ah.row 52 bk (l:List Note)]++own) [ah.held w own] []) rfl mixed rfl ?_
    refine D.q (i:=0) rfl (by kernel_rfl) (fun _=>Wd.aV [1] [] rfl rfl rfl) rfl (q.mv rfl) rfl<|D.q (i:=1) rfl (by kernel_rfl) (fun _=>Wd.aV [1] [] rfl rfl rfl) rfl (q.mv rfl) rfl<|D.q (i:=3) rfl (by kernel_rfl) (fun _=>Wd.aV [1] [] rfl rfl rfl) rfl (q.mv rfl) rfl<|D.q (i:=4) rfl (by kernel_rfl) (fun _=>Wd.aV [1] [] rfl rfl rfl) rfl (q.mv rfl) rfl<|?_
    refine D.two (i:=2) (j:=5) (by kernel_rfl) rfl rfl ?_ ?_
    ·
      refine Do.s (s.c (Qt.a (q.gE (i:=i) (fun _=>Wd.row 0 rfl) rfl rfl Tryz.underlying28 jJ rfl (by first|omega|(simp;omega)))) rfl) (fun _=>(fun _=>Wd.aV [1] [] rfl rfl rfl)) rfl fun _=>?_
      refine D.one (i:=5) (by kernel_rfl) rfl ?_
      refine Do.s (s.c (Qt.a (q.dj (i:=j) (fun _=>Wd.row 0 rfl) rfl rfl cB rfl (by first|omega|(simp;omega)))) rfl) (fun _=>(fun _=>Wd.aV [1] [] rfl rfl rfl)) rfl fun _=>?_
      refine D.one (i:=6) (by kernel_rfl) rfl ?_
      refine Do.s (s.nU (a:=i) (l2:=(l.drop j)) 0 _ rfl rfl rfl (fun w hw=>Sl.from ((fun _=>Wd.row 0 rfl) w hw) (by omega)) cU (by omega) (by simp;omega) rfl rfl) (fun _=>(fun _=>Wd.aV [1] [] rfl rfl rfl)) rfl fun _=>?_
      refine D.q (i:=7) rfl (by kernel_rfl) (fun _=>Wd.aV [1] [] rfl rfl rfl) rfl (q.as rfl) rfl<|D.done (by kernel_rfl)<|?_
      refine R.reg rfl<|R.u 2 rfl<|R.q (q.len' (fun _=>Wd.row 0 rfl) rfl Tryz.underlying28) rfl<|R.u 1 rfl<|R.q (q.sl2 (i:=(l.take i++(l.drop j)).length) (j:=l.length) (fun _=>Wd.row 0 rfl) rfl rfl rfl cB rfl rfl (by first|omega|(simp;omega)) (by first|assumption|omega|(simp;omega)|(simp [eo];omega))) rfl<|?_
      refine R.s rfl (s.qG (lo:=(l.take i++(l.drop j)).length) (hi:=l.length) (z0:=(⟨0,⟨#[]⟩,0,0⟩:Note)) 0 rfl rfl cB cr rfl (by first|omega|(simp;omega)) (by first|omega|(simp;omega)) (by first|assumption|omega|(simp;omega)|(simp [eo];omega))) fun _=>?_
      refine R.nil ?_
      refine R.reg rfl<|R.u 2 rfl<|R.nil ?_
      have hz:l.take i++l.drop j=(l.take i++(l.drop j)):=by (first|rfl|exact iL (by omega))
      rw [hz]
      exact R.w1 (gE bk (i+(l.drop j).length)) [0,1] [] rfl Tryz.results35 (RV.tmp rfl) rfl rfl rfl rfl
    ·
      refine Do.s (s.c (Qt.a (q.dj (i:=j) (fun _=>Wd.row 0 rfl) rfl rfl cB rfl (by first|omega|(simp;omega)))) rfl) (fun _=>(fun _=>Wd.aV [1] [] rfl rfl rfl)) rfl fun _=>?_
      refine D.one (i:=2) (by kernel_rfl) rfl ?_
      refine Do.s (s.c (Qt.a (q.gE (i:=i) (fun _=>Wd.row 0 rfl) rfl rfl Tryz.underlying28 jJ rfl (by first|omega|(simp;omega)))) rfl) (fun _=>(fun _=>Wd.aV [1] [] rfl rfl rfl)) rfl fun _=>?_
      refine D.one (i:=6) (by kernel_rfl) rfl ?_
      refine Do.s (s.nU (a:=i) (l2:=(l.drop j)) 0 _ rfl rfl rfl (fun w hw=>Sl.from ((fun _=>Wd.row 0 rfl) w hw) (by omega)) cU (by omega) (by simp;omega) rfl rfl) (fun _=>(fun _=>Wd.aV [1] [] rfl rfl rfl)) rfl fun _=>?_
      refine D.q (i:=7) rfl (by kernel_rfl) (fun _=>Wd.aV [1] [] rfl rfl rfl) rfl (q.as rfl) rfl<|D.done (by kernel_rfl)<|?_
      refine R.reg rfl<|R.u 2 rfl<|R.q (q.len' (fun _=>Wd.row 0 rfl) rfl Tryz.underlying28) rfl<|R.u 1 rfl<|R.q (q.sl2 (i:=(l.take i++(l.drop j)).length) (j:=l.length) (fun _=>Wd.row 0 rfl) rfl rfl rfl cB rfl rfl (by first|omega|(simp;omega)) (by first|assumption|omega|(simp;omega)|(simp [eo];omega))) rfl<|?_
      refine R.s rfl (s.qG (lo:=(l.take i++(l.drop j)).length) (hi:=l.length) (z0:=(⟨0,⟨#[]⟩,0,0⟩:Note)) 0 rfl rfl cB cr rfl (by first|omega|(simp;omega)) (by first|omega|(simp;omega)) (by first|assumption|omega|(simp;omega)|(simp [eo];omega))) fun _=>?_
      refine R.nil ?_
      refine R.reg rfl<|R.u 2 rfl<|R.nil ?_
      have hz:l.take i++l.drop j=(l.take i++(l.drop j)):=by (first|rfl|exact iL (by omega))
      rw [hz]
      exact R.w1 (gE bk (i+(l.drop j).length)) [0,1] [] rfl Tryz.results35 (RV.tmp rfl) rfl rfl rfl rfl
theorem eA (bk:Value)(l:List ai)(pr:ai→Bool)(dZ:Nat)(eM:List Value)(eO:∀args w,(callFunc dZ args).run Tryz.prog w = .ok (.enter dZ args) w)(w:World)(cF:Sl w bk l)(gT:∀W (x1:ai),Ext w W→Calls Tryz.prog dZ ([x1.val]++eM).toArray W fun e w'=>e = .returned (.bool (pr x1))∧Ext W w'):Calls Tryz.prog 65 #[bk,.func (.func dZ) #[] eM.toArray] w fun e w'=>e = .returned (.int .i64 (idxOf pr l))∧Ext w w':=by
  have lR:=cF.dI
  refine R.enter (n:=19) (vs:=[bk,.func (.func dZ) #[] eM.toArray]) [] [(0,bk),(1,.func (.func dZ) #[] eM.toArray)] Tryz.func65 rfl rfl rfl rfl ?_
  refine R.reg rfl<|R.u 1 rfl<|R.nil ?_
  refine R.reg rfl<|R.u 1 rfl<|R.q (q.len' (fun _=>Wd.old cF) rfl Tryz.underlying26) rfl<|R.u 1 rfl<|R.nil ?_
  refine R.loop (fun k:Nat=>[(0,bk),(1,.func (.func dZ) #[] eM.toArray),(7,.int .i64 (l.length:Int)),(8,.int .i64 (k:Int))]) (fun k:Nat=>[]) (fun k:Nat=>[]) (fun k:Nat=>k≤l.length ∧ ∀ (j:Nat) x,j<k→l[j]? = some x→pr x=false) (fun k:Nat=>l.length-k) 0 rfl (by exact ⟨by omega,fun j x hj=>absurd hj (Nat.not_lt_zero _)⟩) ⟨rfl,rfl,rfl,rfl,trivial⟩ (fun _=>Wd.pick [] [] rfl rfl rfl) ?_
  rintro k ⟨hk,HA⟩
  refine R.reg rfl<|?_
  by_cases h1:k<l.length
  ·
    refine R.q (q.lss rfl rfl (decide_eq_true (by omega))) rfl<|R.nil ?_
    refine R.aI rfl rfl ?_
    refine R.reg rfl<|R.u 2 rfl<|R.nil ?_
    refine R.reg rfl<|R.u 3 rfl<|?_
    obtain ⟨x1,hx1⟩:∃z,l[k]? = some z:=⟨_,List.getElem?_eq_getElem (by omega)⟩
    refine R.q (q.idx (i:=k) (fun _=>Wd.old cF) rfl rfl dJ rfl hx1) rfl<|R.q (q.dx (ds:=[.int .i64 x1.ID,.int .i64 x1.Kind,.string x1.Data]) (fun _=>Wd.old cF) hx1 rfl fJ rfl) rfl<|?_
    rcases Bool.eq_false_or_eq_true (pr x1) with h2|h2
    ·
      refine R.c (q.call eO rfl rfl (fun w hw=>cv (congrArg Value.bool h2) (gT w x1 hw.ext))) rfl<|R.nil ?_
      refine R.aI rfl rfl ?_
      refine R.reg rfl<|R.u 2 rfl<|R.nil ?_
      exact R.rv rfl Tryz.results65 rfl (rI (by (first|exact (idxOf_hit hx1 (by assumption) HA).symm|exact (idxOf_miss (by assumption) HA).symm)))
    ·
      refine R.c (q.call eO rfl rfl (fun w hw=>cv (congrArg Value.bool h2) (gT w x1 hw.ext))) rfl<|R.nil ?_
      refine R.aH rfl rfl ?_
      refine R.reg rfl<|R.q (q.add (r:=((k+1:Nat):Int)) rfl rfl (wr (by omega))) rfl<|R.u 1 rfl<|R.nil ?_
      refine R.back (k+1) rfl (by (exact ⟨by omega,fA HA hx1 (by assumption)⟩)) (by omega) ⟨rfl,rfl,rfl,rfl,trivial⟩ (fun _=>Wd.pick [] [] rfl rfl rfl)
  ·
    refine R.q (q.lss rfl rfl (decide_eq_false (by omega))) rfl<|R.nil ?_
    refine R.aH rfl rfl ?_
    refine R.reg rfl<|R.u 1 rfl<|R.nil ?_
    exact R.rv rfl Tryz.results65 rfl (rI (by (first|exact (idxOf_hit hx1 (by assumption) HA).symm|exact (idxOf_miss (by assumption) HA).symm)))
theorem ia (bk:Value)(l:List Note)(pr:Note→Bool)(dZ:Nat)(eM:List Value)(eO:∀args w,(callFunc dZ args).run Tryz.prog w = .ok (.enter dZ args) w)(w:World)(cF:Sl w bk l)(gT:∀W (x1:Note),Ext w W→Calls Tryz.prog dZ ([x1.val]++eM).toArray W fun e w'=>e = .returned (.bool (pr x1))∧Ext W w'):Calls Tryz.prog 31 #[bk,.func (.func dZ) #[] eM.toArray] w fun e w'=>e = .returned (.int .i64 (idxOf pr l))∧Ext w w':=by
  have lR:=cF.dI
  refine R.enter (n:=19) (vs:=[bk,.func (.func dZ) #[] eM.toArray]) [] [(0,bk),(1,.func (.func dZ) #[] eM.toArray)] Tryz.func31 rfl rfl rfl rfl ?_
  refine R.reg rfl<|R.u 1 rfl<|R.nil ?_
  refine R.reg rfl<|R.u 1 rfl<|R.q (q.len' (fun _=>Wd.old cF) rfl Tryz.underlying28) rfl<|R.u 1 rfl<|R.nil ?_
  refine R.loop (fun k:Nat=>[(0,bk),(1,.func (.func dZ) #[] eM.toArray),(7,.int .i64 (l.length:Int)),(8,.int .i64 (k:Int))]) (fun k:Nat=>[]) (fun k:Nat=>[]) (fun k:Nat=>k≤l.length ∧ ∀ (j:Nat) x,j<k→l[j]? = some x→pr x=false) (fun k:Nat=>l.length-k) 0 rfl (by exact ⟨by omega,fun j x hj=>absurd hj (Nat.not_lt_zero _)⟩) ⟨rfl,rfl,rfl,rfl,trivial⟩ (fun _=>Wd.pick [] [] rfl rfl rfl) ?_
  rintro k ⟨hk,HA⟩
  refine R.reg rfl<|?_
  by_cases h1:k<l.length
  ·
    refine R.q (q.lss rfl rfl (decide_eq_true (by omega))) rfl<|R.nil ?_
    refine R.aI rfl rfl ?_
    refine R.reg rfl<|R.u 2 rfl<|R.nil ?_
    refine R.reg rfl<|R.u 3 rfl<|?_
    obtain ⟨x1,hx1⟩:∃z,l[k]? = some z:=⟨_,List.getElem?_eq_getElem (by omega)⟩
    refine R.q (q.idx (i:=k) (fun _=>Wd.old cF) rfl rfl cB rfl hx1) rfl<|R.q (q.dx (ds:=[.int .i64 x1.Port,.string x1.Data,.int .i64 x1.ar,.int .i64 x1.ao]) (fun _=>Wd.old cF) hx1 rfl aX rfl) rfl<|?_
    rcases Bool.eq_false_or_eq_true (pr x1) with h2|h2
    ·
      refine R.c (q.call eO rfl rfl (fun w hw=>cv (congrArg Value.bool h2) (gT w x1 hw.ext))) rfl<|R.nil ?_
      refine R.aI rfl rfl ?_
      refine R.reg rfl<|R.u 2 rfl<|R.nil ?_
      exact R.rv rfl Tryz.results31 rfl (rI (by (first|exact (idxOf_hit hx1 (by assumption) HA).symm|exact (idxOf_miss (by assumption) HA).symm)))
    ·
      refine R.c (q.call eO rfl rfl (fun w hw=>cv (congrArg Value.bool h2) (gT w x1 hw.ext))) rfl<|R.nil ?_
      refine R.aH rfl rfl ?_
      refine R.reg rfl<|R.q (q.add (r:=((k+1:Nat):Int)) rfl rfl (wr (by omega))) rfl<|R.u 1 rfl<|R.nil ?_
      refine R.back (k+1) rfl (by (exact ⟨by omega,fA HA hx1 (by assumption)⟩)) (by omega) ⟨rfl,rfl,rfl,rfl,trivial⟩ (fun _=>Wd.pick [] [] rfl rfl rfl)
  ·
    refine R.q (q.lss rfl rfl (decide_eq_false (by omega))) rfl<|R.nil ?_
    refine R.aH rfl rfl ?_
    refine R.reg rfl<|R.u 1 rfl<|R.nil ?_
    exact R.rv rfl Tryz.results31 rfl (rI (by (first|exact (idxOf_hit hx1 (by assumption) HA).symm|exact (idxOf_miss (by assumption) HA).symm)))
theorem ic (bk:Value)(l:List Held)(pr:Held→Bool)(dZ:Nat)(eM:List Value)(eO:∀args w,(callFunc dZ args).run Tryz.prog w = .ok (.enter dZ args) w)(w:World)(cF:Sl w bk l)(gT:∀W (x1:Held),Ext w W→Calls Tryz.prog dZ ([x1.val]++eM).toArray W fun e w'=>e = .returned (.bool (pr x1))∧Ext W w'):Calls Tryz.prog 98 #[bk,.func (.func dZ) #[] eM.toArray] w fun e w'=>e = .returned (.int .i64 (idxOf pr l))∧Ext w w':=by
  have lR:=cF.dI
  refine R.enter (n:=19) (vs:=[bk,.func (.func dZ) #[] eM.toArray]) [] [(0,bk),(1,.func (.func dZ) #[] eM.toArray)] Tryz.func98 rfl rfl rfl rfl ?_
  refine R.reg rfl<|R.u 1 rfl<|R.nil ?_
  refine R.reg rfl<|R.u 1 rfl<|R.q (q.len' (fun _=>Wd.old cF) rfl Tryz.underlying27) rfl<|R.u 1 rfl<|R.nil ?_
  refine R.loop (fun k:Nat=>[(0,bk),(1,.func (.func dZ) #[] eM.toArray),(7,.int .i64 (l.length:Int)),(8,.int .i64 (k:Int))]) (fun k:Nat=>[]) (fun k:Nat=>[]) (fun k:Nat=>k≤l.length ∧ ∀ (j:Nat) x,j<k→l[j]? = some x→pr x=false) (fun k:Nat=>l.length-k) 0 rfl (by exact ⟨by omega,fun j x hj=>absurd hj (Nat.not_lt_zero _)⟩) ⟨rfl,rfl,rfl,rfl,trivial⟩ (fun _=>Wd.pick [] [] rfl rfl rfl) ?_
  rintro k ⟨hk,HA⟩
  refine R.reg rfl<|?_
  by_cases h1:k<l.length
  ·
    refine R.q (q.lss rfl rfl (decide_eq_true (by omega))) rfl<|R.nil ?_
    refine R.aI rfl rfl ?_
    refine R.reg rfl<|R.u 2 rfl<|R.nil ?_
    refine R.reg rfl<|R.u 3 rfl<|?_
    obtain ⟨x1,hx1⟩:∃z,l[k]? = some z:=⟨_,List.getElem?_eq_getElem (by omega)⟩
    refine R.q (q.idx (i:=k) (fun _=>Wd.old cF) rfl rfl bj rfl hx1) rfl<|R.q (q.dx (ds:=[.int .i64 x1.Place.ag,.int .i64 x1.Place.Slot,.int .i64 x1.ao]) (fun _=>Wd.old cF) hx1 rfl dh rfl) rfl<|?_
    rcases Bool.eq_false_or_eq_true (pr x1) with h2|h2
    ·
      refine R.c (q.call eO rfl rfl (fun w hw=>cv (congrArg Value.bool h2) (gT w x1 hw.ext))) rfl<|R.nil ?_
      refine R.aI rfl rfl ?_
      refine R.reg rfl<|R.u 2 rfl<|R.nil ?_
      exact R.rv rfl Tryz.results98 rfl (rI (by (first|exact (idxOf_hit hx1 (by assumption) HA).symm|exact (idxOf_miss (by assumption) HA).symm)))
    ·
      refine R.c (q.call eO rfl rfl (fun w hw=>cv (congrArg Value.bool h2) (gT w x1 hw.ext))) rfl<|R.nil ?_
      refine R.aH rfl rfl ?_
      refine R.reg rfl<|R.q (q.add (r:=((k+1:Nat):Int)) rfl rfl (wr (by omega))) rfl<|R.u 1 rfl<|R.nil ?_
      refine R.back (k+1) rfl (by (exact ⟨by omega,fA HA hx1 (by assumption)⟩)) (by omega) ⟨rfl,rfl,rfl,rfl,trivial⟩ (fun _=>Wd.pick [] [] rfl rfl rfl)
  ·
    refine R.q (q.lss rfl rfl (decide_eq_false (by omega))) rfl<|R.nil ?_
    refine R.aH rfl rfl ?_
    refine R.reg rfl<|R.u 1 rfl<|R.nil ?_
    exact R.rv rfl Tryz.results98 rfl (rI (by (first|exact (idxOf_hit hx1 (by assumption) HA).symm|exact (idxOf_miss (by assumption) HA).symm)))
theorem k5 (bk:Value)(l:List ai)(pr:ai→Bool)(dZ:Nat)(eM:List Value)(eO:∀args w,(callFunc dZ args).run Tryz.prog w = .ok (.enter dZ args) w)(w:World)(own:List Nat)(H:Wd w (blks [ah.row 74 bk (l:List ai)]++own) ([ah.row 74 bk (l:List ai)]++[ah.held w own]) [] w)(gT:∀W (x1:ai),iy (blks [ah.row 74 bk (l:List ai)]) w W→Calls Tryz.prog dZ ([x1.val]++eM).toArray W fun e w'=>e = .returned (.bool (pr x1))∧Ext W w')(hl:l.length≤1000000):Calls Tryz.prog 75 #[bk,.func (.func dZ) #[] eM.toArray] w fun e w' => ∃z:Value,e = .returned (z)∧Wd w (blks [ah.row 74 bk (l:List ai)]++own) ([ah.row 74 z ((l.filter (fun x => !pr x)):List ai)]++[ah.held w own]) [] w':=by
  have sW:=H.cap 0 rfl;have sV:=H.pK 0 rfl
  refine R.cC (n:=42) (vs:=[bk,.func (.func dZ) #[] eM.toArray]) (B:=[ah.row 74 bk (l:List ai),ah.held w own]) [(0,bk),(1,.func (.func dZ) #[] eM.toArray)] Tryz.func75 rfl rfl rfl rfl H ?_
  refine R.reg rfl<|R.u 1 rfl<|R.nil ?_
  refine R.reg rfl<|R.u 2 rfl<|?_
  rcases fC pr l with ⟨dt,j2⟩ | ⟨i4,du,dt,dP,e6,fZ,ya⟩
  ·
    refine R.c (q.call qS rfl rfl (fun w hw=>(cv (congrArg (Value.int .i64) dt) (eA _ (l) pr _ _ eO w ((fun _=>Wd.row 0 rfl) w hw) (fun W x1 hW=>gT W x1 ((hw.lF 1 rfl).trans ((Ext.upd hW).mono (by simp)))) )))) rfl<|R.u 1 rfl<|R.nil ?_
    refine R.reg rfl<|R.u 1 rfl<|R.q (q.eql (b:=true) rfl rfl (by decide)) rfl<|R.nil ?_
    refine R.aI rfl rfl ?_
    refine R.reg rfl<|R.u 2 rfl<|R.nil ?_
    have hz:l.filter (fun x => !pr x)=l:=by (first|exact iP j2|exact HA.done (by omega))
    rw [hz]
    exact R.w1 bk [0,1] [] rfl Tryz.results75 (RV.tmp rfl) rfl rfl rfl rfl
  ·
    refine R.c (q.call qS rfl rfl (fun w hw=>(cv (congrArg (Value.int .i64) dt) (eA _ (l) pr _ _ eO w ((fun _=>Wd.row 0 rfl) w hw) (fun W x1 hW=>gT W x1 ((hw.lF 1 rfl).trans ((Ext.upd hW).mono (by simp)))) )))) rfl<|R.u 1 rfl<|R.nil ?_
    refine R.reg rfl<|R.u 1 rfl<|R.q (q.eql rfl rfl (beq_eq_false_iff_ne.2 (by omega))) rfl<|R.nil ?_
    refine R.aH rfl rfl ?_
    refine R.reg rfl<|R.u 1 rfl<|R.q (q.add (r:=((i4+1:Nat):Int)) rfl rfl (wr (by omega))) rfl<|R.u 1 rfl<|R.nil ?_
    refine R.loop (fun g_:Nat×Nat×(List ai)=>[(0,bk),(1,.func (.func dZ) #[] eM.toArray),(5,.int .i64 (g_.1:Int)),(6,.int .i64 (g_.2.1:Int))]) (fun g_:Nat×Nat×(List ai)=>[ah.row 74 bk (g_.2.2:List ai),ah.held w own]) (fun g_:Nat×Nat×(List ai)=>[]) (fun g_:Nat×Nat×(List ai)=>jf pr l g_.2.2 g_.1 g_.2.1) (fun g_:Nat×Nat×(List ai)=>l.length-g_.2.1) (i4,(i4+1),l) rfl (by exact jf.start dP e6 fZ) ⟨rfl,rfl,rfl,rfl,trivial⟩ (fun _=>Wd.pick [0,1] [] rfl rfl rfl) ?_
    rintro ⟨a,b,acc⟩ HA
    dsimp only at *
    have t1:=HA.1;have t2:=HA.2.1;have t3:=HA.2.2.1
    refine R.reg rfl<|R.u 2 rfl<|R.q (q.len' (fun _=>Wd.row 0 rfl) rfl Tryz.underlying26) rfl<|?_
    by_cases h1:b<acc.length
    ·
      refine R.q (q.lss rfl rfl (decide_eq_true (by omega))) rfl<|R.nil ?_
      refine R.aI rfl rfl ?_
      refine R.reg rfl<|R.u 2 rfl<|?_
      obtain ⟨x1,hx1⟩:∃z,acc[b]? = some z:=⟨_,List.getElem?_eq_getElem (by omega)⟩
      refine R.q (q.idx (i:=b) (fun _=>Wd.row 0 rfl) rfl rfl dJ rfl hx1) rfl<|R.q (q.dx (ds:=[.int .i64 x1.ID,.int .i64 x1.Kind,.string x1.Data]) (fun _=>Wd.row 0 rfl) hx1 rfl fJ rfl) rfl<|?_
      refine R.s rfl (s.alloc (cs:=[.int .i64 0,.int .i64 0,.string (⟨#[]⟩)]) fK rfl rfl) fun b1=>?_
      refine R.s rfl (s.st (us:=[.int .i64 x1.ID,.int .i64 x1.Kind,.string x1.Data]) (cs':=[.int .i64 x1.ID,.int .i64 x1.Kind,.string x1.Data]) 0 _ rfl rfl rfl rfl (.inl fJ) rfl rfl rfl rfl) fun _=>?_
      refine R.nil ?_
      refine R.reg rfl<|R.u 1 rfl<|R.q (q.bI 0 rfl rfl fJ) rfl<|?_
      rcases Bool.eq_false_or_eq_true (pr x1) with h2|h2
      ·
        refine R.c (q.call eO rfl rfl (fun w hw=>cv (congrArg Value.bool h2) (gT w x1 (hw.lF 2 rfl)))) rfl<|R.u 1 rfl<|R.nil ?_
        refine R.aH rfl rfl ?_
        refine R.reg rfl<|R.u 1 rfl<|R.q (q.add (r:=((b+1:Nat):Int)) rfl rfl (wr (by omega))) rfl<|R.u 1 rfl<|R.nil ?_
        refine R.back (a,(b+1),acc) rfl (by (first|exact HA.keep hx1 (by assumption)|exact HA.skip hx1 (by assumption))) (by dsimp only;omega) ⟨rfl,rfl,rfl,rfl,trivial⟩ (fun _=>Wd.aV [1,2] [] rfl rfl rfl)
      ·
        refine R.c (q.call eO rfl rfl (fun w hw=>cv (congrArg Value.bool h2) (gT w x1 (hw.lF 2 rfl)))) rfl<|R.u 1 rfl<|R.nil ?_
        refine R.aI rfl rfl ?_
        refine R.reg rfl<|R.u 2 rfl<|R.q (q.bI 0 rfl rfl fJ) rfl<|?_
        obtain ⟨x2,hx2⟩:∃z,acc[a]? = some z:=⟨_,List.getElem?_eq_getElem (by omega)⟩
        refine R.q (q.idx (i:=a) (fun _=>Wd.row 1 rfl) rfl rfl dJ rfl hx2) rfl<|?_
        refine R.s rfl (s.yi (z:=x1) 1 _ rfl hx2 rfl rfl rfl rfl (.inl fJ) rfl) fun _=>?_
        refine R.nil ?_
        refine R.reg rfl<|R.u 1 rfl<|R.q (q.add (r:=((a+1:Nat):Int)) rfl rfl (wr (by omega))) rfl<|R.u 1 rfl<|R.nil ?_
        refine R.reg rfl<|R.u 1 rfl<|R.q (q.add (r:=((b+1:Nat):Int)) rfl rfl (wr (by omega))) rfl<|R.u 1 rfl<|R.nil ?_
        refine R.back ((a+1),(b+1),(acc.set a x1)) rfl (by (first|exact HA.keep hx1 (by assumption)|exact HA.skip hx1 (by assumption))) (by dsimp only;omega) ⟨rfl,rfl,rfl,rfl,trivial⟩ (fun _=>Wd.aV [1,2] [] rfl rfl rfl)
    ·
      refine R.q (q.lss rfl rfl (decide_eq_false (by omega))) rfl<|R.nil ?_
      refine R.aH rfl rfl ?_
      refine R.reg rfl<|R.u 2 rfl<|R.q (q.dj (i:=a) (fun _=>Wd.row 0 rfl) rfl rfl dJ rfl (by first|omega|(simp;omega))) rfl<|?_
      refine R.s rfl (s.u2 (lo:=a) (z0:=(⟨0,0,⟨#[]⟩⟩:ai)) 0 _ rfl rfl dJ fK rfl (by first|omega|(simp;omega)) rfl) fun _=>?_
      refine R.nil ?_
      refine R.reg rfl<|R.u 2 rfl<|R.q (q.gE (i:=a) (fun _=>Wd.row 0 rfl) rfl rfl Tryz.underlying26 tY rfl (by first|omega|(simp;omega))) rfl<|R.u 1 rfl<|R.nil ?_
      refine R.sv 0 a _ rfl (by first|omega|(simp;omega)) rfl ?_
      have hz:l.filter (fun x => !pr x)=((acc.take a++List.replicate (acc.length-a) (⟨0,0,⟨#[]⟩⟩:ai)).take a):=by (first|exact iP j2|exact HA.done (by omega))
      rw [hz]
      exact R.w1 (gE bk a) [0,1] [] rfl Tryz.results75 (RV.tmp rfl) rfl rfl rfl rfl
theorem lI (bk:Value)(l:List Held)(pr:Held→Bool)(dZ:Nat)(eM:List Value)(eO:∀args w,(callFunc dZ args).run Tryz.prog w = .ok (.enter dZ args) w)(w:World)(own:List Nat)(H:Wd w (blks [ah.row 93 bk (l:List Held)]++own) ([ah.row 93 bk (l:List Held)]++[ah.held w own]) [] w)(gT:∀W (x1:Held),iy (blks [ah.row 93 bk (l:List Held)]) w W→Calls Tryz.prog dZ ([x1.val]++eM).toArray W fun e w'=>e = .returned (.bool (pr x1))∧Ext W w')(hl:l.length≤1000000):Calls Tryz.prog 78 #[bk,.func (.func dZ) #[] eM.toArray] w fun e w' => ∃z:Value,e = .returned (z)∧Wd w (blks [ah.row 93 bk (l:List Held)]++own) ([ah.row 93 z ((l.filter (fun x => !pr x)):List Held)]++[ah.held w own]) [] w':=by
  have sW:=H.cap 0 rfl;have sV:=H.pK 0 rfl
  refine R.cC (n:=42) (vs:=[bk,.func (.func dZ) #[] eM.toArray]) (B:=[ah.row 93 bk (l:List Held),ah.held w own]) [(0,bk),(1,.func (.func dZ) #[] eM.toArray)] Tryz.func78 rfl rfl rfl rfl H ?_
  refine R.reg rfl<|R.u 1 rfl<|R.nil ?_
  refine R.reg rfl<|R.u 2 rfl<|?_
  rcases fC pr l with ⟨dt,j2⟩ | ⟨i4,du,dt,dP,e6,fZ,ya⟩
  ·
    refine R.c (q.call uT rfl rfl (fun w hw=>(cv (congrArg (Value.int .i64) dt) (ic _ (l) pr _ _ eO w ((fun _=>Wd.row 0 rfl) w hw) (fun W x1 hW=>gT W x1 ((hw.lF 1 rfl).trans ((Ext.upd hW).mono (by simp)))) )))) rfl<|R.u 1 rfl<|R.nil ?_
    refine R.reg rfl<|R.u 1 rfl<|R.q (q.eql (b:=true) rfl rfl (by decide)) rfl<|R.nil ?_
    refine R.aI rfl rfl ?_
    refine R.reg rfl<|R.u 2 rfl<|R.nil ?_
    have hz:l.filter (fun x => !pr x)=l:=by (first|exact iP j2|exact HA.done (by omega))
    rw [hz]
    exact R.w1 bk [0,1] [] rfl Tryz.results78 (RV.tmp rfl) rfl rfl rfl rfl
  ·
    refine R.c (q.call uT rfl rfl (fun w hw=>(cv (congrArg (Value.int .i64) dt) (ic _ (l) pr _ _ eO w ((fun _=>Wd.row 0 rfl) w hw) (fun W x1 hW=>gT W x1 ((hw.lF 1 rfl).trans ((Ext.upd hW).mono (by simp)))) )))) rfl<|R.u 1 rfl<|R.nil ?_
    refine R.reg rfl<|R.u 1 rfl<|R.q (q.eql rfl rfl (beq_eq_false_iff_ne.2 (by omega))) rfl<|R.nil ?_
    refine R.aH rfl rfl ?_
    refine R.reg rfl<|R.u 1 rfl<|R.q (q.add (r:=((i4+1:Nat):Int)) rfl rfl (wr (by omega))) rfl<|R.u 1 rfl<|R.nil ?_
    refine R.loop (fun g_:Nat×Nat×(List Held)=>[(0,bk),(1,.func (.func dZ) #[] eM.toArray),(5,.int .i64 (g_.1:Int)),(6,.int .i64 (g_.2.1:Int))]) (fun g_:Nat×Nat×(List Held)=>[ah.row 93 bk (g_.2.2:List Held),ah.held w own]) (fun g_:Nat×Nat×(List Held)=>[]) (fun g_:Nat×Nat×(List Held)=>jf pr l g_.2.2 g_.1 g_.2.1) (fun g_:Nat×Nat×(List Held)=>l.length-g_.2.1) (i4,(i4+1),l) rfl (by exact jf.start dP e6 fZ) ⟨rfl,rfl,rfl,rfl,trivial⟩ (fun _=>Wd.pick [0,1] [] rfl rfl rfl) ?_
    rintro ⟨a,b,acc⟩ HA
    dsimp only at *
    have t1:=HA.1;have t2:=HA.2.1;have t3:=HA.2.2.1
    refine R.reg rfl<|R.u 2 rfl<|R.q (q.len' (fun _=>Wd.row 0 rfl) rfl Tryz.underlying27) rfl<|?_
    by_cases h1:b<acc.length
    ·
      refine R.q (q.lss rfl rfl (decide_eq_true (by omega))) rfl<|R.nil ?_
      refine R.aI rfl rfl ?_
      refine R.reg rfl<|R.u 2 rfl<|?_
      obtain ⟨x1,hx1⟩:∃z,acc[b]? = some z:=⟨_,List.getElem?_eq_getElem (by omega)⟩
      refine R.q (q.idx (i:=b) (fun _=>Wd.row 0 rfl) rfl rfl bj rfl hx1) rfl<|R.q (q.dx (ds:=[.int .i64 x1.Place.ag,.int .i64 x1.Place.Slot,.int .i64 x1.ao]) (fun _=>Wd.row 0 rfl) hx1 rfl dh rfl) rfl<|?_
      refine R.s rfl (s.alloc (cs:=[.int .i64 0,.int .i64 0,.int .i64 0]) cO rfl rfl) fun b1=>?_
      refine R.s rfl (s.st (us:=[.int .i64 x1.Place.ag,.int .i64 x1.Place.Slot,.int .i64 x1.ao]) (cs':=[.int .i64 x1.Place.ag,.int .i64 x1.Place.Slot,.int .i64 x1.ao]) 0 _ rfl rfl rfl rfl (.inl dh) rfl rfl rfl rfl) fun _=>?_
      refine R.nil ?_
      refine R.reg rfl<|R.u 1 rfl<|R.q (q.bI 0 rfl rfl dh) rfl<|?_
      rcases Bool.eq_false_or_eq_true (pr x1) with h2|h2
      ·
        refine R.c (q.call eO rfl rfl (fun w hw=>cv (congrArg Value.bool h2) (gT w x1 (hw.lF 2 rfl)))) rfl<|R.u 1 rfl<|R.nil ?_
        refine R.aH rfl rfl ?_
        refine R.reg rfl<|R.u 1 rfl<|R.q (q.add (r:=((b+1:Nat):Int)) rfl rfl (wr (by omega))) rfl<|R.u 1 rfl<|R.nil ?_
        refine R.back (a,(b+1),acc) rfl (by (first|exact HA.keep hx1 (by assumption)|exact HA.skip hx1 (by assumption))) (by dsimp only;omega) ⟨rfl,rfl,rfl,rfl,trivial⟩ (fun _=>Wd.aV [1,2] [] rfl rfl rfl)
      ·
        refine R.c (q.call eO rfl rfl (fun w hw=>cv (congrArg Value.bool h2) (gT w x1 (hw.lF 2 rfl)))) rfl<|R.u 1 rfl<|R.nil ?_
        refine R.aI rfl rfl ?_
        refine R.reg rfl<|R.u 2 rfl<|R.q (q.bI 0 rfl rfl dh) rfl<|?_
        obtain ⟨x2,hx2⟩:∃z,acc[a]? = some z:=⟨_,List.getElem?_eq_getElem (by omega)⟩
        refine R.q (q.idx (i:=a) (fun _=>Wd.row 1 rfl) rfl rfl bj rfl hx2) rfl<|?_
        refine R.s rfl (s.yi (z:=x1) 1 _ rfl hx2 rfl rfl rfl rfl (.inl dh) rfl) fun _=>?_
        refine R.nil ?_
        refine R.reg rfl<|R.u 1 rfl<|R.q (q.add (r:=((a+1:Nat):Int)) rfl rfl (wr (by omega))) rfl<|R.u 1 rfl<|R.nil ?_
        refine R.reg rfl<|R.u 1 rfl<|R.q (q.add (r:=((b+1:Nat):Int)) rfl rfl (wr (by omega))) rfl<|R.u 1 rfl<|R.nil ?_
        refine R.back ((a+1),(b+1),(acc.set a x1)) rfl (by (first|exact HA.keep hx1 (by assumption)|exact HA.skip hx1 (by assumption))) (by dsimp only;omega) ⟨rfl,rfl,rfl,rfl,trivial⟩ (fun _=>Wd.aV [1,2] [] rfl rfl rfl)
    ·
      refine R.q (q.lss rfl rfl (decide_eq_false (by omega))) rfl<|R.nil ?_
      refine R.aH rfl rfl ?_
      refine R.reg rfl<|R.u 2 rfl<|R.q (q.dj (i:=a) (fun _=>Wd.row 0 rfl) rfl rfl bj rfl (by first|omega|(simp;omega))) rfl<|?_
      refine R.s rfl (s.u2 (lo:=a) (z0:=(⟨(⟨0,0⟩:Place),0⟩:Held)) 0 _ rfl rfl bj cO rfl (by first|omega|(simp;omega)) rfl) fun _=>?_
      refine R.nil ?_
      refine R.reg rfl<|R.u 2 rfl<|R.q (q.gE (i:=a) (fun _=>Wd.row 0 rfl) rfl rfl Tryz.underlying27 lP rfl (by first|omega|(simp;omega))) rfl<|R.u 1 rfl<|R.nil ?_
      refine R.sv 0 a _ rfl (by first|omega|(simp;omega)) rfl ?_
      have hz:l.filter (fun x => !pr x)=((acc.take a++List.replicate (acc.length-a) (⟨(⟨0,0⟩:Place),0⟩:Held)).take a):=by (first|exact iP j2|exact HA.done (by omega))
      rw [hz]
      exact R.w1 (gE bk a) [0,1] [] rfl Tryz.results78 (RV.tmp rfl) rfl rfl rfl rfl
theorem lJ (bk:Value)(l:List ao)(pr:ao→Bool)(dZ:Nat)(eM:List Value)(eO:∀args w,(callFunc dZ args).run Tryz.prog w = .ok (.enter dZ args) w)(w:World)(own:List Nat)(H:Wd w (blks [ah.row 39 bk (l:List ao)]++own) ([ah.row 39 bk (l:List ao)]++[ah.held w own]) [] w)(gT:∀W (x1:ao),iy (blks [ah.row 39 bk (l:List ao)]) w W→Calls Tryz.prog dZ ([x1.val]++eM).toArray W fun e w'=>e = .returned (.bool (pr x1))∧Ext W w')(hl:l.length≤1000000):Calls Tryz.prog 84 #[bk,.func (.func dZ) #[] eM.toArray] w fun e w' => ∃z:Value,e = .returned (z)∧Wd w (blks [ah.row 39 bk (l:List ao)]++own) ([ah.row 39 z ((l.filter (fun x => !pr x)):List ao)]++[ah.held w own]) [] w':=by
  have sW:=H.cap 0 rfl;have sV:=H.pK 0 rfl
  refine R.cC (n:=42) (vs:=[bk,.func (.func dZ) #[] eM.toArray]) (B:=[ah.row 39 bk (l:List ao),ah.held w own]) [(0,bk),(1,.func (.func dZ) #[] eM.toArray)] Tryz.func84 rfl rfl rfl rfl H ?_
  refine R.reg rfl<|R.u 1 rfl<|R.nil ?_
  refine R.reg rfl<|R.u 2 rfl<|?_
  rcases fC pr l with ⟨dt,j2⟩ | ⟨i4,du,dt,dP,e6,fZ,ya⟩
  ·
    refine R.c (q.call sI rfl rfl (fun w hw=>(cv (congrArg (Value.int .i64) dt) (gQ _ (l) pr _ _ eO w ((fun _=>Wd.row 0 rfl) w hw) (fun W x1 hW=>gT W x1 ((hw.lF 1 rfl).trans ((Ext.upd hW).mono (by simp)))) )))) rfl<|R.u 1 rfl<|R.nil ?_
    refine R.reg rfl<|R.u 1 rfl<|R.q (q.eql (b:=true) rfl rfl (by decide)) rfl<|R.nil ?_
    refine R.aI rfl rfl ?_
    refine R.reg rfl<|R.u 2 rfl<|R.nil ?_
    have hz:l.filter (fun x => !pr x)=l:=by (first|exact iP j2|exact HA.done (by omega))
    rw [hz]
    exact R.w1 bk [0,1] [] rfl Tryz.results84 (RV.tmp rfl) rfl rfl rfl rfl
  ·
    refine R.c (q.call sI rfl rfl (fun w hw=>(cv (congrArg (Value.int .i64) dt) (gQ _ (l) pr _ _ eO w ((fun _=>Wd.row 0 rfl) w hw) (fun W x1 hW=>gT W x1 ((hw.lF 1 rfl).trans ((Ext.upd hW).mono (by simp)))) )))) rfl<|R.u 1 rfl<|R.nil ?_
    refine R.reg rfl<|R.u 1 rfl<|R.q (q.eql rfl rfl (beq_eq_false_iff_ne.2 (by omega))) rfl<|R.nil ?_
    refine R.aH rfl rfl ?_
    refine R.reg rfl<|R.u 1 rfl<|R.q (q.add (r:=((i4+1:Nat):Int)) rfl rfl (wr (by omega))) rfl<|R.u 1 rfl<|R.nil ?_
    refine R.loop (fun g_:Nat×Nat×(List ao)=>[(0,bk),(1,.func (.func dZ) #[] eM.toArray),(5,.int .i64 (g_.1:Int)),(6,.int .i64 (g_.2.1:Int))]) (fun g_:Nat×Nat×(List ao)=>[ah.row 39 bk (g_.2.2:List ao),ah.held w own]) (fun g_:Nat×Nat×(List ao)=>[]) (fun g_:Nat×Nat×(List ao)=>jf pr l g_.2.2 g_.1 g_.2.1) (fun g_:Nat×Nat×(List ao)=>l.length-g_.2.1) (i4,(i4+1),l) rfl (by exact jf.start dP e6 fZ) ⟨rfl,rfl,rfl,rfl,trivial⟩ (fun _=>Wd.pick [0,1] [] rfl rfl rfl) ?_
    rintro ⟨a,b,acc⟩ HA
    dsimp only at *
    have t1:=HA.1;have t2:=HA.2.1;have t3:=HA.2.2.1
    refine R.reg rfl<|R.u 2 rfl<|R.q (q.len' (fun _=>Wd.row 0 rfl) rfl Tryz.underlying25) rfl<|?_
    by_cases h1:b<acc.length
    ·
      refine R.q (q.lss rfl rfl (decide_eq_true (by omega))) rfl<|R.nil ?_
      refine R.aI rfl rfl ?_
      refine R.reg rfl<|R.u 2 rfl<|?_
      obtain ⟨x1,hx1⟩:∃z,acc[b]? = some z:=⟨_,List.getElem?_eq_getElem (by omega)⟩
      refine R.q (q.idx (i:=b) (fun _=>Wd.row 0 rfl) rfl rfl cG rfl hx1) rfl<|R.q (q.dx (ds:=[.int .i64 x1.ID,.int .i64 x1.ai,.int .i64 x1.Rights,.int .i64 x1.ar,.int .i64 x1.From]) (fun _=>Wd.row 0 rfl) hx1 rfl aK rfl) rfl<|?_
      refine R.s rfl (s.alloc (cs:=[.int .i64 0,.int .i64 0,.int .i64 0,.int .i64 0,.int .i64 0]) aY rfl rfl) fun b1=>?_
      refine R.s rfl (s.st (us:=[.int .i64 x1.ID,.int .i64 x1.ai,.int .i64 x1.Rights,.int .i64 x1.ar,.int .i64 x1.From]) (cs':=[.int .i64 x1.ID,.int .i64 x1.ai,.int .i64 x1.Rights,.int .i64 x1.ar,.int .i64 x1.From]) 0 _ rfl rfl rfl rfl (.inl aK) rfl rfl rfl rfl) fun _=>?_
      refine R.nil ?_
      refine R.reg rfl<|R.u 1 rfl<|R.q (q.bI 0 rfl rfl aK) rfl<|?_
      rcases Bool.eq_false_or_eq_true (pr x1) with h2|h2
      ·
        refine R.c (q.call eO rfl rfl (fun w hw=>cv (congrArg Value.bool h2) (gT w x1 (hw.lF 2 rfl)))) rfl<|R.u 1 rfl<|R.nil ?_
        refine R.aH rfl rfl ?_
        refine R.reg rfl<|R.u 1 rfl<|R.q (q.add (r:=((b+1:Nat):Int)) rfl rfl (wr (by omega))) rfl<|R.u 1 rfl<|R.nil ?_
        refine R.back (a,(b+1),acc) rfl (by (first|exact HA.keep hx1 (by assumption)|exact HA.skip hx1 (by assumption))) (by dsimp only;omega) ⟨rfl,rfl,rfl,rfl,trivial⟩ (fun _=>Wd.aV [1,2] [] rfl rfl rfl)
      ·
        refine R.c (q.call eO rfl rfl (fun w hw=>cv (congrArg Value.bool h2) (gT w x1 (hw.lF 2 rfl)))) rfl<|R.u 1 rfl<|R.nil ?_
        refine R.aI rfl rfl ?_
        refine R.reg rfl<|R.u 2 rfl<|R.q (q.bI 0 rfl rfl aK) rfl<|?_
        obtain ⟨x2,hx2⟩:∃z,acc[a]? = some z:=⟨_,List.getElem?_eq_getElem (by omega)⟩
        refine R.q (q.idx (i:=a) (fun _=>Wd.row 1 rfl) rfl rfl cG rfl hx2) rfl<|?_
        refine R.s rfl (s.yi (z:=x1) 1 _ rfl hx2 rfl rfl rfl rfl (.inl aK) rfl) fun _=>?_
        refine R.nil ?_
        refine R.reg rfl<|R.u 1 rfl<|R.q (q.add (r:=((a+1:Nat):Int)) rfl rfl (wr (by omega))) rfl<|R.u 1 rfl<|R.nil ?_
        refine R.reg rfl<|R.u 1 rfl<|R.q (q.add (r:=((b+1:Nat):Int)) rfl rfl (wr (by omega))) rfl<|R.u 1 rfl<|R.nil ?_
        refine R.back ((a+1),(b+1),(acc.set a x1)) rfl (by (first|exact HA.keep hx1 (by assumption)|exact HA.skip hx1 (by assumption))) (by dsimp only;omega) ⟨rfl,rfl,rfl,rfl,trivial⟩ (fun _=>Wd.aV [1,2] [] rfl rfl rfl)
    ·
      refine R.q (q.lss rfl rfl (decide_eq_false (by omega))) rfl<|R.nil ?_
      refine R.aH rfl rfl ?_
      refine R.reg rfl<|R.u 2 rfl<|R.q (q.dj (i:=a) (fun _=>Wd.row 0 rfl) rfl rfl cG rfl (by first|omega|(simp;omega))) rfl<|?_
      refine R.s rfl (s.u2 (lo:=a) (z0:=(⟨0,0,0,0,0⟩:ao)) 0 _ rfl rfl cG aY rfl (by first|omega|(simp;omega)) rfl) fun _=>?_
      refine R.nil ?_
      refine R.reg rfl<|R.u 2 rfl<|R.q (q.gE (i:=a) (fun _=>Wd.row 0 rfl) rfl rfl Tryz.underlying25 tX rfl (by first|omega|(simp;omega))) rfl<|R.u 1 rfl<|R.nil ?_
      refine R.sv 0 a _ rfl (by first|omega|(simp;omega)) rfl ?_
      have hz:l.filter (fun x => !pr x)=((acc.take a++List.replicate (acc.length-a) (⟨0,0,0,0,0⟩:ao)).take a):=by (first|exact iP j2|exact HA.done (by omega))
      rw [hz]
      exact R.w1 (gE bk a) [0,1] [] rfl Tryz.results84 (RV.tmp rfl) rfl rfl rfl rfl
theorem pd (bk:Value)(l:List ao)(w:World)(cF:Sl w bk l)(hl:l.length≤1000000):Calls Tryz.prog 74 #[bk] w fun e w' => ∃u,e = .returned u∧Own w.heap.size 3 w' u (aQ l)∧Ext w w':=p5 bk l w cF hl
theorem p6 (bk:Value)(l:List Int)(x:Int)(w:World)(cF:Sl w bk l):Calls Tryz.prog 97 #[bk,.int .i64 x] w fun e w'=>e = .returned (.int .i64 (idxOf (fun y=>y==x) l))∧Ext w w':=by
  have lR:=cF.dI
  refine R.enter (n:=19) (vs:=[bk,.int .i64 x]) [] [(0,bk),(1,.int .i64 x)] Tryz.func97 rfl rfl rfl rfl ?_
  refine R.reg rfl<|R.u 1 rfl<|R.nil ?_
  refine R.reg rfl<|R.u 1 rfl<|R.q (q.len' (fun _=>Wd.old cF) rfl Tryz.underlying116) rfl<|R.u 1 rfl<|R.nil ?_
  refine R.loop (fun k:Nat=>[(0,bk),(1,.int .i64 x),(7,.int .i64 (l.length:Int)),(8,.int .i64 (k:Int))]) (fun k:Nat=>[]) (fun k:Nat=>[]) (fun k:Nat=>k≤l.length ∧ ∀ (j:Nat) y,j<k→l[j]? = some y→(y==x)=false) (fun k:Nat=>l.length-k) 0 rfl (by exact ⟨by omega,fun j x hj=>absurd hj (Nat.not_lt_zero _)⟩) ⟨rfl,rfl,rfl,rfl,trivial⟩ (fun _=>Wd.pick [] [] rfl rfl rfl) ?_
  rintro k ⟨hk,HA⟩
  refine R.reg rfl<|?_
  by_cases h1:k<l.length
  ·
    refine R.q (q.lss rfl rfl (decide_eq_true (by omega))) rfl<|R.nil ?_
    refine R.aI rfl rfl ?_
    refine R.reg rfl<|R.u 2 rfl<|R.nil ?_
    refine R.reg rfl<|R.u 3 rfl<|?_
    obtain ⟨x1,hx1⟩:∃z,l[k]? = some z:=⟨_,List.getElem?_eq_getElem (by omega)⟩
    refine R.q (q.idx (i:=k) (fun _=>Wd.old cF) rfl rfl fL rfl hx1) rfl<|R.q (q.jU (fun _=>Wd.old cF) hx1 rfl aG rfl) rfl<|?_
    by_cases h2:x=x1
    ·
      refine R.q (q.eql rfl rfl (beq_iff_eq.2 (by omega))) rfl<|R.nil ?_
      refine R.aI rfl rfl ?_
      refine R.reg rfl<|R.u 2 rfl<|R.nil ?_
      exact R.rv rfl Tryz.results97 rfl (rI (by (first|exact (idxOf_hit (p:=fun y=>y==x) hx1 (beq_iff_eq.2 (by omega)) HA).symm|exact (idxOf_miss (by assumption) HA).symm)))
    ·
      refine R.q (q.eql rfl rfl (beq_eq_false_iff_ne.2 (by omega))) rfl<|R.nil ?_
      refine R.aH rfl rfl ?_
      refine R.reg rfl<|R.q (q.add (r:=((k+1:Nat):Int)) rfl rfl (wr (by omega))) rfl<|R.u 1 rfl<|R.nil ?_
      refine R.back (k+1) rfl (by (exact ⟨by omega,fA (p:=fun y=>y==x) HA hx1 (beq_eq_false_iff_ne.2 (by omega))⟩)) (by omega) ⟨rfl,rfl,rfl,rfl,trivial⟩ (fun _=>Wd.pick [] [] rfl rfl rfl)
  ·
    refine R.q (q.lss rfl rfl (decide_eq_false (by omega))) rfl<|R.nil ?_
    refine R.aH rfl rfl ?_
    refine R.reg rfl<|R.u 1 rfl<|R.nil ?_
    exact R.rv rfl Tryz.results97 rfl (rI (by (first|exact (idxOf_hit (p:=fun y=>y==x) hx1 (beq_iff_eq.2 (by omega)) HA).symm|exact (idxOf_miss (by assumption) HA).symm)))
theorem q9 {l:List Int}{x:Int}:(0≤idxOf (fun y=>y==x) l)=(x∈l):=by
  rcases fC (fun y:Int=>y==x) l with ⟨h,hn⟩ | ⟨k,y,h,hy,he,_,_⟩
  · rw [h];simp;intro hm;have:=hn x hm;simp at this
  ·
    rw [h];simp
    have:y=x:=by simpa using he
    subst this;exact List.mem_of_getElem? hy
theorem eF (bk:Value)(l:List Int)(x:Int)(w:World)(cF:Sl w bk l):Calls Tryz.prog 77 #[bk,.int .i64 x] w fun e w'=>e = .returned (.bool (decide (x∈l)))∧Ext w w':=by
  have lR:=cF.dI
  refine R.enter (n:=9) (vs:=[bk,.int .i64 x]) [] [(0,bk),(1,.int .i64 x)] Tryz.func77 rfl rfl rfl rfl ?_
  refine R.reg rfl<|R.u 1 rfl<|R.nil ?_
  refine R.reg rfl<|R.u 2 rfl<|R.c (q.call xy rfl rfl (fun w hw=>(p6 _ (l) (x) w ((fun _=>Wd.old cF) w hw) ))) rfl<|?_
  by_cases h1:idxOf (fun y=>y==x) l<0
  ·
    refine R.q (q.geq rfl rfl (decide_eq_false (by omega))) rfl<|R.u 1 rfl<|R.nil ?_
    exact R.rv rfl Tryz.results77 rfl (rB (by (have e:=q9 (l:=l) (x:=x);first|exact (decide_eq_true (e▸(by omega))).symm|exact (decide_eq_false (e▸(by omega))).symm)))
  ·
    refine R.q (q.geq rfl rfl (decide_eq_true (by omega))) rfl<|R.u 1 rfl<|R.nil ?_
    exact R.rv rfl Tryz.results77 rfl (rB (by (have e:=q9 (l:=l) (x:=x);first|exact (decide_eq_true (e▸(by omega))).symm|exact (decide_eq_false (e▸(by omega))).symm)))
theorem ig (aD az aB aA:Value)(r:ay)(p:Place)(w:World)(gX:Sl w aD r.ap)(eX:Sl w az r.Things)(jg:Sl w aB r.Held)(lK:Sl w aA r.Notes)(hk:Ok r):Calls Tryz.prog 8 #[.agg #[aD,az,aB,aA,.int .i64 r.ae,.int .i64 r.af],.agg #[.int .i64 p.ag,.int .i64 p.Slot]] w fun e w'=>e = .returned (.tuple #[ao.val ((ak r p).1),ek ((ak r p).2)])∧Ext w w':=by
  have b1:=hk.hl
  refine R.enter (n:=30) (vs:=[.agg #[aD,az,aB,aA,.int .i64 r.ae,.int .i64 r.af],.agg #[.int .i64 p.ag,.int .i64 p.Slot]]) [] [(0,.agg #[aD,az,aB,aA,.int .i64 r.ae,.int .i64 r.af]),(1,.agg #[.int .i64 p.ag,.int .i64 p.Slot])] Tryz.func8 rfl rfl rfl rfl ?_
  refine R.reg rfl<|?_
  refine R.s rfl (s.box (cs:=[aD,az,aB,aA,.int .i64 r.ae,.int .i64 r.af]) rfl rfl rfl) fun b1=>?_
  refine R.s rfl (s.box (cs:=[.int .i64 p.ag,.int .i64 p.Slot]) rfl rfl rfl) fun b2=>?_
  refine R.s rfl (s.alloc (cs:=[.int .i64 0,.int .i64 0,.int .i64 0,.int .i64 0,.int .i64 0]) aY rfl rfl) fun b3=>?_
  refine R.u 1 rfl<|R.nil ?_
  refine R.reg rfl<|R.q (q.bI 1 rfl rfl aM) rfl<|R.c (q.call uL rfl rfl (fun w hw=>(jv (p) w  ))) rfl<|R.u 1 rfl<|R.nil ?_
  refine R.reg rfl<|R.u 1 rfl<|?_
  by_cases h1:bH p=0
  ·
    refine R.q (q.fH rfl rfl Tryz.underlying41 (by omega)) rfl<|R.nil ?_
    refine R.aH rfl rfl ?_
    rcases dm r.ap (gI r.Held p) with ⟨dt,j2⟩ | ⟨fU,dP,dt,e6,vV⟩
    ·
      refine R.gq rfl mixed (by kernel_rfl)<|Q.q (q.aS (off':=0) rfl a8 rfl) rfl<|Q.q (q.ld 2 rfl rfl bN rfl) rfl<|Q.q (q.aS (off':=2) rfl bf rfl) rfl<|Q.q (q.ld 2 rfl rfl bQ rfl) rfl<|Q.q (q.bI 1 rfl rfl aM) rfl<|Q.c (q.call qK rfl rfl (fun w hw=>(hN _ (r.Held) (p) w ((fun _=>Wd.old jg) w hw) (by first|omega|assumption|(simp;done)|(simp;omega))))) rfl<|Q.c (q.call ln rfl rfl (fun w hw=>(cv (congrArg (Value.int .i64) dt) (gk _ (r.ap) (gI r.Held p) w ((fun _=>Wd.old gX) w hw) )))) rfl<|Q.u 1 rfl<|Q.nil ?_
      refine R.reg rfl<|R.u 1 rfl<|R.q (q.lss (b:=true) rfl rfl (by decide)) rfl<|R.nil ?_
      refine R.aI rfl rfl ?_
      refine R.reg rfl<|R.q (q.build (cs:=[.int .i64 0,.int .i64 0,.int .i64 0,.int .i64 0,.int .i64 0]) dM rfl rfl) rfl<|R.q (q.iface rfl da) rfl<|?_
      refine R.s rfl (s.st (us:=[.int .i64 0,.int .i64 0,.int .i64 0,.int .i64 0,.int .i64 0]) (cs':=[.int .i64 0,.int .i64 0,.int .i64 0,.int .i64 0,.int .i64 0]) 0 _ rfl rfl rfl rfl (.inl aK) rfl rfl rfl rfl) fun _=>?_
      refine R.u 1 rfl<|R.nil ?_
      exact R.lN rfl Tryz.results8 (RV.cell 0 rfl rfl aK) (RV.tmp rfl) (congrArg ao.val (show (⟨0,0,0,0,0⟩:ao)=(ak r p).1 from by (first|(rw [eu (by assumption)];first|done|rfl|omega)|(rw [ea (by assumption) dt];first|done|rfl|omega)|(rw [eD (by assumption) dt (List.getElem?_eq_getElem dP)];first|done|rfl|omega)))) (e5 (by decide) (by (first|(rw [eu (by assumption)];first|done|rfl|omega)|(rw [ea (by assumption) dt];first|done|rfl|omega)|(rw [eD (by assumption) dt (List.getElem?_eq_getElem dP)];first|done|rfl|omega))))
    ·
      refine R.gq rfl mixed (by kernel_rfl)<|Q.q (q.aS (off':=0) rfl a8 rfl) rfl<|Q.q (q.ld 2 rfl rfl bN rfl) rfl<|Q.q (q.aS (off':=2) rfl bf rfl) rfl<|Q.q (q.ld 2 rfl rfl bQ rfl) rfl<|Q.q (q.bI 1 rfl rfl aM) rfl<|Q.c (q.call qK rfl rfl (fun w hw=>(hN _ (r.Held) (p) w ((fun _=>Wd.old jg) w hw) (by first|omega|assumption|(simp;done)|(simp;omega))))) rfl<|Q.c (q.call ln rfl rfl (fun w hw=>(cv (congrArg (Value.int .i64) dt) (gk _ (r.ap) (gI r.Held p) w ((fun _=>Wd.old gX) w hw) )))) rfl<|Q.u 1 rfl<|Q.nil ?_
      refine R.reg rfl<|R.u 1 rfl<|R.q (q.lss rfl rfl (decide_eq_false (by omega))) rfl<|R.nil ?_
      refine R.aH rfl rfl ?_
      refine R.reg rfl<|R.q (q.aS (off':=0) rfl a8 rfl) rfl<|R.q (q.ld 2 rfl rfl bN rfl) rfl<|R.u 1 rfl<|R.q (q.idx (i:=fU) (fun _=>Wd.old gX) rfl rfl cG rfl (List.getElem?_eq_getElem dP)) rfl<|R.q (q.dx (ds:=[.int .i64 ((r.ap[fU]).ID),.int .i64 ((r.ap[fU]).ai),.int .i64 ((r.ap[fU]).Rights),.int .i64 ((r.ap[fU]).ar),.int .i64 ((r.ap[fU]).From)]) (fun _=>Wd.old gX) (List.getElem?_eq_getElem dP) rfl aK rfl) rfl<|?_
      refine R.s rfl (s.st (us:=[.int .i64 ((r.ap[fU]).ID),.int .i64 ((r.ap[fU]).ai),.int .i64 ((r.ap[fU]).Rights),.int .i64 ((r.ap[fU]).ar),.int .i64 ((r.ap[fU]).From)]) (cs':=[.int .i64 ((r.ap[fU]).ID),.int .i64 ((r.ap[fU]).ai),.int .i64 ((r.ap[fU]).Rights),.int .i64 ((r.ap[fU]).ar),.int .i64 ((r.ap[fU]).From)]) 0 _ rfl rfl rfl rfl (.inl aK) rfl rfl rfl rfl) fun _=>?_
      refine R.u 1 rfl<|R.nil ?_
      exact R.lN rfl Tryz.results8 (RV.cell 0 rfl rfl aK) (RV.tmp rfl) (congrArg ao.val (show (r.ap[fU])=(ak r p).1 from by (first|(rw [eu (by assumption)];first|done|rfl|omega)|(rw [ea (by assumption) dt];first|done|rfl|omega)|(rw [eD (by assumption) dt (List.getElem?_eq_getElem dP)];first|done|rfl|omega)))) (gu (by (first|(rw [eu (by assumption)];first|done|rfl|omega)|(rw [ea (by assumption) dt];first|done|rfl|omega)|(rw [eD (by assumption) dt (List.getElem?_eq_getElem dP)];first|done|rfl|omega))))
  ·
    refine R.q (q.fI rfl rfl Tryz.underlying41 (by omega)) rfl<|R.nil ?_
    refine R.aI rfl rfl ?_
    refine R.reg rfl<|R.q (q.build (cs:=[.int .i64 0,.int .i64 0,.int .i64 0,.int .i64 0,.int .i64 0]) dM rfl rfl) rfl<|R.u 1 rfl<|?_
    refine R.s rfl (s.st (us:=[.int .i64 0,.int .i64 0,.int .i64 0,.int .i64 0,.int .i64 0]) (cs':=[.int .i64 0,.int .i64 0,.int .i64 0,.int .i64 0,.int .i64 0]) 0 _ rfl rfl rfl rfl (.inl aK) rfl rfl rfl rfl) fun _=>?_
    refine R.u 1 rfl<|R.nil ?_
    exact R.lN rfl Tryz.results8 (RV.cell 0 rfl rfl aK) (RV.tmp rfl) (congrArg ao.val (show (⟨0,0,0,0,0⟩:ao)=(ak r p).1 from by (first|(rw [eu (by assumption)];first|done|rfl|omega)|(rw [ea (by assumption) dt];first|done|rfl|omega)|(rw [eD (by assumption) dt (List.getElem?_eq_getElem dP)];first|done|rfl|omega)))) (rE (by (first|(rw [eu (by assumption)];first|done|rfl|omega)|(rw [ea (by assumption) dt];first|done|rfl|omega)|(rw [eD (by assumption) dt (List.getElem?_eq_getElem dP)];first|done|rfl|omega))))
theorem jO (aD az aB aA:Value)(r:ay)(p:Place)(w:World)(gX:Sl w aD r.ap)(eX:Sl w az r.Things)(jg:Sl w aB r.Held)(lK:Sl w aA r.Notes)(hk:Ok r):Calls Tryz.prog 60 #[.agg #[aD,az,aB,aA,.int .i64 r.ae,.int .i64 r.af],.agg #[.int .i64 p.ag,.int .i64 p.Slot]] w fun e w'=>e = .returned (ek (cY r p))∧Ext w w':=by
  have b1:=hk.hl
  refine R.enter (n:=19) (vs:=[.agg #[aD,az,aB,aA,.int .i64 r.ae,.int .i64 r.af],.agg #[.int .i64 p.ag,.int .i64 p.Slot]]) [] [(0,.agg #[aD,az,aB,aA,.int .i64 r.ae,.int .i64 r.af]),(1,.agg #[.int .i64 p.ag,.int .i64 p.Slot])] Tryz.func60 rfl rfl rfl rfl ?_
  refine R.reg rfl<|?_
  refine R.s rfl (s.box (cs:=[aD,az,aB,aA,.int .i64 r.ae,.int .i64 r.af]) rfl rfl rfl) fun b1=>?_
  refine R.s rfl (s.box (cs:=[.int .i64 p.ag,.int .i64 p.Slot]) rfl rfl rfl) fun b2=>?_
  refine R.u 1 rfl<|R.nil ?_
  refine R.reg rfl<|R.q (q.bI 0 rfl rfl aM) rfl<|R.c (q.call uL rfl rfl (fun w hw=>(jv (p) w  ))) rfl<|R.u 1 rfl<|R.nil ?_
  refine R.reg rfl<|R.u 1 rfl<|?_
  by_cases h1:bH p=0
  ·
    refine R.q (q.uy rfl rfl Tryz.underlying41 (by omega)) rfl<|R.u 1 rfl<|R.qg rfl (q.aS (off':=2) rfl bf rfl) rfl<|R.qg rfl (q.ld 1 rfl rfl bQ rfl) rfl<|R.qg rfl (q.bI 0 rfl rfl aM) rfl<|R.cg rfl (q.call qK rfl rfl (fun w hw=>(hN _ (r.Held) (p) w ((fun _=>Wd.old jg) w hw) (by first|omega|assumption|(simp;done)|(simp;omega))))) rfl<|?_
    by_cases h2:gI r.Held p=0
    ·
      refine R.qg rfl (q.neq rfl rfl (bne_eq_false_iff_eq.2 (by omega))) rfl<|R.u 1 rfl<|R.nil ?_
      refine R.aH rfl rfl ?_
      refine R.reg rfl<|R.u 2 rfl<|R.nil ?_
      exact R.rv rfl Tryz.results60 rfl (rE (by (unfold cY;first|(rw [if_pos (by assumption),if_pos (by assumption)];first|done|rfl|omega)|(rw [if_pos (by assumption),if_neg (by assumption)];first|done|rfl|omega)|(rw [if_neg (by assumption)];first|done|rfl|omega))))
    ·
      refine R.qg rfl (q.neq rfl rfl (bne_iff_ne.2 (by omega))) rfl<|R.u 1 rfl<|R.nil ?_
      refine R.aI rfl rfl ?_
      refine R.reg rfl<|R.q (q.iface rfl da) rfl<|R.u 1 rfl<|R.nil ?_
      refine R.reg rfl<|R.u 2 rfl<|R.nil ?_
      exact R.rv rfl Tryz.results60 rfl (e5 (by decide) (by (unfold cY;first|(rw [if_pos (by assumption),if_pos (by assumption)];first|done|rfl|omega)|(rw [if_pos (by assumption),if_neg (by assumption)];first|done|rfl|omega)|(rw [if_neg (by assumption)];first|done|rfl|omega))))
  ·
    refine R.q (q.uz rfl rfl Tryz.underlying41 (by omega)) rfl<|R.u 7 rfl<|R.nil ?_
    refine R.aH rfl rfl ?_
    refine R.reg rfl<|R.u 2 rfl<|R.nil ?_
    exact R.rv rfl Tryz.results60 rfl (rE (by (unfold cY;first|(rw [if_pos (by assumption),if_pos (by assumption)];first|done|rfl|omega)|(rw [if_pos (by assumption),if_neg (by assumption)];first|done|rfl|omega)|(rw [if_neg (by assumption)];first|done|rfl|omega))))
theorem jC (aD az aB aA:Value)(r:ay)(w0:ao)(p:Place)(w:World)(own:List Nat)(H:Wd w (blks []++own) ([]++[ah.held w own]) [ah.ls aD (r.ap:List ao),ah.ls az (r.Things:List ai),ah.ls aB (r.Held:List Held),ah.ls aA (r.Notes:List Note)] w)(hk:r.Held.length≤3000∧r.ap.length≤3000∧0≤r.ae∧r.ae≤3000):Calls Tryz.prog 61 #[.agg #[aD,az,aB,aA,.int .i64 r.ae,.int .i64 r.af],.agg #[.int .i64 w0.ID,.int .i64 w0.ai,.int .i64 w0.Rights,.int .i64 w0.ar,.int .i64 w0.From],.agg #[.int .i64 p.ag,.int .i64 p.Slot]] w fun e w' => ∃z:Value×Value×Value×Value,e = .returned (.agg #[z.1,z.2.1,z.2.2.1,z.2.2.2,.int .i64 (((aW r w0 p)).ae),.int .i64 (((aW r w0 p)).af)])∧Wd w (blks []++own) ([]++[ah.held w own]) [ah.ls z.1 (((aW r w0 p)).ap:List ao),ah.ls z.2.1 (((aW r w0 p)).Things:List ai),ah.ls z.2.2.1 (((aW r w0 p)).Held:List Held),ah.ls z.2.2.2 (((aW r w0 p)).Notes:List Note)] w':=by
  have cw:=H.bS 0 rfl
  have bY:=H.bS 1 rfl
  have cI:=H.bS 2 rfl
  have cx:=H.bS 3 rfl
  have b1:=hk.1;have b2:=hk.2.1;have b3:=hk.2.2.1;have b4:=hk.2.2.2
  refine R.cC (n:=29) (vs:=[.agg #[aD,az,aB,aA,.int .i64 r.ae,.int .i64 r.af],.agg #[.int .i64 w0.ID,.int .i64 w0.ai,.int .i64 w0.Rights,.int .i64 w0.ar,.int .i64 w0.From],.agg #[.int .i64 p.ag,.int .i64 p.Slot]]) (B:=[ah.held w own]) [(0,.agg #[aD,az,aB,aA,.int .i64 r.ae,.int .i64 r.af]),(1,.agg #[.int .i64 w0.ID,.int .i64 w0.ai,.int .i64 w0.Rights,.int .i64 w0.ar,.int .i64 w0.From]),(2,.agg #[.int .i64 p.ag,.int .i64 p.Slot])] Tryz.func61 rfl rfl rfl rfl H ?_
  refine R.reg rfl<|?_
  refine R.s rfl (s.box (cs:=[aD,az,aB,aA,.int .i64 r.ae,.int .i64 r.af]) rfl rfl rfl) fun b1=>?_
  refine R.s rfl (s.box (cs:=[.int .i64 w0.ID,.int .i64 w0.ai,.int .i64 w0.Rights,.int .i64 w0.ar,.int .i64 w0.From]) rfl rfl rfl) fun b2=>?_
  refine R.s rfl (s.box (cs:=[.int .i64 p.ag,.int .i64 p.Slot]) rfl rfl rfl) fun b3=>?_
  refine R.s rfl (s.alloc (cs:=[.slice none 0 0,.slice none 0 0,.slice none 0 0,.slice none 0 0,.int .i64 0,.int .i64 0]) bR rfl rfl) fun b4=>?_
  refine R.nil ?_
  refine R.gD (fuel:=8) (Wd w (blks []++own) [ah.box b4 [.slice none 0 0,.slice none 0 0,.slice none 0 0,.slice none 0 0,.int .i64 0,.int .i64 0] 30,ah.box b3 [.int .i64 p.ag,.int .i64 p.Slot] 33,ah.box b2 [.int .i64 w0.ID,.int .i64 w0.ai,.int .i64 w0.Rights,.int .i64 w0.ar,.int .i64 w0.From] 39,ah.held w own] [ah.ls aD (r.ap:List ao),ah.ls az (r.Things:List ai),ah.ls aB (r.Held:List Held),ah.ls aA (r.Notes:List Note)]) rfl mixed rfl ?_
  refine D.q (i:=0) rfl (by kernel_rfl) (fun _=>Wd.aV [0,1,2,4] [0,1,2,3] rfl rfl rfl) rfl (q.aS (off':=0) rfl a8 rfl) rfl<|D.q (i:=3) rfl (by kernel_rfl) (fun _=>Wd.aV [0,1,2,4] [0,1,2,3] rfl rfl rfl) rfl (q.bI 2 rfl rfl aK) rfl<|?_
  refine D.two (i:=1) (j:=4) (by kernel_rfl) rfl rfl ?_ ?_
  ·
    refine Do.s (s.c (Qt.a (q.ld 3 rfl rfl bN rfl)) rfl) (fun _=>(fun _=>Wd.aV [0,1,2,4] [0,1,2,3] rfl rfl rfl)) rfl fun _=>?_
    refine D.two (i:=2) (j:=4) (by kernel_rfl) rfl rfl ?_ ?_
    ·
      refine Do.s (B':=(fun aL:Value=>[ah.row 39 aL (r.ap:List ao),ah.box b4 [.slice none 0 0,.slice none 0 0,.slice none 0 0,.slice none 0 0,.int .i64 0,.int .i64 0] 30,ah.box b3 [.int .i64 p.ag,.int .i64 p.Slot] 33,ah.box b2 [.int .i64 w0.ID,.int .i64 w0.ai,.int .i64 w0.Rights,.int .i64 w0.ar,.int .i64 w0.From] 39,ah.box b1 [aD,az,aB,aA,.int .i64 r.ae,.int .i64 r.af] 30,ah.held w own])) (F':=(fun aL:Value=>[ah.ls aD (r.ap:List ao),ah.ls az (r.Things:List ai),ah.ls aB (r.Held:List Held),ah.ls aA (r.Notes:List Note)])) (s.bE (B0:=[]) (Br:=[ah.box b4 [.slice none 0 0,.slice none 0 0,.slice none 0 0,.slice none 0 0,.int .i64 0,.int .i64 0] 30,ah.box b3 [.int .i64 p.ag,.int .i64 p.Slot] 33,ah.box b2 [.int .i64 w0.ID,.int .i64 w0.ai,.int .i64 w0.Rights,.int .i64 w0.ar,.int .i64 w0.From] 39,ah.box b1 [aD,az,aB,aA,.int .i64 r.ae,.int .i64 r.af] 30,ah.held w own]) (F0:=[ah.ls aD (r.ap:List ao)]) [0,1,2,3,4] [0] (fun aL:Value=>aL) (fun aL:Value=>[ah.row 39 aL (r.ap:List ao)]) (fun aL:Value=>[]) rfl rfl rfl oK rfl rfl (fun w own hw H=>fa aD (r.ap) w own H (by first|omega|assumption|(simp;done)|(simp;omega))) rfl) (fun _=>(fun _=>Wd.aV [1,2,3,5] [0,1,2,3] rfl rfl rfl)) rfl fun z2=>?_
      refine D.one (i:=4) (by kernel_rfl) rfl ?_
      refine Do.s (s.bs (l:=([w0]:List ao)) cG aY rfl rfl rfl rfl rfl rfl rfl) (fun _=>(fun _=>Wd.aV [2,3,4,6] [0,1,2,3] rfl rfl rfl)) rfl fun b5=>?_
      refine D.one (i:=5) (by kernel_rfl) rfl ?_
      refine Do.s (s.app (l2:=[w0]) 1 _ rfl rfl rfl (fun _=>Wd.row 0 rfl) eH (by first|omega|(simp;omega)) (by first|omega|(simp;omega)) (fun _=>rfl) rfl) (fun _=>(fun _=>Wd.aV [2,3,4,6] [0,1,2,3] rfl rfl rfl)) rfl fun v1=>?_
      refine D.q (i:=6) rfl (by kernel_rfl) (fun _=>Wd.aV [2,3,4,6] [0,1,2,3] rfl rfl rfl) rfl (q.aS (off':=0) rfl a8 rfl) rfl<|?_
      refine D.one (i:=7) (by kernel_rfl) rfl ?_
      refine Do.s (s.cS (us:=[v1]) (cs':=[v1,az,aB,aA,.int .i64 r.ae,.int .i64 r.af]) 5 _ rfl rfl rfl (fun w hw=>Sl.bJ ((fun _=>Wd.row 1 rfl) w hw)) (.inr ⟨bN,rfl⟩) (fun w hw=>(aj (Sl.one ((fun _=>Wd.row 1 rfl) w hw)) aJ)) rfl rfl rfl) (fun _=>(fun _=>Wd.aV [2,3,4,6] [0,1,2,3] rfl rfl rfl)) rfl fun _=>?_
      refine D.done (by kernel_rfl)<|?_
      refine R.reg rfl<|R.q (q.aS (off':=4) rfl bU rfl) rfl<|R.q (q.ld 5 rfl rfl aG rfl) rfl<|R.q (q.add (r:=r.ae+1) rfl rfl (wr (by omega))) rfl<|R.q (q.aS (off':=4) rfl bU rfl) rfl<|?_
      refine R.s rfl (s.st (us:=[.int .i64 (r.ae+1)]) (cs':=[v1,az,aB,aA,.int .i64 (r.ae+1),.int .i64 r.af]) 5 _ rfl rfl rfl rfl (.inr ⟨aG,rfl⟩) rfl rfl rfl rfl) fun _=>?_
      refine R.nil ?_
      refine R.reg rfl<|R.q (q.aS (off':=0) rfl bZ rfl) rfl<|R.q (q.ld 3 rfl rfl aG rfl) rfl<|?_
      by_cases h1:0<p.ag
      ·
        refine R.q (q.gtr rfl rfl (decide_eq_true (by omega))) rfl<|R.nil ?_
        refine R.aI rfl rfl ?_
        refine R.reg rfl<|R.q (q.aS (off':=2) rfl bf rfl) rfl<|R.q (q.ld 5 rfl rfl bQ rfl) rfl<|R.q (q.bI 3 rfl rfl aM) rfl<|R.q (q.aS (off':=0) rfl bK rfl) rfl<|R.q (q.ld 4 rfl rfl aG rfl) rfl<|?_
        refine R.s (B':=(fun aL:Value=>[ah.row 93 aL ((bO r.Held p w0.ID):List Held),ah.row 39 (.slice (some ⟨b5,0,none⟩) 1 1) ([w0]:List ao),ah.row 39 v1 ((r.ap++([w0])):List ao),ah.box b4 [.slice none 0 0,.slice none 0 0,.slice none 0 0,.slice none 0 0,.int .i64 0,.int .i64 0] 30,ah.box b3 [.int .i64 p.ag,.int .i64 p.Slot] 33,ah.box b2 [.int .i64 w0.ID,.int .i64 w0.ai,.int .i64 w0.Rights,.int .i64 w0.ar,.int .i64 w0.From] 39,ah.box b1 [v1,az,aB,aA,.int .i64 (r.ae+1),.int .i64 r.af] 30,ah.held w own])) (F':=(fun aL:Value=>[ah.ls aD (r.ap:List ao),ah.ls az (r.Things:List ai),ah.ls aB (r.Held:List Held),ah.ls aA (r.Notes:List Note)])) rfl (s.bE (B0:=[]) (Br:=[ah.row 39 (.slice (some ⟨b5,0,none⟩) 1 1) ([w0]:List ao),ah.row 39 v1 ((r.ap++([w0])):List ao),ah.box b4 [.slice none 0 0,.slice none 0 0,.slice none 0 0,.slice none 0 0,.int .i64 0,.int .i64 0] 30,ah.box b3 [.int .i64 p.ag,.int .i64 p.Slot] 33,ah.box b2 [.int .i64 w0.ID,.int .i64 w0.ai,.int .i64 w0.Rights,.int .i64 w0.ar,.int .i64 w0.From] 39,ah.box b1 [v1,az,aB,aA,.int .i64 (r.ae+1),.int .i64 r.af] 30,ah.held w own]) (F0:=[ah.ls aB (r.Held:List Held)]) [0,1,2,3,4,5,6] [2] (fun aL:Value=>aL) (fun aL:Value=>[ah.row 93 aL ((bO r.Held p w0.ID):List Held)]) (fun aL:Value=>[]) rfl rfl rfl nr rfl rfl (fun w own hw H=>jL aB (r.Held) (p) (w0.ID) w own H (by first|omega|assumption|(simp;done)|(simp;omega))) rfl) fun z3=>?_
        refine R.q (q.aS (off':=2) rfl bf rfl) rfl<|?_
        refine R.s rfl (s.cS (us:=[z3]) (cs':=[v1,az,z3,aA,.int .i64 (r.ae+1),.int .i64 r.af]) 6 _ rfl rfl rfl (fun w hw=>Sl.bJ ((fun _=>Wd.row 0 rfl) w hw)) (.inr ⟨bQ,rfl⟩) (fun w hw=>(aj (Sl.one ((fun _=>Wd.row 0 rfl) w hw)) aJ)) rfl rfl rfl) fun _=>?_
        refine R.nil ?_
        refine R.reg rfl<|R.q (q.bI 6 rfl rfl au) rfl<|?_
        refine R.s rfl (s.cS (us:=[v1,az,z3,aA,.int .i64 (r.ae+1),.int .i64 r.af]) (cs':=[v1,az,z3,aA,.int .i64 (r.ae+1),.int .i64 r.af]) 3 _ rfl rfl rfl (fun _ _=>rfl) (.inl au) (fun w hw=>(aj (Sl.one ((fun _=>Wd.row 2 rfl) w hw)) (aj (Sl.one ((fun _=>Wd.aO 1 rfl) w hw)) (aj (Sl.one ((fun _=>Wd.row 0 rfl) w hw)) (aj (Sl.one ((fun _=>Wd.aO 3 rfl) w hw)) (aj rfl (aj rfl aJ))))))) rfl rfl rfl) fun _=>?_
        refine R.nil ?_
        refine R.mp (B':=[ah.row 93 z3 (bO r.Held p w0.ID:List Held),ah.row 39 (.slice (some ⟨b5,0,none⟩) 1 1) ([w0]:List ao),ah.box b4 [v1,az,z3,aA,.int .i64 (r.ae+1),.int .i64 r.af] 30,ah.box b3 [.int .i64 p.ag,.int .i64 p.Slot] 33,ah.box b2 [.int .i64 w0.ID,.int .i64 w0.ai,.int .i64 w0.Rights,.int .i64 w0.ar,.int .i64 w0.From] 39,ah.box b1 [v1,az,z3,aA,.int .i64 (r.ae+1),.int .i64 r.af] 30,ah.held w own]) (fun _ hw=>hw.aZ 2 _ rfl rfl) ?_
        refine R.mp (B':=[ah.row 39 (.slice (some ⟨b5,0,none⟩) 1 1) ([w0]:List ao),ah.box b4 [v1,az,z3,aA,.int .i64 (r.ae+1),.int .i64 r.af] 30,ah.box b3 [.int .i64 p.ag,.int .i64 p.Slot] 33,ah.box b2 [.int .i64 w0.ID,.int .i64 w0.ai,.int .i64 w0.Rights,.int .i64 w0.ar,.int .i64 w0.From] 39,ah.box b1 [v1,az,z3,aA,.int .i64 (r.ae+1),.int .i64 r.af] 30,ah.held w own]) (fun _ hw=>hw.aZ 0 _ rfl rfl) ?_
        have hz:aW r w0 p=(⟨(r.ap++([w0])),r.Things,bO r.Held p w0.ID,r.Notes,(r.ae+1),r.af⟩:ay):=by (unfold aW;first|(rw [if_pos (by assumption)];first|done|rfl|omega)|(rw [if_neg (by assumption)];first|done|rfl|omega))
        rw [hz]
        exact R.w1 (v1,az,z3,aA) [5] [1,3,0,5] rfl Tryz.results61 (RV.cell 1 rfl rfl au) rfl rfl rfl rfl
      ·
        refine R.q (q.gtr rfl rfl (decide_eq_false (by omega))) rfl<|R.nil ?_
        refine R.aH rfl rfl ?_
        refine R.reg rfl<|R.q (q.bI 5 rfl rfl au) rfl<|?_
        refine R.s rfl (s.cS (us:=[v1,az,aB,aA,.int .i64 (r.ae+1),.int .i64 r.af]) (cs':=[v1,az,aB,aA,.int .i64 (r.ae+1),.int .i64 r.af]) 2 _ rfl rfl rfl (fun _ _=>rfl) (.inl au) (fun w hw=>(aj (Sl.one ((fun _=>Wd.row 1 rfl) w hw)) (aj (Sl.one ((fun _=>Wd.aO 1 rfl) w hw)) (aj (Sl.one ((fun _=>Wd.aO 2 rfl) w hw)) (aj (Sl.one ((fun _=>Wd.aO 3 rfl) w hw)) (aj rfl (aj rfl aJ))))))) rfl rfl rfl) fun _=>?_
        refine R.nil ?_
        refine R.mp (B':=[ah.row 39 (.slice (some ⟨b5,0,none⟩) 1 1) ([w0]:List ao),ah.box b4 [v1,az,aB,aA,.int .i64 (r.ae+1),.int .i64 r.af] 30,ah.box b3 [.int .i64 p.ag,.int .i64 p.Slot] 33,ah.box b2 [.int .i64 w0.ID,.int .i64 w0.ai,.int .i64 w0.Rights,.int .i64 w0.ar,.int .i64 w0.From] 39,ah.box b1 [v1,az,aB,aA,.int .i64 (r.ae+1),.int .i64 r.af] 30,ah.held w own]) (fun _ hw=>hw.aZ 1 _ rfl rfl) ?_
        have hz:aW r w0 p=(⟨(r.ap++([w0])),r.Things,r.Held,r.Notes,(r.ae+1),r.af⟩:ay):=by (unfold aW;first|(rw [if_pos (by assumption)];first|done|rfl|omega)|(rw [if_neg (by assumption)];first|done|rfl|omega))
        rw [hz]
        exact R.w1 (v1,az,aB,aA) [5] [0,2,3,4] rfl Tryz.results61 (RV.cell 1 rfl rfl au) rfl rfl rfl rfl
    ·
      refine Do.s (s.bs (l:=([w0]:List ao)) cG aY rfl rfl rfl rfl rfl rfl rfl) (fun _=>(fun _=>Wd.aV [1,2,3,5] [0,1,2,3] rfl rfl rfl)) rfl fun b6=>?_
      refine D.one (i:=2) (by kernel_rfl) rfl ?_
      refine Do.s (B':=(fun aL:Value=>[ah.row 39 aL (r.ap:List ao),ah.row 39 (.slice (some ⟨b6,0,none⟩) 1 1) ([w0]:List ao),ah.box b4 [.slice none 0 0,.slice none 0 0,.slice none 0 0,.slice none 0 0,.int .i64 0,.int .i64 0] 30,ah.box b3 [.int .i64 p.ag,.int .i64 p.Slot] 33,ah.box b2 [.int .i64 w0.ID,.int .i64 w0.ai,.int .i64 w0.Rights,.int .i64 w0.ar,.int .i64 w0.From] 39,ah.box b1 [aD,az,aB,aA,.int .i64 r.ae,.int .i64 r.af] 30,ah.held w own])) (F':=(fun aL:Value=>[ah.ls aD (r.ap:List ao),ah.ls az (r.Things:List ai),ah.ls aB (r.Held:List Held),ah.ls aA (r.Notes:List Note)])) (s.bE (B0:=[]) (Br:=[ah.row 39 (.slice (some ⟨b6,0,none⟩) 1 1) ([w0]:List ao),ah.box b4 [.slice none 0 0,.slice none 0 0,.slice none 0 0,.slice none 0 0,.int .i64 0,.int .i64 0] 30,ah.box b3 [.int .i64 p.ag,.int .i64 p.Slot] 33,ah.box b2 [.int .i64 w0.ID,.int .i64 w0.ai,.int .i64 w0.Rights,.int .i64 w0.ar,.int .i64 w0.From] 39,ah.box b1 [aD,az,aB,aA,.int .i64 r.ae,.int .i64 r.af] 30,ah.held w own]) (F0:=[ah.ls aD (r.ap:List ao)]) [0,1,2,3,4,5] [0] (fun aL:Value=>aL) (fun aL:Value=>[ah.row 39 aL (r.ap:List ao)]) (fun aL:Value=>[]) rfl rfl rfl oK rfl rfl (fun w own hw H=>fa aD (r.ap) w own H (by first|omega|assumption|(simp;done)|(simp;omega))) rfl) (fun _=>(fun _=>Wd.aV [2,3,4,6] [0,1,2,3] rfl rfl rfl)) rfl fun z4=>?_
      refine D.one (i:=5) (by kernel_rfl) rfl ?_
      refine Do.s (s.app (l2:=[w0]) 0 _ rfl rfl rfl (fun _=>Wd.row 1 rfl) eH (by first|omega|(simp;omega)) (by first|omega|(simp;omega)) (fun _=>rfl) rfl) (fun _=>(fun _=>Wd.aV [2,3,4,6] [0,1,2,3] rfl rfl rfl)) rfl fun v2=>?_
      refine D.q (i:=6) rfl (by kernel_rfl) (fun _=>Wd.aV [2,3,4,6] [0,1,2,3] rfl rfl rfl) rfl (q.aS (off':=0) rfl a8 rfl) rfl<|?_
      refine D.one (i:=7) (by kernel_rfl) rfl ?_
      refine Do.s (s.cS (us:=[v2]) (cs':=[v2,az,aB,aA,.int .i64 r.ae,.int .i64 r.af]) 5 _ rfl rfl rfl (fun w hw=>Sl.bJ ((fun _=>Wd.row 0 rfl) w hw)) (.inr ⟨bN,rfl⟩) (fun w hw=>(aj (Sl.one ((fun _=>Wd.row 0 rfl) w hw)) aJ)) rfl rfl rfl) (fun _=>(fun _=>Wd.aV [2,3,4,6] [0,1,2,3] rfl rfl rfl)) rfl fun _=>?_
      refine D.done (by kernel_rfl)<|?_
      refine R.reg rfl<|R.q (q.aS (off':=4) rfl bU rfl) rfl<|R.q (q.ld 5 rfl rfl aG rfl) rfl<|R.q (q.add (r:=r.ae+1) rfl rfl (wr (by omega))) rfl<|R.q (q.aS (off':=4) rfl bU rfl) rfl<|?_
      refine R.s rfl (s.st (us:=[.int .i64 (r.ae+1)]) (cs':=[v2,az,aB,aA,.int .i64 (r.ae+1),.int .i64 r.af]) 5 _ rfl rfl rfl rfl (.inr ⟨aG,rfl⟩) rfl rfl rfl rfl) fun _=>?_
      refine R.nil ?_
      refine R.reg rfl<|R.q (q.aS (off':=0) rfl bZ rfl) rfl<|R.q (q.ld 3 rfl rfl aG rfl) rfl<|?_
      by_cases h2:0<p.ag
      ·
        refine R.q (q.gtr rfl rfl (decide_eq_true (by omega))) rfl<|R.nil ?_
        refine R.aI rfl rfl ?_
        refine R.reg rfl<|R.q (q.aS (off':=2) rfl bf rfl) rfl<|R.q (q.ld 5 rfl rfl bQ rfl) rfl<|R.q (q.bI 3 rfl rfl aM) rfl<|R.q (q.aS (off':=0) rfl bK rfl) rfl<|R.q (q.ld 4 rfl rfl aG rfl) rfl<|?_
        refine R.s (B':=(fun aL:Value=>[ah.row 93 aL ((bO r.Held p w0.ID):List Held),ah.row 39 v2 ((r.ap++([w0])):List ao),ah.row 39 (.slice (some ⟨b6,0,none⟩) 1 1) ([w0]:List ao),ah.box b4 [.slice none 0 0,.slice none 0 0,.slice none 0 0,.slice none 0 0,.int .i64 0,.int .i64 0] 30,ah.box b3 [.int .i64 p.ag,.int .i64 p.Slot] 33,ah.box b2 [.int .i64 w0.ID,.int .i64 w0.ai,.int .i64 w0.Rights,.int .i64 w0.ar,.int .i64 w0.From] 39,ah.box b1 [v2,az,aB,aA,.int .i64 (r.ae+1),.int .i64 r.af] 30,ah.held w own])) (F':=(fun aL:Value=>[ah.ls aD (r.ap:List ao),ah.ls az (r.Things:List ai),ah.ls aB (r.Held:List Held),ah.ls aA (r.Notes:List Note)])) rfl (s.bE (B0:=[]) (Br:=[ah.row 39 v2 ((r.ap++([w0])):List ao),ah.row 39 (.slice (some ⟨b6,0,none⟩) 1 1) ([w0]:List ao),ah.box b4 [.slice none 0 0,.slice none 0 0,.slice none 0 0,.slice none 0 0,.int .i64 0,.int .i64 0] 30,ah.box b3 [.int .i64 p.ag,.int .i64 p.Slot] 33,ah.box b2 [.int .i64 w0.ID,.int .i64 w0.ai,.int .i64 w0.Rights,.int .i64 w0.ar,.int .i64 w0.From] 39,ah.box b1 [v2,az,aB,aA,.int .i64 (r.ae+1),.int .i64 r.af] 30,ah.held w own]) (F0:=[ah.ls aB (r.Held:List Held)]) [0,1,2,3,4,5,6] [2] (fun aL:Value=>aL) (fun aL:Value=>[ah.row 93 aL ((bO r.Held p w0.ID):List Held)]) (fun aL:Value=>[]) rfl rfl rfl nr rfl rfl (fun w own hw H=>jL aB (r.Held) (p) (w0.ID) w own H (by first|omega|assumption|(simp;done)|(simp;omega))) rfl) fun z5=>?_
        refine R.q (q.aS (off':=2) rfl bf rfl) rfl<|?_
        refine R.s rfl (s.cS (us:=[z5]) (cs':=[v2,az,z5,aA,.int .i64 (r.ae+1),.int .i64 r.af]) 6 _ rfl rfl rfl (fun w hw=>Sl.bJ ((fun _=>Wd.row 0 rfl) w hw)) (.inr ⟨bQ,rfl⟩) (fun w hw=>(aj (Sl.one ((fun _=>Wd.row 0 rfl) w hw)) aJ)) rfl rfl rfl) fun _=>?_
        refine R.nil ?_
        refine R.reg rfl<|R.q (q.bI 6 rfl rfl au) rfl<|?_
        refine R.s rfl (s.cS (us:=[v2,az,z5,aA,.int .i64 (r.ae+1),.int .i64 r.af]) (cs':=[v2,az,z5,aA,.int .i64 (r.ae+1),.int .i64 r.af]) 3 _ rfl rfl rfl (fun _ _=>rfl) (.inl au) (fun w hw=>(aj (Sl.one ((fun _=>Wd.row 1 rfl) w hw)) (aj (Sl.one ((fun _=>Wd.aO 1 rfl) w hw)) (aj (Sl.one ((fun _=>Wd.row 0 rfl) w hw)) (aj (Sl.one ((fun _=>Wd.aO 3 rfl) w hw)) (aj rfl (aj rfl aJ))))))) rfl rfl rfl) fun _=>?_
        refine R.nil ?_
        refine R.mp (B':=[ah.row 93 z5 (bO r.Held p w0.ID:List Held),ah.row 39 (.slice (some ⟨b6,0,none⟩) 1 1) ([w0]:List ao),ah.box b4 [v2,az,z5,aA,.int .i64 (r.ae+1),.int .i64 r.af] 30,ah.box b3 [.int .i64 p.ag,.int .i64 p.Slot] 33,ah.box b2 [.int .i64 w0.ID,.int .i64 w0.ai,.int .i64 w0.Rights,.int .i64 w0.ar,.int .i64 w0.From] 39,ah.box b1 [v2,az,z5,aA,.int .i64 (r.ae+1),.int .i64 r.af] 30,ah.held w own]) (fun _ hw=>hw.aZ 1 _ rfl rfl) ?_
        refine R.mp (B':=[ah.row 39 (.slice (some ⟨b6,0,none⟩) 1 1) ([w0]:List ao),ah.box b4 [v2,az,z5,aA,.int .i64 (r.ae+1),.int .i64 r.af] 30,ah.box b3 [.int .i64 p.ag,.int .i64 p.Slot] 33,ah.box b2 [.int .i64 w0.ID,.int .i64 w0.ai,.int .i64 w0.Rights,.int .i64 w0.ar,.int .i64 w0.From] 39,ah.box b1 [v2,az,z5,aA,.int .i64 (r.ae+1),.int .i64 r.af] 30,ah.held w own]) (fun _ hw=>hw.aZ 0 _ rfl rfl) ?_
        have hz:aW r w0 p=(⟨(r.ap++([w0])),r.Things,bO r.Held p w0.ID,r.Notes,(r.ae+1),r.af⟩:ay):=by (unfold aW;first|(rw [if_pos (by assumption)];first|done|rfl|omega)|(rw [if_neg (by assumption)];first|done|rfl|omega))
        rw [hz]
        exact R.w1 (v2,az,z5,aA) [5] [1,3,0,5] rfl Tryz.results61 (RV.cell 1 rfl rfl au) rfl rfl rfl rfl
      ·
        refine R.q (q.gtr rfl rfl (decide_eq_false (by omega))) rfl<|R.nil ?_
        refine R.aH rfl rfl ?_
        refine R.reg rfl<|R.q (q.bI 5 rfl rfl au) rfl<|?_
        refine R.s rfl (s.cS (us:=[v2,az,aB,aA,.int .i64 (r.ae+1),.int .i64 r.af]) (cs':=[v2,az,aB,aA,.int .i64 (r.ae+1),.int .i64 r.af]) 2 _ rfl rfl rfl (fun _ _=>rfl) (.inl au) (fun w hw=>(aj (Sl.one ((fun _=>Wd.row 0 rfl) w hw)) (aj (Sl.one ((fun _=>Wd.aO 1 rfl) w hw)) (aj (Sl.one ((fun _=>Wd.aO 2 rfl) w hw)) (aj (Sl.one ((fun _=>Wd.aO 3 rfl) w hw)) (aj rfl (aj rfl aJ))))))) rfl rfl rfl) fun _=>?_
        refine R.nil ?_
        refine R.mp (B':=[ah.row 39 (.slice (some ⟨b6,0,none⟩) 1 1) ([w0]:List ao),ah.box b4 [v2,az,aB,aA,.int .i64 (r.ae+1),.int .i64 r.af] 30,ah.box b3 [.int .i64 p.ag,.int .i64 p.Slot] 33,ah.box b2 [.int .i64 w0.ID,.int .i64 w0.ai,.int .i64 w0.Rights,.int .i64 w0.ar,.int .i64 w0.From] 39,ah.box b1 [v2,az,aB,aA,.int .i64 (r.ae+1),.int .i64 r.af] 30,ah.held w own]) (fun _ hw=>hw.aZ 0 _ rfl rfl) ?_
        have hz:aW r w0 p=(⟨(r.ap++([w0])),r.Things,r.Held,r.Notes,(r.ae+1),r.af⟩:ay):=by (unfold aW;first|(rw [if_pos (by assumption)];first|done|rfl|omega)|(rw [if_neg (by assumption)];first|done|rfl|omega))
        rw [hz]
        exact R.w1 (v2,az,aB,aA) [5] [0,2,3,4] rfl Tryz.results61 (RV.cell 1 rfl rfl au) rfl rfl rfl rfl
  ·
    refine Do.s (s.bs (l:=([w0]:List ao)) cG aY rfl rfl rfl rfl rfl rfl rfl) (fun _=>(fun _=>Wd.aV [1,2,3,5] [0,1,2,3] rfl rfl rfl)) rfl fun b7=>?_
    refine D.one (i:=1) (by kernel_rfl) rfl ?_
    refine Do.s (s.c (Qt.a (q.ld 4 rfl rfl bN rfl)) rfl) (fun _=>(fun _=>Wd.aV [1,2,3,5] [0,1,2,3] rfl rfl rfl)) rfl fun _=>?_
    refine D.one (i:=2) (by kernel_rfl) rfl ?_
    refine Do.s (B':=(fun aL:Value=>[ah.row 39 aL (r.ap:List ao),ah.row 39 (.slice (some ⟨b7,0,none⟩) 1 1) ([w0]:List ao),ah.box b4 [.slice none 0 0,.slice none 0 0,.slice none 0 0,.slice none 0 0,.int .i64 0,.int .i64 0] 30,ah.box b3 [.int .i64 p.ag,.int .i64 p.Slot] 33,ah.box b2 [.int .i64 w0.ID,.int .i64 w0.ai,.int .i64 w0.Rights,.int .i64 w0.ar,.int .i64 w0.From] 39,ah.box b1 [aD,az,aB,aA,.int .i64 r.ae,.int .i64 r.af] 30,ah.held w own])) (F':=(fun aL:Value=>[ah.ls aD (r.ap:List ao),ah.ls az (r.Things:List ai),ah.ls aB (r.Held:List Held),ah.ls aA (r.Notes:List Note)])) (s.bE (B0:=[]) (Br:=[ah.row 39 (.slice (some ⟨b7,0,none⟩) 1 1) ([w0]:List ao),ah.box b4 [.slice none 0 0,.slice none 0 0,.slice none 0 0,.slice none 0 0,.int .i64 0,.int .i64 0] 30,ah.box b3 [.int .i64 p.ag,.int .i64 p.Slot] 33,ah.box b2 [.int .i64 w0.ID,.int .i64 w0.ai,.int .i64 w0.Rights,.int .i64 w0.ar,.int .i64 w0.From] 39,ah.box b1 [aD,az,aB,aA,.int .i64 r.ae,.int .i64 r.af] 30,ah.held w own]) (F0:=[ah.ls aD (r.ap:List ao)]) [0,1,2,3,4,5] [0] (fun aL:Value=>aL) (fun aL:Value=>[ah.row 39 aL (r.ap:List ao)]) (fun aL:Value=>[]) rfl rfl rfl oK rfl rfl (fun w own hw H=>fa aD (r.ap) w own H (by first|omega|assumption|(simp;done)|(simp;omega))) rfl) (fun _=>(fun _=>Wd.aV [2,3,4,6] [0,1,2,3] rfl rfl rfl)) rfl fun z6=>?_
    refine D.one (i:=5) (by kernel_rfl) rfl ?_
    refine Do.s (s.app (l2:=[w0]) 0 _ rfl rfl rfl (fun _=>Wd.row 1 rfl) eH (by first|omega|(simp;omega)) (by first|omega|(simp;omega)) (fun _=>rfl) rfl) (fun _=>(fun _=>Wd.aV [2,3,4,6] [0,1,2,3] rfl rfl rfl)) rfl fun v3=>?_
    refine D.q (i:=6) rfl (by kernel_rfl) (fun _=>Wd.aV [2,3,4,6] [0,1,2,3] rfl rfl rfl) rfl (q.aS (off':=0) rfl a8 rfl) rfl<|?_
    refine D.one (i:=7) (by kernel_rfl) rfl ?_
    refine Do.s (s.cS (us:=[v3]) (cs':=[v3,az,aB,aA,.int .i64 r.ae,.int .i64 r.af]) 5 _ rfl rfl rfl (fun w hw=>Sl.bJ ((fun _=>Wd.row 0 rfl) w hw)) (.inr ⟨bN,rfl⟩) (fun w hw=>(aj (Sl.one ((fun _=>Wd.row 0 rfl) w hw)) aJ)) rfl rfl rfl) (fun _=>(fun _=>Wd.aV [2,3,4,6] [0,1,2,3] rfl rfl rfl)) rfl fun _=>?_
    refine D.done (by kernel_rfl)<|?_
    refine R.reg rfl<|R.q (q.aS (off':=4) rfl bU rfl) rfl<|R.q (q.ld 5 rfl rfl aG rfl) rfl<|R.q (q.add (r:=r.ae+1) rfl rfl (wr (by omega))) rfl<|R.q (q.aS (off':=4) rfl bU rfl) rfl<|?_
    refine R.s rfl (s.st (us:=[.int .i64 (r.ae+1)]) (cs':=[v3,az,aB,aA,.int .i64 (r.ae+1),.int .i64 r.af]) 5 _ rfl rfl rfl rfl (.inr ⟨aG,rfl⟩) rfl rfl rfl rfl) fun _=>?_
    refine R.nil ?_
    refine R.reg rfl<|R.q (q.aS (off':=0) rfl bZ rfl) rfl<|R.q (q.ld 3 rfl rfl aG rfl) rfl<|?_
    by_cases h3:0<p.ag
    ·
      refine R.q (q.gtr rfl rfl (decide_eq_true (by omega))) rfl<|R.nil ?_
      refine R.aI rfl rfl ?_
      refine R.reg rfl<|R.q (q.aS (off':=2) rfl bf rfl) rfl<|R.q (q.ld 5 rfl rfl bQ rfl) rfl<|R.q (q.bI 3 rfl rfl aM) rfl<|R.q (q.aS (off':=0) rfl bK rfl) rfl<|R.q (q.ld 4 rfl rfl aG rfl) rfl<|?_
      refine R.s (B':=(fun aL:Value=>[ah.row 93 aL ((bO r.Held p w0.ID):List Held),ah.row 39 v3 ((r.ap++([w0])):List ao),ah.row 39 (.slice (some ⟨b7,0,none⟩) 1 1) ([w0]:List ao),ah.box b4 [.slice none 0 0,.slice none 0 0,.slice none 0 0,.slice none 0 0,.int .i64 0,.int .i64 0] 30,ah.box b3 [.int .i64 p.ag,.int .i64 p.Slot] 33,ah.box b2 [.int .i64 w0.ID,.int .i64 w0.ai,.int .i64 w0.Rights,.int .i64 w0.ar,.int .i64 w0.From] 39,ah.box b1 [v3,az,aB,aA,.int .i64 (r.ae+1),.int .i64 r.af] 30,ah.held w own])) (F':=(fun aL:Value=>[ah.ls aD (r.ap:List ao),ah.ls az (r.Things:List ai),ah.ls aB (r.Held:List Held),ah.ls aA (r.Notes:List Note)])) rfl (s.bE (B0:=[]) (Br:=[ah.row 39 v3 ((r.ap++([w0])):List ao),ah.row 39 (.slice (some ⟨b7,0,none⟩) 1 1) ([w0]:List ao),ah.box b4 [.slice none 0 0,.slice none 0 0,.slice none 0 0,.slice none 0 0,.int .i64 0,.int .i64 0] 30,ah.box b3 [.int .i64 p.ag,.int .i64 p.Slot] 33,ah.box b2 [.int .i64 w0.ID,.int .i64 w0.ai,.int .i64 w0.Rights,.int .i64 w0.ar,.int .i64 w0.From] 39,ah.box b1 [v3,az,aB,aA,.int .i64 (r.ae+1),.int .i64 r.af] 30,ah.held w own]) (F0:=[ah.ls aB (r.Held:List Held)]) [0,1,2,3,4,5,6] [2] (fun aL:Value=>aL) (fun aL:Value=>[ah.row 93 aL ((bO r.Held p w0.ID):List Held)]) (fun aL:Value=>[]) rfl rfl rfl nr rfl rfl (fun w own hw H=>jL aB (r.Held) (p) (w0.ID) w own H (by first|omega|assumption|(simp;done)|(simp;omega))) rfl) fun z7=>?_
      refine R.q (q.aS (off':=2) rfl bf rfl) rfl<|?_
      refine R.s rfl (s.cS (us:=[z7]) (cs':=[v3,az,z7,aA,.int .i64 (r.ae+1),.int .i64 r.af]) 6 _ rfl rfl rfl (fun w hw=>Sl.bJ ((fun _=>Wd.row 0 rfl) w hw)) (.inr ⟨bQ,rfl⟩) (fun w hw=>(aj (Sl.one ((fun _=>Wd.row 0 rfl) w hw)) aJ)) rfl rfl rfl) fun _=>?_
      refine R.nil ?_
      refine R.reg rfl<|R.q (q.bI 6 rfl rfl au) rfl<|?_
      refine R.s rfl (s.cS (us:=[v3,az,z7,aA,.int .i64 (r.ae+1),.int .i64 r.af]) (cs':=[v3,az,z7,aA,.int .i64 (r.ae+1),.int .i64 r.af]) 3 _ rfl rfl rfl (fun _ _=>rfl) (.inl au) (fun w hw=>(aj (Sl.one ((fun _=>Wd.row 1 rfl) w hw)) (aj (Sl.one ((fun _=>Wd.aO 1 rfl) w hw)) (aj (Sl.one ((fun _=>Wd.row 0 rfl) w hw)) (aj (Sl.one ((fun _=>Wd.aO 3 rfl) w hw)) (aj rfl (aj rfl aJ))))))) rfl rfl rfl) fun _=>?_
      refine R.nil ?_
      refine R.mp (B':=[ah.row 93 z7 (bO r.Held p w0.ID:List Held),ah.row 39 (.slice (some ⟨b7,0,none⟩) 1 1) ([w0]:List ao),ah.box b4 [v3,az,z7,aA,.int .i64 (r.ae+1),.int .i64 r.af] 30,ah.box b3 [.int .i64 p.ag,.int .i64 p.Slot] 33,ah.box b2 [.int .i64 w0.ID,.int .i64 w0.ai,.int .i64 w0.Rights,.int .i64 w0.ar,.int .i64 w0.From] 39,ah.box b1 [v3,az,z7,aA,.int .i64 (r.ae+1),.int .i64 r.af] 30,ah.held w own]) (fun _ hw=>hw.aZ 1 _ rfl rfl) ?_
      refine R.mp (B':=[ah.row 39 (.slice (some ⟨b7,0,none⟩) 1 1) ([w0]:List ao),ah.box b4 [v3,az,z7,aA,.int .i64 (r.ae+1),.int .i64 r.af] 30,ah.box b3 [.int .i64 p.ag,.int .i64 p.Slot] 33,ah.box b2 [.int .i64 w0.ID,.int .i64 w0.ai,.int .i64 w0.Rights,.int .i64 w0.ar,.int .i64 w0.From] 39,ah.box b1 [v3,az,z7,aA,.int .i64 (r.ae+1),.int .i64 r.af] 30,ah.held w own]) (fun _ hw=>hw.aZ 0 _ rfl rfl) ?_
      have hz:aW r w0 p=(⟨(r.ap++([w0])),r.Things,bO r.Held p w0.ID,r.Notes,(r.ae+1),r.af⟩:ay):=by (unfold aW;first|(rw [if_pos (by assumption)];first|done|rfl|omega)|(rw [if_neg (by assumption)];first|done|rfl|omega))
      rw [hz]
      exact R.w1 (v3,az,z7,aA) [5] [1,3,0,5] rfl Tryz.results61 (RV.cell 1 rfl rfl au) rfl rfl rfl rfl
    ·
      refine R.q (q.gtr rfl rfl (decide_eq_false (by omega))) rfl<|R.nil ?_
      refine R.aH rfl rfl ?_
      refine R.reg rfl<|R.q (q.bI 5 rfl rfl au) rfl<|?_
      refine R.s rfl (s.cS (us:=[v3,az,aB,aA,.int .i64 (r.ae+1),.int .i64 r.af]) (cs':=[v3,az,aB,aA,.int .i64 (r.ae+1),.int .i64 r.af]) 2 _ rfl rfl rfl (fun _ _=>rfl) (.inl au) (fun w hw=>(aj (Sl.one ((fun _=>Wd.row 0 rfl) w hw)) (aj (Sl.one ((fun _=>Wd.aO 1 rfl) w hw)) (aj (Sl.one ((fun _=>Wd.aO 2 rfl) w hw)) (aj (Sl.one ((fun _=>Wd.aO 3 rfl) w hw)) (aj rfl (aj rfl aJ))))))) rfl rfl rfl) fun _=>?_
      refine R.nil ?_
      refine R.mp (B':=[ah.row 39 (.slice (some ⟨b7,0,none⟩) 1 1) ([w0]:List ao),ah.box b4 [v3,az,aB,aA,.int .i64 (r.ae+1),.int .i64 r.af] 30,ah.box b3 [.int .i64 p.ag,.int .i64 p.Slot] 33,ah.box b2 [.int .i64 w0.ID,.int .i64 w0.ai,.int .i64 w0.Rights,.int .i64 w0.ar,.int .i64 w0.From] 39,ah.box b1 [v3,az,aB,aA,.int .i64 (r.ae+1),.int .i64 r.af] 30,ah.held w own]) (fun _ hw=>hw.aZ 0 _ rfl rfl) ?_
      have hz:aW r w0 p=(⟨(r.ap++([w0])),r.Things,r.Held,r.Notes,(r.ae+1),r.af⟩:ay):=by (unfold aW;first|(rw [if_pos (by assumption)];first|done|rfl|omega)|(rw [if_neg (by assumption)];first|done|rfl|omega))
      rw [hz]
      exact R.w1 (v3,az,aB,aA) [5] [0,2,3,4] rfl Tryz.results61 (RV.cell 1 rfl rfl au) rfl rfl rfl rfl
theorem pe  (w:World)(own:List Nat)(H:Wd w (blks []++own) ([]++[ah.held w own]) [] w)  : Calls Tryz.prog 6 #[] w fun e w' => ∃z:Value×Value×Value×Value,e = .returned (.agg #[z.1,z.2.1,z.2.2.1,z.2.2.2,.int .i64 (((⟨[],[],[],[],1,1⟩:ay)).ae),.int .i64 (((⟨[],[],[],[],1,1⟩:ay)).af)])∧Wd w (blks []++own) ([]++[ah.held w own]) [ah.ls z.1 (((⟨[],[],[],[],1,1⟩:ay)).ap:List ao),ah.ls z.2.1 (((⟨[],[],[],[],1,1⟩:ay)).Things:List ai),ah.ls z.2.2.1 (((⟨[],[],[],[],1,1⟩:ay)).Held:List Held),ah.ls z.2.2.2 (((⟨[],[],[],[],1,1⟩:ay)).Notes:List Note)] w':=by
  refine R.cC (n:=2) (vs:=[]) (B:=[ah.held w own]) [] Tryz.func6 rfl rfl rfl rfl H ?_
  refine R.reg rfl<|?_
  refine R.s rfl (s.alloc (cs:=[.slice none 0 0,.slice none 0 0,.slice none 0 0,.slice none 0 0,.int .i64 0,.int .i64 0]) bR rfl rfl) fun b1=>?_
  refine R.nil ?_
  refine R.reg rfl<|R.q (q.build (cs:=[.slice none 0 0,.slice none 0 0,.slice none 0 0,.slice none 0 0,.int .i64 1,.int .i64 1]) ck rfl rfl) rfl<|?_
  refine R.s rfl (s.st (us:=[.slice none 0 0,.slice none 0 0,.slice none 0 0,.slice none 0 0,.int .i64 1,.int .i64 1]) (cs':=[.slice none 0 0,.slice none 0 0,.slice none 0 0,.slice none 0 0,.int .i64 1,.int .i64 1]) 0 _ rfl rfl rfl rfl (.inl au) rfl rfl rfl rfl) fun _=>?_
  refine R.nil ?_
  refine R.mp (fun _ hw=>hw.aN (α:=ao)) ?_
  refine R.mp (fun _ hw=>hw.aN (α:=ai)) ?_
  refine R.mp (fun _ hw=>hw.aN (α:=Held)) ?_
  refine R.mp (fun _ hw=>hw.aN (α:=Note)) ?_
  exact R.w1 ((.slice none 0 0),(.slice none 0 0),(.slice none 0 0),(.slice none 0 0)) [1] [3,2,1,0] rfl Tryz.results6 (RV.cell 0 rfl rfl au) rfl rfl rfl rfl
theorem mM (t:ai)(w0:ao)(mN:Nat)(w:World)(tg:(ah.box mN [.int .i64 w0.ID,.int .i64 w0.ai,.int .i64 w0.Rights,.int .i64 w0.ar,.int .i64 w0.From] 39).ok w):Calls Tryz.prog 66 #[.agg #[.int .i64 t.ID,.int .i64 t.Kind,.string t.Data],.pointer (some ⟨mN,0,none⟩)] w fun e w'=>e = .returned (.bool (t.ID==w0.ai))∧Ext w w':=by
  refine R.enter (n:=9) (vs:=[.agg #[.int .i64 t.ID,.int .i64 t.Kind,.string t.Data],.pointer (some ⟨mN,0,none⟩)]) [] [(0,.agg #[.int .i64 t.ID,.int .i64 t.Kind,.string t.Data]),(1,.pointer (some ⟨mN,0,none⟩))] Tryz.func66 rfl rfl rfl rfl ?_
  refine R.nS (r:=ah.box mN [.int .i64 w0.ID,.int .i64 w0.ai,.int .i64 w0.Rights,.int .i64 w0.ar,.int .i64 w0.From] 39) tg (j5 tg) ?_
  refine R.reg rfl<|?_
  refine R.s rfl (s.box (cs:=[.int .i64 t.ID,.int .i64 t.Kind,.string t.Data]) rfl rfl rfl) fun b1=>?_
  refine R.u 1 rfl<|R.nil ?_
  refine R.reg rfl<|R.q (q.aS (off':=0) rfl iF rfl) rfl<|R.q (q.ld 0 rfl rfl aG rfl) rfl<|R.q (q.aS (off':=1) rfl cX rfl) rfl<|R.q (q.vU 0 rfl rfl aG rfl) rfl<|?_
  by_cases h1:t.ID=w0.ai
  ·
    refine R.q (q.eql rfl rfl (beq_iff_eq.2 (by omega))) rfl<|R.u 1 rfl<|R.nil ?_
    exact R.rv rfl Tryz.results66 rfl (rB (by (first|exact (beq_iff_eq.2 (by assumption)).symm|exact (beq_eq_false_iff_ne.2 (by assumption)).symm)))
  ·
    refine R.q (q.eql rfl rfl (beq_eq_false_iff_ne.2 (by omega))) rfl<|R.u 1 rfl<|R.nil ?_
    exact R.rv rfl Tryz.results66 rfl (rB (by (first|exact (beq_iff_eq.2 (by assumption)).symm|exact (beq_eq_false_iff_ne.2 (by assumption)).symm)))
theorem lz (t:Note)(w0:ao)(mN:Nat)(w:World)(tg:(ah.box mN [.int .i64 w0.ID,.int .i64 w0.ai,.int .i64 w0.Rights,.int .i64 w0.ar,.int .i64 w0.From] 39).ok w):Calls Tryz.prog 32 #[.agg #[.int .i64 t.Port,.string t.Data,.int .i64 t.ar,.int .i64 t.ao],.pointer (some ⟨mN,0,none⟩)] w fun e w'=>e = .returned (.bool (t.Port==w0.ai))∧Ext w w':=by
  refine R.enter (n:=9) (vs:=[.agg #[.int .i64 t.Port,.string t.Data,.int .i64 t.ar,.int .i64 t.ao],.pointer (some ⟨mN,0,none⟩)]) [] [(0,.agg #[.int .i64 t.Port,.string t.Data,.int .i64 t.ar,.int .i64 t.ao]),(1,.pointer (some ⟨mN,0,none⟩))] Tryz.func32 rfl rfl rfl rfl ?_
  refine R.nS (r:=ah.box mN [.int .i64 w0.ID,.int .i64 w0.ai,.int .i64 w0.Rights,.int .i64 w0.ar,.int .i64 w0.From] 39) tg (j5 tg) ?_
  refine R.reg rfl<|?_
  refine R.s rfl (s.box (cs:=[.int .i64 t.Port,.string t.Data,.int .i64 t.ar,.int .i64 t.ao]) rfl rfl rfl) fun b1=>?_
  refine R.u 1 rfl<|R.nil ?_
  refine R.reg rfl<|R.q (q.aS (off':=0) rfl eQ rfl) rfl<|R.q (q.ld 0 rfl rfl aG rfl) rfl<|R.q (q.aS (off':=1) rfl cX rfl) rfl<|R.q (q.vU 0 rfl rfl aG rfl) rfl<|?_
  by_cases h1:t.Port=w0.ai
  ·
    refine R.q (q.eql rfl rfl (beq_iff_eq.2 (by omega))) rfl<|R.u 1 rfl<|R.nil ?_
    exact R.rv rfl Tryz.results32 rfl (rB (by (first|exact (beq_iff_eq.2 (by assumption)).symm|exact (beq_eq_false_iff_ne.2 (by assumption)).symm)))
  ·
    refine R.q (q.eql rfl rfl (beq_eq_false_iff_ne.2 (by omega))) rfl<|R.u 1 rfl<|R.nil ?_
    exact R.rv rfl Tryz.results32 rfl (rB (by (first|exact (beq_iff_eq.2 (by assumption)).symm|exact (beq_eq_false_iff_ne.2 (by assumption)).symm)))
theorem m4 (t:ai)(vy:Value)(ts:List Int)(tj:Nat)(w:World)(xJ:(ah.box tj [vy] 116).ok w)(yB:Sl w vy ts):Calls Tryz.prog 76 #[.agg #[.int .i64 t.ID,.int .i64 t.Kind,.string t.Data],.pointer (some ⟨tj,0,none⟩)] w fun e w'=>e = .returned (.bool (!decide (t.ID∈ts)))∧Ext w w':=by
  refine R.enter (n:=9) (vs:=[.agg #[.int .i64 t.ID,.int .i64 t.Kind,.string t.Data],.pointer (some ⟨tj,0,none⟩)]) [] [(0,.agg #[.int .i64 t.ID,.int .i64 t.Kind,.string t.Data]),(1,.pointer (some ⟨tj,0,none⟩))] Tryz.func76 rfl rfl rfl rfl ?_
  refine R.nS (r:=ah.box tj [vy] 116) xJ (j5 xJ) ?_
  refine R.reg rfl<|?_
  refine R.s rfl (s.box (cs:=[.int .i64 t.ID,.int .i64 t.Kind,.string t.Data]) rfl rfl rfl) fun b1=>?_
  refine R.u 1 rfl<|R.nil ?_
  refine R.reg rfl<|R.q (q.vU 0 rfl rfl iH rfl) rfl<|R.q (q.aS (off':=0) rfl iF rfl) rfl<|R.q (q.ld 0 rfl rfl aG rfl) rfl<|R.c (q.call nt rfl rfl (fun w hw=>(eF _ (ts) (t.ID) w ((fun _=>Wd.old yB) w hw) ))) rfl<|R.q (q.not rfl) rfl<|R.u 1 rfl<|R.nil ?_
  exact R.rv rfl Tryz.results76 rfl (rB (by (rfl)))
theorem m5 (h:Held)(aD az aB aA:Value)(r:ay)(xK:Nat)(w:World)(yP:(ah.box xK [aD,az,aB,aA,.int .i64 r.ae,.int .i64 r.af] 30).ok w)(gX:Sl w aD r.ap)(eX:Sl w az r.Things)(jg:Sl w aB r.Held)(lK:Sl w aA r.Notes):Calls Tryz.prog 79 #[.agg #[.int .i64 h.Place.ag,.int .i64 h.Place.Slot,.int .i64 h.ao],.pointer (some ⟨xK,0,none⟩)] w fun e w'=>e = .returned (.bool (decide (cb r.ap h.ao<0)))∧Ext w w':=by
  refine R.enter (n:=10) (vs:=[.agg #[.int .i64 h.Place.ag,.int .i64 h.Place.Slot,.int .i64 h.ao],.pointer (some ⟨xK,0,none⟩)]) [] [(0,.agg #[.int .i64 h.Place.ag,.int .i64 h.Place.Slot,.int .i64 h.ao]),(1,.pointer (some ⟨xK,0,none⟩))] Tryz.func79 rfl rfl rfl rfl ?_
  refine R.nS (r:=ah.box xK [aD,az,aB,aA,.int .i64 r.ae,.int .i64 r.af] 30) yP (j5 yP) ?_
  refine R.reg rfl<|?_
  refine R.s rfl (s.box (cs:=[.int .i64 h.Place.ag,.int .i64 h.Place.Slot,.int .i64 h.ao]) rfl rfl rfl) fun b1=>?_
  refine R.u 1 rfl<|R.nil ?_
  refine R.reg rfl<|R.q (q.aS (off':=0) rfl a8 rfl) rfl<|R.q (q.vU 0 rfl rfl bN rfl) rfl<|R.q (q.aS (off':=2) rfl gK rfl) rfl<|R.q (q.ld 0 rfl rfl aG rfl) rfl<|?_
  rcases dm r.ap h.ao with ⟨dt,j2⟩ | ⟨fU,dP,dt,e6,vV⟩
  ·
    refine R.c (q.call ln rfl rfl (fun w hw=>(cv (congrArg (Value.int .i64) dt) (gk _ (r.ap) (h.ao) w ((fun _=>Wd.old gX) w hw) )))) rfl<|R.q (q.lss (b:=true) rfl rfl (by decide)) rfl<|R.u 1 rfl<|R.nil ?_
    exact R.rv rfl Tryz.results79 rfl (rB (by (first|exact (decide_eq_true (by omega)).symm|exact (decide_eq_false (by omega)).symm)))
  ·
    refine R.c (q.call ln rfl rfl (fun w hw=>(cv (congrArg (Value.int .i64) dt) (gk _ (r.ap) (h.ao) w ((fun _=>Wd.old gX) w hw) )))) rfl<|R.q (q.lss rfl rfl (decide_eq_false (by omega))) rfl<|R.u 1 rfl<|R.nil ?_
    exact R.rv rfl Tryz.results79 rfl (rB (by (first|exact (decide_eq_true (by omega)).symm|exact (decide_eq_false (by omega)).symm)))
theorem m6 (x:ao)(vz:Value)(gs:List Int)(tq:Nat)(w:World)(xL:(ah.box tq [vz] 116).ok w)(yC:Sl w vz gs):Calls Tryz.prog 85 #[.agg #[.int .i64 x.ID,.int .i64 x.ai,.int .i64 x.Rights,.int .i64 x.ar,.int .i64 x.From],.pointer (some ⟨tq,0,none⟩)] w fun e w'=>e = .returned (.bool (decide (x.ID∈gs)))∧Ext w w':=by
  refine R.enter (n:=8) (vs:=[.agg #[.int .i64 x.ID,.int .i64 x.ai,.int .i64 x.Rights,.int .i64 x.ar,.int .i64 x.From],.pointer (some ⟨tq,0,none⟩)]) [] [(0,.agg #[.int .i64 x.ID,.int .i64 x.ai,.int .i64 x.Rights,.int .i64 x.ar,.int .i64 x.From]),(1,.pointer (some ⟨tq,0,none⟩))] Tryz.func85 rfl rfl rfl rfl ?_
  refine R.nS (r:=ah.box tq [vz] 116) xL (j5 xL) ?_
  refine R.reg rfl<|?_
  refine R.s rfl (s.box (cs:=[.int .i64 x.ID,.int .i64 x.ai,.int .i64 x.Rights,.int .i64 x.ar,.int .i64 x.From]) rfl rfl rfl) fun b1=>?_
  refine R.u 1 rfl<|R.nil ?_
  refine R.reg rfl<|R.q (q.vU 0 rfl rfl iH rfl) rfl<|R.q (q.aS (off':=0) rfl bK rfl) rfl<|R.q (q.ld 0 rfl rfl aG rfl) rfl<|R.c (q.call nt rfl rfl (fun w hw=>(eF _ (gs) (x.ID) w ((fun _=>Wd.old yC) w hw) ))) rfl<|R.u 1 rfl<|R.nil ?_
  exact R.rv rfl Tryz.results85 rfl (rB (by (rfl)))
end Go.Proofs.YtpipachmngdegaaGreat
end
