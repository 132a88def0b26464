import Derived.Test.YtpipachmngdegaaGreatRSP14
import Derived.Test.YtpipachmngdegaaGreatRSP18
section
namespace Go.Proofs.YtpipachmngdegaaGreat
open Go Go.RowKit
set_option linter.unusedVariables false
set_option maxRecDepth 100000
theorem mo (r:Int)(w:World)  : Calls Tryz.prog 99 #[.int .i64 r] w fun e w'=>e = .returned (ek (cW r))∧Ext w w':=by
  refine R.enter (n:=10) (vs:=[.int .i64 r]) [] [(0,.int .i64 r)] Tryz.func99 rfl rfl rfl rfl ?_
  refine R.reg rfl<|R.u 1 rfl<|R.nil ?_
  refine R.reg rfl<|R.u 1 rfl<|?_
  by_cases h1:r<0
  ·
    refine R.q (q.lss rfl rfl (decide_eq_true (by omega))) rfl<|R.u 4 rfl<|R.nil ?_
    refine R.aI rfl rfl ?_
    refine R.reg rfl<|R.q (q.iface rfl da) rfl<|R.u 1 rfl<|R.nil ?_
    exact R.rv rfl Tryz.results99 rfl (e5 (by decide) (by (first|exact fM (by omega)|exact dG (by omega) (by omega))))
  ·
    refine R.q (q.lss rfl rfl (decide_eq_false (by omega))) rfl<|R.u 2 rfl<|?_
    by_cases h2:7<r
    ·
      refine R.qg rfl (q.gtr rfl rfl (decide_eq_true (by omega))) rfl<|R.u 1 rfl<|R.nil ?_
      refine R.aI rfl rfl ?_
      refine R.reg rfl<|R.q (q.iface rfl da) rfl<|R.u 1 rfl<|R.nil ?_
      exact R.rv rfl Tryz.results99 rfl (e5 (by decide) (by (first|exact fM (by omega)|exact dG (by omega) (by omega))))
    ·
      refine R.qg rfl (q.gtr rfl rfl (decide_eq_false (by omega))) rfl<|R.u 1 rfl<|R.nil ?_
      refine R.aH rfl rfl ?_
      refine R.reg rfl<|R.u 1 rfl<|R.nil ?_
      exact R.rv rfl Tryz.results99 rfl (gu (by (first|exact fM (by omega)|exact dG (by omega) (by omega))))
theorem eh (r:Int)(n:Int)(w:World)(r0:0≤r∧r≤7)(n0:0≤n∧n≤7):Calls Tryz.prog 67 #[.int .i64 r,.int .i64 n] w fun e w'=>e = .returned (.bool (cT r n))∧Ext w w':=by
  refine R.enter (n:=10) (vs:=[.int .i64 r,.int .i64 n]) [] [(0,.int .i64 r),(1,.int .i64 n)] Tryz.func67 rfl rfl rfl rfl ?_
  refine R.reg rfl<|R.u 1 rfl<|R.nil ?_
  refine R.reg rfl<|R.u 2 rfl<|R.q (q.and rfl rfl rfl) rfl<|R.u 1 rfl<|?_
  by_cases h1:(bits .and .i64 r n)=n
  ·
    refine R.q (q.eql rfl rfl (beq_iff_eq.2 (by omega))) rfl<|R.u 1 rfl<|R.nil ?_
    exact R.rv rfl Tryz.results67 rfl (rB (by (exact qX r0.1 r0.2 n0.1 n0.2 (by first|exact beq_iff_eq.2 (by assumption)|exact beq_eq_false_iff_ne.2 (by assumption)))))
  ·
    refine R.q (q.eql rfl rfl (beq_eq_false_iff_ne.2 (by omega))) rfl<|R.u 1 rfl<|R.nil ?_
    exact R.rv rfl Tryz.results67 rfl (rB (by (exact qX r0.1 r0.2 n0.1 n0.2 (by first|exact beq_iff_eq.2 (by assumption)|exact beq_eq_false_iff_ne.2 (by assumption)))))
theorem iY (r:Int)(n:Int)(w:World)(r0:0≤r∧r≤7)(n0:0≤n∧n≤7):Calls Tryz.prog 68 #[.int .i64 r,.int .i64 n] w fun e w'=>e = .returned (.bool (cT r n))∧Ext w w':=by
  refine R.enter (n:=22) (vs:=[.int .i64 r,.int .i64 n]) [] [(0,.int .i64 r),(1,.int .i64 n)] Tryz.func68 rfl rfl rfl rfl ?_
  refine R.reg rfl<|R.u 1 rfl<|R.nil ?_
  refine R.reg rfl<|R.u 1 rfl<|R.nil ?_
  refine R.uZ 3 rfl ?_
  refine R.reg rfl<|R.u 1 rfl<|R.q (q.lss (b:=true) rfl rfl (by decide)) rfl<|R.nil ?_
  refine R.aI rfl rfl ?_
  refine R.reg rfl<|R.u 2 rfl<|R.q (q.quo (r:=n / 1) rfl rfl (by omega) (kz (by omega))) rfl<|R.q (q.rem (r:=(n / 1) % 2) rfl rfl (by omega) (kA (by omega))) rfl<|?_
  by_cases h1:((n / 1) % 2)=1
  ·
    refine R.q (q.eql rfl rfl (beq_iff_eq.2 (by omega))) rfl<|R.u 3 rfl<|R.qg rfl (q.quo (r:=r / 1) rfl rfl (by omega) (kz (by omega))) rfl<|R.qg rfl (q.rem (r:=(r / 1) % 2) rfl rfl (by omega) (kA (by omega))) rfl<|?_
    by_cases h2:((r / 1) % 2)=0
    ·
      refine R.qg rfl (q.eql rfl rfl (beq_iff_eq.2 (by omega))) rfl<|R.u 1 rfl<|R.nil ?_
      refine R.aI rfl rfl ?_
      refine R.reg rfl<|R.u 1 rfl<|R.nil ?_
      exact R.rv rfl Tryz.results68 rfl (rB (by (rw [← ez r0.1 r0.2 n0.1 n0.2];first|exact (dk (by omega)).symm|exact (dF (by omega) (by omega) (by omega)).symm)))
    ·
      refine R.qg rfl (q.eql rfl rfl (beq_eq_false_iff_ne.2 (by omega))) rfl<|R.u 1 rfl<|R.nil ?_
      refine R.aH rfl rfl ?_
      refine R.reg rfl<|R.u 1 rfl<|R.q (q.mul (r:=2) rfl rfl (by decide)) rfl<|R.u 1 rfl<|R.nil ?_
      refine R.again rfl rfl ?_
      refine R.reg rfl<|R.u 1 rfl<|R.q (q.lss (b:=true) rfl rfl (by decide)) rfl<|R.nil ?_
      refine R.aI rfl rfl ?_
      refine R.reg rfl<|R.u 2 rfl<|R.q (q.quo (r:=n / 2) rfl rfl (by omega) (kz (by omega))) rfl<|R.q (q.rem (r:=(n / 2) % 2) rfl rfl (by omega) (kA (by omega))) rfl<|?_
      by_cases h3:((n / 2) % 2)=1
      ·
        refine R.q (q.eql rfl rfl (beq_iff_eq.2 (by omega))) rfl<|R.u 3 rfl<|R.qg rfl (q.quo (r:=r / 2) rfl rfl (by omega) (kz (by omega))) rfl<|R.qg rfl (q.rem (r:=(r / 2) % 2) rfl rfl (by omega) (kA (by omega))) rfl<|?_
        by_cases h4:((r / 2) % 2)=0
        ·
          refine R.qg rfl (q.eql rfl rfl (beq_iff_eq.2 (by omega))) rfl<|R.u 1 rfl<|R.nil ?_
          refine R.aI rfl rfl ?_
          refine R.reg rfl<|R.u 1 rfl<|R.nil ?_
          exact R.rv rfl Tryz.results68 rfl (rB (by (rw [← ez r0.1 r0.2 n0.1 n0.2];first|exact (dk (by omega)).symm|exact (dF (by omega) (by omega) (by omega)).symm)))
        ·
          refine R.qg rfl (q.eql rfl rfl (beq_eq_false_iff_ne.2 (by omega))) rfl<|R.u 1 rfl<|R.nil ?_
          refine R.aH rfl rfl ?_
          refine R.reg rfl<|R.u 1 rfl<|R.q (q.mul (r:=4) rfl rfl (by decide)) rfl<|R.u 1 rfl<|R.nil ?_
          refine R.again rfl rfl ?_
          refine R.reg rfl<|R.u 1 rfl<|R.q (q.lss (b:=true) rfl rfl (by decide)) rfl<|R.nil ?_
          refine R.aI rfl rfl ?_
          refine R.reg rfl<|R.u 2 rfl<|R.q (q.quo (r:=n / 4) rfl rfl (by omega) (kz (by omega))) rfl<|R.q (q.rem (r:=(n / 4) % 2) rfl rfl (by omega) (kA (by omega))) rfl<|?_
          by_cases h5:((n / 4) % 2)=1
          ·
            refine R.q (q.eql rfl rfl (beq_iff_eq.2 (by omega))) rfl<|R.u 3 rfl<|R.qg rfl (q.quo (r:=r / 4) rfl rfl (by omega) (kz (by omega))) rfl<|R.qg rfl (q.rem (r:=(r / 4) % 2) rfl rfl (by omega) (kA (by omega))) rfl<|?_
            by_cases h6:((r / 4) % 2)=0
            ·
              refine R.qg rfl (q.eql rfl rfl (beq_iff_eq.2 (by omega))) rfl<|R.u 1 rfl<|R.nil ?_
              refine R.aI rfl rfl ?_
              refine R.reg rfl<|R.u 1 rfl<|R.nil ?_
              exact R.rv rfl Tryz.results68 rfl (rB (by (rw [← ez r0.1 r0.2 n0.1 n0.2];first|exact (dk (by omega)).symm|exact (dF (by omega) (by omega) (by omega)).symm)))
            ·
              refine R.qg rfl (q.eql rfl rfl (beq_eq_false_iff_ne.2 (by omega))) rfl<|R.u 1 rfl<|R.nil ?_
              refine R.aH rfl rfl ?_
              refine R.reg rfl<|R.u 1 rfl<|R.q (q.mul (r:=8) rfl rfl (by decide)) rfl<|R.u 1 rfl<|R.nil ?_
              refine R.again rfl rfl ?_
              refine R.reg rfl<|R.u 1 rfl<|R.q (q.lss (b:=false) rfl rfl (by decide)) rfl<|R.nil ?_
              refine R.aH rfl rfl ?_
              refine R.reg rfl<|R.u 1 rfl<|R.nil ?_
              exact R.rv rfl Tryz.results68 rfl (rB (by (rw [← ez r0.1 r0.2 n0.1 n0.2];first|exact (dk (by omega)).symm|exact (dF (by omega) (by omega) (by omega)).symm)))
          ·
            refine R.q (q.eql rfl rfl (beq_eq_false_iff_ne.2 (by omega))) rfl<|R.u 7 rfl<|R.nil ?_
            refine R.aH rfl rfl ?_
            refine R.reg rfl<|R.u 1 rfl<|R.q (q.mul (r:=8) rfl rfl (by decide)) rfl<|R.u 1 rfl<|R.nil ?_
            refine R.again rfl rfl ?_
            refine R.reg rfl<|R.u 1 rfl<|R.q (q.lss (b:=false) rfl rfl (by decide)) rfl<|R.nil ?_
            refine R.aH rfl rfl ?_
            refine R.reg rfl<|R.u 1 rfl<|R.nil ?_
            exact R.rv rfl Tryz.results68 rfl (rB (by (rw [← ez r0.1 r0.2 n0.1 n0.2];first|exact (dk (by omega)).symm|exact (dF (by omega) (by omega) (by omega)).symm)))
      ·
        refine R.q (q.eql rfl rfl (beq_eq_false_iff_ne.2 (by omega))) rfl<|R.u 7 rfl<|R.nil ?_
        refine R.aH rfl rfl ?_
        refine R.reg rfl<|R.u 1 rfl<|R.q (q.mul (r:=4) rfl rfl (by decide)) rfl<|R.u 1 rfl<|R.nil ?_
        refine R.again rfl rfl ?_
        refine R.reg rfl<|R.u 1 rfl<|R.q (q.lss (b:=true) rfl rfl (by decide)) rfl<|R.nil ?_
        refine R.aI rfl rfl ?_
        refine R.reg rfl<|R.u 2 rfl<|R.q (q.quo (r:=n / 4) rfl rfl (by omega) (kz (by omega))) rfl<|R.q (q.rem (r:=(n / 4) % 2) rfl rfl (by omega) (kA (by omega))) rfl<|?_
        by_cases h7:((n / 4) % 2)=1
        ·
          refine R.q (q.eql rfl rfl (beq_iff_eq.2 (by omega))) rfl<|R.u 3 rfl<|R.qg rfl (q.quo (r:=r / 4) rfl rfl (by omega) (kz (by omega))) rfl<|R.qg rfl (q.rem (r:=(r / 4) % 2) rfl rfl (by omega) (kA (by omega))) rfl<|?_
          by_cases h8:((r / 4) % 2)=0
          ·
            refine R.qg rfl (q.eql rfl rfl (beq_iff_eq.2 (by omega))) rfl<|R.u 1 rfl<|R.nil ?_
            refine R.aI rfl rfl ?_
            refine R.reg rfl<|R.u 1 rfl<|R.nil ?_
            exact R.rv rfl Tryz.results68 rfl (rB (by (rw [← ez r0.1 r0.2 n0.1 n0.2];first|exact (dk (by omega)).symm|exact (dF (by omega) (by omega) (by omega)).symm)))
          ·
            refine R.qg rfl (q.eql rfl rfl (beq_eq_false_iff_ne.2 (by omega))) rfl<|R.u 1 rfl<|R.nil ?_
            refine R.aH rfl rfl ?_
            refine R.reg rfl<|R.u 1 rfl<|R.q (q.mul (r:=8) rfl rfl (by decide)) rfl<|R.u 1 rfl<|R.nil ?_
            refine R.again rfl rfl ?_
            refine R.reg rfl<|R.u 1 rfl<|R.q (q.lss (b:=false) rfl rfl (by decide)) rfl<|R.nil ?_
            refine R.aH rfl rfl ?_
            refine R.reg rfl<|R.u 1 rfl<|R.nil ?_
            exact R.rv rfl Tryz.results68 rfl (rB (by (rw [← ez r0.1 r0.2 n0.1 n0.2];first|exact (dk (by omega)).symm|exact (dF (by omega) (by omega) (by omega)).symm)))
        ·
          refine R.q (q.eql rfl rfl (beq_eq_false_iff_ne.2 (by omega))) rfl<|R.u 7 rfl<|R.nil ?_
          refine R.aH rfl rfl ?_
          refine R.reg rfl<|R.u 1 rfl<|R.q (q.mul (r:=8) rfl rfl (by decide)) rfl<|R.u 1 rfl<|R.nil ?_
          refine R.again rfl rfl ?_
          refine R.reg rfl<|R.u 1 rfl<|R.q (q.lss (b:=false) rfl rfl (by decide)) rfl<|R.nil ?_
          refine R.aH rfl rfl ?_
          refine R.reg rfl<|R.u 1 rfl<|R.nil ?_
          exact R.rv rfl Tryz.results68 rfl (rB (by (rw [← ez r0.1 r0.2 n0.1 n0.2];first|exact (dk (by omega)).symm|exact (dF (by omega) (by omega) (by omega)).symm)))
  ·
    refine R.q (q.eql rfl rfl (beq_eq_false_iff_ne.2 (by omega))) rfl<|R.u 7 rfl<|R.nil ?_
    refine R.aH rfl rfl ?_
    refine R.reg rfl<|R.u 1 rfl<|R.q (q.mul (r:=2) rfl rfl (by decide)) rfl<|R.u 1 rfl<|R.nil ?_
    refine R.again rfl rfl ?_
    refine R.reg rfl<|R.u 1 rfl<|R.q (q.lss (b:=true) rfl rfl (by decide)) rfl<|R.nil ?_
    refine R.aI rfl rfl ?_
    refine R.reg rfl<|R.u 2 rfl<|R.q (q.quo (r:=n / 2) rfl rfl (by omega) (kz (by omega))) rfl<|R.q (q.rem (r:=(n / 2) % 2) rfl rfl (by omega) (kA (by omega))) rfl<|?_
    by_cases h9:((n / 2) % 2)=1
    ·
      refine R.q (q.eql rfl rfl (beq_iff_eq.2 (by omega))) rfl<|R.u 3 rfl<|R.qg rfl (q.quo (r:=r / 2) rfl rfl (by omega) (kz (by omega))) rfl<|R.qg rfl (q.rem (r:=(r / 2) % 2) rfl rfl (by omega) (kA (by omega))) rfl<|?_
      by_cases h10:((r / 2) % 2)=0
      ·
        refine R.qg rfl (q.eql rfl rfl (beq_iff_eq.2 (by omega))) rfl<|R.u 1 rfl<|R.nil ?_
        refine R.aI rfl rfl ?_
        refine R.reg rfl<|R.u 1 rfl<|R.nil ?_
        exact R.rv rfl Tryz.results68 rfl (rB (by (rw [← ez r0.1 r0.2 n0.1 n0.2];first|exact (dk (by omega)).symm|exact (dF (by omega) (by omega) (by omega)).symm)))
      ·
        refine R.qg rfl (q.eql rfl rfl (beq_eq_false_iff_ne.2 (by omega))) rfl<|R.u 1 rfl<|R.nil ?_
        refine R.aH rfl rfl ?_
        refine R.reg rfl<|R.u 1 rfl<|R.q (q.mul (r:=4) rfl rfl (by decide)) rfl<|R.u 1 rfl<|R.nil ?_
        refine R.again rfl rfl ?_
        refine R.reg rfl<|R.u 1 rfl<|R.q (q.lss (b:=true) rfl rfl (by decide)) rfl<|R.nil ?_
        refine R.aI rfl rfl ?_
        refine R.reg rfl<|R.u 2 rfl<|R.q (q.quo (r:=n / 4) rfl rfl (by omega) (kz (by omega))) rfl<|R.q (q.rem (r:=(n / 4) % 2) rfl rfl (by omega) (kA (by omega))) rfl<|?_
        by_cases h11:((n / 4) % 2)=1
        ·
          refine R.q (q.eql rfl rfl (beq_iff_eq.2 (by omega))) rfl<|R.u 3 rfl<|R.qg rfl (q.quo (r:=r / 4) rfl rfl (by omega) (kz (by omega))) rfl<|R.qg rfl (q.rem (r:=(r / 4) % 2) rfl rfl (by omega) (kA (by omega))) rfl<|?_
          by_cases h12:((r / 4) % 2)=0
          ·
            refine R.qg rfl (q.eql rfl rfl (beq_iff_eq.2 (by omega))) rfl<|R.u 1 rfl<|R.nil ?_
            refine R.aI rfl rfl ?_
            refine R.reg rfl<|R.u 1 rfl<|R.nil ?_
            exact R.rv rfl Tryz.results68 rfl (rB (by (rw [← ez r0.1 r0.2 n0.1 n0.2];first|exact (dk (by omega)).symm|exact (dF (by omega) (by omega) (by omega)).symm)))
          ·
            refine R.qg rfl (q.eql rfl rfl (beq_eq_false_iff_ne.2 (by omega))) rfl<|R.u 1 rfl<|R.nil ?_
            refine R.aH rfl rfl ?_
            refine R.reg rfl<|R.u 1 rfl<|R.q (q.mul (r:=8) rfl rfl (by decide)) rfl<|R.u 1 rfl<|R.nil ?_
            refine R.again rfl rfl ?_
            refine R.reg rfl<|R.u 1 rfl<|R.q (q.lss (b:=false) rfl rfl (by decide)) rfl<|R.nil ?_
            refine R.aH rfl rfl ?_
            refine R.reg rfl<|R.u 1 rfl<|R.nil ?_
            exact R.rv rfl Tryz.results68 rfl (rB (by (rw [← ez r0.1 r0.2 n0.1 n0.2];first|exact (dk (by omega)).symm|exact (dF (by omega) (by omega) (by omega)).symm)))
        ·
          refine R.q (q.eql rfl rfl (beq_eq_false_iff_ne.2 (by omega))) rfl<|R.u 7 rfl<|R.nil ?_
          refine R.aH rfl rfl ?_
          refine R.reg rfl<|R.u 1 rfl<|R.q (q.mul (r:=8) rfl rfl (by decide)) rfl<|R.u 1 rfl<|R.nil ?_
          refine R.again rfl rfl ?_
          refine R.reg rfl<|R.u 1 rfl<|R.q (q.lss (b:=false) rfl rfl (by decide)) rfl<|R.nil ?_
          refine R.aH rfl rfl ?_
          refine R.reg rfl<|R.u 1 rfl<|R.nil ?_
          exact R.rv rfl Tryz.results68 rfl (rB (by (rw [← ez r0.1 r0.2 n0.1 n0.2];first|exact (dk (by omega)).symm|exact (dF (by omega) (by omega) (by omega)).symm)))
    ·
      refine R.q (q.eql rfl rfl (beq_eq_false_iff_ne.2 (by omega))) rfl<|R.u 7 rfl<|R.nil ?_
      refine R.aH rfl rfl ?_
      refine R.reg rfl<|R.u 1 rfl<|R.q (q.mul (r:=4) rfl rfl (by decide)) rfl<|R.u 1 rfl<|R.nil ?_
      refine R.again rfl rfl ?_
      refine R.reg rfl<|R.u 1 rfl<|R.q (q.lss (b:=true) rfl rfl (by decide)) rfl<|R.nil ?_
      refine R.aI rfl rfl ?_
      refine R.reg rfl<|R.u 2 rfl<|R.q (q.quo (r:=n / 4) rfl rfl (by omega) (kz (by omega))) rfl<|R.q (q.rem (r:=(n / 4) % 2) rfl rfl (by omega) (kA (by omega))) rfl<|?_
      by_cases yv:((n / 4) % 2)=1
      ·
        refine R.q (q.eql rfl rfl (beq_iff_eq.2 (by omega))) rfl<|R.u 3 rfl<|R.qg rfl (q.quo (r:=r / 4) rfl rfl (by omega) (kz (by omega))) rfl<|R.qg rfl (q.rem (r:=(r / 4) % 2) rfl rfl (by omega) (kA (by omega))) rfl<|?_
        by_cases zk:((r / 4) % 2)=0
        ·
          refine R.qg rfl (q.eql rfl rfl (beq_iff_eq.2 (by omega))) rfl<|R.u 1 rfl<|R.nil ?_
          refine R.aI rfl rfl ?_
          refine R.reg rfl<|R.u 1 rfl<|R.nil ?_
          exact R.rv rfl Tryz.results68 rfl (rB (by (rw [← ez r0.1 r0.2 n0.1 n0.2];first|exact (dk (by omega)).symm|exact (dF (by omega) (by omega) (by omega)).symm)))
        ·
          refine R.qg rfl (q.eql rfl rfl (beq_eq_false_iff_ne.2 (by omega))) rfl<|R.u 1 rfl<|R.nil ?_
          refine R.aH rfl rfl ?_
          refine R.reg rfl<|R.u 1 rfl<|R.q (q.mul (r:=8) rfl rfl (by decide)) rfl<|R.u 1 rfl<|R.nil ?_
          refine R.again rfl rfl ?_
          refine R.reg rfl<|R.u 1 rfl<|R.q (q.lss (b:=false) rfl rfl (by decide)) rfl<|R.nil ?_
          refine R.aH rfl rfl ?_
          refine R.reg rfl<|R.u 1 rfl<|R.nil ?_
          exact R.rv rfl Tryz.results68 rfl (rB (by (rw [← ez r0.1 r0.2 n0.1 n0.2];first|exact (dk (by omega)).symm|exact (dF (by omega) (by omega) (by omega)).symm)))
      ·
        refine R.q (q.eql rfl rfl (beq_eq_false_iff_ne.2 (by omega))) rfl<|R.u 7 rfl<|R.nil ?_
        refine R.aH rfl rfl ?_
        refine R.reg rfl<|R.u 1 rfl<|R.q (q.mul (r:=8) rfl rfl (by decide)) rfl<|R.u 1 rfl<|R.nil ?_
        refine R.again rfl rfl ?_
        refine R.reg rfl<|R.u 1 rfl<|R.q (q.lss (b:=false) rfl rfl (by decide)) rfl<|R.nil ?_
        refine R.aH rfl rfl ?_
        refine R.reg rfl<|R.u 1 rfl<|R.nil ?_
        exact R.rv rfl Tryz.results68 rfl (rB (by (rw [← ez r0.1 r0.2 n0.1 n0.2];first|exact (dk (by omega)).symm|exact (dF (by omega) (by omega) (by omega)).symm)))
theorem j6 (x:ao)(id:Int)(r:Int)(b:Int)(w:World)(x0:0≤x.Rights∧x.Rights≤7):Calls Tryz.prog 82 #[.agg #[.int .i64 x.ID,.int .i64 x.ai,.int .i64 x.Rights,.int .i64 x.ar,.int .i64 x.From],.int .i64 id,.int .i64 r,.int .i64 b] w fun e w'=>e = .returned (.tuple #[ao.val ((derived x id r b).1),ek ((derived x id r b).2)])∧Ext w w':=by
  refine R.enter (n:=63) (vs:=[.agg #[.int .i64 x.ID,.int .i64 x.ai,.int .i64 x.Rights,.int .i64 x.ar,.int .i64 x.From],.int .i64 id,.int .i64 r,.int .i64 b]) [] [(0,.agg #[.int .i64 x.ID,.int .i64 x.ai,.int .i64 x.Rights,.int .i64 x.ar,.int .i64 x.From]),(1,.int .i64 id),(2,.int .i64 r),(3,.int .i64 b)] Tryz.func82 rfl rfl rfl rfl ?_
  refine R.reg rfl<|?_
  refine R.s rfl (s.box (cs:=[.int .i64 x.ID,.int .i64 x.ai,.int .i64 x.Rights,.int .i64 x.ar,.int .i64 x.From]) rfl rfl rfl) fun b1=>?_
  refine R.s rfl (s.alloc (cs:=[.int .i64 0,.int .i64 0,.int .i64 0,.int .i64 0,.int .i64 0]) aY rfl rfl) fun b2=>?_
  refine R.u 1 rfl<|R.nil ?_
  refine R.reg rfl<|R.u 1 rfl<|R.c (q.call xA rfl rfl (fun w hw=>(mo (r) w  ))) rfl<|R.u 1 rfl<|R.nil ?_
  refine R.reg rfl<|R.u 1 rfl<|?_
  by_cases h1:cW r=0
  ·
    refine R.q (q.fH rfl rfl Tryz.underlying41 (by omega)) rfl<|R.u 1 rfl<|R.nil ?_
    refine R.aH rfl rfl ?_
    have hr:=i9 (by assumption)
    refine R.reg rfl<|R.u 1 rfl<|?_
    by_cases h2:b<0
    ·
      refine R.q (q.lss rfl rfl (decide_eq_true (by omega))) rfl<|R.u 5 rfl<|R.nil ?_
      refine R.aI rfl rfl ?_
      refine R.reg rfl<|R.q (q.build (cs:=[.int .i64 0,.int .i64 0,.int .i64 0,.int .i64 0,.int .i64 0]) dM rfl rfl) rfl<|R.q (q.iface rfl da) rfl<|?_
      refine R.s rfl (s.st (us:=[.int .i64 0,.int .i64 0,.int .i64 0,.int .i64 0,.int .i64 0]) (cs':=[.int .i64 0,.int .i64 0,.int .i64 0,.int .i64 0,.int .i64 0]) 0 _ rfl rfl rfl rfl (.inl aK) rfl rfl rfl rfl) fun _=>?_
      refine R.u 1 rfl<|R.nil ?_
      exact R.lN rfl Tryz.results82 (RV.cell 0 rfl rfl aK) (RV.tmp rfl) (congrArg ao.val (show (⟨0,0,0,0,0⟩:ao)=(derived x id r b).1 from by ((first|(rw [br (by assumption)])|(rw [bL (by omega)])|(rw [bA (by omega) (by assumption)])|(rw [bB (by omega) (by assumption) (by omega)])|(rw [bC (by omega) (by assumption) (by omega) (by omega)])|(rw [bz (by omega) (by assumption) (by omega) (by omega)])|(rw [bu (by omega) (by assumption) (by omega)])) <;> first|rfl|exact aR (by assumption)|(simp;omega)))) (e5 (by decide) (by ((first|(rw [br (by assumption)])|(rw [bL (by omega)])|(rw [bA (by omega) (by assumption)])|(rw [bB (by omega) (by assumption) (by omega)])|(rw [bC (by omega) (by assumption) (by omega) (by omega)])|(rw [bz (by omega) (by assumption) (by omega) (by omega)])|(rw [bu (by omega) (by assumption) (by omega)])) <;> first|rfl|exact aR (by assumption)|(simp;omega))))
    ·
      refine R.q (q.lss rfl rfl (decide_eq_false (by omega))) rfl<|R.u 2 rfl<|?_
      by_cases h3:99<b
      ·
        refine R.qg rfl (q.gtr rfl rfl (decide_eq_true (by omega))) rfl<|R.u 2 rfl<|R.nil ?_
        refine R.aI rfl rfl ?_
        refine R.reg rfl<|R.q (q.build (cs:=[.int .i64 0,.int .i64 0,.int .i64 0,.int .i64 0,.int .i64 0]) dM rfl rfl) rfl<|R.q (q.iface rfl da) rfl<|?_
        refine R.s rfl (s.st (us:=[.int .i64 0,.int .i64 0,.int .i64 0,.int .i64 0,.int .i64 0]) (cs':=[.int .i64 0,.int .i64 0,.int .i64 0,.int .i64 0,.int .i64 0]) 0 _ rfl rfl rfl rfl (.inl aK) rfl rfl rfl rfl) fun _=>?_
        refine R.u 1 rfl<|R.nil ?_
        exact R.lN rfl Tryz.results82 (RV.cell 0 rfl rfl aK) (RV.tmp rfl) (congrArg ao.val (show (⟨0,0,0,0,0⟩:ao)=(derived x id r b).1 from by ((first|(rw [br (by assumption)])|(rw [bL (by omega)])|(rw [bA (by omega) (by assumption)])|(rw [bB (by omega) (by assumption) (by omega)])|(rw [bC (by omega) (by assumption) (by omega) (by omega)])|(rw [bz (by omega) (by assumption) (by omega) (by omega)])|(rw [bu (by omega) (by assumption) (by omega)])) <;> first|rfl|exact aR (by assumption)|(simp;omega)))) (e5 (by decide) (by ((first|(rw [br (by assumption)])|(rw [bL (by omega)])|(rw [bA (by omega) (by assumption)])|(rw [bB (by omega) (by assumption) (by omega)])|(rw [bC (by omega) (by assumption) (by omega) (by omega)])|(rw [bz (by omega) (by assumption) (by omega) (by omega)])|(rw [bu (by omega) (by assumption) (by omega)])) <;> first|rfl|exact aR (by assumption)|(simp;omega))))
      ·
        refine R.qg rfl (q.gtr rfl rfl (decide_eq_false (by omega))) rfl<|R.u 2 rfl<|R.nil ?_
        refine R.aH rfl rfl ?_
        refine R.reg rfl<|R.q (q.aS (off':=2) rfl eP rfl) rfl<|R.q (q.ld 1 rfl rfl aG rfl) rfl<|R.u 1 rfl<|?_
        rcases Bool.eq_false_or_eq_true (cT x.Rights r) with h4|h4
        ·
          refine R.c (q.call lp rfl rfl (fun w hw=>(cv (congrArg Value.bool h4) (eh (x.Rights) (r) w  (by omega) (by omega))))) rfl<|R.u 2 rfl<|R.nil ?_
          refine R.aH rfl rfl ?_
          refine R.reg rfl<|R.u 1 rfl<|?_
          by_cases h5:b=0
          ·
            refine R.q (q.neq rfl rfl (bne_eq_false_iff_eq.2 (by omega))) rfl<|R.u 12 rfl<|R.nil ?_
            refine R.aH rfl rfl ?_
            refine R.reg rfl<|R.u 1 rfl<|R.q (q.eql rfl rfl (beq_iff_eq.2 (by omega))) rfl<|R.nil ?_
            refine R.aI rfl rfl ?_
            refine R.reg rfl<|R.q (q.aS (off':=3) rfl d8 rfl) rfl<|R.q (q.ld 1 rfl rfl aG rfl) rfl<|R.u 1 rfl<|R.nil ?_
            refine R.reg rfl<|R.u 1 rfl<|R.q (q.aS (off':=1) rfl cX rfl) rfl<|R.q (q.ld 1 rfl rfl aG rfl) rfl<|R.u 2 rfl<|R.q (q.aS (off':=0) rfl bK rfl) rfl<|R.q (q.ld 1 rfl rfl aG rfl) rfl<|R.q (q.build (cs:=[.int .i64 id,.int .i64 x.ai,.int .i64 r,.int .i64 x.ar,.int .i64 x.ID]) dM rfl rfl) rfl<|?_
            refine R.s rfl (s.st (us:=[.int .i64 id,.int .i64 x.ai,.int .i64 r,.int .i64 x.ar,.int .i64 x.ID]) (cs':=[.int .i64 id,.int .i64 x.ai,.int .i64 r,.int .i64 x.ar,.int .i64 x.ID]) 0 _ rfl rfl rfl rfl (.inl aK) rfl rfl rfl rfl) fun _=>?_
            refine R.u 1 rfl<|R.nil ?_
            exact R.lN rfl Tryz.results82 (RV.cell 0 rfl rfl aK) (RV.tmp rfl) (congrArg ao.val (show (⟨id,x.ai,r,x.ar,x.ID⟩:ao)=(derived x id r b).1 from by ((first|(rw [br (by assumption)])|(rw [bL (by omega)])|(rw [bA (by omega) (by assumption)])|(rw [bB (by omega) (by assumption) (by omega)])|(rw [bC (by omega) (by assumption) (by omega) (by omega)])|(rw [bz (by omega) (by assumption) (by omega) (by omega)])|(rw [bu (by omega) (by assumption) (by omega)])) <;> first|rfl|exact aR (by assumption)|(simp;omega)))) (gu (by ((first|(rw [br (by assumption)])|(rw [bL (by omega)])|(rw [bA (by omega) (by assumption)])|(rw [bB (by omega) (by assumption) (by omega)])|(rw [bC (by omega) (by assumption) (by omega) (by omega)])|(rw [bz (by omega) (by assumption) (by omega) (by omega)])|(rw [bu (by omega) (by assumption) (by omega)])) <;> first|rfl|exact aR (by assumption)|(simp;omega))))
          ·
            refine R.q (q.neq rfl rfl (bne_iff_ne.2 (by omega))) rfl<|R.u 1 rfl<|R.qg rfl (q.aS (off':=3) rfl d8 rfl) rfl<|R.qg rfl (q.ld 1 rfl rfl aG rfl) rfl<|?_
            by_cases h6:x.ar=0
            ·
              refine R.qg rfl (q.neq rfl rfl (bne_eq_false_iff_eq.2 (by omega))) rfl<|R.u 8 rfl<|R.nil ?_
              refine R.aH rfl rfl ?_
              refine R.reg rfl<|R.u 1 rfl<|R.q (q.eql rfl rfl (beq_eq_false_iff_ne.2 (by omega))) rfl<|R.nil ?_
              refine R.aH rfl rfl ?_
              refine R.reg rfl<|R.u 1 rfl<|R.q (q.aS (off':=1) rfl cX rfl) rfl<|R.q (q.ld 1 rfl rfl aG rfl) rfl<|R.u 2 rfl<|R.q (q.aS (off':=0) rfl bK rfl) rfl<|R.q (q.ld 1 rfl rfl aG rfl) rfl<|R.q (q.build (cs:=[.int .i64 id,.int .i64 x.ai,.int .i64 r,.int .i64 b,.int .i64 x.ID]) dM rfl rfl) rfl<|?_
              refine R.s rfl (s.st (us:=[.int .i64 id,.int .i64 x.ai,.int .i64 r,.int .i64 b,.int .i64 x.ID]) (cs':=[.int .i64 id,.int .i64 x.ai,.int .i64 r,.int .i64 b,.int .i64 x.ID]) 0 _ rfl rfl rfl rfl (.inl aK) rfl rfl rfl rfl) fun _=>?_
              refine R.u 1 rfl<|R.nil ?_
              exact R.lN rfl Tryz.results82 (RV.cell 0 rfl rfl aK) (RV.tmp rfl) (congrArg ao.val (show (⟨id,x.ai,r,b,x.ID⟩:ao)=(derived x id r b).1 from by ((first|(rw [br (by assumption)])|(rw [bL (by omega)])|(rw [bA (by omega) (by assumption)])|(rw [bB (by omega) (by assumption) (by omega)])|(rw [bC (by omega) (by assumption) (by omega) (by omega)])|(rw [bz (by omega) (by assumption) (by omega) (by omega)])|(rw [bu (by omega) (by assumption) (by omega)])) <;> first|rfl|exact aR (by assumption)|(simp;omega)))) (gu (by ((first|(rw [br (by assumption)])|(rw [bL (by omega)])|(rw [bA (by omega) (by assumption)])|(rw [bB (by omega) (by assumption) (by omega)])|(rw [bC (by omega) (by assumption) (by omega) (by omega)])|(rw [bz (by omega) (by assumption) (by omega) (by omega)])|(rw [bu (by omega) (by assumption) (by omega)])) <;> first|rfl|exact aR (by assumption)|(simp;omega))))
            ·
              refine R.qg rfl (q.neq rfl rfl (bne_iff_ne.2 (by omega))) rfl<|R.u 3 rfl<|R.qg rfl (q.aS (off':=3) rfl d8 rfl) rfl<|R.qg rfl (q.ld 1 rfl rfl aG rfl) rfl<|?_
              by_cases h7:b=x.ar
              ·
                refine R.qg rfl (q.neq rfl rfl (bne_eq_false_iff_eq.2 (by omega))) rfl<|R.u 2 rfl<|R.nil ?_
                refine R.aH rfl rfl ?_
                refine R.reg rfl<|R.u 1 rfl<|R.q (q.eql rfl rfl (beq_eq_false_iff_ne.2 (by omega))) rfl<|R.nil ?_
                refine R.aH rfl rfl ?_
                refine R.reg rfl<|R.u 1 rfl<|R.q (q.aS (off':=1) rfl cX rfl) rfl<|R.q (q.ld 1 rfl rfl aG rfl) rfl<|R.u 2 rfl<|R.q (q.aS (off':=0) rfl bK rfl) rfl<|R.q (q.ld 1 rfl rfl aG rfl) rfl<|R.q (q.build (cs:=[.int .i64 id,.int .i64 x.ai,.int .i64 r,.int .i64 b,.int .i64 x.ID]) dM rfl rfl) rfl<|?_
                refine R.s rfl (s.st (us:=[.int .i64 id,.int .i64 x.ai,.int .i64 r,.int .i64 b,.int .i64 x.ID]) (cs':=[.int .i64 id,.int .i64 x.ai,.int .i64 r,.int .i64 b,.int .i64 x.ID]) 0 _ rfl rfl rfl rfl (.inl aK) rfl rfl rfl rfl) fun _=>?_
                refine R.u 1 rfl<|R.nil ?_
                exact R.lN rfl Tryz.results82 (RV.cell 0 rfl rfl aK) (RV.tmp rfl) (congrArg ao.val (show (⟨id,x.ai,r,b,x.ID⟩:ao)=(derived x id r b).1 from by ((first|(rw [br (by assumption)])|(rw [bL (by omega)])|(rw [bA (by omega) (by assumption)])|(rw [bB (by omega) (by assumption) (by omega)])|(rw [bC (by omega) (by assumption) (by omega) (by omega)])|(rw [bz (by omega) (by assumption) (by omega) (by omega)])|(rw [bu (by omega) (by assumption) (by omega)])) <;> first|rfl|exact aR (by assumption)|(simp;omega)))) (gu (by ((first|(rw [br (by assumption)])|(rw [bL (by omega)])|(rw [bA (by omega) (by assumption)])|(rw [bB (by omega) (by assumption) (by omega)])|(rw [bC (by omega) (by assumption) (by omega) (by omega)])|(rw [bz (by omega) (by assumption) (by omega) (by omega)])|(rw [bu (by omega) (by assumption) (by omega)])) <;> first|rfl|exact aR (by assumption)|(simp;omega))))
              ·
                refine R.qg rfl (q.neq rfl rfl (bne_iff_ne.2 (by omega))) rfl<|R.u 2 rfl<|R.nil ?_
                refine R.aI rfl rfl ?_
                refine R.reg rfl<|R.q (q.build (cs:=[.int .i64 0,.int .i64 0,.int .i64 0,.int .i64 0,.int .i64 0]) dM rfl rfl) rfl<|R.q (q.iface rfl da) rfl<|?_
                refine R.s rfl (s.st (us:=[.int .i64 0,.int .i64 0,.int .i64 0,.int .i64 0,.int .i64 0]) (cs':=[.int .i64 0,.int .i64 0,.int .i64 0,.int .i64 0,.int .i64 0]) 0 _ rfl rfl rfl rfl (.inl aK) rfl rfl rfl rfl) fun _=>?_
                refine R.u 1 rfl<|R.nil ?_
                exact R.lN rfl Tryz.results82 (RV.cell 0 rfl rfl aK) (RV.tmp rfl) (congrArg ao.val (show (⟨0,0,0,0,0⟩:ao)=(derived x id r b).1 from by ((first|(rw [br (by assumption)])|(rw [bL (by omega)])|(rw [bA (by omega) (by assumption)])|(rw [bB (by omega) (by assumption) (by omega)])|(rw [bC (by omega) (by assumption) (by omega) (by omega)])|(rw [bz (by omega) (by assumption) (by omega) (by omega)])|(rw [bu (by omega) (by assumption) (by omega)])) <;> first|rfl|exact aR (by assumption)|(simp;omega)))) (e5 (by decide) (by ((first|(rw [br (by assumption)])|(rw [bL (by omega)])|(rw [bA (by omega) (by assumption)])|(rw [bB (by omega) (by assumption) (by omega)])|(rw [bC (by omega) (by assumption) (by omega) (by omega)])|(rw [bz (by omega) (by assumption) (by omega) (by omega)])|(rw [bu (by omega) (by assumption) (by omega)])) <;> first|rfl|exact aR (by assumption)|(simp;omega))))
        ·
          refine R.c (q.call lp rfl rfl (fun w hw=>(cv (congrArg Value.bool h4) (eh (x.Rights) (r) w  (by omega) (by omega))))) rfl<|R.u 2 rfl<|R.nil ?_
          refine R.aI rfl rfl ?_
          refine R.reg rfl<|R.q (q.build (cs:=[.int .i64 0,.int .i64 0,.int .i64 0,.int .i64 0,.int .i64 0]) dM rfl rfl) rfl<|R.q (q.iface rfl da) rfl<|?_
          refine R.s rfl (s.st (us:=[.int .i64 0,.int .i64 0,.int .i64 0,.int .i64 0,.int .i64 0]) (cs':=[.int .i64 0,.int .i64 0,.int .i64 0,.int .i64 0,.int .i64 0]) 0 _ rfl rfl rfl rfl (.inl aK) rfl rfl rfl rfl) fun _=>?_
          refine R.u 1 rfl<|R.nil ?_
          exact R.lN rfl Tryz.results82 (RV.cell 0 rfl rfl aK) (RV.tmp rfl) (congrArg ao.val (show (⟨0,0,0,0,0⟩:ao)=(derived x id r b).1 from by ((first|(rw [br (by assumption)])|(rw [bL (by omega)])|(rw [bA (by omega) (by assumption)])|(rw [bB (by omega) (by assumption) (by omega)])|(rw [bC (by omega) (by assumption) (by omega) (by omega)])|(rw [bz (by omega) (by assumption) (by omega) (by omega)])|(rw [bu (by omega) (by assumption) (by omega)])) <;> first|rfl|exact aR (by assumption)|(simp;omega)))) (e5 (by decide) (by ((first|(rw [br (by assumption)])|(rw [bL (by omega)])|(rw [bA (by omega) (by assumption)])|(rw [bB (by omega) (by assumption) (by omega)])|(rw [bC (by omega) (by assumption) (by omega) (by omega)])|(rw [bz (by omega) (by assumption) (by omega) (by omega)])|(rw [bu (by omega) (by assumption) (by omega)])) <;> first|rfl|exact aR (by assumption)|(simp;omega))))
  ·
    refine R.q (q.fI rfl rfl Tryz.underlying41 (by omega)) rfl<|R.u 1 rfl<|R.nil ?_
    refine R.aI rfl rfl ?_
    refine R.reg rfl<|R.q (q.build (cs:=[.int .i64 0,.int .i64 0,.int .i64 0,.int .i64 0,.int .i64 0]) dM rfl rfl) rfl<|R.u 1 rfl<|?_
    refine R.s rfl (s.st (us:=[.int .i64 0,.int .i64 0,.int .i64 0,.int .i64 0,.int .i64 0]) (cs':=[.int .i64 0,.int .i64 0,.int .i64 0,.int .i64 0,.int .i64 0]) 0 _ rfl rfl rfl rfl (.inl aK) rfl rfl rfl rfl) fun _=>?_
    refine R.u 1 rfl<|R.nil ?_
    exact R.lN rfl Tryz.results82 (RV.cell 0 rfl rfl aK) (RV.tmp rfl) (congrArg ao.val (show (⟨0,0,0,0,0⟩:ao)=(derived x id r b).1 from by ((first|(rw [br (by assumption)])|(rw [bL (by omega)])|(rw [bA (by omega) (by assumption)])|(rw [bB (by omega) (by assumption) (by omega)])|(rw [bC (by omega) (by assumption) (by omega) (by omega)])|(rw [bz (by omega) (by assumption) (by omega) (by omega)])|(rw [bu (by omega) (by assumption) (by omega)])) <;> first|rfl|exact aR (by assumption)|(simp;omega)))) (rE (by ((first|(rw [br (by assumption)])|(rw [bL (by omega)])|(rw [bA (by omega) (by assumption)])|(rw [bB (by omega) (by assumption) (by omega)])|(rw [bC (by omega) (by assumption) (by omega) (by omega)])|(rw [bz (by omega) (by assumption) (by omega) (by omega)])|(rw [bu (by omega) (by assumption) (by omega)])) <;> first|rfl|exact aR (by assumption)|(simp;omega))))
theorem gP (x:ao)(id:Int)(r:Int)(b:Int)(w:World)(x0:0≤x.Rights∧x.Rights≤7):Calls Tryz.prog 88 #[.agg #[.int .i64 x.ID,.int .i64 x.ai,.int .i64 x.Rights,.int .i64 x.ar,.int .i64 x.From],.int .i64 id,.int .i64 r,.int .i64 b] w fun e w'=>e = .returned (.tuple #[ao.val ((derived x id r b).1),.int .i64 ((derived x id r b).2)])∧Ext w w':=by
  refine R.enter (n:=61) (vs:=[.agg #[.int .i64 x.ID,.int .i64 x.ai,.int .i64 x.Rights,.int .i64 x.ar,.int .i64 x.From],.int .i64 id,.int .i64 r,.int .i64 b]) [] [(0,.agg #[.int .i64 x.ID,.int .i64 x.ai,.int .i64 x.Rights,.int .i64 x.ar,.int .i64 x.From]),(1,.int .i64 id),(2,.int .i64 r),(3,.int .i64 b)] Tryz.func88 rfl rfl rfl rfl ?_
  refine R.reg rfl<|?_
  refine R.s rfl (s.box (cs:=[.int .i64 x.ID,.int .i64 x.ai,.int .i64 x.Rights,.int .i64 x.ar,.int .i64 x.From]) rfl rfl rfl) fun b1=>?_
  refine R.s rfl (s.alloc (cs:=[.int .i64 0,.int .i64 0,.int .i64 0,.int .i64 0,.int .i64 0]) aY rfl rfl) fun b2=>?_
  refine R.u 1 rfl<|R.nil ?_
  refine R.reg rfl<|R.u 1 rfl<|?_
  by_cases h1:r<0
  ·
    refine R.q (q.lss rfl rfl (decide_eq_true (by omega))) rfl<|R.u 12 rfl<|R.nil ?_
    refine R.aI rfl rfl ?_
    refine R.reg rfl<|R.q (q.build (cs:=[.int .i64 0,.int .i64 0,.int .i64 0,.int .i64 0,.int .i64 0]) dM rfl rfl) rfl<|?_
    refine R.s rfl (s.st (us:=[.int .i64 0,.int .i64 0,.int .i64 0,.int .i64 0,.int .i64 0]) (cs':=[.int .i64 0,.int .i64 0,.int .i64 0,.int .i64 0,.int .i64 0]) 0 _ rfl rfl rfl rfl (.inl aK) rfl rfl rfl rfl) fun _=>?_
    refine R.u 1 rfl<|R.nil ?_
    exact R.lN rfl Tryz.results88 (RV.cell 0 rfl rfl aK) (RV.tmp rfl) (congrArg ao.val (show (⟨0,0,0,0,0⟩:ao)=(derived x id r b).1 from by ((first|(rw [br (by assumption)])|(rw [bL (by omega)])|(rw [bA (by omega) (by assumption)])|(rw [bB (by omega) (by assumption) (by omega)])|(rw [bC (by omega) (by assumption) (by omega) (by omega)])|(rw [bz (by omega) (by assumption) (by omega) (by omega)])|(rw [bu (by omega) (by assumption) (by omega)])) <;> first|rfl|exact aR (by assumption)|(simp;omega)))) (rI (by ((first|(rw [br (by assumption)])|(rw [bL (by omega)])|(rw [bA (by omega) (by assumption)])|(rw [bB (by omega) (by assumption) (by omega)])|(rw [bC (by omega) (by assumption) (by omega) (by omega)])|(rw [bz (by omega) (by assumption) (by omega) (by omega)])|(rw [bu (by omega) (by assumption) (by omega)])) <;> first|rfl|exact aR (by assumption)|(simp;omega))))
  ·
    refine R.q (q.lss rfl rfl (decide_eq_false (by omega))) rfl<|R.u 2 rfl<|?_
    by_cases h2:7<r
    ·
      refine R.qg rfl (q.gtr rfl rfl (decide_eq_true (by omega))) rfl<|R.u 9 rfl<|R.nil ?_
      refine R.aI rfl rfl ?_
      refine R.reg rfl<|R.q (q.build (cs:=[.int .i64 0,.int .i64 0,.int .i64 0,.int .i64 0,.int .i64 0]) dM rfl rfl) rfl<|?_
      refine R.s rfl (s.st (us:=[.int .i64 0,.int .i64 0,.int .i64 0,.int .i64 0,.int .i64 0]) (cs':=[.int .i64 0,.int .i64 0,.int .i64 0,.int .i64 0,.int .i64 0]) 0 _ rfl rfl rfl rfl (.inl aK) rfl rfl rfl rfl) fun _=>?_
      refine R.u 1 rfl<|R.nil ?_
      exact R.lN rfl Tryz.results88 (RV.cell 0 rfl rfl aK) (RV.tmp rfl) (congrArg ao.val (show (⟨0,0,0,0,0⟩:ao)=(derived x id r b).1 from by ((first|(rw [br (by assumption)])|(rw [bL (by omega)])|(rw [bA (by omega) (by assumption)])|(rw [bB (by omega) (by assumption) (by omega)])|(rw [bC (by omega) (by assumption) (by omega) (by omega)])|(rw [bz (by omega) (by assumption) (by omega) (by omega)])|(rw [bu (by omega) (by assumption) (by omega)])) <;> first|rfl|exact aR (by assumption)|(simp;omega)))) (rI (by ((first|(rw [br (by assumption)])|(rw [bL (by omega)])|(rw [bA (by omega) (by assumption)])|(rw [bB (by omega) (by assumption) (by omega)])|(rw [bC (by omega) (by assumption) (by omega) (by omega)])|(rw [bz (by omega) (by assumption) (by omega) (by omega)])|(rw [bu (by omega) (by assumption) (by omega)])) <;> first|rfl|exact aR (by assumption)|(simp;omega))))
    ·
      refine R.qg rfl (q.gtr rfl rfl (decide_eq_false (by omega))) rfl<|R.u 3 rfl<|?_
      by_cases h3:b<0
      ·
        refine R.qg rfl (q.lss rfl rfl (decide_eq_true (by omega))) rfl<|R.u 5 rfl<|R.nil ?_
        refine R.aI rfl rfl ?_
        refine R.reg rfl<|R.q (q.build (cs:=[.int .i64 0,.int .i64 0,.int .i64 0,.int .i64 0,.int .i64 0]) dM rfl rfl) rfl<|?_
        refine R.s rfl (s.st (us:=[.int .i64 0,.int .i64 0,.int .i64 0,.int .i64 0,.int .i64 0]) (cs':=[.int .i64 0,.int .i64 0,.int .i64 0,.int .i64 0,.int .i64 0]) 0 _ rfl rfl rfl rfl (.inl aK) rfl rfl rfl rfl) fun _=>?_
        refine R.u 1 rfl<|R.nil ?_
        exact R.lN rfl Tryz.results88 (RV.cell 0 rfl rfl aK) (RV.tmp rfl) (congrArg ao.val (show (⟨0,0,0,0,0⟩:ao)=(derived x id r b).1 from by ((first|(rw [br (by assumption)])|(rw [bL (by omega)])|(rw [bA (by omega) (by assumption)])|(rw [bB (by omega) (by assumption) (by omega)])|(rw [bC (by omega) (by assumption) (by omega) (by omega)])|(rw [bz (by omega) (by assumption) (by omega) (by omega)])|(rw [bu (by omega) (by assumption) (by omega)])) <;> first|rfl|exact aR (by assumption)|(simp;omega)))) (rI (by ((first|(rw [br (by assumption)])|(rw [bL (by omega)])|(rw [bA (by omega) (by assumption)])|(rw [bB (by omega) (by assumption) (by omega)])|(rw [bC (by omega) (by assumption) (by omega) (by omega)])|(rw [bz (by omega) (by assumption) (by omega) (by omega)])|(rw [bu (by omega) (by assumption) (by omega)])) <;> first|rfl|exact aR (by assumption)|(simp;omega))))
      ·
        refine R.qg rfl (q.lss rfl rfl (decide_eq_false (by omega))) rfl<|R.u 3 rfl<|?_
        by_cases h4:99<b
        ·
          refine R.qg rfl (q.gtr rfl rfl (decide_eq_true (by omega))) rfl<|R.u 1 rfl<|R.nil ?_
          refine R.aI rfl rfl ?_
          refine R.reg rfl<|R.q (q.build (cs:=[.int .i64 0,.int .i64 0,.int .i64 0,.int .i64 0,.int .i64 0]) dM rfl rfl) rfl<|?_
          refine R.s rfl (s.st (us:=[.int .i64 0,.int .i64 0,.int .i64 0,.int .i64 0,.int .i64 0]) (cs':=[.int .i64 0,.int .i64 0,.int .i64 0,.int .i64 0,.int .i64 0]) 0 _ rfl rfl rfl rfl (.inl aK) rfl rfl rfl rfl) fun _=>?_
          refine R.u 1 rfl<|R.nil ?_
          exact R.lN rfl Tryz.results88 (RV.cell 0 rfl rfl aK) (RV.tmp rfl) (congrArg ao.val (show (⟨0,0,0,0,0⟩:ao)=(derived x id r b).1 from by ((first|(rw [br (by assumption)])|(rw [bL (by omega)])|(rw [bA (by omega) (by assumption)])|(rw [bB (by omega) (by assumption) (by omega)])|(rw [bC (by omega) (by assumption) (by omega) (by omega)])|(rw [bz (by omega) (by assumption) (by omega) (by omega)])|(rw [bu (by omega) (by assumption) (by omega)])) <;> first|rfl|exact aR (by assumption)|(simp;omega)))) (rI (by ((first|(rw [br (by assumption)])|(rw [bL (by omega)])|(rw [bA (by omega) (by assumption)])|(rw [bB (by omega) (by assumption) (by omega)])|(rw [bC (by omega) (by assumption) (by omega) (by omega)])|(rw [bz (by omega) (by assumption) (by omega) (by omega)])|(rw [bu (by omega) (by assumption) (by omega)])) <;> first|rfl|exact aR (by assumption)|(simp;omega))))
        ·
          refine R.qg rfl (q.gtr rfl rfl (decide_eq_false (by omega))) rfl<|R.u 1 rfl<|R.nil ?_
          refine R.aH rfl rfl ?_
          refine R.reg rfl<|R.q (q.aS (off':=2) rfl eP rfl) rfl<|R.q (q.ld 1 rfl rfl aG rfl) rfl<|R.u 1 rfl<|?_
          rcases Bool.eq_false_or_eq_true (cT x.Rights r) with h5|h5
          ·
            refine R.c (q.call qT rfl rfl (fun w hw=>(cv (congrArg Value.bool h5) (iY (x.Rights) (r) w  (by omega) (by omega))))) rfl<|R.u 1 rfl<|R.nil ?_
            refine R.reg rfl<|R.u 4 rfl<|?_
            by_cases h6:b=0
            ·
              refine R.qg rfl (q.neq rfl rfl (bne_eq_false_iff_eq.2 (by omega))) rfl<|R.u 12 rfl<|R.nil ?_
              refine R.aH rfl rfl ?_
              refine R.reg rfl<|R.q (q.aS (off':=3) rfl d8 rfl) rfl<|R.q (q.ld 1 rfl rfl aG rfl) rfl<|?_
              by_cases h7:x.ar=0
              ·
                refine R.q (q.neq rfl rfl (bne_eq_false_iff_eq.2 (by omega))) rfl<|R.nil ?_
                refine R.aH rfl rfl ?_
                refine R.reg rfl<|R.u 1 rfl<|R.q (q.aS (off':=1) rfl cX rfl) rfl<|R.q (q.ld 1 rfl rfl aG rfl) rfl<|R.u 2 rfl<|R.q (q.aS (off':=0) rfl bK rfl) rfl<|R.q (q.ld 1 rfl rfl aG rfl) rfl<|R.q (q.build (cs:=[.int .i64 id,.int .i64 x.ai,.int .i64 r,.int .i64 b,.int .i64 x.ID]) dM rfl rfl) rfl<|?_
                refine R.s rfl (s.st (us:=[.int .i64 id,.int .i64 x.ai,.int .i64 r,.int .i64 b,.int .i64 x.ID]) (cs':=[.int .i64 id,.int .i64 x.ai,.int .i64 r,.int .i64 b,.int .i64 x.ID]) 0 _ rfl rfl rfl rfl (.inl aK) rfl rfl rfl rfl) fun _=>?_
                refine R.u 1 rfl<|R.nil ?_
                exact R.lN rfl Tryz.results88 (RV.cell 0 rfl rfl aK) (RV.tmp rfl) (congrArg ao.val (show (⟨id,x.ai,r,b,x.ID⟩:ao)=(derived x id r b).1 from by ((first|(rw [br (by assumption)])|(rw [bL (by omega)])|(rw [bA (by omega) (by assumption)])|(rw [bB (by omega) (by assumption) (by omega)])|(rw [bC (by omega) (by assumption) (by omega) (by omega)])|(rw [bz (by omega) (by assumption) (by omega) (by omega)])|(rw [bu (by omega) (by assumption) (by omega)])) <;> first|rfl|exact aR (by assumption)|(simp;omega)))) (rI (by ((first|(rw [br (by assumption)])|(rw [bL (by omega)])|(rw [bA (by omega) (by assumption)])|(rw [bB (by omega) (by assumption) (by omega)])|(rw [bC (by omega) (by assumption) (by omega) (by omega)])|(rw [bz (by omega) (by assumption) (by omega) (by omega)])|(rw [bu (by omega) (by assumption) (by omega)])) <;> first|rfl|exact aR (by assumption)|(simp;omega))))
              ·
                refine R.q (q.neq rfl rfl (bne_iff_ne.2 (by omega))) rfl<|R.nil ?_
                refine R.aI rfl rfl ?_
                refine R.reg rfl<|R.q (q.aS (off':=3) rfl d8 rfl) rfl<|R.q (q.ld 1 rfl rfl aG rfl) rfl<|R.u 1 rfl<|R.nil ?_
                refine R.reg rfl<|R.u 1 rfl<|R.q (q.aS (off':=1) rfl cX rfl) rfl<|R.q (q.ld 1 rfl rfl aG rfl) rfl<|R.u 2 rfl<|R.q (q.aS (off':=0) rfl bK rfl) rfl<|R.q (q.ld 1 rfl rfl aG rfl) rfl<|R.q (q.build (cs:=[.int .i64 id,.int .i64 x.ai,.int .i64 r,.int .i64 x.ar,.int .i64 x.ID]) dM rfl rfl) rfl<|?_
                refine R.s rfl (s.st (us:=[.int .i64 id,.int .i64 x.ai,.int .i64 r,.int .i64 x.ar,.int .i64 x.ID]) (cs':=[.int .i64 id,.int .i64 x.ai,.int .i64 r,.int .i64 x.ar,.int .i64 x.ID]) 0 _ rfl rfl rfl rfl (.inl aK) rfl rfl rfl rfl) fun _=>?_
                refine R.u 1 rfl<|R.nil ?_
                exact R.lN rfl Tryz.results88 (RV.cell 0 rfl rfl aK) (RV.tmp rfl) (congrArg ao.val (show (⟨id,x.ai,r,x.ar,x.ID⟩:ao)=(derived x id r b).1 from by ((first|(rw [br (by assumption)])|(rw [bL (by omega)])|(rw [bA (by omega) (by assumption)])|(rw [bB (by omega) (by assumption) (by omega)])|(rw [bC (by omega) (by assumption) (by omega) (by omega)])|(rw [bz (by omega) (by assumption) (by omega) (by omega)])|(rw [bu (by omega) (by assumption) (by omega)])) <;> first|rfl|exact aR (by assumption)|(simp;omega)))) (rI (by ((first|(rw [br (by assumption)])|(rw [bL (by omega)])|(rw [bA (by omega) (by assumption)])|(rw [bB (by omega) (by assumption) (by omega)])|(rw [bC (by omega) (by assumption) (by omega) (by omega)])|(rw [bz (by omega) (by assumption) (by omega) (by omega)])|(rw [bu (by omega) (by assumption) (by omega)])) <;> first|rfl|exact aR (by assumption)|(simp;omega))))
            ·
              refine R.qg rfl (q.neq rfl rfl (bne_iff_ne.2 (by omega))) rfl<|R.u 1 rfl<|R.qg rfl (q.aS (off':=3) rfl d8 rfl) rfl<|R.qg rfl (q.ld 1 rfl rfl aG rfl) rfl<|?_
              by_cases h8:x.ar=0
              ·
                refine R.qg rfl (q.neq rfl rfl (bne_eq_false_iff_eq.2 (by omega))) rfl<|R.u 8 rfl<|R.nil ?_
                refine R.aH rfl rfl ?_
                refine R.reg rfl<|R.q (q.aS (off':=3) rfl d8 rfl) rfl<|R.q (q.ld 1 rfl rfl aG rfl) rfl<|R.q (q.neq rfl rfl (bne_eq_false_iff_eq.2 (by omega))) rfl<|R.nil ?_
                refine R.aH rfl rfl ?_
                refine R.reg rfl<|R.u 1 rfl<|R.q (q.aS (off':=1) rfl cX rfl) rfl<|R.q (q.ld 1 rfl rfl aG rfl) rfl<|R.u 2 rfl<|R.q (q.aS (off':=0) rfl bK rfl) rfl<|R.q (q.ld 1 rfl rfl aG rfl) rfl<|R.q (q.build (cs:=[.int .i64 id,.int .i64 x.ai,.int .i64 r,.int .i64 b,.int .i64 x.ID]) dM rfl rfl) rfl<|?_
                refine R.s rfl (s.st (us:=[.int .i64 id,.int .i64 x.ai,.int .i64 r,.int .i64 b,.int .i64 x.ID]) (cs':=[.int .i64 id,.int .i64 x.ai,.int .i64 r,.int .i64 b,.int .i64 x.ID]) 0 _ rfl rfl rfl rfl (.inl aK) rfl rfl rfl rfl) fun _=>?_
                refine R.u 1 rfl<|R.nil ?_
                exact R.lN rfl Tryz.results88 (RV.cell 0 rfl rfl aK) (RV.tmp rfl) (congrArg ao.val (show (⟨id,x.ai,r,b,x.ID⟩:ao)=(derived x id r b).1 from by ((first|(rw [br (by assumption)])|(rw [bL (by omega)])|(rw [bA (by omega) (by assumption)])|(rw [bB (by omega) (by assumption) (by omega)])|(rw [bC (by omega) (by assumption) (by omega) (by omega)])|(rw [bz (by omega) (by assumption) (by omega) (by omega)])|(rw [bu (by omega) (by assumption) (by omega)])) <;> first|rfl|exact aR (by assumption)|(simp;omega)))) (rI (by ((first|(rw [br (by assumption)])|(rw [bL (by omega)])|(rw [bA (by omega) (by assumption)])|(rw [bB (by omega) (by assumption) (by omega)])|(rw [bC (by omega) (by assumption) (by omega) (by omega)])|(rw [bz (by omega) (by assumption) (by omega) (by omega)])|(rw [bu (by omega) (by assumption) (by omega)])) <;> first|rfl|exact aR (by assumption)|(simp;omega))))
              ·
                refine R.qg rfl (q.neq rfl rfl (bne_iff_ne.2 (by omega))) rfl<|R.u 3 rfl<|R.qg rfl (q.aS (off':=3) rfl d8 rfl) rfl<|R.qg rfl (q.ld 1 rfl rfl aG rfl) rfl<|?_
                by_cases h9:b=x.ar
                ·
                  refine R.qg rfl (q.neq rfl rfl (bne_eq_false_iff_eq.2 (by omega))) rfl<|R.u 2 rfl<|R.nil ?_
                  refine R.aH rfl rfl ?_
                  refine R.reg rfl<|R.q (q.aS (off':=3) rfl d8 rfl) rfl<|R.q (q.ld 1 rfl rfl aG rfl) rfl<|R.q (q.neq rfl rfl (bne_iff_ne.2 (by omega))) rfl<|R.nil ?_
                  refine R.aI rfl rfl ?_
                  refine R.reg rfl<|R.q (q.aS (off':=3) rfl d8 rfl) rfl<|R.q (q.ld 1 rfl rfl aG rfl) rfl<|R.u 1 rfl<|R.nil ?_
                  refine R.reg rfl<|R.u 1 rfl<|R.q (q.aS (off':=1) rfl cX rfl) rfl<|R.q (q.ld 1 rfl rfl aG rfl) rfl<|R.u 2 rfl<|R.q (q.aS (off':=0) rfl bK rfl) rfl<|R.q (q.ld 1 rfl rfl aG rfl) rfl<|R.q (q.build (cs:=[.int .i64 id,.int .i64 x.ai,.int .i64 r,.int .i64 x.ar,.int .i64 x.ID]) dM rfl rfl) rfl<|?_
                  refine R.s rfl (s.st (us:=[.int .i64 id,.int .i64 x.ai,.int .i64 r,.int .i64 x.ar,.int .i64 x.ID]) (cs':=[.int .i64 id,.int .i64 x.ai,.int .i64 r,.int .i64 x.ar,.int .i64 x.ID]) 0 _ rfl rfl rfl rfl (.inl aK) rfl rfl rfl rfl) fun _=>?_
                  refine R.u 1 rfl<|R.nil ?_
                  exact R.lN rfl Tryz.results88 (RV.cell 0 rfl rfl aK) (RV.tmp rfl) (congrArg ao.val (show (⟨id,x.ai,r,x.ar,x.ID⟩:ao)=(derived x id r b).1 from by ((first|(rw [br (by assumption)])|(rw [bL (by omega)])|(rw [bA (by omega) (by assumption)])|(rw [bB (by omega) (by assumption) (by omega)])|(rw [bC (by omega) (by assumption) (by omega) (by omega)])|(rw [bz (by omega) (by assumption) (by omega) (by omega)])|(rw [bu (by omega) (by assumption) (by omega)])) <;> first|rfl|exact aR (by assumption)|(simp;omega)))) (rI (by ((first|(rw [br (by assumption)])|(rw [bL (by omega)])|(rw [bA (by omega) (by assumption)])|(rw [bB (by omega) (by assumption) (by omega)])|(rw [bC (by omega) (by assumption) (by omega) (by omega)])|(rw [bz (by omega) (by assumption) (by omega) (by omega)])|(rw [bu (by omega) (by assumption) (by omega)])) <;> first|rfl|exact aR (by assumption)|(simp;omega))))
                ·
                  refine R.qg rfl (q.neq rfl rfl (bne_iff_ne.2 (by omega))) rfl<|R.u 2 rfl<|R.nil ?_
                  refine R.aI rfl rfl ?_
                  refine R.reg rfl<|R.q (q.build (cs:=[.int .i64 0,.int .i64 0,.int .i64 0,.int .i64 0,.int .i64 0]) dM rfl rfl) rfl<|?_
                  refine R.s rfl (s.st (us:=[.int .i64 0,.int .i64 0,.int .i64 0,.int .i64 0,.int .i64 0]) (cs':=[.int .i64 0,.int .i64 0,.int .i64 0,.int .i64 0,.int .i64 0]) 0 _ rfl rfl rfl rfl (.inl aK) rfl rfl rfl rfl) fun _=>?_
                  refine R.u 1 rfl<|R.nil ?_
                  exact R.lN rfl Tryz.results88 (RV.cell 0 rfl rfl aK) (RV.tmp rfl) (congrArg ao.val (show (⟨0,0,0,0,0⟩:ao)=(derived x id r b).1 from by ((first|(rw [br (by assumption)])|(rw [bL (by omega)])|(rw [bA (by omega) (by assumption)])|(rw [bB (by omega) (by assumption) (by omega)])|(rw [bC (by omega) (by assumption) (by omega) (by omega)])|(rw [bz (by omega) (by assumption) (by omega) (by omega)])|(rw [bu (by omega) (by assumption) (by omega)])) <;> first|rfl|exact aR (by assumption)|(simp;omega)))) (rI (by ((first|(rw [br (by assumption)])|(rw [bL (by omega)])|(rw [bA (by omega) (by assumption)])|(rw [bB (by omega) (by assumption) (by omega)])|(rw [bC (by omega) (by assumption) (by omega) (by omega)])|(rw [bz (by omega) (by assumption) (by omega) (by omega)])|(rw [bu (by omega) (by assumption) (by omega)])) <;> first|rfl|exact aR (by assumption)|(simp;omega))))
          ·
            refine R.c (q.call qT rfl rfl (fun w hw=>(cv (congrArg Value.bool h5) (iY (x.Rights) (r) w  (by omega) (by omega))))) rfl<|R.u 1 rfl<|R.nil ?_
            refine R.reg rfl<|R.u 17 rfl<|R.nil ?_
            refine R.aI rfl rfl ?_
            refine R.reg rfl<|R.q (q.build (cs:=[.int .i64 0,.int .i64 0,.int .i64 0,.int .i64 0,.int .i64 0]) dM rfl rfl) rfl<|?_
            refine R.s rfl (s.st (us:=[.int .i64 0,.int .i64 0,.int .i64 0,.int .i64 0,.int .i64 0]) (cs':=[.int .i64 0,.int .i64 0,.int .i64 0,.int .i64 0,.int .i64 0]) 0 _ rfl rfl rfl rfl (.inl aK) rfl rfl rfl rfl) fun _=>?_
            refine R.u 1 rfl<|R.nil ?_
            exact R.lN rfl Tryz.results88 (RV.cell 0 rfl rfl aK) (RV.tmp rfl) (congrArg ao.val (show (⟨0,0,0,0,0⟩:ao)=(derived x id r b).1 from by ((first|(rw [br (by assumption)])|(rw [bL (by omega)])|(rw [bA (by omega) (by assumption)])|(rw [bB (by omega) (by assumption) (by omega)])|(rw [bC (by omega) (by assumption) (by omega) (by omega)])|(rw [bz (by omega) (by assumption) (by omega) (by omega)])|(rw [bu (by omega) (by assumption) (by omega)])) <;> first|rfl|exact aR (by assumption)|(simp;omega)))) (rI (by ((first|(rw [br (by assumption)])|(rw [bL (by omega)])|(rw [bA (by omega) (by assumption)])|(rw [bB (by omega) (by assumption) (by omega)])|(rw [bC (by omega) (by assumption) (by omega) (by omega)])|(rw [bz (by omega) (by assumption) (by omega) (by omega)])|(rw [bu (by omega) (by assumption) (by omega)])) <;> first|rfl|exact aR (by assumption)|(simp;omega))))
theorem oV (x:ao)(id:Int)(s4:Nat)(w:World)(xC:(ah.box s4 [.int .i64 id] 3).ok w):Calls Tryz.prog 63 #[.agg #[.int .i64 x.ID,.int .i64 x.ai,.int .i64 x.Rights,.int .i64 x.ar,.int .i64 x.From],.pointer (some ⟨s4,0,none⟩)] w fun e w'=>e = .returned (.bool (x.ID==id))∧Ext w w':=by
  refine R.enter (n:=8) (vs:=[.agg #[.int .i64 x.ID,.int .i64 x.ai,.int .i64 x.Rights,.int .i64 x.ar,.int .i64 x.From],.pointer (some ⟨s4,0,none⟩)]) [] [(0,.agg #[.int .i64 x.ID,.int .i64 x.ai,.int .i64 x.Rights,.int .i64 x.ar,.int .i64 x.From]),(1,.pointer (some ⟨s4,0,none⟩))] Tryz.func63 rfl rfl rfl rfl ?_
  refine R.nS (r:=ah.box s4 [.int .i64 id] 3) xC (j5 xC) ?_
  refine R.reg rfl<|?_
  refine R.s rfl (s.box (cs:=[.int .i64 x.ID,.int .i64 x.ai,.int .i64 x.Rights,.int .i64 x.ar,.int .i64 x.From]) rfl rfl rfl) fun b1=>?_
  refine R.u 1 rfl<|R.nil ?_
  refine R.reg rfl<|R.q (q.aS (off':=0) rfl bK rfl) rfl<|R.q (q.ld 0 rfl rfl aG rfl) rfl<|R.q (q.vU 0 rfl rfl aG rfl) rfl<|?_
  by_cases h1:x.ID=id
  ·
    refine R.q (q.eql rfl rfl (beq_iff_eq.2 (by omega))) rfl<|R.u 1 rfl<|R.nil ?_
    exact R.rv rfl Tryz.results63 rfl (rB (by (first|exact (beq_iff_eq.2 (by assumption)).symm|exact (beq_eq_false_iff_ne.2 (by assumption)).symm)))
  ·
    refine R.q (q.eql rfl rfl (beq_eq_false_iff_ne.2 (by omega))) rfl<|R.u 1 rfl<|R.nil ?_
    exact R.rv rfl Tryz.results63 rfl (rB (by (first|exact (beq_iff_eq.2 (by assumption)).symm|exact (beq_eq_false_iff_ne.2 (by assumption)).symm)))
theorem gQ (bk:Value)(l:List ao)(p:ao→Bool)(vp:Nat)(xD:List Value)(xE:∀args w,(callFunc vp args).run Tryz.prog w = .ok (.enter vp args) w)(w:World)(cF:Sl w bk l)(yO:∀W (x1:ao),Ext w W→Calls Tryz.prog vp ([x1.val]++xD).toArray W fun e w'=>e = .returned (.bool (p x1))∧Ext W w'):Calls Tryz.prog 62 #[bk,.func (.func vp) #[] xD.toArray] w fun e w'=>e = .returned (.int .i64 (idxOf p l))∧Ext w w':=by
  have lR:=cF.dI
  refine R.enter (n:=19) (vs:=[bk,.func (.func vp) #[] xD.toArray]) [] [(0,bk),(1,.func (.func vp) #[] xD.toArray)] Tryz.func62 rfl rfl rfl rfl ?_
  refine R.reg rfl<|R.u 1 rfl<|R.nil ?_
  refine R.reg rfl<|R.u 1 rfl<|R.q (q.len' (fun _=>Wd.old cF) rfl Tryz.underlying25) rfl<|R.u 1 rfl<|R.nil ?_
  refine R.loop (fun k:Nat=>[(0,bk),(1,.func (.func vp) #[] xD.toArray),(7,.int .i64 (l.length:Int)),(8,.int .i64 (k:Int))]) (fun k:Nat=>[]) (fun k:Nat=>[]) (fun k:Nat=>k≤l.length ∧ ∀ (j:Nat) x,j<k→l[j]? = some x→p x=false) (fun k:Nat=>l.length-k) 0 rfl (by exact ⟨by omega,fun j x hj=>absurd hj (Nat.not_lt_zero _)⟩) ⟨rfl,rfl,rfl,rfl,trivial⟩ (fun _=>Wd.pick [] [] rfl rfl rfl) ?_
  rintro k ⟨hk,HA⟩
  refine R.reg rfl<|?_
  by_cases h1:k<l.length
  ·
    refine R.q (q.lss rfl rfl (decide_eq_true (by omega))) rfl<|R.nil ?_
    refine R.aI rfl rfl ?_
    refine R.reg rfl<|R.u 2 rfl<|R.nil ?_
    refine R.reg rfl<|R.u 3 rfl<|?_
    obtain ⟨x1,hx1⟩:∃z,l[k]? = some z:=⟨_,List.getElem?_eq_getElem (by omega)⟩
    refine R.q (q.idx (i:=k) (fun _=>Wd.old cF) rfl rfl cG rfl hx1) rfl<|R.q (q.dx (ds:=[.int .i64 x1.ID,.int .i64 x1.ai,.int .i64 x1.Rights,.int .i64 x1.ar,.int .i64 x1.From]) (fun _=>Wd.old cF) hx1 rfl aK rfl) rfl<|?_
    rcases Bool.eq_false_or_eq_true (p x1) with h2|h2
    ·
      refine R.c (q.call xE rfl rfl (fun w hw=>cv (congrArg Value.bool h2) (yO w x1 hw.ext))) rfl<|R.nil ?_
      refine R.aI rfl rfl ?_
      refine R.reg rfl<|R.u 2 rfl<|R.nil ?_
      exact R.rv rfl Tryz.results62 rfl (rI (by (first|exact (idxOf_hit hx1 (by assumption) HA).symm|exact (idxOf_miss (by assumption) HA).symm)))
    ·
      refine R.c (q.call xE rfl rfl (fun w hw=>cv (congrArg Value.bool h2) (yO w x1 hw.ext))) rfl<|R.nil ?_
      refine R.aH rfl rfl ?_
      refine R.reg rfl<|R.q (q.add (r:=((k+1:Nat):Int)) rfl rfl (wr (by omega))) rfl<|R.u 1 rfl<|R.nil ?_
      refine R.back (k+1) rfl (by (exact ⟨by omega,fA HA hx1 (by assumption)⟩)) (by omega) ⟨rfl,rfl,rfl,rfl,trivial⟩ (fun _=>Wd.pick [] [] rfl rfl rfl)
  ·
    refine R.q (q.lss rfl rfl (decide_eq_false (by omega))) rfl<|R.nil ?_
    refine R.aH rfl rfl ?_
    refine R.reg rfl<|R.u 1 rfl<|R.nil ?_
    exact R.rv rfl Tryz.results62 rfl (rI (by (first|exact (idxOf_hit hx1 (by assumption) HA).symm|exact (idxOf_miss (by assumption) HA).symm)))
theorem gk (bk:Value)(l:List ao)(id:Int)(w:World)(cF:Sl w bk l):Calls Tryz.prog 24 #[bk,.int .i64 id] w fun e w'=>e = .returned (.int .i64 (cb l id))∧Ext w w':=by
  have lR:=cF.dI
  refine R.enter (n:=8) (vs:=[bk,.int .i64 id]) [] [(0,bk),(1,.int .i64 id)] Tryz.func24 rfl rfl rfl rfl ?_
  refine R.reg rfl<|?_
  refine R.s rfl (s.box (cs:=[.int .i64 id]) rfl rfl rfl) fun b1=>?_
  refine R.u 1 rfl<|R.nil ?_
  refine R.reg rfl<|R.u 1 rfl<|R.q (q.vT (cap:=[.pointer (some ⟨b1,0,none⟩)]) rfl rfl) rfl<|R.c (q.call sI rfl rfl (fun w hw=>(gQ _ (l) (fun (x:ao)=>x.ID==id) _ _ xc w ((fun _=>Wd.old cF) w hw) (fun W x hW=>oV x (id) _ W (kC (hw.b 0 rfl) hW) ) ))) rfl<|R.u 1 rfl<|R.nil ?_
  exact R.rv rfl Tryz.results24 rfl (rI (by (rfl)))
theorem ei (bk:Value)(l:List ao)(id:Int)(w:World)(cF:Sl w bk l):Calls Tryz.prog 27 #[bk,.int .i64 id] w fun e w'=>e = .returned (.int .i64 (cb l id))∧Ext w w':=by
  have lR:=cF.dI
  refine R.enter (n:=20) (vs:=[bk,.int .i64 id]) [] [(0,bk),(1,.int .i64 id)] Tryz.func27 rfl rfl rfl rfl ?_
  refine R.reg rfl<|R.u 1 rfl<|R.nil ?_
  refine R.reg rfl<|R.u 1 rfl<|R.nil ?_
  refine R.loop (fun k:Nat=>[(0,bk),(1,.int .i64 id),(5,.int .i64 (k:Int))]) (fun k:Nat=>[]) (fun k:Nat=>[]) (fun k:Nat=>k≤l.length ∧ ∀ (j:Nat) x,j<k→l[j]? = some x→(x.ID==id)=false) (fun k:Nat=>l.length-k) 0 rfl (by exact ⟨by omega,fun j x hj=>absurd hj (Nat.not_lt_zero _)⟩) ⟨rfl,rfl,rfl,trivial⟩ (fun _=>Wd.pick [] [] rfl rfl rfl) ?_
  rintro k ⟨hk,HA⟩
  refine R.reg rfl<|R.u 2 rfl<|R.q (q.len' (fun _=>Wd.old cF) rfl Tryz.underlying25) rfl<|?_
  by_cases h1:k<l.length
  ·
    refine R.q (q.lss rfl rfl (decide_eq_true (by omega))) rfl<|R.nil ?_
    refine R.aI rfl rfl ?_
    refine R.reg rfl<|R.u 2 rfl<|?_
    obtain ⟨x1,hx1⟩:∃z,l[k]? = some z:=⟨_,List.getElem?_eq_getElem (by omega)⟩
    refine R.q (q.idx (i:=k) (fun _=>Wd.old cF) rfl rfl cG rfl hx1) rfl<|R.q (q.eJ (j':=0) (fun _=>Wd.old cF) hx1 rfl bK rfl) rfl<|R.q (q.jU (fun _=>Wd.old cF) hx1 rfl aG rfl) rfl<|R.u 1 rfl<|?_
    by_cases h2:x1.ID=id
    ·
      refine R.q (q.eql rfl rfl (beq_iff_eq.2 (by omega))) rfl<|R.nil ?_
      refine R.aI rfl rfl ?_
      refine R.reg rfl<|R.u 2 rfl<|R.nil ?_
      exact R.rv rfl Tryz.results27 rfl (rI (by (rw [nA];first|exact (idxOf_hit (p:=fun x=>x.ID==id) hx1 (beq_iff_eq.2 h2) HA).symm|exact (idxOf_miss h1 HA).symm)))
    ·
      refine R.q (q.eql rfl rfl (beq_eq_false_iff_ne.2 (by omega))) rfl<|R.nil ?_
      refine R.aH rfl rfl ?_
      refine R.reg rfl<|R.u 1 rfl<|R.q (q.add (r:=((k+1:Nat):Int)) rfl rfl (wr (by omega))) rfl<|R.u 1 rfl<|R.nil ?_
      refine R.back (k+1) rfl (by (exact ⟨by omega,fA (p:=fun x=>x.ID==id) HA hx1 (beq_eq_false_iff_ne.2 h2)⟩)) (by omega) ⟨rfl,rfl,rfl,trivial⟩ (fun _=>Wd.pick [] [] rfl rfl rfl)
  ·
    refine R.q (q.lss rfl rfl (decide_eq_false (by omega))) rfl<|R.nil ?_
    refine R.aH rfl rfl ?_
    refine R.reg rfl<|R.u 1 rfl<|R.nil ?_
    exact R.rv rfl Tryz.results27 rfl (rI (by (rw [nA];first|exact (idxOf_hit (p:=fun x=>x.ID==id) hx1 (beq_iff_eq.2 h2) HA).symm|exact (idxOf_miss h1 HA).symm)))
end Go.Proofs.YtpipachmngdegaaGreat
end
