import Derived.Test.YtbkfhjaibhnkmaaGreatDoorIMS12
import Derived.Test.YtbkfhjaibhnkmaaGreatDoorIMS14
namespace Go.Proofs.YtbkfhjaibhnkmaaGreatDoor
open Go Go.RowKit
set_option linter.unusedVariables false
set_option maxRecDepth 100000
theorem mg (r:Int)(w:World)  : Calls Tryz.prog 112 #[iV r] w fun e w'=>e = .returned (fc (dH r))∧Ext w w':=by
 refine R.enter (n:=10) (vs:=[iV r]) [] [(0,iV r)] Tryz.func112 O O O O ?_
 refine R.reg O<|R.u 1 O<|R.nil ?_
 refine R.reg O<|R.u 1 O<|?_
 by_cases h1:r<0
 ·
  refine R.q (q.lss O O (decide_eq_true (by omega))) O<|R.u 4 O<|R.nil ?_
  refine R.aE O O ?_
  refine R.reg O<|R.q (q.iface O cL) O<|R.u 1 O<|R.nil ?_
  exact R.rv O Tryz.results112 O (eP (by decide) (by (exact jF (by omega))))
 ·
  refine R.q (q.lss O O (decide_eq_false (by omega))) O<|R.u 2 O<|?_
  by_cases h2:7<r
  ·
   refine R.qg O (q.gtr O O (decide_eq_true (by omega))) O<|R.u 1 O<|R.nil ?_
   refine R.aE O O ?_
   refine R.reg O<|R.q (q.iface O cL) O<|R.u 1 O<|R.nil ?_
   exact R.rv O Tryz.results112 O (eP (by decide) (by (exact jF (by omega))))
  ·
   refine R.qg O (q.gtr O O (decide_eq_false (by omega))) O<|R.u 1 O<|R.nil ?_
   refine R.aF O O ?_
   refine R.reg O<|R.u 1 O<|R.nil ?_
   exact R.rv O Tryz.results112 O (i6 (by (exact fE (by omega) (by omega))))
theorem fA (r:Int)(n:Int)(w:World)(r0:0≤r∧r≤7)(n0:0≤n∧n≤7):Calls Tryz.prog 73 #[iV r,iV n] w fun e w'=>e = .returned (.bool (fF r n))∧Ext w w':=by
 refine R.enter (n:=10) (vs:=[iV r,iV n]) [] [(0,iV r),(1,iV n)] Tryz.func73 O O O O ?_
 refine R.reg O<|R.u 1 O<|R.nil ?_
 refine R.reg O<|R.u 2 O<|R.q (q.and O O O) O<|R.u 1 O<|?_
 by_cases h1:(bits .and .i64 r n)=n
 ·
  refine R.q (q.eql O O (beq_iff_eq.2 (by omega))) O<|R.u 1 O<|R.nil ?_
  exact R.rv O Tryz.results73 O (rB (by (exact yz r0.1 r0.2 n0.1 n0.2 (by exact beq_iff_eq.2 ‹_›))))
 ·
  refine R.q (q.eql O O (beq_eq_false_iff_ne.2 (by omega))) O<|R.u 1 O<|R.nil ?_
  exact R.rv O Tryz.results73 O (rB (by (exact yz r0.1 r0.2 n0.1 n0.2 (by exact beq_eq_false_iff_ne.2 ‹_›))))
theorem lw (r:Int)(n:Int)(w:World)(r0:0≤r∧r≤7)(n0:0≤n∧n≤7):Calls Tryz.prog 123 #[iV r,iV n] w fun e w'=>e = .returned (.bool (fF r n))∧Ext w w':=by
 refine R.enter (n:=22) (vs:=[iV r,iV n]) [] [(0,iV r),(1,iV n)] Tryz.func123 O O O O ?_
 refine R.reg O<|R.u 1 O<|R.nil ?_
 refine R.reg O<|R.u 1 O<|R.nil ?_
 refine R.E0 3 O ?_
 refine R.reg O<|R.u 1 O<|R.q (q.lss (b:=true) O O (by decide)) O<|R.nil ?_
 refine R.aE O O ?_
 refine R.reg O<|R.u 2 O<|R.q (q.quo (r:=n / 1) O O (by omega) (nG (by omega))) O<|R.q (q.rem (r:=(n / 1) % 2) O O (by omega) (nH (by omega))) O<|?_
 by_cases h1:((n / 1) % 2)=1
 ·
  refine R.q (q.eql O O (beq_iff_eq.2 (by omega))) O<|R.u 3 O<|R.qg O (q.quo (r:=r / 1) O O (by omega) (nG (by omega))) O<|R.qg O (q.rem (r:=(r / 1) % 2) O O (by omega) (nH (by omega))) O<|?_
  by_cases h2:((r / 1) % 2)=0
  ·
   refine R.qg O (q.eql O O (beq_iff_eq.2 (by omega))) O<|R.u 1 O<|R.nil ?_
   refine R.aE O O ?_
   refine R.reg O<|R.u 1 O<|R.nil ?_
   exact R.rv O Tryz.results123 O (rB (by (rw [← fT r0.1 r0.2 n0.1 n0.2];exact (gT (by omega)).symm)))
  ·
   refine R.qg O (q.eql O O (beq_eq_false_iff_ne.2 (by omega))) O<|R.u 1 O<|R.nil ?_
   refine R.aF O O ?_
   refine R.reg O<|R.u 1 O<|R.q (q.mul (r:=2) O O (by decide)) O<|R.u 1 O<|R.nil ?_
   refine R.again O O ?_
   refine R.reg O<|R.u 1 O<|R.q (q.lss (b:=true) O O (by decide)) O<|R.nil ?_
   refine R.aE O O ?_
   refine R.reg O<|R.u 2 O<|R.q (q.quo (r:=n / 2) O O (by omega) (nG (by omega))) O<|R.q (q.rem (r:=(n / 2) % 2) O O (by omega) (nH (by omega))) O<|?_
   by_cases h3:((n / 2) % 2)=1
   ·
    refine R.q (q.eql O O (beq_iff_eq.2 (by omega))) O<|R.u 3 O<|R.qg O (q.quo (r:=r / 2) O O (by omega) (nG (by omega))) O<|R.qg O (q.rem (r:=(r / 2) % 2) O O (by omega) (nH (by omega))) O<|?_
    by_cases h4:((r / 2) % 2)=0
    ·
     refine R.qg O (q.eql O O (beq_iff_eq.2 (by omega))) O<|R.u 1 O<|R.nil ?_
     refine R.aE O O ?_
     refine R.reg O<|R.u 1 O<|R.nil ?_
     exact R.rv O Tryz.results123 O (rB (by (rw [← fT r0.1 r0.2 n0.1 n0.2];exact (gT (by omega)).symm)))
    ·
     refine R.qg O (q.eql O O (beq_eq_false_iff_ne.2 (by omega))) O<|R.u 1 O<|R.nil ?_
     refine R.aF O O ?_
     refine R.reg O<|R.u 1 O<|R.q (q.mul (r:=4) O O (by decide)) O<|R.u 1 O<|R.nil ?_
     refine R.again O O ?_
     refine R.reg O<|R.u 1 O<|R.q (q.lss (b:=true) O O (by decide)) O<|R.nil ?_
     refine R.aE O O ?_
     refine R.reg O<|R.u 2 O<|R.q (q.quo (r:=n / 4) O O (by omega) (nG (by omega))) O<|R.q (q.rem (r:=(n / 4) % 2) O O (by omega) (nH (by omega))) O<|?_
     by_cases h5:((n / 4) % 2)=1
     ·
      refine R.q (q.eql O O (beq_iff_eq.2 (by omega))) O<|R.u 3 O<|R.qg O (q.quo (r:=r / 4) O O (by omega) (nG (by omega))) O<|R.qg O (q.rem (r:=(r / 4) % 2) O O (by omega) (nH (by omega))) O<|?_
      by_cases h6:((r / 4) % 2)=0
      ·
       refine R.qg O (q.eql O O (beq_iff_eq.2 (by omega))) O<|R.u 1 O<|R.nil ?_
       refine R.aE O O ?_
       refine R.reg O<|R.u 1 O<|R.nil ?_
       exact R.rv O Tryz.results123 O (rB (by (rw [← fT r0.1 r0.2 n0.1 n0.2];exact (gT (by omega)).symm)))
      ·
       refine R.qg O (q.eql O O (beq_eq_false_iff_ne.2 (by omega))) O<|R.u 1 O<|R.nil ?_
       refine R.aF O O ?_
       refine R.reg O<|R.u 1 O<|R.q (q.mul (r:=8) O O (by decide)) O<|R.u 1 O<|R.nil ?_
       refine R.again O O ?_
       refine R.reg O<|R.u 1 O<|R.q (q.lss (b:=false) O O (by decide)) O<|R.nil ?_
       refine R.aF O O ?_
       refine R.reg O<|R.u 1 O<|R.nil ?_
       exact R.rv O Tryz.results123 O (rB (by (rw [← fT r0.1 r0.2 n0.1 n0.2];exact (hD (by omega) (by omega) (by omega)).symm)))
     ·
      refine R.q (q.eql O O (beq_eq_false_iff_ne.2 (by omega))) O<|R.u 7 O<|R.nil ?_
      refine R.aF O O ?_
      refine R.reg O<|R.u 1 O<|R.q (q.mul (r:=8) O O (by decide)) O<|R.u 1 O<|R.nil ?_
      refine R.again O O ?_
      refine R.reg O<|R.u 1 O<|R.q (q.lss (b:=false) O O (by decide)) O<|R.nil ?_
      refine R.aF O O ?_
      refine R.reg O<|R.u 1 O<|R.nil ?_
      exact R.rv O Tryz.results123 O (rB (by (rw [← fT r0.1 r0.2 n0.1 n0.2];exact (hD (by omega) (by omega) (by omega)).symm)))
   ·
    refine R.q (q.eql O O (beq_eq_false_iff_ne.2 (by omega))) O<|R.u 7 O<|R.nil ?_
    refine R.aF O O ?_
    refine R.reg O<|R.u 1 O<|R.q (q.mul (r:=4) O O (by decide)) O<|R.u 1 O<|R.nil ?_
    refine R.again O O ?_
    refine R.reg O<|R.u 1 O<|R.q (q.lss (b:=true) O O (by decide)) O<|R.nil ?_
    refine R.aE O O ?_
    refine R.reg O<|R.u 2 O<|R.q (q.quo (r:=n / 4) O O (by omega) (nG (by omega))) O<|R.q (q.rem (r:=(n / 4) % 2) O O (by omega) (nH (by omega))) O<|?_
    by_cases h7:((n / 4) % 2)=1
    ·
     refine R.q (q.eql O O (beq_iff_eq.2 (by omega))) O<|R.u 3 O<|R.qg O (q.quo (r:=r / 4) O O (by omega) (nG (by omega))) O<|R.qg O (q.rem (r:=(r / 4) % 2) O O (by omega) (nH (by omega))) O<|?_
     by_cases h8:((r / 4) % 2)=0
     ·
      refine R.qg O (q.eql O O (beq_iff_eq.2 (by omega))) O<|R.u 1 O<|R.nil ?_
      refine R.aE O O ?_
      refine R.reg O<|R.u 1 O<|R.nil ?_
      exact R.rv O Tryz.results123 O (rB (by (rw [← fT r0.1 r0.2 n0.1 n0.2];exact (gT (by omega)).symm)))
     ·
      refine R.qg O (q.eql O O (beq_eq_false_iff_ne.2 (by omega))) O<|R.u 1 O<|R.nil ?_
      refine R.aF O O ?_
      refine R.reg O<|R.u 1 O<|R.q (q.mul (r:=8) O O (by decide)) O<|R.u 1 O<|R.nil ?_
      refine R.again O O ?_
      refine R.reg O<|R.u 1 O<|R.q (q.lss (b:=false) O O (by decide)) O<|R.nil ?_
      refine R.aF O O ?_
      refine R.reg O<|R.u 1 O<|R.nil ?_
      exact R.rv O Tryz.results123 O (rB (by (rw [← fT r0.1 r0.2 n0.1 n0.2];exact (hD (by omega) (by omega) (by omega)).symm)))
    ·
     refine R.q (q.eql O O (beq_eq_false_iff_ne.2 (by omega))) O<|R.u 7 O<|R.nil ?_
     refine R.aF O O ?_
     refine R.reg O<|R.u 1 O<|R.q (q.mul (r:=8) O O (by decide)) O<|R.u 1 O<|R.nil ?_
     refine R.again O O ?_
     refine R.reg O<|R.u 1 O<|R.q (q.lss (b:=false) O O (by decide)) O<|R.nil ?_
     refine R.aF O O ?_
     refine R.reg O<|R.u 1 O<|R.nil ?_
     exact R.rv O Tryz.results123 O (rB (by (rw [← fT r0.1 r0.2 n0.1 n0.2];exact (hD (by omega) (by omega) (by omega)).symm)))
 ·
  refine R.q (q.eql O O (beq_eq_false_iff_ne.2 (by omega))) O<|R.u 7 O<|R.nil ?_
  refine R.aF O O ?_
  refine R.reg O<|R.u 1 O<|R.q (q.mul (r:=2) O O (by decide)) O<|R.u 1 O<|R.nil ?_
  refine R.again O O ?_
  refine R.reg O<|R.u 1 O<|R.q (q.lss (b:=true) O O (by decide)) O<|R.nil ?_
  refine R.aE O O ?_
  refine R.reg O<|R.u 2 O<|R.q (q.quo (r:=n / 2) O O (by omega) (nG (by omega))) O<|R.q (q.rem (r:=(n / 2) % 2) O O (by omega) (nH (by omega))) O<|?_
  by_cases h9:((n / 2) % 2)=1
  ·
   refine R.q (q.eql O O (beq_iff_eq.2 (by omega))) O<|R.u 3 O<|R.qg O (q.quo (r:=r / 2) O O (by omega) (nG (by omega))) O<|R.qg O (q.rem (r:=(r / 2) % 2) O O (by omega) (nH (by omega))) O<|?_
   by_cases h10:((r / 2) % 2)=0
   ·
    refine R.qg O (q.eql O O (beq_iff_eq.2 (by omega))) O<|R.u 1 O<|R.nil ?_
    refine R.aE O O ?_
    refine R.reg O<|R.u 1 O<|R.nil ?_
    exact R.rv O Tryz.results123 O (rB (by (rw [← fT r0.1 r0.2 n0.1 n0.2];exact (gT (by omega)).symm)))
   ·
    refine R.qg O (q.eql O O (beq_eq_false_iff_ne.2 (by omega))) O<|R.u 1 O<|R.nil ?_
    refine R.aF O O ?_
    refine R.reg O<|R.u 1 O<|R.q (q.mul (r:=4) O O (by decide)) O<|R.u 1 O<|R.nil ?_
    refine R.again O O ?_
    refine R.reg O<|R.u 1 O<|R.q (q.lss (b:=true) O O (by decide)) O<|R.nil ?_
    refine R.aE O O ?_
    refine R.reg O<|R.u 2 O<|R.q (q.quo (r:=n / 4) O O (by omega) (nG (by omega))) O<|R.q (q.rem (r:=(n / 4) % 2) O O (by omega) (nH (by omega))) O<|?_
    by_cases h11:((n / 4) % 2)=1
    ·
     refine R.q (q.eql O O (beq_iff_eq.2 (by omega))) O<|R.u 3 O<|R.qg O (q.quo (r:=r / 4) O O (by omega) (nG (by omega))) O<|R.qg O (q.rem (r:=(r / 4) % 2) O O (by omega) (nH (by omega))) O<|?_
     by_cases h12:((r / 4) % 2)=0
     ·
      refine R.qg O (q.eql O O (beq_iff_eq.2 (by omega))) O<|R.u 1 O<|R.nil ?_
      refine R.aE O O ?_
      refine R.reg O<|R.u 1 O<|R.nil ?_
      exact R.rv O Tryz.results123 O (rB (by (rw [← fT r0.1 r0.2 n0.1 n0.2];exact (gT (by omega)).symm)))
     ·
      refine R.qg O (q.eql O O (beq_eq_false_iff_ne.2 (by omega))) O<|R.u 1 O<|R.nil ?_
      refine R.aF O O ?_
      refine R.reg O<|R.u 1 O<|R.q (q.mul (r:=8) O O (by decide)) O<|R.u 1 O<|R.nil ?_
      refine R.again O O ?_
      refine R.reg O<|R.u 1 O<|R.q (q.lss (b:=false) O O (by decide)) O<|R.nil ?_
      refine R.aF O O ?_
      refine R.reg O<|R.u 1 O<|R.nil ?_
      exact R.rv O Tryz.results123 O (rB (by (rw [← fT r0.1 r0.2 n0.1 n0.2];exact (hD (by omega) (by omega) (by omega)).symm)))
    ·
     refine R.q (q.eql O O (beq_eq_false_iff_ne.2 (by omega))) O<|R.u 7 O<|R.nil ?_
     refine R.aF O O ?_
     refine R.reg O<|R.u 1 O<|R.q (q.mul (r:=8) O O (by decide)) O<|R.u 1 O<|R.nil ?_
     refine R.again O O ?_
     refine R.reg O<|R.u 1 O<|R.q (q.lss (b:=false) O O (by decide)) O<|R.nil ?_
     refine R.aF O O ?_
     refine R.reg O<|R.u 1 O<|R.nil ?_
     exact R.rv O Tryz.results123 O (rB (by (rw [← fT r0.1 r0.2 n0.1 n0.2];exact (hD (by omega) (by omega) (by omega)).symm)))
  ·
   refine R.q (q.eql O O (beq_eq_false_iff_ne.2 (by omega))) O<|R.u 7 O<|R.nil ?_
   refine R.aF O O ?_
   refine R.reg O<|R.u 1 O<|R.q (q.mul (r:=4) O O (by decide)) O<|R.u 1 O<|R.nil ?_
   refine R.again O O ?_
   refine R.reg O<|R.u 1 O<|R.q (q.lss (b:=true) O O (by decide)) O<|R.nil ?_
   refine R.aE O O ?_
   refine R.reg O<|R.u 2 O<|R.q (q.quo (r:=n / 4) O O (by omega) (nG (by omega))) O<|R.q (q.rem (r:=(n / 4) % 2) O O (by omega) (nH (by omega))) O<|?_
   by_cases Dk:((n / 4) % 2)=1
   ·
    refine R.q (q.eql O O (beq_iff_eq.2 (by omega))) O<|R.u 3 O<|R.qg O (q.quo (r:=r / 4) O O (by omega) (nG (by omega))) O<|R.qg O (q.rem (r:=(r / 4) % 2) O O (by omega) (nH (by omega))) O<|?_
    by_cases Ik:((r / 4) % 2)=0
    ·
     refine R.qg O (q.eql O O (beq_iff_eq.2 (by omega))) O<|R.u 1 O<|R.nil ?_
     refine R.aE O O ?_
     refine R.reg O<|R.u 1 O<|R.nil ?_
     exact R.rv O Tryz.results123 O (rB (by (rw [← fT r0.1 r0.2 n0.1 n0.2];exact (gT (by omega)).symm)))
    ·
     refine R.qg O (q.eql O O (beq_eq_false_iff_ne.2 (by omega))) O<|R.u 1 O<|R.nil ?_
     refine R.aF O O ?_
     refine R.reg O<|R.u 1 O<|R.q (q.mul (r:=8) O O (by decide)) O<|R.u 1 O<|R.nil ?_
     refine R.again O O ?_
     refine R.reg O<|R.u 1 O<|R.q (q.lss (b:=false) O O (by decide)) O<|R.nil ?_
     refine R.aF O O ?_
     refine R.reg O<|R.u 1 O<|R.nil ?_
     exact R.rv O Tryz.results123 O (rB (by (rw [← fT r0.1 r0.2 n0.1 n0.2];exact (hD (by omega) (by omega) (by omega)).symm)))
   ·
    refine R.q (q.eql O O (beq_eq_false_iff_ne.2 (by omega))) O<|R.u 7 O<|R.nil ?_
    refine R.aF O O ?_
    refine R.reg O<|R.u 1 O<|R.q (q.mul (r:=8) O O (by decide)) O<|R.u 1 O<|R.nil ?_
    refine R.again O O ?_
    refine R.reg O<|R.u 1 O<|R.q (q.lss (b:=false) O O (by decide)) O<|R.nil ?_
    refine R.aF O O ?_
    refine R.reg O<|R.u 1 O<|R.nil ?_
    exact R.rv O Tryz.results123 O (rB (by (rw [← fT r0.1 r0.2 n0.1 n0.2];exact (hD (by omega) (by omega) (by omega)).symm)))
theorem sr (x:ak)(w:World)  : Calls Tryz.prog 64 #[.agg #[iV x.ID,iV x.ao,iV x.Rights,iV x.aI,iV x.From]] w fun e w'=>e = .returned (fc (cM x))∧Ext w w':=by
 refine R.enter (n:=47) (vs:=[.agg #[iV x.ID,iV x.ao,iV x.Rights,iV x.aI,iV x.From]]) [] [(0,.agg #[iV x.ID,iV x.ao,iV x.Rights,iV x.aI,iV x.From])] Tryz.func64 O O O O ?_
 refine R.reg O<|R.s O (s.box (cs:=ay x) O O O) fun b1=>R.u 1 O<|R.nil ?_
 refine R.reg O<|R.q (q.aT (off':=0) O bI O) O<|R.q (q.ld 0 O O aA O) O<|?_
 by_cases h1:x.ID<1
 ·
  refine R.q (q.lss O O (decide_eq_true (by omega))) O<|R.u 37 O<|R.nil ?_
  refine R.aE O O ?_
  refine R.reg O<|R.q (q.iface O cL) O<|R.u 1 O<|R.nil ?_
  exact R.rv O Tryz.results64 O (eP (by decide) (by (exact eJ (by omega))))
 ·
  refine R.q (q.lss O O (decide_eq_false (by omega))) O<|R.u 1 O<|R.qg O (q.aT (off':=0) O bI O) O<|R.qg O (q.ld 0 O O aA O) O<|?_
  by_cases h2:999<x.ID
  ·
   refine R.qg O (q.gtr O O (decide_eq_true (by omega))) O<|R.u 33 O<|R.nil ?_
   refine R.aE O O ?_
   refine R.reg O<|R.q (q.iface O cL) O<|R.u 1 O<|R.nil ?_
   exact R.rv O Tryz.results64 O (eP (by decide) (by (exact eJ (by omega))))
  ·
   refine R.qg O (q.gtr O O (decide_eq_false (by omega))) O<|R.u 2 O<|R.qg O (q.aT (off':=1) O dw O) O<|R.qg O (q.ld 0 O O aA O) O<|?_
   by_cases h3:x.ao<1
   ·
    refine R.qg O (q.lss O O (decide_eq_true (by omega))) O<|R.u 28 O<|R.nil ?_
    refine R.aE O O ?_
    refine R.reg O<|R.q (q.iface O cL) O<|R.u 1 O<|R.nil ?_
    exact R.rv O Tryz.results64 O (eP (by decide) (by (exact eJ (by omega))))
   ·
    refine R.qg O (q.lss O O (decide_eq_false (by omega))) O<|R.u 2 O<|R.qg O (q.aT (off':=1) O dw O) O<|R.qg O (q.ld 0 O O aA O) O<|?_
    by_cases h4:999<x.ao
    ·
     refine R.qg O (q.gtr O O (decide_eq_true (by omega))) O<|R.u 23 O<|R.nil ?_
     refine R.aE O O ?_
     refine R.reg O<|R.q (q.iface O cL) O<|R.u 1 O<|R.nil ?_
     exact R.rv O Tryz.results64 O (eP (by decide) (by (exact eJ (by omega))))
    ·
     refine R.qg O (q.gtr O O (decide_eq_false (by omega))) O<|R.u 2 O<|R.qg O (q.aT (off':=3) O ei O) O<|R.qg O (q.ld 0 O O aA O) O<|?_
     by_cases h5:x.aI<0
     ·
      refine R.qg O (q.lss O O (decide_eq_true (by omega))) O<|R.u 18 O<|R.nil ?_
      refine R.aE O O ?_
      refine R.reg O<|R.q (q.iface O cL) O<|R.u 1 O<|R.nil ?_
      exact R.rv O Tryz.results64 O (eP (by decide) (by (exact eJ (by omega))))
     ·
      refine R.qg O (q.lss O O (decide_eq_false (by omega))) O<|R.u 2 O<|R.qg O (q.aT (off':=3) O ei O) O<|R.qg O (q.ld 0 O O aA O) O<|?_
      by_cases h6:99<x.aI
      ·
       refine R.qg O (q.gtr O O (decide_eq_true (by omega))) O<|R.u 13 O<|R.nil ?_
       refine R.aE O O ?_
       refine R.reg O<|R.q (q.iface O cL) O<|R.u 1 O<|R.nil ?_
       exact R.rv O Tryz.results64 O (eP (by decide) (by (exact eJ (by omega))))
      ·
       refine R.qg O (q.gtr O O (decide_eq_false (by omega))) O<|R.u 2 O<|R.qg O (q.aT (off':=4) O dX O) O<|R.qg O (q.ld 0 O O aA O) O<|?_
       by_cases h7:x.From<0
       ·
        refine R.qg O (q.lss O O (decide_eq_true (by omega))) O<|R.u 8 O<|R.nil ?_
        refine R.aE O O ?_
        refine R.reg O<|R.q (q.iface O cL) O<|R.u 1 O<|R.nil ?_
        exact R.rv O Tryz.results64 O (eP (by decide) (by (exact eJ (by omega))))
       ·
        refine R.qg O (q.lss O O (decide_eq_false (by omega))) O<|R.u 2 O<|R.qg O (q.aT (off':=4) O dX O) O<|R.qg O (q.ld 0 O O aA O) O<|R.qg O (q.aT (off':=0) O bI O) O<|R.qg O (q.ld 0 O O aA O) O<|?_
        by_cases h8:x.From<x.ID
        ·
         refine R.qg O (q.geq O O (decide_eq_false (by omega))) O<|R.u 1 O<|R.nil ?_
         refine R.aF O O ?_
         refine R.reg O<|R.q (q.aT (off':=2) O fj O) O<|R.q (q.ld 0 O O aA O) O<|R.c (q.call AP O O (fun w hw=>(mg (x.Rights) w  ))) O<|R.u 1 O<|R.nil ?_
         exact R.rv O Tryz.results64 O (rE (by (exact (rl (by omega)).symm)))
        ·
         refine R.qg O (q.geq O O (decide_eq_true (by omega))) O<|R.u 1 O<|R.nil ?_
         refine R.aE O O ?_
         refine R.reg O<|R.q (q.iface O cL) O<|R.u 1 O<|R.nil ?_
         exact R.rv O Tryz.results64 O (eP (by decide) (by (exact eJ (by omega))))
theorem jI (x:ak)(id:Int)(r:Int)(b:Int)(w:World)(x0:0≤x.Rights∧x.Rights≤7):Calls Tryz.prog 66 #[.agg #[iV x.ID,iV x.ao,iV x.Rights,iV x.aI,iV x.From],iV id,iV r,iV b] w fun e w'=>e = .returned (.tuple #[ak.val ((derived x id r b).1),fc ((derived x id r b).2)])∧Ext w w':=by
 refine R.enter (n:=63) (vs:=[.agg #[iV x.ID,iV x.ao,iV x.Rights,iV x.aI,iV x.From],iV id,iV r,iV b]) [] [(0,.agg #[iV x.ID,iV x.ao,iV x.Rights,iV x.aI,iV x.From]),(1,iV id),(2,iV r),(3,iV b)] Tryz.func66 O O O O ?_
 refine R.reg O<|R.s O (s.box (cs:=ay x) O O O) fun b1=>R.s O (s.alloc (cs:=cC) bF O O) fun b2=>R.u 1 O<|R.nil ?_
 refine R.reg O<|R.u 1 O<|R.c (q.call AP O O (fun w hw=>(mg (r) w  ))) O<|R.u 1 O<|R.nil ?_
 refine R.reg O<|R.u 1 O<|?_
 by_cases h1:dH r=0
 ·
  refine R.q (q.gj O O Tryz.underlying35 (by omega)) O<|R.u 1 O<|R.nil ?_
  refine R.aF O O ?_
  have hr:=lU ‹_›
  refine R.reg O<|R.u 1 O<|?_
  by_cases h2:b<0
  ·
   refine R.q (q.lss O O (decide_eq_true (by omega))) O<|R.u 5 O<|R.nil ?_
   refine R.aE O O ?_
   refine R.reg O<|R.q (q.build (cs:=cC) eK O O) O<|R.q (q.iface O cL) O<|R.s O (s.st (us:=cC) (cs':=cC) 0 _ O O O O (.inl aP) O O O O) fun _=>R.u 1 O<|R.nil ?_
   exact R.qq O Tryz.results66 (RV.cell 0 O O aP) (RV.tmp O) (congrArg ak.val (show (⟨0,0,0,0,0⟩:ak)=(derived x id r b).1 from by (((rw [fm (by omega)])) <;> rfl))) (eP (by decide) (by (((rw [fm (by omega)])) <;> first|rfl|exact bX ‹_› | (simp;omega))))
  ·
   refine R.q (q.lss O O (decide_eq_false (by omega))) O<|R.u 2 O<|?_
   by_cases h3:99<b
   ·
    refine R.qg O (q.gtr O O (decide_eq_true (by omega))) O<|R.u 2 O<|R.nil ?_
    refine R.aE O O ?_
    refine R.reg O<|R.q (q.build (cs:=cC) eK O O) O<|R.q (q.iface O cL) O<|R.s O (s.st (us:=cC) (cs':=cC) 0 _ O O O O (.inl aP) O O O O) fun _=>R.u 1 O<|R.nil ?_
    exact R.qq O Tryz.results66 (RV.cell 0 O O aP) (RV.tmp O) (congrArg ak.val (show (⟨0,0,0,0,0⟩:ak)=(derived x id r b).1 from by (((rw [fm (by omega)])) <;> rfl))) (eP (by decide) (by (((rw [fm (by omega)])) <;> first|rfl|exact bX ‹_› | (simp;omega))))
   ·
    refine R.qg O (q.gtr O O (decide_eq_false (by omega))) O<|R.u 2 O<|R.nil ?_
    refine R.aF O O ?_
    refine R.reg O<|R.q (q.aT (off':=2) O fj O) O<|R.q (q.ld 1 O O aA O) O<|R.u 1 O<|?_
    rcases Bool.eq_false_or_eq_true (fF x.Rights r) with h4|h4
    ·
     refine R.c (q.call pP O O (fun w hw=>(cv (congrArg Value.bool h4) (fA (x.Rights) (r) w  (by omega) (by omega))))) O<|R.u 2 O<|R.nil ?_
     refine R.aF O O ?_
     refine R.reg O<|R.u 1 O<|?_
     by_cases h5:b=0
     ·
      refine R.q (q.neq O O (bne_eq_false_iff_eq.2 (by omega))) O<|R.u 12 O<|R.nil ?_
      refine R.aF O O ?_
      refine R.reg O<|R.u 1 O<|R.q (q.eql O O (beq_iff_eq.2 (by omega))) O<|R.nil ?_
      refine R.aE O O ?_
      refine R.reg O<|R.q (q.aT (off':=3) O ei O) O<|R.q (q.ld 1 O O aA O) O<|R.u 1 O<|R.nil ?_
      refine R.reg O<|R.u 1 O<|R.q (q.aT (off':=1) O dw O) O<|R.q (q.ld 1 O O aA O) O<|R.u 2 O<|R.q (q.aT (off':=0) O bI O) O<|R.q (q.ld 1 O O aA O) O<|R.q (q.build (cs:=[iV id,iV x.ao,iV r,iV x.aI,iV x.ID]) eK O O) O<|R.s O (s.st (us:=[iV id,iV x.ao,iV r,iV x.aI,iV x.ID]) (cs':=[iV id,iV x.ao,iV r,iV x.aI,iV x.ID]) 0 _ O O O O (.inl aP) O O O O) fun _=>R.u 1 O<|R.nil ?_
      exact R.qq O Tryz.results66 (RV.cell 0 O O aP) (RV.tmp O) (congrArg ak.val (show (⟨id,x.ao,r,x.aI,x.ID⟩:ak)=(derived x id r b).1 from by (((rw [jG (by omega) ‹_› (by omega)])) <;> first|rfl|exact bX ‹_› | (simp;omega)))) (i6 (by (((rw [jG (by omega) ‹_› (by omega)])) <;> first|rfl|exact bX ‹_› | (simp;omega))))
     ·
      refine R.q (q.neq O O (bne_iff_ne.2 (by omega))) O<|R.u 1 O<|R.qg O (q.aT (off':=3) O ei O) O<|R.qg O (q.ld 1 O O aA O) O<|?_
      by_cases h6:x.aI=0
      ·
       refine R.qg O (q.neq O O (bne_eq_false_iff_eq.2 (by omega))) O<|R.u 8 O<|R.nil ?_
       refine R.aF O O ?_
       refine R.reg O<|R.u 1 O<|R.q (q.eql O O (beq_eq_false_iff_ne.2 (by omega))) O<|R.nil ?_
       refine R.aF O O ?_
       refine R.reg O<|R.u 1 O<|R.q (q.aT (off':=1) O dw O) O<|R.q (q.ld 1 O O aA O) O<|R.u 2 O<|R.q (q.aT (off':=0) O bI O) O<|R.q (q.ld 1 O O aA O) O<|R.q (q.build (cs:=[iV id,iV x.ao,iV r,iV b,iV x.ID]) eK O O) O<|R.s O (s.st (us:=[iV id,iV x.ao,iV r,iV b,iV x.ID]) (cs':=[iV id,iV x.ao,iV r,iV b,iV x.ID]) 0 _ O O O O (.inl aP) O O O O) fun _=>R.u 1 O<|R.nil ?_
       exact R.qq O Tryz.results66 (RV.cell 0 O O aP) (RV.tmp O) (congrArg ak.val (show (⟨id,x.ao,r,b,x.ID⟩:ak)=(derived x id r b).1 from by (((rw [jH (by omega) ‹_› (by omega) (by omega)])) <;> first|rfl|exact bX ‹_› | (simp;omega)))) (i6 (by (((rw [jH (by omega) ‹_› (by omega) (by omega)])) <;> first|rfl|exact bX ‹_› | (simp;omega))))
      ·
       refine R.qg O (q.neq O O (bne_iff_ne.2 (by omega))) O<|R.u 3 O<|R.qg O (q.aT (off':=3) O ei O) O<|R.qg O (q.ld 1 O O aA O) O<|?_
       by_cases h7:b=x.aI
       ·
        refine R.qg O (q.neq O O (bne_eq_false_iff_eq.2 (by omega))) O<|R.u 2 O<|R.nil ?_
        refine R.aF O O ?_
        refine R.reg O<|R.u 1 O<|R.q (q.eql O O (beq_eq_false_iff_ne.2 (by omega))) O<|R.nil ?_
        refine R.aF O O ?_
        refine R.reg O<|R.u 1 O<|R.q (q.aT (off':=1) O dw O) O<|R.q (q.ld 1 O O aA O) O<|R.u 2 O<|R.q (q.aT (off':=0) O bI O) O<|R.q (q.ld 1 O O aA O) O<|R.q (q.build (cs:=[iV id,iV x.ao,iV r,iV b,iV x.ID]) eK O O) O<|R.s O (s.st (us:=[iV id,iV x.ao,iV r,iV b,iV x.ID]) (cs':=[iV id,iV x.ao,iV r,iV b,iV x.ID]) 0 _ O O O O (.inl aP) O O O O) fun _=>R.u 1 O<|R.nil ?_
        exact R.qq O Tryz.results66 (RV.cell 0 O O aP) (RV.tmp O) (congrArg ak.val (show (⟨id,x.ao,r,b,x.ID⟩:ak)=(derived x id r b).1 from by (((rw [iE (by omega) ‹_› (by omega) (by omega)])) <;> (simp;omega)))) (i6 (by (((rw [iE (by omega) ‹_› (by omega) (by omega)])) <;> first|rfl|exact bX ‹_› | (simp;omega))))
       ·
        refine R.qg O (q.neq O O (bne_iff_ne.2 (by omega))) O<|R.u 2 O<|R.nil ?_
        refine R.aE O O ?_
        refine R.reg O<|R.q (q.build (cs:=cC) eK O O) O<|R.q (q.iface O cL) O<|R.s O (s.st (us:=cC) (cs':=cC) 0 _ O O O O (.inl aP) O O O O) fun _=>R.u 1 O<|R.nil ?_
        exact R.qq O Tryz.results66 (RV.cell 0 O O aP) (RV.tmp O) (congrArg ak.val (show (⟨0,0,0,0,0⟩:ak)=(derived x id r b).1 from by (((rw [lv (by omega) ‹_› (by omega)])) <;> rfl))) (eP (by decide) (by (((rw [lv (by omega) ‹_› (by omega)])) <;> first|rfl|exact bX ‹_› | (simp;omega))))
    ·
     refine R.c (q.call pP O O (fun w hw=>(cv (congrArg Value.bool h4) (fA (x.Rights) (r) w  (by omega) (by omega))))) O<|R.u 2 O<|R.nil ?_
     refine R.aE O O ?_
     refine R.reg O<|R.q (q.build (cs:=cC) eK O O) O<|R.q (q.iface O cL) O<|R.s O (s.st (us:=cC) (cs':=cC) 0 _ O O O O (.inl aP) O O O O) fun _=>R.u 1 O<|R.nil ?_
     exact R.qq O Tryz.results66 (RV.cell 0 O O aP) (RV.tmp O) (congrArg ak.val (show (⟨0,0,0,0,0⟩:ak)=(derived x id r b).1 from by (((rw [lu (by omega) ‹_›])) <;> rfl))) (eP (by decide) (by (((rw [lu (by omega) ‹_›])) <;> first|rfl|exact bX ‹_› | (simp;omega))))
 ·
  refine R.q (q.gu O O Tryz.underlying35 (by omega)) O<|R.u 1 O<|R.nil ?_
  refine R.aE O O ?_
  refine R.reg O<|R.q (q.build (cs:=cC) eK O O) O<|R.u 1 O<|R.s O (s.st (us:=cC) (cs':=cC) 0 _ O O O O (.inl aP) O O O O) fun _=>R.u 1 O<|R.nil ?_
  exact R.qq O Tryz.results66 (RV.cell 0 O O aP) (RV.tmp O) (congrArg ak.val (show (⟨0,0,0,0,0⟩:ak)=(derived x id r b).1 from by (((rw [nL ‹_›])) <;> rfl))) (rE (by (((rw [nL ‹_›])) <;> exact bX ‹_›)))
theorem jJ (x:ak)(id:Int)(r:Int)(b:Int)(w:World)(x0:0≤x.Rights∧x.Rights≤7):Calls Tryz.prog 90 #[.agg #[iV x.ID,iV x.ao,iV x.Rights,iV x.aI,iV x.From],iV id,iV r,iV b] w fun e w'=>e = .returned (.tuple #[ak.val ((derived x id r b).1),iV ((derived x id r b).2)])∧Ext w w':=by
 refine R.enter (n:=61) (vs:=[.agg #[iV x.ID,iV x.ao,iV x.Rights,iV x.aI,iV x.From],iV id,iV r,iV b]) [] [(0,.agg #[iV x.ID,iV x.ao,iV x.Rights,iV x.aI,iV x.From]),(1,iV id),(2,iV r),(3,iV b)] Tryz.func90 O O O O ?_
 refine R.reg O<|R.s O (s.box (cs:=ay x) O O O) fun b1=>R.s O (s.alloc (cs:=cC) bF O O) fun b2=>R.u 1 O<|R.nil ?_
 refine R.reg O<|R.u 1 O<|?_
 by_cases h1:r<0
 ·
  refine R.q (q.lss O O (decide_eq_true (by omega))) O<|R.u 12 O<|R.nil ?_
  refine R.aE O O ?_
  refine R.reg O<|R.q (q.build (cs:=cC) eK O O) O<|R.s O (s.st (us:=cC) (cs':=cC) 0 _ O O O O (.inl aP) O O O O) fun _=>R.u 1 O<|R.nil ?_
  exact R.qq O Tryz.results90 (RV.cell 0 O O aP) (RV.tmp O) (congrArg ak.val (show (⟨0,0,0,0,0⟩:ak)=(derived x id r b).1 from by (((rw [fm (by omega)])) <;> rfl))) (rI (by (((rw [fm (by omega)])) <;> first|rfl|exact bX ‹_› | (simp;omega))))
 ·
  refine R.q (q.lss O O (decide_eq_false (by omega))) O<|R.u 2 O<|?_
  by_cases h2:7<r
  ·
   refine R.qg O (q.gtr O O (decide_eq_true (by omega))) O<|R.u 9 O<|R.nil ?_
   refine R.aE O O ?_
   refine R.reg O<|R.q (q.build (cs:=cC) eK O O) O<|R.s O (s.st (us:=cC) (cs':=cC) 0 _ O O O O (.inl aP) O O O O) fun _=>R.u 1 O<|R.nil ?_
   exact R.qq O Tryz.results90 (RV.cell 0 O O aP) (RV.tmp O) (congrArg ak.val (show (⟨0,0,0,0,0⟩:ak)=(derived x id r b).1 from by (((rw [fm (by omega)])) <;> rfl))) (rI (by (((rw [fm (by omega)])) <;> first|rfl|exact bX ‹_› | (simp;omega))))
  ·
   refine R.qg O (q.gtr O O (decide_eq_false (by omega))) O<|R.u 3 O<|?_
   by_cases h3:b<0
   ·
    refine R.qg O (q.lss O O (decide_eq_true (by omega))) O<|R.u 5 O<|R.nil ?_
    refine R.aE O O ?_
    refine R.reg O<|R.q (q.build (cs:=cC) eK O O) O<|R.s O (s.st (us:=cC) (cs':=cC) 0 _ O O O O (.inl aP) O O O O) fun _=>R.u 1 O<|R.nil ?_
    exact R.qq O Tryz.results90 (RV.cell 0 O O aP) (RV.tmp O) (congrArg ak.val (show (⟨0,0,0,0,0⟩:ak)=(derived x id r b).1 from by (((rw [fm (by omega)])) <;> rfl))) (rI (by (((rw [fm (by omega)])) <;> first|rfl|exact bX ‹_› | (simp;omega))))
   ·
    refine R.qg O (q.lss O O (decide_eq_false (by omega))) O<|R.u 3 O<|?_
    by_cases h4:99<b
    ·
     refine R.qg O (q.gtr O O (decide_eq_true (by omega))) O<|R.u 1 O<|R.nil ?_
     refine R.aE O O ?_
     refine R.reg O<|R.q (q.build (cs:=cC) eK O O) O<|R.s O (s.st (us:=cC) (cs':=cC) 0 _ O O O O (.inl aP) O O O O) fun _=>R.u 1 O<|R.nil ?_
     exact R.qq O Tryz.results90 (RV.cell 0 O O aP) (RV.tmp O) (congrArg ak.val (show (⟨0,0,0,0,0⟩:ak)=(derived x id r b).1 from by (((rw [fm (by omega)])) <;> rfl))) (rI (by (((rw [fm (by omega)])) <;> first|rfl|exact bX ‹_› | (simp;omega))))
    ·
     refine R.qg O (q.gtr O O (decide_eq_false (by omega))) O<|R.u 1 O<|R.nil ?_
     refine R.aF O O ?_
     refine R.reg O<|R.q (q.aT (off':=2) O fj O) O<|R.q (q.ld 1 O O aA O) O<|R.u 1 O<|?_
     rcases Bool.eq_false_or_eq_true (fF x.Rights r) with h5|h5
     ·
      refine R.c (q.call tY O O (fun w hw=>(cv (congrArg Value.bool h5) (lw (x.Rights) (r) w  (by omega) (by omega))))) O<|R.u 1 O<|R.nil ?_
      refine R.reg O<|R.u 4 O<|?_
      by_cases h6:b=0
      ·
       refine R.qg O (q.neq O O (bne_eq_false_iff_eq.2 (by omega))) O<|R.u 12 O<|R.nil ?_
       refine R.aF O O ?_
       refine R.reg O<|R.q (q.aT (off':=3) O ei O) O<|R.q (q.ld 1 O O aA O) O<|?_
       by_cases h7:x.aI=0
       ·
        refine R.q (q.neq O O (bne_eq_false_iff_eq.2 (by omega))) O<|R.nil ?_
        refine R.aF O O ?_
        refine R.reg O<|R.u 1 O<|R.q (q.aT (off':=1) O dw O) O<|R.q (q.ld 1 O O aA O) O<|R.u 2 O<|R.q (q.aT (off':=0) O bI O) O<|R.q (q.ld 1 O O aA O) O<|R.q (q.build (cs:=[iV id,iV x.ao,iV r,iV b,iV x.ID]) eK O O) O<|R.s O (s.st (us:=[iV id,iV x.ao,iV r,iV b,iV x.ID]) (cs':=[iV id,iV x.ao,iV r,iV b,iV x.ID]) 0 _ O O O O (.inl aP) O O O O) fun _=>R.u 1 O<|R.nil ?_
        exact R.qq O Tryz.results90 (RV.cell 0 O O aP) (RV.tmp O) (congrArg ak.val (show (⟨id,x.ao,r,b,x.ID⟩:ak)=(derived x id r b).1 from by (((rw [jG (by omega) ‹_› (by omega)])) <;> (simp;omega)))) (rI (by (((rw [jG (by omega) ‹_› (by omega)])) <;> first|rfl|exact bX ‹_› | (simp;omega))))
       ·
        refine R.q (q.neq O O (bne_iff_ne.2 (by omega))) O<|R.nil ?_
        refine R.aE O O ?_
        refine R.reg O<|R.q (q.aT (off':=3) O ei O) O<|R.q (q.ld 1 O O aA O) O<|R.u 1 O<|R.nil ?_
        refine R.reg O<|R.u 1 O<|R.q (q.aT (off':=1) O dw O) O<|R.q (q.ld 1 O O aA O) O<|R.u 2 O<|R.q (q.aT (off':=0) O bI O) O<|R.q (q.ld 1 O O aA O) O<|R.q (q.build (cs:=[iV id,iV x.ao,iV r,iV x.aI,iV x.ID]) eK O O) O<|R.s O (s.st (us:=[iV id,iV x.ao,iV r,iV x.aI,iV x.ID]) (cs':=[iV id,iV x.ao,iV r,iV x.aI,iV x.ID]) 0 _ O O O O (.inl aP) O O O O) fun _=>R.u 1 O<|R.nil ?_
        exact R.qq O Tryz.results90 (RV.cell 0 O O aP) (RV.tmp O) (congrArg ak.val (show (⟨id,x.ao,r,x.aI,x.ID⟩:ak)=(derived x id r b).1 from by (((rw [iE (by omega) ‹_› (by omega) (by omega)])) <;> first|rfl|exact bX ‹_› | (simp;omega)))) (rI (by (((rw [iE (by omega) ‹_› (by omega) (by omega)])) <;> first|rfl|exact bX ‹_› | (simp;omega))))
      ·
       refine R.qg O (q.neq O O (bne_iff_ne.2 (by omega))) O<|R.u 1 O<|R.qg O (q.aT (off':=3) O ei O) O<|R.qg O (q.ld 1 O O aA O) O<|?_
       by_cases h8:x.aI=0
       ·
        refine R.qg O (q.neq O O (bne_eq_false_iff_eq.2 (by omega))) O<|R.u 8 O<|R.nil ?_
        refine R.aF O O ?_
        refine R.reg O<|R.q (q.aT (off':=3) O ei O) O<|R.q (q.ld 1 O O aA O) O<|R.q (q.neq O O (bne_eq_false_iff_eq.2 (by omega))) O<|R.nil ?_
        refine R.aF O O ?_
        refine R.reg O<|R.u 1 O<|R.q (q.aT (off':=1) O dw O) O<|R.q (q.ld 1 O O aA O) O<|R.u 2 O<|R.q (q.aT (off':=0) O bI O) O<|R.q (q.ld 1 O O aA O) O<|R.q (q.build (cs:=[iV id,iV x.ao,iV r,iV b,iV x.ID]) eK O O) O<|R.s O (s.st (us:=[iV id,iV x.ao,iV r,iV b,iV x.ID]) (cs':=[iV id,iV x.ao,iV r,iV b,iV x.ID]) 0 _ O O O O (.inl aP) O O O O) fun _=>R.u 1 O<|R.nil ?_
        exact R.qq O Tryz.results90 (RV.cell 0 O O aP) (RV.tmp O) (congrArg ak.val (show (⟨id,x.ao,r,b,x.ID⟩:ak)=(derived x id r b).1 from by (((rw [jH (by omega) ‹_› (by omega) (by omega)])) <;> first|rfl|exact bX ‹_› | (simp;omega)))) (rI (by (((rw [jH (by omega) ‹_› (by omega) (by omega)])) <;> first|rfl|exact bX ‹_› | (simp;omega))))
       ·
        refine R.qg O (q.neq O O (bne_iff_ne.2 (by omega))) O<|R.u 3 O<|R.qg O (q.aT (off':=3) O ei O) O<|R.qg O (q.ld 1 O O aA O) O<|?_
        by_cases h9:b=x.aI
        ·
         refine R.qg O (q.neq O O (bne_eq_false_iff_eq.2 (by omega))) O<|R.u 2 O<|R.nil ?_
         refine R.aF O O ?_
         refine R.reg O<|R.q (q.aT (off':=3) O ei O) O<|R.q (q.ld 1 O O aA O) O<|R.q (q.neq O O (bne_iff_ne.2 (by omega))) O<|R.nil ?_
         refine R.aE O O ?_
         refine R.reg O<|R.q (q.aT (off':=3) O ei O) O<|R.q (q.ld 1 O O aA O) O<|R.u 1 O<|R.nil ?_
         refine R.reg O<|R.u 1 O<|R.q (q.aT (off':=1) O dw O) O<|R.q (q.ld 1 O O aA O) O<|R.u 2 O<|R.q (q.aT (off':=0) O bI O) O<|R.q (q.ld 1 O O aA O) O<|R.q (q.build (cs:=[iV id,iV x.ao,iV r,iV x.aI,iV x.ID]) eK O O) O<|R.s O (s.st (us:=[iV id,iV x.ao,iV r,iV x.aI,iV x.ID]) (cs':=[iV id,iV x.ao,iV r,iV x.aI,iV x.ID]) 0 _ O O O O (.inl aP) O O O O) fun _=>R.u 1 O<|R.nil ?_
         exact R.qq O Tryz.results90 (RV.cell 0 O O aP) (RV.tmp O) (congrArg ak.val (show (⟨id,x.ao,r,x.aI,x.ID⟩:ak)=(derived x id r b).1 from by (((rw [iE (by omega) ‹_› (by omega) (by omega)])) <;> first|rfl|exact bX ‹_› | (simp;omega)))) (rI (by (((rw [iE (by omega) ‹_› (by omega) (by omega)])) <;> first|rfl|exact bX ‹_› | (simp;omega))))
        ·
         refine R.qg O (q.neq O O (bne_iff_ne.2 (by omega))) O<|R.u 2 O<|R.nil ?_
         refine R.aE O O ?_
         refine R.reg O<|R.q (q.build (cs:=cC) eK O O) O<|R.s O (s.st (us:=cC) (cs':=cC) 0 _ O O O O (.inl aP) O O O O) fun _=>R.u 1 O<|R.nil ?_
         exact R.qq O Tryz.results90 (RV.cell 0 O O aP) (RV.tmp O) (congrArg ak.val (show (⟨0,0,0,0,0⟩:ak)=(derived x id r b).1 from by (((rw [lv (by omega) ‹_› (by omega)])) <;> rfl))) (rI (by (((rw [lv (by omega) ‹_› (by omega)])) <;> first|rfl|exact bX ‹_› | (simp;omega))))
     ·
      refine R.c (q.call tY O O (fun w hw=>(cv (congrArg Value.bool h5) (lw (x.Rights) (r) w  (by omega) (by omega))))) O<|R.u 1 O<|R.nil ?_
      refine R.reg O<|R.u 17 O<|R.nil ?_
      refine R.aE O O ?_
      refine R.reg O<|R.q (q.build (cs:=cC) eK O O) O<|R.s O (s.st (us:=cC) (cs':=cC) 0 _ O O O O (.inl aP) O O O O) fun _=>R.u 1 O<|R.nil ?_
      exact R.qq O Tryz.results90 (RV.cell 0 O O aP) (RV.tmp O) (congrArg ak.val (show (⟨0,0,0,0,0⟩:ak)=(derived x id r b).1 from by (((rw [lu (by omega) ‹_›])) <;> rfl))) (rI (by (((rw [lu (by omega) ‹_›])) <;> first|rfl|exact bX ‹_› | (simp;omega))))
theorem vv (x:ak)(id:Int)(Bj:Nat)(w:World)(Hz:(ag.box Bj [iV id] 3).ok w):Calls Tryz.prog 114 #[.agg #[iV x.ID,iV x.ao,iV x.Rights,iV x.aI,iV x.From],.pointer (some ⟨Bj,0,none⟩)] w fun e w'=>e = .returned (.bool (x.ID==id))∧Ext w w':=by
 refine R.enter (n:=8) (vs:=[.agg #[iV x.ID,iV x.ao,iV x.Rights,iV x.aI,iV x.From],.pointer (some ⟨Bj,0,none⟩)]) [] [(0,.agg #[iV x.ID,iV x.ao,iV x.Rights,iV x.aI,iV x.From]),(1,.pointer (some ⟨Bj,0,none⟩))] Tryz.func114 O O O O ?_
 refine R.qd (r:=ag.box Bj [iV id] 3) Hz (nJ Hz) ?_
 refine R.reg O<|R.s O (s.box (cs:=ay x) O O O) fun b1=>R.u 1 O<|R.nil ?_
 refine R.reg O<|R.q (q.aT (off':=0) O bI O) O<|R.q (q.ld 0 O O aA O) O<|R.q (q.Gg 0 O O aA O) O<|?_
 by_cases h1:x.ID=id
 ·
  refine R.q (q.eql O O (beq_iff_eq.2 (by omega))) O<|R.u 1 O<|R.nil ?_
  exact R.rv O Tryz.results114 O (rB (by (exact (beq_iff_eq.2 ‹_›).symm)))
 ·
  refine R.q (q.eql O O (beq_eq_false_iff_ne.2 (by omega))) O<|R.u 1 O<|R.nil ?_
  exact R.rv O Tryz.results114 O (rB (by (exact (beq_eq_false_iff_ne.2 ‹_›).symm)))
theorem jK (bG:Value)(l:List ak)(p:ak→Bool)(Ft:Nat)(HB:List Value)(HD:∀args w,(callFunc Ft args).run Tryz.prog w = .ok (.enter Ft args) w)(w:World)(df:Sl w bG l)(Ji:∀W (x1:ak),Ext w W→Calls Tryz.prog Ft ([x1.val]++HB).toArray W fun e w'=>e = .returned (.bool (p x1))∧Ext W w'):Calls Tryz.prog 113 #[bG,.func (.func Ft) #[] HB.toArray] w fun e w'=>e = .returned (iV (idxOf p l))∧Ext w w':=by
 have pV:=df.ec
 refine R.enter (n:=19) (vs:=[bG,.func (.func Ft) #[] HB.toArray]) [] [(0,bG),(1,.func (.func Ft) #[] HB.toArray)] Tryz.func113 O O O O ?_
 refine R.reg O<|R.u 1 O<|R.nil ?_
 refine R.reg O<|R.u 1 O<|R.q (q.len' (fun _=>Wd.old df) O Tryz.underlying27) O<|R.u 1 O<|R.nil ?_
 refine R.loop (fun k:Nat=>[(0,bG),(1,.func (.func Ft) #[] HB.toArray),(7,iV (l.length:Int)),(8,iV (k:Int))]) (fun k:Nat=>[]) (fun k:Nat=>[]) (fun k:Nat=>k≤l.length ∧ ∀ (j:Nat) x,j<k→l[j]? = some x→p x=false) (fun k:Nat=>l.length-k) 0 O (by exact ⟨by omega,fun j x hj=>absurd hj (Nat.not_lt_zero _)⟩) ⟨rfl,rfl,rfl,rfl,trivial⟩ (fun _=>Wd.pick [] [] O O O) ?_
 rintro k ⟨hk,HA⟩
 refine R.reg O<|?_
 by_cases h1:k<l.length
 ·
  refine R.q (q.lss O O (decide_eq_true (by omega))) O<|R.nil ?_
  refine R.aE O O ?_
  refine R.reg O<|R.u 2 O<|R.nil ?_
  refine R.reg O<|R.u 3 O<|?_
  obtain ⟨x1,hx1⟩:∃z,l[k]? = some z:=⟨_,List.getElem?_eq_getElem (by omega)⟩
  refine R.q (q.idx (i:=k) (fun _=>Wd.old df) O O cK O hx1) O<|R.q (q.cY (ds:=ay x1) (fun _=>Wd.old df) hx1 O aP O) O<|?_
  rcases Bool.eq_false_or_eq_true (p x1) with h2|h2
  ·
   refine R.c (q.call HD O O (fun w hw=>cv (congrArg Value.bool h2) (Ji w x1 hw.ext))) O<|R.nil ?_
   refine R.aE O O ?_
   refine R.reg O<|R.u 2 O<|R.nil ?_
   exact R.rv O Tryz.results113 O (rI (by (exact (idxOf_hit hx1 ‹_› HA).symm)))
  ·
   refine R.c (q.call HD O O (fun w hw=>cv (congrArg Value.bool h2) (Ji w x1 hw.ext))) O<|R.nil ?_
   refine R.aF O O ?_
   refine R.reg O<|R.q (q.add (r:=((k+1:Nat):Int)) O O (wr (by omega))) O<|R.u 1 O<|R.nil ?_
   refine R.back (k+1) O (by (exact ⟨by omega,hG HA hx1 ‹_›⟩)) (by omega) ⟨rfl,rfl,rfl,rfl,trivial⟩ (fun _=>Wd.pick [] [] O O O)
 ·
  refine R.q (q.lss O O (decide_eq_false (by omega))) O<|R.nil ?_
  refine R.aF O O ?_
  refine R.reg O<|R.u 1 O<|R.nil ?_
  exact R.rv O Tryz.results113 O (rI (by (exact (idxOf_miss ‹_› HA).symm)))
theorem f4 (bG:Value)(l:List ak)(id:Int)(w:World)(df:Sl w bG l):Calls Tryz.prog 65 #[bG,iV id] w fun e w'=>e = .returned (iV (cB l id))∧Ext w w':=by
 have pV:=df.ec
 refine R.enter (n:=8) (vs:=[bG,iV id]) [] [(0,bG),(1,iV id)] Tryz.func65 O O O O ?_
 refine R.reg O<|R.s O (s.box (cs:=[iV id]) O O O) fun b1=>R.u 1 O<|R.nil ?_
 refine R.reg O<|R.u 1 O<|R.q (q.Gf (cap:=[.pointer (some ⟨b1,0,none⟩)]) O O) O<|R.c (q.call wU O O (fun w hw=>(jK _ (l) (fun (x:ak)=>x.ID==id) _ _ Fe w ((fun _=>Wd.old df) w hw) (fun W x hW=>vv x (id) _ W (ot (hw.b 0 O) hW) ) ))) O<|R.u 1 O<|R.nil ?_
 exact R.rv O Tryz.results65 O (rI (by (rfl)))
theorem fB (bG:Value)(l:List ak)(id:Int)(w:World)(df:Sl w bG l):Calls Tryz.prog 101 #[bG,iV id] w fun e w'=>e = .returned (iV (cB l id))∧Ext w w':=by
 have pV:=df.ec
 refine R.enter (n:=20) (vs:=[bG,iV id]) [] [(0,bG),(1,iV id)] Tryz.func101 O O O O ?_
 refine R.reg O<|R.u 1 O<|R.nil ?_
 refine R.reg O<|R.u 1 O<|R.nil ?_
 refine R.loop (fun k:Nat=>[(0,bG),(1,iV id),(5,iV (k:Int))]) (fun k:Nat=>[]) (fun k:Nat=>[]) (fun k:Nat=>k≤l.length ∧ ∀ (j:Nat) x,j<k→l[j]? = some x→(x.ID==id)=false) (fun k:Nat=>l.length-k) 0 O (by exact ⟨by omega,fun j x hj=>absurd hj (Nat.not_lt_zero _)⟩) ⟨rfl,rfl,rfl,trivial⟩ (fun _=>Wd.pick [] [] O O O) ?_
 rintro k ⟨hk,HA⟩
 refine R.reg O<|R.u 2 O<|R.q (q.len' (fun _=>Wd.old df) O Tryz.underlying27) O<|?_
 by_cases h1:k<l.length
 ·
  refine R.q (q.lss O O (decide_eq_true (by omega))) O<|R.nil ?_
  refine R.aE O O ?_
  refine R.reg O<|R.u 2 O<|?_
  obtain ⟨x1,hx1⟩:∃z,l[k]? = some z:=⟨_,List.getElem?_eq_getElem (by omega)⟩
  refine R.q (q.idx (i:=k) (fun _=>Wd.old df) O O cK O hx1) O<|R.q (q.dF (j':=0) (fun _=>Wd.old df) hx1 O bI O) O<|R.q (q.fb (fun _=>Wd.old df) hx1 O aA O) O<|R.u 1 O<|?_
  by_cases h2:x1.ID=id
  ·
   refine R.q (q.eql O O (beq_iff_eq.2 (by omega))) O<|R.nil ?_
   refine R.aE O O ?_
   refine R.reg O<|R.u 2 O<|R.nil ?_
   exact R.rv O Tryz.results101 O (rI (by (rw [s7];exact (idxOf_hit (p:=fun x=>x.ID==id) hx1 (beq_iff_eq.2 h2) HA).symm)))
  ·
   refine R.q (q.eql O O (beq_eq_false_iff_ne.2 (by omega))) O<|R.nil ?_
   refine R.aF O O ?_
   refine R.reg O<|R.u 1 O<|R.q (q.add (r:=((k+1:Nat):Int)) O O (wr (by omega))) O<|R.u 1 O<|R.nil ?_
   refine R.back (k+1) O (by (exact ⟨by omega,hG (p:=fun x=>x.ID==id) HA hx1 (beq_eq_false_iff_ne.2 h2)⟩)) (by omega) ⟨rfl,rfl,rfl,trivial⟩ (fun _=>Wd.pick [] [] O O O)
 ·
  refine R.q (q.lss O O (decide_eq_false (by omega))) O<|R.nil ?_
  refine R.aF O O ?_
  refine R.reg O<|R.u 1 O<|R.nil ?_
  exact R.rv O Tryz.results101 O (rI (by (rw [s7];exact (idxOf_miss h1 HA).symm)))
end Go.Proofs.YtbkfhjaibhnkmaaGreatDoor
