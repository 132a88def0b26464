import Derived.Test.YtbkfhjaibhnkmaaGreatDoorTRP13
import Derived.Test.YtbkfhjaibhnkmaaGreatDoorTRP16
namespace Go.Proofs.YtbkfhjaibhnkmaaGreatDoor
open Go Go.RowKit
set_option linter.unusedVariables false
set_option maxRecDepth 100000
theorem jC (r:Int)(w:World)  : Calls Tryz.prog 112 #[.int .i64 r] w fun e w'=>e = .returned (eG (bW r))∧Ext w w':=by
  refine R.enter (n:=10) (vs:=[.int .i64 r]) [] [(0,.int .i64 r)] Tryz.func112 rfl rfl rfl rfl ?_
  refine R.reg rfl<|R.u 1 rfl<|R.nil ?_
  refine R.reg rfl<|R.u 1 rfl<|?_
  by_cases h1:r<0
  ·
    refine R.q (q.lss rfl rfl (decide_eq_true (by omega))) rfl<|R.u 4 rfl<|R.nil ?_
    refine R.aE rfl rfl ?_
    refine R.reg rfl<|R.q (q.iface rfl bz) rfl<|R.u 1 rfl<|R.nil ?_
    exact R.rv rfl Tryz.results112 rfl (dC (by decide) (by (first|exact fJ (by omega)|exact dz (by omega) (by omega))))
  ·
    refine R.q (q.lss rfl rfl (decide_eq_false (by omega))) rfl<|R.u 2 rfl<|?_
    by_cases h2:7<r
    ·
      refine R.qg rfl (q.gtr rfl rfl (decide_eq_true (by omega))) rfl<|R.u 1 rfl<|R.nil ?_
      refine R.aE rfl rfl ?_
      refine R.reg rfl<|R.q (q.iface rfl bz) rfl<|R.u 1 rfl<|R.nil ?_
      exact R.rv rfl Tryz.results112 rfl (dC (by decide) (by (first|exact fJ (by omega)|exact dz (by omega) (by omega))))
    ·
      refine R.qg rfl (q.gtr rfl rfl (decide_eq_false (by omega))) rfl<|R.u 1 rfl<|R.nil ?_
      refine R.aH rfl rfl ?_
      refine R.reg rfl<|R.u 1 rfl<|R.nil ?_
      exact R.rv rfl Tryz.results112 rfl (gj (by (first|exact fJ (by omega)|exact dz (by omega) (by omega))))
theorem eh (r:Int)(n:Int)(w:World)(r0:0≤r∧r≤7)(n0:0≤n∧n≤7):Calls Tryz.prog 73 #[.int .i64 r,.int .i64 n] w fun e w'=>e = .returned (.bool (eY r n))∧Ext w w':=by
  refine R.enter (n:=10) (vs:=[.int .i64 r,.int .i64 n]) [] [(0,.int .i64 r),(1,.int .i64 n)] Tryz.func73 rfl rfl rfl rfl ?_
  refine R.reg rfl<|R.u 1 rfl<|R.nil ?_
  refine R.reg rfl<|R.u 2 rfl<|R.q (q.and rfl rfl rfl) rfl<|R.u 1 rfl<|?_
  by_cases h1:(bits .and .i64 r n)=n
  ·
    refine R.q (q.eql rfl rfl (beq_iff_eq.2 (by omega))) rfl<|R.u 1 rfl<|R.nil ?_
    exact R.rv rfl Tryz.results73 rfl (rB (by (exact sA r0.1 r0.2 n0.1 n0.2 (by first|exact beq_iff_eq.2 (by assumption)|exact beq_eq_false_iff_ne.2 (by assumption)))))
  ·
    refine R.q (q.eql rfl rfl (beq_eq_false_iff_ne.2 (by omega))) rfl<|R.u 1 rfl<|R.nil ?_
    exact R.rv rfl Tryz.results73 rfl (rB (by (exact sA r0.1 r0.2 n0.1 n0.2 (by first|exact beq_iff_eq.2 (by assumption)|exact beq_eq_false_iff_ne.2 (by assumption)))))
theorem nS (x:ak)(w:World)  : Calls Tryz.prog 64 #[.agg #[.int .i64 x.ID,.int .i64 x.ai,.int .i64 x.Rights,.int .i64 x.ar,.int .i64 x.From]] w fun e w'=>e = .returned (eG (bB x))∧Ext w w':=by
  refine R.enter (n:=47) (vs:=[.agg #[.int .i64 x.ID,.int .i64 x.ai,.int .i64 x.Rights,.int .i64 x.ar,.int .i64 x.From]]) [] [(0,.agg #[.int .i64 x.ID,.int .i64 x.ai,.int .i64 x.Rights,.int .i64 x.ar,.int .i64 x.From])] Tryz.func64 rfl rfl rfl rfl ?_
  refine R.reg rfl<|?_
  refine R.s rfl (s.box (cs:=[.int .i64 x.ID,.int .i64 x.ai,.int .i64 x.Rights,.int .i64 x.ar,.int .i64 x.From]) rfl rfl rfl) fun b1=>?_
  refine R.u 1 rfl<|R.nil ?_
  refine R.reg rfl<|R.q (q.aX (off':=0) rfl bu rfl) rfl<|R.q (q.ld 0 rfl rfl aA rfl) rfl<|?_
  by_cases h1:x.ID<1
  ·
    refine R.q (q.lss rfl rfl (decide_eq_true (by omega))) rfl<|R.u 37 rfl<|R.nil ?_
    refine R.aE rfl rfl ?_
    refine R.reg rfl<|R.q (q.iface rfl bz) rfl<|R.u 1 rfl<|R.nil ?_
    exact R.rv rfl Tryz.results64 rfl (dC (by decide) (by (first|exact cT (by omega)|exact (cW (by omega)).symm)))
  ·
    refine R.q (q.lss rfl rfl (decide_eq_false (by omega))) rfl<|R.u 1 rfl<|R.qg rfl (q.aX (off':=0) rfl bu rfl) rfl<|R.qg rfl (q.ld 0 rfl rfl aA rfl) rfl<|?_
    by_cases h2:999<x.ID
    ·
      refine R.qg rfl (q.gtr rfl rfl (decide_eq_true (by omega))) rfl<|R.u 33 rfl<|R.nil ?_
      refine R.aE rfl rfl ?_
      refine R.reg rfl<|R.q (q.iface rfl bz) rfl<|R.u 1 rfl<|R.nil ?_
      exact R.rv rfl Tryz.results64 rfl (dC (by decide) (by (first|exact cT (by omega)|exact (cW (by omega)).symm)))
    ·
      refine R.qg rfl (q.gtr rfl rfl (decide_eq_false (by omega))) rfl<|R.u 2 rfl<|R.qg rfl (q.aX (off':=1) rfl eB rfl) rfl<|R.qg rfl (q.ld 0 rfl rfl aA rfl) rfl<|?_
      by_cases h3:x.ai<1
      ·
        refine R.qg rfl (q.lss rfl rfl (decide_eq_true (by omega))) rfl<|R.u 28 rfl<|R.nil ?_
        refine R.aE rfl rfl ?_
        refine R.reg rfl<|R.q (q.iface rfl bz) rfl<|R.u 1 rfl<|R.nil ?_
        exact R.rv rfl Tryz.results64 rfl (dC (by decide) (by (first|exact cT (by omega)|exact (cW (by omega)).symm)))
      ·
        refine R.qg rfl (q.lss rfl rfl (decide_eq_false (by omega))) rfl<|R.u 2 rfl<|R.qg rfl (q.aX (off':=1) rfl eB rfl) rfl<|R.qg rfl (q.ld 0 rfl rfl aA rfl) rfl<|?_
        by_cases h4:999<x.ai
        ·
          refine R.qg rfl (q.gtr rfl rfl (decide_eq_true (by omega))) rfl<|R.u 23 rfl<|R.nil ?_
          refine R.aE rfl rfl ?_
          refine R.reg rfl<|R.q (q.iface rfl bz) rfl<|R.u 1 rfl<|R.nil ?_
          exact R.rv rfl Tryz.results64 rfl (dC (by decide) (by (first|exact cT (by omega)|exact (cW (by omega)).symm)))
        ·
          refine R.qg rfl (q.gtr rfl rfl (decide_eq_false (by omega))) rfl<|R.u 2 rfl<|R.qg rfl (q.aX (off':=3) rfl fA rfl) rfl<|R.qg rfl (q.ld 0 rfl rfl aA rfl) rfl<|?_
          by_cases h5:x.ar<0
          ·
            refine R.qg rfl (q.lss rfl rfl (decide_eq_true (by omega))) rfl<|R.u 18 rfl<|R.nil ?_
            refine R.aE rfl rfl ?_
            refine R.reg rfl<|R.q (q.iface rfl bz) rfl<|R.u 1 rfl<|R.nil ?_
            exact R.rv rfl Tryz.results64 rfl (dC (by decide) (by (first|exact cT (by omega)|exact (cW (by omega)).symm)))
          ·
            refine R.qg rfl (q.lss rfl rfl (decide_eq_false (by omega))) rfl<|R.u 2 rfl<|R.qg rfl (q.aX (off':=3) rfl fA rfl) rfl<|R.qg rfl (q.ld 0 rfl rfl aA rfl) rfl<|?_
            by_cases h6:99<x.ar
            ·
              refine R.qg rfl (q.gtr rfl rfl (decide_eq_true (by omega))) rfl<|R.u 13 rfl<|R.nil ?_
              refine R.aE rfl rfl ?_
              refine R.reg rfl<|R.q (q.iface rfl bz) rfl<|R.u 1 rfl<|R.nil ?_
              exact R.rv rfl Tryz.results64 rfl (dC (by decide) (by (first|exact cT (by omega)|exact (cW (by omega)).symm)))
            ·
              refine R.qg rfl (q.gtr rfl rfl (decide_eq_false (by omega))) rfl<|R.u 2 rfl<|R.qg rfl (q.aX (off':=4) rfl dP rfl) rfl<|R.qg rfl (q.ld 0 rfl rfl aA rfl) rfl<|?_
              by_cases h7:x.From<0
              ·
                refine R.qg rfl (q.lss rfl rfl (decide_eq_true (by omega))) rfl<|R.u 8 rfl<|R.nil ?_
                refine R.aE rfl rfl ?_
                refine R.reg rfl<|R.q (q.iface rfl bz) rfl<|R.u 1 rfl<|R.nil ?_
                exact R.rv rfl Tryz.results64 rfl (dC (by decide) (by (first|exact cT (by omega)|exact (cW (by omega)).symm)))
              ·
                refine R.qg rfl (q.lss rfl rfl (decide_eq_false (by omega))) rfl<|R.u 2 rfl<|R.qg rfl (q.aX (off':=4) rfl dP rfl) rfl<|R.qg rfl (q.ld 0 rfl rfl aA rfl) rfl<|R.qg rfl (q.aX (off':=0) rfl bu rfl) rfl<|R.qg rfl (q.ld 0 rfl rfl aA rfl) rfl<|?_
                by_cases h8:x.From<x.ID
                ·
                  refine R.qg rfl (q.geq rfl rfl (decide_eq_false (by omega))) rfl<|R.u 1 rfl<|R.nil ?_
                  refine R.aH rfl rfl ?_
                  refine R.reg rfl<|R.q (q.aX (off':=2) rfl fy rfl) rfl<|R.q (q.ld 0 rfl rfl aA rfl) rfl<|R.c (q.call uH rfl rfl (fun w hw=>(jC (x.Rights) w  ))) rfl<|R.u 1 rfl<|R.nil ?_
                  exact R.rv rfl Tryz.results64 rfl (rE (by (first|exact cT (by omega)|exact (cW (by omega)).symm)))
                ·
                  refine R.qg rfl (q.geq rfl rfl (decide_eq_true (by omega))) rfl<|R.u 1 rfl<|R.nil ?_
                  refine R.aE rfl rfl ?_
                  refine R.reg rfl<|R.q (q.iface rfl bz) rfl<|R.u 1 rfl<|R.nil ?_
                  exact R.rv rfl Tryz.results64 rfl (dC (by decide) (by (first|exact cT (by omega)|exact (cW (by omega)).symm)))
theorem gO (x:ak)(id:Int)(r:Int)(b:Int)(w:World)(x0:0≤x.Rights∧x.Rights≤7):Calls Tryz.prog 66 #[.agg #[.int .i64 x.ID,.int .i64 x.ai,.int .i64 x.Rights,.int .i64 x.ar,.int .i64 x.From],.int .i64 id,.int .i64 r,.int .i64 b] w fun e w'=>e = .returned (.tuple #[ak.val ((derived x id r b).1),eG ((derived x id r b).2)])∧Ext w w':=by
  refine R.enter (n:=63) (vs:=[.agg #[.int .i64 x.ID,.int .i64 x.ai,.int .i64 x.Rights,.int .i64 x.ar,.int .i64 x.From],.int .i64 id,.int .i64 r,.int .i64 b]) [] [(0,.agg #[.int .i64 x.ID,.int .i64 x.ai,.int .i64 x.Rights,.int .i64 x.ar,.int .i64 x.From]),(1,.int .i64 id),(2,.int .i64 r),(3,.int .i64 b)] Tryz.func66 rfl rfl rfl rfl ?_
  refine R.reg rfl<|?_
  refine R.s rfl (s.box (cs:=[.int .i64 x.ID,.int .i64 x.ai,.int .i64 x.Rights,.int .i64 x.ar,.int .i64 x.From]) rfl rfl rfl) fun b1=>?_
  refine R.s rfl (s.alloc (cs:=[.int .i64 0,.int .i64 0,.int .i64 0,.int .i64 0,.int .i64 0]) br rfl rfl) fun b2=>?_
  refine R.u 1 rfl<|R.nil ?_
  refine R.reg rfl<|R.u 1 rfl<|R.c (q.call uH rfl rfl (fun w hw=>(jC (r) w  ))) rfl<|R.u 1 rfl<|R.nil ?_
  refine R.reg rfl<|R.u 1 rfl<|?_
  by_cases h1:bW r=0
  ·
    refine R.q (q.fa rfl rfl Tryz.underlying35 (by omega)) rfl<|R.u 1 rfl<|R.nil ?_
    refine R.aH rfl rfl ?_
    have hr:=ji (by assumption)
    refine R.reg rfl<|R.u 1 rfl<|?_
    by_cases h2:b<0
    ·
      refine R.q (q.lss rfl rfl (decide_eq_true (by omega))) rfl<|R.u 5 rfl<|R.nil ?_
      refine R.aE rfl rfl ?_
      refine R.reg rfl<|R.q (q.build (cs:=[.int .i64 0,.int .i64 0,.int .i64 0,.int .i64 0,.int .i64 0]) gk rfl rfl) rfl<|R.q (q.iface rfl bz) rfl<|?_
      refine R.s rfl (s.st (us:=[.int .i64 0,.int .i64 0,.int .i64 0,.int .i64 0,.int .i64 0]) (cs':=[.int .i64 0,.int .i64 0,.int .i64 0,.int .i64 0,.int .i64 0]) 0 _ rfl rfl rfl rfl (.inl aN) rfl rfl rfl rfl) fun _=>?_
      refine R.u 1 rfl<|R.nil ?_
      exact R.uu rfl Tryz.results66 (RV.cell 0 rfl rfl aN) (RV.tmp rfl) (congrArg ak.val (show (⟨0,0,0,0,0⟩:ak)=(derived x id r b).1 from by ((first|(rw [cm (by assumption)])|(rw [cZ (by omega)])|(rw [cy (by omega) (by assumption)])|(rw [cz (by omega) (by assumption) (by omega)])|(rw [cB (by omega) (by assumption) (by omega) (by omega)])|(rw [cq (by omega) (by assumption) (by omega) (by omega)])|(rw [cp (by omega) (by assumption) (by omega)])) <;> first|rfl|exact bF (by assumption)|(simp;omega)))) (dC (by decide) (by ((first|(rw [cm (by assumption)])|(rw [cZ (by omega)])|(rw [cy (by omega) (by assumption)])|(rw [cz (by omega) (by assumption) (by omega)])|(rw [cB (by omega) (by assumption) (by omega) (by omega)])|(rw [cq (by omega) (by assumption) (by omega) (by omega)])|(rw [cp (by omega) (by assumption) (by omega)])) <;> first|rfl|exact bF (by assumption)|(simp;omega))))
    ·
      refine R.q (q.lss rfl rfl (decide_eq_false (by omega))) rfl<|R.u 2 rfl<|?_
      by_cases h3:99<b
      ·
        refine R.qg rfl (q.gtr rfl rfl (decide_eq_true (by omega))) rfl<|R.u 2 rfl<|R.nil ?_
        refine R.aE rfl rfl ?_
        refine R.reg rfl<|R.q (q.build (cs:=[.int .i64 0,.int .i64 0,.int .i64 0,.int .i64 0,.int .i64 0]) gk rfl rfl) rfl<|R.q (q.iface rfl bz) rfl<|?_
        refine R.s rfl (s.st (us:=[.int .i64 0,.int .i64 0,.int .i64 0,.int .i64 0,.int .i64 0]) (cs':=[.int .i64 0,.int .i64 0,.int .i64 0,.int .i64 0,.int .i64 0]) 0 _ rfl rfl rfl rfl (.inl aN) rfl rfl rfl rfl) fun _=>?_
        refine R.u 1 rfl<|R.nil ?_
        exact R.uu rfl Tryz.results66 (RV.cell 0 rfl rfl aN) (RV.tmp rfl) (congrArg ak.val (show (⟨0,0,0,0,0⟩:ak)=(derived x id r b).1 from by ((first|(rw [cm (by assumption)])|(rw [cZ (by omega)])|(rw [cy (by omega) (by assumption)])|(rw [cz (by omega) (by assumption) (by omega)])|(rw [cB (by omega) (by assumption) (by omega) (by omega)])|(rw [cq (by omega) (by assumption) (by omega) (by omega)])|(rw [cp (by omega) (by assumption) (by omega)])) <;> first|rfl|exact bF (by assumption)|(simp;omega)))) (dC (by decide) (by ((first|(rw [cm (by assumption)])|(rw [cZ (by omega)])|(rw [cy (by omega) (by assumption)])|(rw [cz (by omega) (by assumption) (by omega)])|(rw [cB (by omega) (by assumption) (by omega) (by omega)])|(rw [cq (by omega) (by assumption) (by omega) (by omega)])|(rw [cp (by omega) (by assumption) (by omega)])) <;> first|rfl|exact bF (by assumption)|(simp;omega))))
      ·
        refine R.qg rfl (q.gtr rfl rfl (decide_eq_false (by omega))) rfl<|R.u 2 rfl<|R.nil ?_
        refine R.aH rfl rfl ?_
        refine R.reg rfl<|R.q (q.aX (off':=2) rfl fy rfl) rfl<|R.q (q.ld 1 rfl rfl aA rfl) rfl<|R.u 1 rfl<|?_
        rcases Bool.eq_false_or_eq_true (eY x.Rights r) with h4|h4
        ·
          refine R.c (q.call lX rfl rfl (fun w hw=>(cv (congrArg Value.bool h4) (eh (x.Rights) (r) w  (by omega) (by omega))))) rfl<|R.u 2 rfl<|R.nil ?_
          refine R.aH rfl rfl ?_
          refine R.reg rfl<|R.u 1 rfl<|?_
          by_cases h5:b=0
          ·
            refine R.q (q.neq rfl rfl (bne_eq_false_iff_eq.2 (by omega))) rfl<|R.u 12 rfl<|R.nil ?_
            refine R.aH rfl rfl ?_
            refine R.reg rfl<|R.u 1 rfl<|R.q (q.eql rfl rfl (beq_iff_eq.2 (by omega))) rfl<|R.nil ?_
            refine R.aE rfl rfl ?_
            refine R.reg rfl<|R.q (q.aX (off':=3) rfl fA rfl) rfl<|R.q (q.ld 1 rfl rfl aA rfl) rfl<|R.u 1 rfl<|R.nil ?_
            refine R.reg rfl<|R.u 1 rfl<|R.q (q.aX (off':=1) rfl eB rfl) rfl<|R.q (q.ld 1 rfl rfl aA rfl) rfl<|R.u 2 rfl<|R.q (q.aX (off':=0) rfl bu rfl) rfl<|R.q (q.ld 1 rfl rfl aA rfl) rfl<|R.q (q.build (cs:=[.int .i64 id,.int .i64 x.ai,.int .i64 r,.int .i64 x.ar,.int .i64 x.ID]) gk rfl rfl) rfl<|?_
            refine R.s rfl (s.st (us:=[.int .i64 id,.int .i64 x.ai,.int .i64 r,.int .i64 x.ar,.int .i64 x.ID]) (cs':=[.int .i64 id,.int .i64 x.ai,.int .i64 r,.int .i64 x.ar,.int .i64 x.ID]) 0 _ rfl rfl rfl rfl (.inl aN) rfl rfl rfl rfl) fun _=>?_
            refine R.u 1 rfl<|R.nil ?_
            exact R.uu rfl Tryz.results66 (RV.cell 0 rfl rfl aN) (RV.tmp rfl) (congrArg ak.val (show (⟨id,x.ai,r,x.ar,x.ID⟩:ak)=(derived x id r b).1 from by ((first|(rw [cm (by assumption)])|(rw [cZ (by omega)])|(rw [cy (by omega) (by assumption)])|(rw [cz (by omega) (by assumption) (by omega)])|(rw [cB (by omega) (by assumption) (by omega) (by omega)])|(rw [cq (by omega) (by assumption) (by omega) (by omega)])|(rw [cp (by omega) (by assumption) (by omega)])) <;> first|rfl|exact bF (by assumption)|(simp;omega)))) (gj (by ((first|(rw [cm (by assumption)])|(rw [cZ (by omega)])|(rw [cy (by omega) (by assumption)])|(rw [cz (by omega) (by assumption) (by omega)])|(rw [cB (by omega) (by assumption) (by omega) (by omega)])|(rw [cq (by omega) (by assumption) (by omega) (by omega)])|(rw [cp (by omega) (by assumption) (by omega)])) <;> first|rfl|exact bF (by assumption)|(simp;omega))))
          ·
            refine R.q (q.neq rfl rfl (bne_iff_ne.2 (by omega))) rfl<|R.u 1 rfl<|R.qg rfl (q.aX (off':=3) rfl fA rfl) rfl<|R.qg rfl (q.ld 1 rfl rfl aA rfl) rfl<|?_
            by_cases h6:x.ar=0
            ·
              refine R.qg rfl (q.neq rfl rfl (bne_eq_false_iff_eq.2 (by omega))) rfl<|R.u 8 rfl<|R.nil ?_
              refine R.aH rfl rfl ?_
              refine R.reg rfl<|R.u 1 rfl<|R.q (q.eql rfl rfl (beq_eq_false_iff_ne.2 (by omega))) rfl<|R.nil ?_
              refine R.aH rfl rfl ?_
              refine R.reg rfl<|R.u 1 rfl<|R.q (q.aX (off':=1) rfl eB rfl) rfl<|R.q (q.ld 1 rfl rfl aA rfl) rfl<|R.u 2 rfl<|R.q (q.aX (off':=0) rfl bu rfl) rfl<|R.q (q.ld 1 rfl rfl aA rfl) rfl<|R.q (q.build (cs:=[.int .i64 id,.int .i64 x.ai,.int .i64 r,.int .i64 b,.int .i64 x.ID]) gk rfl rfl) rfl<|?_
              refine R.s rfl (s.st (us:=[.int .i64 id,.int .i64 x.ai,.int .i64 r,.int .i64 b,.int .i64 x.ID]) (cs':=[.int .i64 id,.int .i64 x.ai,.int .i64 r,.int .i64 b,.int .i64 x.ID]) 0 _ rfl rfl rfl rfl (.inl aN) rfl rfl rfl rfl) fun _=>?_
              refine R.u 1 rfl<|R.nil ?_
              exact R.uu rfl Tryz.results66 (RV.cell 0 rfl rfl aN) (RV.tmp rfl) (congrArg ak.val (show (⟨id,x.ai,r,b,x.ID⟩:ak)=(derived x id r b).1 from by ((first|(rw [cm (by assumption)])|(rw [cZ (by omega)])|(rw [cy (by omega) (by assumption)])|(rw [cz (by omega) (by assumption) (by omega)])|(rw [cB (by omega) (by assumption) (by omega) (by omega)])|(rw [cq (by omega) (by assumption) (by omega) (by omega)])|(rw [cp (by omega) (by assumption) (by omega)])) <;> first|rfl|exact bF (by assumption)|(simp;omega)))) (gj (by ((first|(rw [cm (by assumption)])|(rw [cZ (by omega)])|(rw [cy (by omega) (by assumption)])|(rw [cz (by omega) (by assumption) (by omega)])|(rw [cB (by omega) (by assumption) (by omega) (by omega)])|(rw [cq (by omega) (by assumption) (by omega) (by omega)])|(rw [cp (by omega) (by assumption) (by omega)])) <;> first|rfl|exact bF (by assumption)|(simp;omega))))
            ·
              refine R.qg rfl (q.neq rfl rfl (bne_iff_ne.2 (by omega))) rfl<|R.u 3 rfl<|R.qg rfl (q.aX (off':=3) rfl fA rfl) rfl<|R.qg rfl (q.ld 1 rfl rfl aA rfl) rfl<|?_
              by_cases h7:b=x.ar
              ·
                refine R.qg rfl (q.neq rfl rfl (bne_eq_false_iff_eq.2 (by omega))) rfl<|R.u 2 rfl<|R.nil ?_
                refine R.aH rfl rfl ?_
                refine R.reg rfl<|R.u 1 rfl<|R.q (q.eql rfl rfl (beq_eq_false_iff_ne.2 (by omega))) rfl<|R.nil ?_
                refine R.aH rfl rfl ?_
                refine R.reg rfl<|R.u 1 rfl<|R.q (q.aX (off':=1) rfl eB rfl) rfl<|R.q (q.ld 1 rfl rfl aA rfl) rfl<|R.u 2 rfl<|R.q (q.aX (off':=0) rfl bu rfl) rfl<|R.q (q.ld 1 rfl rfl aA rfl) rfl<|R.q (q.build (cs:=[.int .i64 id,.int .i64 x.ai,.int .i64 r,.int .i64 b,.int .i64 x.ID]) gk rfl rfl) rfl<|?_
                refine R.s rfl (s.st (us:=[.int .i64 id,.int .i64 x.ai,.int .i64 r,.int .i64 b,.int .i64 x.ID]) (cs':=[.int .i64 id,.int .i64 x.ai,.int .i64 r,.int .i64 b,.int .i64 x.ID]) 0 _ rfl rfl rfl rfl (.inl aN) rfl rfl rfl rfl) fun _=>?_
                refine R.u 1 rfl<|R.nil ?_
                exact R.uu rfl Tryz.results66 (RV.cell 0 rfl rfl aN) (RV.tmp rfl) (congrArg ak.val (show (⟨id,x.ai,r,b,x.ID⟩:ak)=(derived x id r b).1 from by ((first|(rw [cm (by assumption)])|(rw [cZ (by omega)])|(rw [cy (by omega) (by assumption)])|(rw [cz (by omega) (by assumption) (by omega)])|(rw [cB (by omega) (by assumption) (by omega) (by omega)])|(rw [cq (by omega) (by assumption) (by omega) (by omega)])|(rw [cp (by omega) (by assumption) (by omega)])) <;> first|rfl|exact bF (by assumption)|(simp;omega)))) (gj (by ((first|(rw [cm (by assumption)])|(rw [cZ (by omega)])|(rw [cy (by omega) (by assumption)])|(rw [cz (by omega) (by assumption) (by omega)])|(rw [cB (by omega) (by assumption) (by omega) (by omega)])|(rw [cq (by omega) (by assumption) (by omega) (by omega)])|(rw [cp (by omega) (by assumption) (by omega)])) <;> first|rfl|exact bF (by assumption)|(simp;omega))))
              ·
                refine R.qg rfl (q.neq rfl rfl (bne_iff_ne.2 (by omega))) rfl<|R.u 2 rfl<|R.nil ?_
                refine R.aE rfl rfl ?_
                refine R.reg rfl<|R.q (q.build (cs:=[.int .i64 0,.int .i64 0,.int .i64 0,.int .i64 0,.int .i64 0]) gk rfl rfl) rfl<|R.q (q.iface rfl bz) rfl<|?_
                refine R.s rfl (s.st (us:=[.int .i64 0,.int .i64 0,.int .i64 0,.int .i64 0,.int .i64 0]) (cs':=[.int .i64 0,.int .i64 0,.int .i64 0,.int .i64 0,.int .i64 0]) 0 _ rfl rfl rfl rfl (.inl aN) rfl rfl rfl rfl) fun _=>?_
                refine R.u 1 rfl<|R.nil ?_
                exact R.uu rfl Tryz.results66 (RV.cell 0 rfl rfl aN) (RV.tmp rfl) (congrArg ak.val (show (⟨0,0,0,0,0⟩:ak)=(derived x id r b).1 from by ((first|(rw [cm (by assumption)])|(rw [cZ (by omega)])|(rw [cy (by omega) (by assumption)])|(rw [cz (by omega) (by assumption) (by omega)])|(rw [cB (by omega) (by assumption) (by omega) (by omega)])|(rw [cq (by omega) (by assumption) (by omega) (by omega)])|(rw [cp (by omega) (by assumption) (by omega)])) <;> first|rfl|exact bF (by assumption)|(simp;omega)))) (dC (by decide) (by ((first|(rw [cm (by assumption)])|(rw [cZ (by omega)])|(rw [cy (by omega) (by assumption)])|(rw [cz (by omega) (by assumption) (by omega)])|(rw [cB (by omega) (by assumption) (by omega) (by omega)])|(rw [cq (by omega) (by assumption) (by omega) (by omega)])|(rw [cp (by omega) (by assumption) (by omega)])) <;> first|rfl|exact bF (by assumption)|(simp;omega))))
        ·
          refine R.c (q.call lX rfl rfl (fun w hw=>(cv (congrArg Value.bool h4) (eh (x.Rights) (r) w  (by omega) (by omega))))) rfl<|R.u 2 rfl<|R.nil ?_
          refine R.aE rfl rfl ?_
          refine R.reg rfl<|R.q (q.build (cs:=[.int .i64 0,.int .i64 0,.int .i64 0,.int .i64 0,.int .i64 0]) gk rfl rfl) rfl<|R.q (q.iface rfl bz) rfl<|?_
          refine R.s rfl (s.st (us:=[.int .i64 0,.int .i64 0,.int .i64 0,.int .i64 0,.int .i64 0]) (cs':=[.int .i64 0,.int .i64 0,.int .i64 0,.int .i64 0,.int .i64 0]) 0 _ rfl rfl rfl rfl (.inl aN) rfl rfl rfl rfl) fun _=>?_
          refine R.u 1 rfl<|R.nil ?_
          exact R.uu rfl Tryz.results66 (RV.cell 0 rfl rfl aN) (RV.tmp rfl) (congrArg ak.val (show (⟨0,0,0,0,0⟩:ak)=(derived x id r b).1 from by ((first|(rw [cm (by assumption)])|(rw [cZ (by omega)])|(rw [cy (by omega) (by assumption)])|(rw [cz (by omega) (by assumption) (by omega)])|(rw [cB (by omega) (by assumption) (by omega) (by omega)])|(rw [cq (by omega) (by assumption) (by omega) (by omega)])|(rw [cp (by omega) (by assumption) (by omega)])) <;> first|rfl|exact bF (by assumption)|(simp;omega)))) (dC (by decide) (by ((first|(rw [cm (by assumption)])|(rw [cZ (by omega)])|(rw [cy (by omega) (by assumption)])|(rw [cz (by omega) (by assumption) (by omega)])|(rw [cB (by omega) (by assumption) (by omega) (by omega)])|(rw [cq (by omega) (by assumption) (by omega) (by omega)])|(rw [cp (by omega) (by assumption) (by omega)])) <;> first|rfl|exact bF (by assumption)|(simp;omega))))
  ·
    refine R.q (q.fb rfl rfl Tryz.underlying35 (by omega)) rfl<|R.u 1 rfl<|R.nil ?_
    refine R.aE rfl rfl ?_
    refine R.reg rfl<|R.q (q.build (cs:=[.int .i64 0,.int .i64 0,.int .i64 0,.int .i64 0,.int .i64 0]) gk rfl rfl) rfl<|R.u 1 rfl<|?_
    refine R.s rfl (s.st (us:=[.int .i64 0,.int .i64 0,.int .i64 0,.int .i64 0,.int .i64 0]) (cs':=[.int .i64 0,.int .i64 0,.int .i64 0,.int .i64 0,.int .i64 0]) 0 _ rfl rfl rfl rfl (.inl aN) rfl rfl rfl rfl) fun _=>?_
    refine R.u 1 rfl<|R.nil ?_
    exact R.uu rfl Tryz.results66 (RV.cell 0 rfl rfl aN) (RV.tmp rfl) (congrArg ak.val (show (⟨0,0,0,0,0⟩:ak)=(derived x id r b).1 from by ((first|(rw [cm (by assumption)])|(rw [cZ (by omega)])|(rw [cy (by omega) (by assumption)])|(rw [cz (by omega) (by assumption) (by omega)])|(rw [cB (by omega) (by assumption) (by omega) (by omega)])|(rw [cq (by omega) (by assumption) (by omega) (by omega)])|(rw [cp (by omega) (by assumption) (by omega)])) <;> first|rfl|exact bF (by assumption)|(simp;omega)))) (rE (by ((first|(rw [cm (by assumption)])|(rw [cZ (by omega)])|(rw [cy (by omega) (by assumption)])|(rw [cz (by omega) (by assumption) (by omega)])|(rw [cB (by omega) (by assumption) (by omega) (by omega)])|(rw [cq (by omega) (by assumption) (by omega) (by omega)])|(rw [cp (by omega) (by assumption) (by omega)])) <;> first|rfl|exact bF (by assumption)|(simp;omega))))
theorem pV (x:ak)(id:Int)(uW:Nat)(w:World)(Ax:(ah.box uW [.int .i64 id] 3).ok w):Calls Tryz.prog 114 #[.agg #[.int .i64 x.ID,.int .i64 x.ai,.int .i64 x.Rights,.int .i64 x.ar,.int .i64 x.From],.pointer (some ⟨uW,0,none⟩)] w fun e w'=>e = .returned (.bool (x.ID==id))∧Ext w w':=by
  refine R.enter (n:=8) (vs:=[.agg #[.int .i64 x.ID,.int .i64 x.ai,.int .i64 x.Rights,.int .i64 x.ar,.int .i64 x.From],.pointer (some ⟨uW,0,none⟩)]) [] [(0,.agg #[.int .i64 x.ID,.int .i64 x.ai,.int .i64 x.Rights,.int .i64 x.ar,.int .i64 x.From]),(1,.pointer (some ⟨uW,0,none⟩))] Tryz.func114 rfl rfl rfl rfl ?_
  refine R.m0 (r:=ah.box uW [.int .i64 id] 3) Ax (ku Ax) ?_
  refine R.reg rfl<|?_
  refine R.s rfl (s.box (cs:=[.int .i64 x.ID,.int .i64 x.ai,.int .i64 x.Rights,.int .i64 x.ar,.int .i64 x.From]) rfl rfl rfl) fun b1=>?_
  refine R.u 1 rfl<|R.nil ?_
  refine R.reg rfl<|R.q (q.aX (off':=0) rfl bu rfl) rfl<|R.q (q.ld 0 rfl rfl aA rfl) rfl<|R.q (q.zr 0 rfl rfl aA rfl) rfl<|?_
  by_cases h1:x.ID=id
  ·
    refine R.q (q.eql rfl rfl (beq_iff_eq.2 (by omega))) rfl<|R.u 1 rfl<|R.nil ?_
    exact R.rv rfl Tryz.results114 rfl (rB (by (first|exact (beq_iff_eq.2 (by assumption)).symm|exact (beq_eq_false_iff_ne.2 (by assumption)).symm)))
  ·
    refine R.q (q.eql rfl rfl (beq_eq_false_iff_ne.2 (by omega))) rfl<|R.u 1 rfl<|R.nil ?_
    exact R.rv rfl Tryz.results114 rfl (rB (by (first|exact (beq_iff_eq.2 (by assumption)).symm|exact (beq_eq_false_iff_ne.2 (by assumption)).symm)))
theorem gP (bf:Value)(l:List ak)(p:ak→Bool)(yG:Nat)(Ay:List Value)(Az:∀args w,(callFunc yG args).run Tryz.prog w = .ok (.enter yG args) w)(w:World)(dx:Sl w bf l)(Cb:∀W (x1:ak),Ext w W→Calls Tryz.prog yG ([x1.val]++Ay).toArray W fun e w'=>e = .returned (.bool (p x1))∧Ext W w'):Calls Tryz.prog 113 #[bf,.func (.func yG) #[] Ay.toArray] w fun e w'=>e = .returned (.int .i64 (idxOf p l))∧Ext w w':=by
  have pC:=dx.dQ
  refine R.enter (n:=19) (vs:=[bf,.func (.func yG) #[] Ay.toArray]) [] [(0,bf),(1,.func (.func yG) #[] Ay.toArray)] Tryz.func113 rfl rfl rfl rfl ?_
  refine R.reg rfl<|R.u 1 rfl<|R.nil ?_
  refine R.reg rfl<|R.u 1 rfl<|R.q (q.len' (fun _=>Wd.old dx) rfl Tryz.underlying27) rfl<|R.u 1 rfl<|R.nil ?_
  refine R.loop (fun k:Nat=>[(0,bf),(1,.func (.func yG) #[] Ay.toArray),(7,.int .i64 (l.length:Int)),(8,.int .i64 (k:Int))]) (fun k:Nat=>[]) (fun k:Nat=>[]) (fun k:Nat=>k≤l.length ∧ ∀ (j:Nat) x,j<k→l[j]? = some x→p x=false) (fun k:Nat=>l.length-k) 0 rfl (by exact ⟨by omega,fun j x hj=>absurd hj (Nat.not_lt_zero _)⟩) ⟨rfl,rfl,rfl,rfl,trivial⟩ (fun _=>Wd.pick [] [] rfl rfl rfl) ?_
  rintro k ⟨hk,HA⟩
  refine R.reg rfl<|?_
  by_cases h1:k<l.length
  ·
    refine R.q (q.lss rfl rfl (decide_eq_true (by omega))) rfl<|R.nil ?_
    refine R.aE rfl rfl ?_
    refine R.reg rfl<|R.u 2 rfl<|R.nil ?_
    refine R.reg rfl<|R.u 3 rfl<|?_
    obtain ⟨x1,hx1⟩:∃z,l[k]? = some z:=⟨_,List.getElem?_eq_getElem (by omega)⟩
    refine R.q (q.idx (i:=k) (fun _=>Wd.old dx) rfl rfl ct rfl hx1) rfl<|R.q (q.dY (ds:=[.int .i64 x1.ID,.int .i64 x1.ai,.int .i64 x1.Rights,.int .i64 x1.ar,.int .i64 x1.From]) (fun _=>Wd.old dx) hx1 rfl aN rfl) rfl<|?_
    rcases Bool.eq_false_or_eq_true (p x1) with h2|h2
    ·
      refine R.c (q.call Az rfl rfl (fun w hw=>cv (congrArg Value.bool h2) (Cb w x1 hw.ext))) rfl<|R.nil ?_
      refine R.aE rfl rfl ?_
      refine R.reg rfl<|R.u 2 rfl<|R.nil ?_
      exact R.rv rfl Tryz.results113 rfl (rI (by (first|exact (idxOf_hit hx1 (by assumption) HA).symm|exact (idxOf_miss (by assumption) HA).symm)))
    ·
      refine R.c (q.call Az rfl rfl (fun w hw=>cv (congrArg Value.bool h2) (Cb w x1 hw.ext))) rfl<|R.nil ?_
      refine R.aH rfl rfl ?_
      refine R.reg rfl<|R.q (q.add (r:=((k+1:Nat):Int)) rfl rfl (wr (by omega))) rfl<|R.u 1 rfl<|R.nil ?_
      refine R.back (k+1) rfl (by (exact ⟨by omega,iz HA hx1 (by assumption)⟩)) (by omega) ⟨rfl,rfl,rfl,rfl,trivial⟩ (fun _=>Wd.pick [] [] rfl rfl rfl)
  ·
    refine R.q (q.lss rfl rfl (decide_eq_false (by omega))) rfl<|R.nil ?_
    refine R.aH rfl rfl ?_
    refine R.reg rfl<|R.u 1 rfl<|R.nil ?_
    exact R.rv rfl Tryz.results113 rfl (rI (by (first|exact (idxOf_hit hx1 (by assumption) HA).symm|exact (idxOf_miss (by assumption) HA).symm)))
theorem eL (bf:Value)(l:List ak)(id:Int)(w:World)(dx:Sl w bf l):Calls Tryz.prog 65 #[bf,.int .i64 id] w fun e w'=>e = .returned (.int .i64 (bC l id))∧Ext w w':=by
  have pC:=dx.dQ
  refine R.enter (n:=8) (vs:=[bf,.int .i64 id]) [] [(0,bf),(1,.int .i64 id)] Tryz.func65 rfl rfl rfl rfl ?_
  refine R.reg rfl<|?_
  refine R.s rfl (s.box (cs:=[.int .i64 id]) rfl rfl rfl) fun b1=>?_
  refine R.u 1 rfl<|R.nil ?_
  refine R.reg rfl<|R.u 1 rfl<|R.q (q.zq (cap:=[.pointer (some ⟨b1,0,none⟩)]) rfl rfl) rfl<|R.c (q.call qM rfl rfl (fun w hw=>(gP _ (l) (fun (x:ak)=>x.ID==id) _ _ yw w ((fun _=>Wd.old dx) w hw) (fun W x hW=>pV x (id) _ W (kU (hw.b 0 rfl) hW) ) ))) rfl<|R.u 1 rfl<|R.nil ?_
  exact R.rv rfl Tryz.results65 rfl (rI (by (rfl)))
end Go.Proofs.YtbkfhjaibhnkmaaGreatDoor
