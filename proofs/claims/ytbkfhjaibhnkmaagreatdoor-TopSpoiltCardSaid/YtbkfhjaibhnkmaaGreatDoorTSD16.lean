import Derived.Test.YtbkfhjaibhnkmaaGreatDoorTSD12
import Derived.Test.YtbkfhjaibhnkmaaGreatDoorTSD15
namespace Go.Proofs.YtbkfhjaibhnkmaaGreatDoor
open Go Go.RowKit
set_option linter.unusedVariables false
set_option maxRecDepth 100000
theorem kb (r:Int)(w:World)  : Calls Tryz.prog 112 #[iV r] w fun e w'=>e = .returned (e6 (cu r))∧Ext w w':=by
 refine R.enter (n:=10) (vs:=[iV r]) [] [(0,iV r)] Tryz.func112 rfl rfl rfl rfl ?_
 refine R.reg rfl<|R.u 1 rfl<|R.nil ?_
 refine R.reg rfl<|R.u 1 rfl<|?_
 by_cases h1:r<0
 ·
  refine R.q (q.lss rfl rfl (decide_eq_true (by omega))) rfl<|R.u 4 rfl<|R.nil ?_
  refine R.aD rfl rfl ?_
  refine R.reg rfl<|R.q (q.iface rfl bI) rfl<|R.u 1 rfl<|R.nil ?_
  exact R.rv rfl Tryz.results112 rfl (dP (by decide) (by (first|exact gp (by omega)|exact dK (by omega) (by omega))))
 ·
  refine R.q (q.lss rfl rfl (decide_eq_false (by omega))) rfl<|R.u 2 rfl<|?_
  by_cases h2:7<r
  ·
   refine R.qg rfl (q.gtr rfl rfl (decide_eq_true (by omega))) rfl<|R.u 1 rfl<|R.nil ?_
   refine R.aD rfl rfl ?_
   refine R.reg rfl<|R.q (q.iface rfl bI) rfl<|R.u 1 rfl<|R.nil ?_
   exact R.rv rfl Tryz.results112 rfl (dP (by decide) (by (first|exact gp (by omega)|exact dK (by omega) (by omega))))
  ·
   refine R.qg rfl (q.gtr rfl rfl (decide_eq_false (by omega))) rfl<|R.u 1 rfl<|R.nil ?_
   refine R.aI rfl rfl ?_
   refine R.reg rfl<|R.u 1 rfl<|R.nil ?_
   exact R.rv rfl Tryz.results112 rfl (gO (by (first|exact gp (by omega)|exact dK (by omega) (by omega))))
theorem eI (r:Int)(n:Int)(w:World)(r0:0≤r∧r≤7)(n0:0≤n∧n≤7):Calls Tryz.prog 73 #[iV r,iV n] w fun e w'=>e = .returned (.bool (fB r n))∧Ext w w':=by
 refine R.enter (n:=10) (vs:=[iV r,iV n]) [] [(0,iV r),(1,iV n)] Tryz.func73 rfl rfl rfl rfl ?_
 refine R.reg rfl<|R.u 1 rfl<|R.nil ?_
 refine R.reg rfl<|R.u 2 rfl<|R.q (q.and rfl rfl rfl) rfl<|R.u 1 rfl<|?_
 by_cases h1:(bits .and .i64 r n)=n
 ·
  refine R.q (q.eql rfl rfl (beq_iff_eq.2 (by omega))) rfl<|R.u 1 rfl<|R.nil ?_
  exact R.rv rfl Tryz.results73 rfl (rB (by (exact tW r0.1 r0.2 n0.1 n0.2 (by first|exact beq_iff_eq.2 ‹_› | exact beq_eq_false_iff_ne.2 ‹_›))))
 ·
  refine R.q (q.eql rfl rfl (beq_eq_false_iff_ne.2 (by omega))) rfl<|R.u 1 rfl<|R.nil ?_
  exact R.rv rfl Tryz.results73 rfl (rB (by (exact tW r0.1 r0.2 n0.1 n0.2 (by first|exact beq_iff_eq.2 ‹_› | exact beq_eq_false_iff_ne.2 ‹_›))))
theorem pe (x:aj)(w:World)  : Calls Tryz.prog 64 #[.agg #[iV x.ID,iV x.ah,iV x.Rights,iV x.aG,iV x.From]] w fun e w'=>e = .returned (e6 (bK x))∧Ext w w':=by
 refine R.enter (n:=47) (vs:=[.agg #[iV x.ID,iV x.ah,iV x.Rights,iV x.aG,iV x.From]]) [] [(0,.agg #[iV x.ID,iV x.ah,iV x.Rights,iV x.aG,iV x.From])] Tryz.func64 rfl rfl rfl rfl ?_
 refine R.reg rfl<|R.s rfl (s.box (cs:=aA x) rfl rfl rfl) fun b1=>R.u 1 rfl<|R.nil ?_
 refine R.reg rfl<|R.q (q.a8 (off':=0) rfl bH rfl) rfl<|R.q (q.ld 0 rfl rfl av rfl) rfl<|?_
 by_cases h1:x.ID<1
 ·
  refine R.q (q.lss rfl rfl (decide_eq_true (by omega))) rfl<|R.u 37 rfl<|R.nil ?_
  refine R.aD rfl rfl ?_
  refine R.reg rfl<|R.q (q.iface rfl bI) rfl<|R.u 1 rfl<|R.nil ?_
  exact R.rv rfl Tryz.results64 rfl (dP (by decide) (by (first|exact dj (by omega)|exact (dn (by omega)).symm)))
 ·
  refine R.q (q.lss rfl rfl (decide_eq_false (by omega))) rfl<|R.u 1 rfl<|R.qg rfl (q.a8 (off':=0) rfl bH rfl) rfl<|R.qg rfl (q.ld 0 rfl rfl av rfl) rfl<|?_
  by_cases h2:999<x.ID
  ·
   refine R.qg rfl (q.gtr rfl rfl (decide_eq_true (by omega))) rfl<|R.u 33 rfl<|R.nil ?_
   refine R.aD rfl rfl ?_
   refine R.reg rfl<|R.q (q.iface rfl bI) rfl<|R.u 1 rfl<|R.nil ?_
   exact R.rv rfl Tryz.results64 rfl (dP (by decide) (by (first|exact dj (by omega)|exact (dn (by omega)).symm)))
  ·
   refine R.qg rfl (q.gtr rfl rfl (decide_eq_false (by omega))) rfl<|R.u 2 rfl<|R.qg rfl (q.a8 (off':=1) rfl eU rfl) rfl<|R.qg rfl (q.ld 0 rfl rfl av rfl) rfl<|?_
   by_cases h3:x.ah<1
   ·
    refine R.qg rfl (q.lss rfl rfl (decide_eq_true (by omega))) rfl<|R.u 28 rfl<|R.nil ?_
    refine R.aD rfl rfl ?_
    refine R.reg rfl<|R.q (q.iface rfl bI) rfl<|R.u 1 rfl<|R.nil ?_
    exact R.rv rfl Tryz.results64 rfl (dP (by decide) (by (first|exact dj (by omega)|exact (dn (by omega)).symm)))
   ·
    refine R.qg rfl (q.lss rfl rfl (decide_eq_false (by omega))) rfl<|R.u 2 rfl<|R.qg rfl (q.a8 (off':=1) rfl eU rfl) rfl<|R.qg rfl (q.ld 0 rfl rfl av rfl) rfl<|?_
    by_cases h4:999<x.ah
    ·
     refine R.qg rfl (q.gtr rfl rfl (decide_eq_true (by omega))) rfl<|R.u 23 rfl<|R.nil ?_
     refine R.aD rfl rfl ?_
     refine R.reg rfl<|R.q (q.iface rfl bI) rfl<|R.u 1 rfl<|R.nil ?_
     exact R.rv rfl Tryz.results64 rfl (dP (by decide) (by (first|exact dj (by omega)|exact (dn (by omega)).symm)))
    ·
     refine R.qg rfl (q.gtr rfl rfl (decide_eq_false (by omega))) rfl<|R.u 2 rfl<|R.qg rfl (q.a8 (off':=3) rfl f7 rfl) rfl<|R.qg rfl (q.ld 0 rfl rfl av rfl) rfl<|?_
     by_cases h5:x.aG<0
     ·
      refine R.qg rfl (q.lss rfl rfl (decide_eq_true (by omega))) rfl<|R.u 18 rfl<|R.nil ?_
      refine R.aD rfl rfl ?_
      refine R.reg rfl<|R.q (q.iface rfl bI) rfl<|R.u 1 rfl<|R.nil ?_
      exact R.rv rfl Tryz.results64 rfl (dP (by decide) (by (first|exact dj (by omega)|exact (dn (by omega)).symm)))
     ·
      refine R.qg rfl (q.lss rfl rfl (decide_eq_false (by omega))) rfl<|R.u 2 rfl<|R.qg rfl (q.a8 (off':=3) rfl f7 rfl) rfl<|R.qg rfl (q.ld 0 rfl rfl av rfl) rfl<|?_
      by_cases h6:99<x.aG
      ·
       refine R.qg rfl (q.gtr rfl rfl (decide_eq_true (by omega))) rfl<|R.u 13 rfl<|R.nil ?_
       refine R.aD rfl rfl ?_
       refine R.reg rfl<|R.q (q.iface rfl bI) rfl<|R.u 1 rfl<|R.nil ?_
       exact R.rv rfl Tryz.results64 rfl (dP (by decide) (by (first|exact dj (by omega)|exact (dn (by omega)).symm)))
      ·
       refine R.qg rfl (q.gtr rfl rfl (decide_eq_false (by omega))) rfl<|R.u 2 rfl<|R.qg rfl (q.a8 (off':=4) rfl eh rfl) rfl<|R.qg rfl (q.ld 0 rfl rfl av rfl) rfl<|?_
       by_cases h7:x.From<0
       ·
        refine R.qg rfl (q.lss rfl rfl (decide_eq_true (by omega))) rfl<|R.u 8 rfl<|R.nil ?_
        refine R.aD rfl rfl ?_
        refine R.reg rfl<|R.q (q.iface rfl bI) rfl<|R.u 1 rfl<|R.nil ?_
        exact R.rv rfl Tryz.results64 rfl (dP (by decide) (by (first|exact dj (by omega)|exact (dn (by omega)).symm)))
       ·
        refine R.qg rfl (q.lss rfl rfl (decide_eq_false (by omega))) rfl<|R.u 2 rfl<|R.qg rfl (q.a8 (off':=4) rfl eh rfl) rfl<|R.qg rfl (q.ld 0 rfl rfl av rfl) rfl<|R.qg rfl (q.a8 (off':=0) rfl bH rfl) rfl<|R.qg rfl (q.ld 0 rfl rfl av rfl) rfl<|?_
        by_cases h8:x.From<x.ID
        ·
         refine R.qg rfl (q.geq rfl rfl (decide_eq_false (by omega))) rfl<|R.u 1 rfl<|R.nil ?_
         refine R.aI rfl rfl ?_
         refine R.reg rfl<|R.q (q.a8 (off':=2) rfl f6 rfl) rfl<|R.q (q.ld 0 rfl rfl av rfl) rfl<|R.c (q.call vY rfl rfl (fun w hw=>(kb (x.Rights) w  ))) rfl<|R.u 1 rfl<|R.nil ?_
         exact R.rv rfl Tryz.results64 rfl (rE (by (first|exact dj (by omega)|exact (dn (by omega)).symm)))
        ·
         refine R.qg rfl (q.geq rfl rfl (decide_eq_true (by omega))) rfl<|R.u 1 rfl<|R.nil ?_
         refine R.aD rfl rfl ?_
         refine R.reg rfl<|R.q (q.iface rfl bI) rfl<|R.u 1 rfl<|R.nil ?_
         exact R.rv rfl Tryz.results64 rfl (dP (by decide) (by (first|exact dj (by omega)|exact (dn (by omega)).symm)))
theorem ic (x:aj)(id:Int)(r:Int)(b:Int)(w:World)(x0:0≤x.Rights∧x.Rights≤7):Calls Tryz.prog 66 #[.agg #[iV x.ID,iV x.ah,iV x.Rights,iV x.aG,iV x.From],iV id,iV r,iV b] w fun e w'=>e = .returned (.tuple #[aj.val ((derived x id r b).1),e6 ((derived x id r b).2)])∧Ext w w':=by
 refine R.enter (n:=63) (vs:=[.agg #[iV x.ID,iV x.ah,iV x.Rights,iV x.aG,iV x.From],iV id,iV r,iV b]) [] [(0,.agg #[iV x.ID,iV x.ah,iV x.Rights,iV x.aG,iV x.From]),(1,iV id),(2,iV r),(3,iV b)] Tryz.func66 rfl rfl rfl rfl ?_
 refine R.reg rfl<|R.s rfl (s.box (cs:=aA x) rfl rfl rfl) fun b1=>R.s rfl (s.alloc (cs:=dw) bE rfl rfl) fun b2=>R.u 1 rfl<|R.nil ?_
 refine R.reg rfl<|R.u 1 rfl<|R.c (q.call vY rfl rfl (fun w hw=>(kb (r) w  ))) rfl<|R.u 1 rfl<|R.nil ?_
 refine R.reg rfl<|R.u 1 rfl<|?_
 by_cases h1:cu r=0
 ·
  refine R.q (q.fr rfl rfl Tryz.underlying35 (by omega)) rfl<|R.u 1 rfl<|R.nil ?_
  refine R.aI rfl rfl ?_
  have hr:=jT ‹_›
  refine R.reg rfl<|R.u 1 rfl<|?_
  by_cases h2:b<0
  ·
   refine R.q (q.lss rfl rfl (decide_eq_true (by omega))) rfl<|R.u 5 rfl<|R.nil ?_
   refine R.aD rfl rfl ?_
   refine R.reg rfl<|R.q (q.build (cs:=dw) gQ rfl rfl) rfl<|R.q (q.iface rfl bI) rfl<|R.s rfl (s.st (us:=dw) (cs':=dw) 0 _ rfl rfl rfl rfl (.inl aQ) rfl rfl rfl rfl) fun _=>R.u 1 rfl<|R.nil ?_
   exact R.vK rfl Tryz.results66 (RV.cell 0 rfl rfl aQ) (RV.tmp rfl) (congrArg aj.val (show (⟨0,0,0,0,0⟩:aj)=(derived x id r b).1 from by ((first|(rw [cF ‹_›])|(rw [dt (by omega)])|(rw [cM (by omega) ‹_›])|(rw [cO (by omega) ‹_› (by omega)])|(rw [cQ (by omega) ‹_› (by omega) (by omega)])|(rw [cI (by omega) ‹_› (by omega) (by omega)])|(rw [cG (by omega) ‹_› (by omega)])) <;> first|rfl|exact bN ‹_› | (simp;omega)))) (dP (by decide) (by ((first|(rw [cF ‹_›])|(rw [dt (by omega)])|(rw [cM (by omega) ‹_›])|(rw [cO (by omega) ‹_› (by omega)])|(rw [cQ (by omega) ‹_› (by omega) (by omega)])|(rw [cI (by omega) ‹_› (by omega) (by omega)])|(rw [cG (by omega) ‹_› (by omega)])) <;> first|rfl|exact bN ‹_› | (simp;omega))))
  ·
   refine R.q (q.lss rfl rfl (decide_eq_false (by omega))) rfl<|R.u 2 rfl<|?_
   by_cases h3:99<b
   ·
    refine R.qg rfl (q.gtr rfl rfl (decide_eq_true (by omega))) rfl<|R.u 2 rfl<|R.nil ?_
    refine R.aD rfl rfl ?_
    refine R.reg rfl<|R.q (q.build (cs:=dw) gQ rfl rfl) rfl<|R.q (q.iface rfl bI) rfl<|R.s rfl (s.st (us:=dw) (cs':=dw) 0 _ rfl rfl rfl rfl (.inl aQ) rfl rfl rfl rfl) fun _=>R.u 1 rfl<|R.nil ?_
    exact R.vK rfl Tryz.results66 (RV.cell 0 rfl rfl aQ) (RV.tmp rfl) (congrArg aj.val (show (⟨0,0,0,0,0⟩:aj)=(derived x id r b).1 from by ((first|(rw [cF ‹_›])|(rw [dt (by omega)])|(rw [cM (by omega) ‹_›])|(rw [cO (by omega) ‹_› (by omega)])|(rw [cQ (by omega) ‹_› (by omega) (by omega)])|(rw [cI (by omega) ‹_› (by omega) (by omega)])|(rw [cG (by omega) ‹_› (by omega)])) <;> first|rfl|exact bN ‹_› | (simp;omega)))) (dP (by decide) (by ((first|(rw [cF ‹_›])|(rw [dt (by omega)])|(rw [cM (by omega) ‹_›])|(rw [cO (by omega) ‹_› (by omega)])|(rw [cQ (by omega) ‹_› (by omega) (by omega)])|(rw [cI (by omega) ‹_› (by omega) (by omega)])|(rw [cG (by omega) ‹_› (by omega)])) <;> first|rfl|exact bN ‹_› | (simp;omega))))
   ·
    refine R.qg rfl (q.gtr rfl rfl (decide_eq_false (by omega))) rfl<|R.u 2 rfl<|R.nil ?_
    refine R.aI rfl rfl ?_
    refine R.reg rfl<|R.q (q.a8 (off':=2) rfl f6 rfl) rfl<|R.q (q.ld 1 rfl rfl av rfl) rfl<|R.u 1 rfl<|?_
    rcases Bool.eq_false_or_eq_true (fB x.Rights r) with h4|h4
    ·
     refine R.c (q.call mX rfl rfl (fun w hw=>(cv (congrArg Value.bool h4) (eI (x.Rights) (r) w  (by omega) (by omega))))) rfl<|R.u 2 rfl<|R.nil ?_
     refine R.aI rfl rfl ?_
     refine R.reg rfl<|R.u 1 rfl<|?_
     by_cases h5:b=0
     ·
      refine R.q (q.neq rfl rfl (bne_eq_false_iff_eq.2 (by omega))) rfl<|R.u 12 rfl<|R.nil ?_
      refine R.aI rfl rfl ?_
      refine R.reg rfl<|R.u 1 rfl<|R.q (q.eql rfl rfl (beq_iff_eq.2 (by omega))) rfl<|R.nil ?_
      refine R.aD rfl rfl ?_
      refine R.reg rfl<|R.q (q.a8 (off':=3) rfl f7 rfl) rfl<|R.q (q.ld 1 rfl rfl av rfl) rfl<|R.u 1 rfl<|R.nil ?_
      refine R.reg rfl<|R.u 1 rfl<|R.q (q.a8 (off':=1) rfl eU rfl) rfl<|R.q (q.ld 1 rfl rfl av rfl) rfl<|R.u 2 rfl<|R.q (q.a8 (off':=0) rfl bH rfl) rfl<|R.q (q.ld 1 rfl rfl av rfl) rfl<|R.q (q.build (cs:=[iV id,iV x.ah,iV r,iV x.aG,iV x.ID]) gQ rfl rfl) rfl<|R.s rfl (s.st (us:=[iV id,iV x.ah,iV r,iV x.aG,iV x.ID]) (cs':=[iV id,iV x.ah,iV r,iV x.aG,iV x.ID]) 0 _ rfl rfl rfl rfl (.inl aQ) rfl rfl rfl rfl) fun _=>R.u 1 rfl<|R.nil ?_
      exact R.vK rfl Tryz.results66 (RV.cell 0 rfl rfl aQ) (RV.tmp rfl) (congrArg aj.val (show (⟨id,x.ah,r,x.aG,x.ID⟩:aj)=(derived x id r b).1 from by ((first|(rw [cF ‹_›])|(rw [dt (by omega)])|(rw [cM (by omega) ‹_›])|(rw [cO (by omega) ‹_› (by omega)])|(rw [cQ (by omega) ‹_› (by omega) (by omega)])|(rw [cI (by omega) ‹_› (by omega) (by omega)])|(rw [cG (by omega) ‹_› (by omega)])) <;> first|rfl|exact bN ‹_› | (simp;omega)))) (gO (by ((first|(rw [cF ‹_›])|(rw [dt (by omega)])|(rw [cM (by omega) ‹_›])|(rw [cO (by omega) ‹_› (by omega)])|(rw [cQ (by omega) ‹_› (by omega) (by omega)])|(rw [cI (by omega) ‹_› (by omega) (by omega)])|(rw [cG (by omega) ‹_› (by omega)])) <;> first|rfl|exact bN ‹_› | (simp;omega))))
     ·
      refine R.q (q.neq rfl rfl (bne_iff_ne.2 (by omega))) rfl<|R.u 1 rfl<|R.qg rfl (q.a8 (off':=3) rfl f7 rfl) rfl<|R.qg rfl (q.ld 1 rfl rfl av rfl) rfl<|?_
      by_cases h6:x.aG=0
      ·
       refine R.qg rfl (q.neq rfl rfl (bne_eq_false_iff_eq.2 (by omega))) rfl<|R.u 8 rfl<|R.nil ?_
       refine R.aI rfl rfl ?_
       refine R.reg rfl<|R.u 1 rfl<|R.q (q.eql rfl rfl (beq_eq_false_iff_ne.2 (by omega))) rfl<|R.nil ?_
       refine R.aI rfl rfl ?_
       refine R.reg rfl<|R.u 1 rfl<|R.q (q.a8 (off':=1) rfl eU rfl) rfl<|R.q (q.ld 1 rfl rfl av rfl) rfl<|R.u 2 rfl<|R.q (q.a8 (off':=0) rfl bH rfl) rfl<|R.q (q.ld 1 rfl rfl av rfl) rfl<|R.q (q.build (cs:=[iV id,iV x.ah,iV r,iV b,iV x.ID]) gQ rfl rfl) rfl<|R.s rfl (s.st (us:=[iV id,iV x.ah,iV r,iV b,iV x.ID]) (cs':=[iV id,iV x.ah,iV r,iV b,iV x.ID]) 0 _ rfl rfl rfl rfl (.inl aQ) rfl rfl rfl rfl) fun _=>R.u 1 rfl<|R.nil ?_
       exact R.vK rfl Tryz.results66 (RV.cell 0 rfl rfl aQ) (RV.tmp rfl) (congrArg aj.val (show (⟨id,x.ah,r,b,x.ID⟩:aj)=(derived x id r b).1 from by ((first|(rw [cF ‹_›])|(rw [dt (by omega)])|(rw [cM (by omega) ‹_›])|(rw [cO (by omega) ‹_› (by omega)])|(rw [cQ (by omega) ‹_› (by omega) (by omega)])|(rw [cI (by omega) ‹_› (by omega) (by omega)])|(rw [cG (by omega) ‹_› (by omega)])) <;> first|rfl|exact bN ‹_› | (simp;omega)))) (gO (by ((first|(rw [cF ‹_›])|(rw [dt (by omega)])|(rw [cM (by omega) ‹_›])|(rw [cO (by omega) ‹_› (by omega)])|(rw [cQ (by omega) ‹_› (by omega) (by omega)])|(rw [cI (by omega) ‹_› (by omega) (by omega)])|(rw [cG (by omega) ‹_› (by omega)])) <;> first|rfl|exact bN ‹_› | (simp;omega))))
      ·
       refine R.qg rfl (q.neq rfl rfl (bne_iff_ne.2 (by omega))) rfl<|R.u 3 rfl<|R.qg rfl (q.a8 (off':=3) rfl f7 rfl) rfl<|R.qg rfl (q.ld 1 rfl rfl av rfl) rfl<|?_
       by_cases h7:b=x.aG
       ·
        refine R.qg rfl (q.neq rfl rfl (bne_eq_false_iff_eq.2 (by omega))) rfl<|R.u 2 rfl<|R.nil ?_
        refine R.aI rfl rfl ?_
        refine R.reg rfl<|R.u 1 rfl<|R.q (q.eql rfl rfl (beq_eq_false_iff_ne.2 (by omega))) rfl<|R.nil ?_
        refine R.aI rfl rfl ?_
        refine R.reg rfl<|R.u 1 rfl<|R.q (q.a8 (off':=1) rfl eU rfl) rfl<|R.q (q.ld 1 rfl rfl av rfl) rfl<|R.u 2 rfl<|R.q (q.a8 (off':=0) rfl bH rfl) rfl<|R.q (q.ld 1 rfl rfl av rfl) rfl<|R.q (q.build (cs:=[iV id,iV x.ah,iV r,iV b,iV x.ID]) gQ rfl rfl) rfl<|R.s rfl (s.st (us:=[iV id,iV x.ah,iV r,iV b,iV x.ID]) (cs':=[iV id,iV x.ah,iV r,iV b,iV x.ID]) 0 _ rfl rfl rfl rfl (.inl aQ) rfl rfl rfl rfl) fun _=>R.u 1 rfl<|R.nil ?_
        exact R.vK rfl Tryz.results66 (RV.cell 0 rfl rfl aQ) (RV.tmp rfl) (congrArg aj.val (show (⟨id,x.ah,r,b,x.ID⟩:aj)=(derived x id r b).1 from by ((first|(rw [cF ‹_›])|(rw [dt (by omega)])|(rw [cM (by omega) ‹_›])|(rw [cO (by omega) ‹_› (by omega)])|(rw [cQ (by omega) ‹_› (by omega) (by omega)])|(rw [cI (by omega) ‹_› (by omega) (by omega)])|(rw [cG (by omega) ‹_› (by omega)])) <;> first|rfl|exact bN ‹_› | (simp;omega)))) (gO (by ((first|(rw [cF ‹_›])|(rw [dt (by omega)])|(rw [cM (by omega) ‹_›])|(rw [cO (by omega) ‹_› (by omega)])|(rw [cQ (by omega) ‹_› (by omega) (by omega)])|(rw [cI (by omega) ‹_› (by omega) (by omega)])|(rw [cG (by omega) ‹_› (by omega)])) <;> first|rfl|exact bN ‹_› | (simp;omega))))
       ·
        refine R.qg rfl (q.neq rfl rfl (bne_iff_ne.2 (by omega))) rfl<|R.u 2 rfl<|R.nil ?_
        refine R.aD rfl rfl ?_
        refine R.reg rfl<|R.q (q.build (cs:=dw) gQ rfl rfl) rfl<|R.q (q.iface rfl bI) rfl<|R.s rfl (s.st (us:=dw) (cs':=dw) 0 _ rfl rfl rfl rfl (.inl aQ) rfl rfl rfl rfl) fun _=>R.u 1 rfl<|R.nil ?_
        exact R.vK rfl Tryz.results66 (RV.cell 0 rfl rfl aQ) (RV.tmp rfl) (congrArg aj.val (show (⟨0,0,0,0,0⟩:aj)=(derived x id r b).1 from by ((first|(rw [cF ‹_›])|(rw [dt (by omega)])|(rw [cM (by omega) ‹_›])|(rw [cO (by omega) ‹_› (by omega)])|(rw [cQ (by omega) ‹_› (by omega) (by omega)])|(rw [cI (by omega) ‹_› (by omega) (by omega)])|(rw [cG (by omega) ‹_› (by omega)])) <;> first|rfl|exact bN ‹_› | (simp;omega)))) (dP (by decide) (by ((first|(rw [cF ‹_›])|(rw [dt (by omega)])|(rw [cM (by omega) ‹_›])|(rw [cO (by omega) ‹_› (by omega)])|(rw [cQ (by omega) ‹_› (by omega) (by omega)])|(rw [cI (by omega) ‹_› (by omega) (by omega)])|(rw [cG (by omega) ‹_› (by omega)])) <;> first|rfl|exact bN ‹_› | (simp;omega))))
    ·
     refine R.c (q.call mX rfl rfl (fun w hw=>(cv (congrArg Value.bool h4) (eI (x.Rights) (r) w  (by omega) (by omega))))) rfl<|R.u 2 rfl<|R.nil ?_
     refine R.aD rfl rfl ?_
     refine R.reg rfl<|R.q (q.build (cs:=dw) gQ rfl rfl) rfl<|R.q (q.iface rfl bI) rfl<|R.s rfl (s.st (us:=dw) (cs':=dw) 0 _ rfl rfl rfl rfl (.inl aQ) rfl rfl rfl rfl) fun _=>R.u 1 rfl<|R.nil ?_
     exact R.vK rfl Tryz.results66 (RV.cell 0 rfl rfl aQ) (RV.tmp rfl) (congrArg aj.val (show (⟨0,0,0,0,0⟩:aj)=(derived x id r b).1 from by ((first|(rw [cF ‹_›])|(rw [dt (by omega)])|(rw [cM (by omega) ‹_›])|(rw [cO (by omega) ‹_› (by omega)])|(rw [cQ (by omega) ‹_› (by omega) (by omega)])|(rw [cI (by omega) ‹_› (by omega) (by omega)])|(rw [cG (by omega) ‹_› (by omega)])) <;> first|rfl|exact bN ‹_› | (simp;omega)))) (dP (by decide) (by ((first|(rw [cF ‹_›])|(rw [dt (by omega)])|(rw [cM (by omega) ‹_›])|(rw [cO (by omega) ‹_› (by omega)])|(rw [cQ (by omega) ‹_› (by omega) (by omega)])|(rw [cI (by omega) ‹_› (by omega) (by omega)])|(rw [cG (by omega) ‹_› (by omega)])) <;> first|rfl|exact bN ‹_› | (simp;omega))))
 ·
  refine R.q (q.fw rfl rfl Tryz.underlying35 (by omega)) rfl<|R.u 1 rfl<|R.nil ?_
  refine R.aD rfl rfl ?_
  refine R.reg rfl<|R.q (q.build (cs:=dw) gQ rfl rfl) rfl<|R.u 1 rfl<|R.s rfl (s.st (us:=dw) (cs':=dw) 0 _ rfl rfl rfl rfl (.inl aQ) rfl rfl rfl rfl) fun _=>R.u 1 rfl<|R.nil ?_
  exact R.vK rfl Tryz.results66 (RV.cell 0 rfl rfl aQ) (RV.tmp rfl) (congrArg aj.val (show (⟨0,0,0,0,0⟩:aj)=(derived x id r b).1 from by ((first|(rw [cF ‹_›])|(rw [dt (by omega)])|(rw [cM (by omega) ‹_›])|(rw [cO (by omega) ‹_› (by omega)])|(rw [cQ (by omega) ‹_› (by omega) (by omega)])|(rw [cI (by omega) ‹_› (by omega) (by omega)])|(rw [cG (by omega) ‹_› (by omega)])) <;> first|rfl|exact bN ‹_› | (simp;omega)))) (rE (by ((first|(rw [cF ‹_›])|(rw [dt (by omega)])|(rw [cM (by omega) ‹_›])|(rw [cO (by omega) ‹_› (by omega)])|(rw [cQ (by omega) ‹_› (by omega) (by omega)])|(rw [cI (by omega) ‹_› (by omega) (by omega)])|(rw [cG (by omega) ‹_› (by omega)])) <;> first|rfl|exact bN ‹_› | (simp;omega))))
theorem q9 (x:aj)(id:Int)(wu:Nat)(w:World)(Cp:(ag.box wu [iV id] 3).ok w):Calls Tryz.prog 114 #[.agg #[iV x.ID,iV x.ah,iV x.Rights,iV x.aG,iV x.From],.pointer (some ⟨wu,0,none⟩)] w fun e w'=>e = .returned (.bool (x.ID==id))∧Ext w w':=by
 refine R.enter (n:=8) (vs:=[.agg #[iV x.ID,iV x.ah,iV x.Rights,iV x.aG,iV x.From],.pointer (some ⟨wu,0,none⟩)]) [] [(0,.agg #[iV x.ID,iV x.ah,iV x.Rights,iV x.aG,iV x.From]),(1,.pointer (some ⟨wu,0,none⟩))] Tryz.func114 rfl rfl rfl rfl ?_
 refine R.nZ (r:=ag.box wu [iV id] 3) Cp (lj Cp) ?_
 refine R.reg rfl<|R.s rfl (s.box (cs:=aA x) rfl rfl rfl) fun b1=>R.u 1 rfl<|R.nil ?_
 refine R.reg rfl<|R.q (q.a8 (off':=0) rfl bH rfl) rfl<|R.q (q.ld 0 rfl rfl av rfl) rfl<|R.q (q.A8 0 rfl rfl av rfl) rfl<|?_
 by_cases h1:x.ID=id
 ·
  refine R.q (q.eql rfl rfl (beq_iff_eq.2 (by omega))) rfl<|R.u 1 rfl<|R.nil ?_
  exact R.rv rfl Tryz.results114 rfl (rB (by (first|exact (beq_iff_eq.2 ‹_›).symm|exact (beq_eq_false_iff_ne.2 ‹_›).symm)))
 ·
  refine R.q (q.eql rfl rfl (beq_eq_false_iff_ne.2 (by omega))) rfl<|R.u 1 rfl<|R.nil ?_
  exact R.rv rfl Tryz.results114 rfl (rB (by (first|exact (beq_iff_eq.2 ‹_›).symm|exact (beq_eq_false_iff_ne.2 ‹_›).symm)))
theorem ig (bm:Value)(l:List aj)(p:aj→Bool)(Ag:Nat)(Cq:List Value)(Cr:∀args w,(callFunc Ag args).run Tryz.prog w = .ok (.enter Ag args) w)(w:World)(cp:Sl w bm l)(D2:∀W (x1:aj),Ext w W→Calls Tryz.prog Ag ([x1.val]++Cq).toArray W fun e w'=>e = .returned (.bool (p x1))∧Ext W w'):Calls Tryz.prog 113 #[bm,.func (.func Ag) #[] Cq.toArray] w fun e w'=>e = .returned (iV (idxOf p l))∧Ext w w':=by
 have ql:=cp.dH
 refine R.enter (n:=19) (vs:=[bm,.func (.func Ag) #[] Cq.toArray]) [] [(0,bm),(1,.func (.func Ag) #[] Cq.toArray)] Tryz.func113 rfl rfl rfl rfl ?_
 refine R.reg rfl<|R.u 1 rfl<|R.nil ?_
 refine R.reg rfl<|R.u 1 rfl<|R.q (q.len' (fun _=>Wd.old cp) rfl Tryz.underlying27) rfl<|R.u 1 rfl<|R.nil ?_
 refine R.loop (fun k:Nat=>[(0,bm),(1,.func (.func Ag) #[] Cq.toArray),(7,iV (l.length:Int)),(8,iV (k:Int))]) (fun k:Nat=>[]) (fun k:Nat=>[]) (fun k:Nat=>k≤l.length ∧ ∀ (j:Nat) x,j<k→l[j]? = some x→p x=false) (fun k:Nat=>l.length-k) 0 rfl (by exact ⟨by omega,fun j x hj=>absurd hj (Nat.not_lt_zero _)⟩) ⟨rfl,rfl,rfl,rfl,trivial⟩ (fun _=>Wd.pick [] [] rfl rfl rfl) ?_
 rintro k ⟨hk,HA⟩
 refine R.reg rfl<|?_
 by_cases h1:k<l.length
 ·
  refine R.q (q.lss rfl rfl (decide_eq_true (by omega))) rfl<|R.nil ?_
  refine R.aD rfl rfl ?_
  refine R.reg rfl<|R.u 2 rfl<|R.nil ?_
  refine R.reg rfl<|R.u 3 rfl<|?_
  obtain ⟨x1,hx1⟩:∃z,l[k]? = some z:=⟨_,List.getElem?_eq_getElem (by omega)⟩
  refine R.q (q.idx (i:=k) (fun _=>Wd.old cp) rfl rfl cK rfl hx1) rfl<|R.q (q.dD (ds:=aA x1) (fun _=>Wd.old cp) hx1 rfl aQ rfl) rfl<|?_
  rcases Bool.eq_false_or_eq_true (p x1) with h2|h2
  ·
   refine R.c (q.call Cr rfl rfl (fun w hw=>cv (congrArg Value.bool h2) (D2 w x1 hw.ext))) rfl<|R.nil ?_
   refine R.aD rfl rfl ?_
   refine R.reg rfl<|R.u 2 rfl<|R.nil ?_
   exact R.rv rfl Tryz.results113 rfl (rI (by (first|exact (idxOf_hit hx1 ‹_› HA).symm|exact (idxOf_miss ‹_› HA).symm)))
  ·
   refine R.c (q.call Cr rfl rfl (fun w hw=>cv (congrArg Value.bool h2) (D2 w x1 hw.ext))) rfl<|R.nil ?_
   refine R.aI rfl rfl ?_
   refine R.reg rfl<|R.q (q.add (r:=((k+1:Nat):Int)) rfl rfl (wr (by omega))) rfl<|R.u 1 rfl<|R.nil ?_
   refine R.back (k+1) rfl (by (exact ⟨by omega,jc HA hx1 ‹_›⟩)) (by omega) ⟨rfl,rfl,rfl,rfl,trivial⟩ (fun _=>Wd.pick [] [] rfl rfl rfl)
 ·
  refine R.q (q.lss rfl rfl (decide_eq_false (by omega))) rfl<|R.nil ?_
  refine R.aI rfl rfl ?_
  refine R.reg rfl<|R.u 1 rfl<|R.nil ?_
  exact R.rv rfl Tryz.results113 rfl (rI (by (first|exact (idxOf_hit hx1 ‹_› HA).symm|exact (idxOf_miss ‹_› HA).symm)))
theorem ff (bm:Value)(l:List aj)(id:Int)(w:World)(cp:Sl w bm l):Calls Tryz.prog 65 #[bm,iV id] w fun e w'=>e = .returned (iV (bL l id))∧Ext w w':=by
 have ql:=cp.dH
 refine R.enter (n:=8) (vs:=[bm,iV id]) [] [(0,bm),(1,iV id)] Tryz.func65 rfl rfl rfl rfl ?_
 refine R.reg rfl<|R.s rfl (s.box (cs:=[iV id]) rfl rfl rfl) fun b1=>R.u 1 rfl<|R.nil ?_
 refine R.reg rfl<|R.u 1 rfl<|R.q (q.AZ (cap:=[.pointer (some ⟨b1,0,none⟩)]) rfl rfl) rfl<|R.c (q.call su rfl rfl (fun w hw=>(ig _ (l) (fun (x:aj)=>x.ID==id) _ _ zX w ((fun _=>Wd.old cp) w hw) (fun W x hW=>q9 x (id) _ W (lM (hw.b 0 rfl) hW) ) ))) rfl<|R.u 1 rfl<|R.nil ?_
 exact R.rv rfl Tryz.results65 rfl (rI (by (rfl)))
end Go.Proofs.YtbkfhjaibhnkmaaGreatDoor
