import Derived.Test.YtpipachmngdegaaGreatRSP14
import Derived.Test.YtpipachmngdegaaGreatRSP9
section
namespace Go.Proofs.YtpipachmngdegaaGreat
open Go Go.RowKit
set_option linter.unusedVariables false
set_option linter.unusedSimpArgs false
set_option linter.unusedSectionVars false
set_option maxRecDepth 100000
theorem uW:tH Tryz.prog 74 ai.val:=by
  have hS:Tryz.prog.underlying 74=some (.struct (Tryz.prog.fieldsOf 74)):=by kernel_rfl
  have hp:Tryz.prog.stoodInHeld 74=false:=by kernel_rfl
  refine me (cs:=ai.cs) (by kernel_rfl) fun x y w=>?_
  have u3:=Tryz.underlying9;have a3:=Tryz.isAgg9;have z3:=Tryz.sizeOf9;have u4:=Tryz.underlying3;have a4:=Tryz.isAgg3;have z4:=Tryz.sizeOf3
  obtain ⟨x1,x2,x3⟩:=x;obtain ⟨y1,y2,y3⟩:=y
  rw [Op.equal,Op.maxDepth,show (10000:Nat)=9999+1 from rfl,run_equalIn_agg w 9999 74 _ _ hS hp]
  simp only [Program.fieldsOf,Tryz.underlying74]
  go_simp
  have tl:∀a b:ByteArray,a.toList=b.toList↔a=b:=fun a b=>by have:=jl a b;rw [Bool.eq_iff_iff] at this;simpa using this
  by_cases h1:x1=y1 <;> by_cases h2:x2=y2 <;> by_cases h3:x3=y3 <;> simp [h1,h2,h3,tl]
theorem tu:tH Tryz.prog 52 Note.val:=by
  have hS:Tryz.prog.underlying 52=some (.struct (Tryz.prog.fieldsOf 52)):=by kernel_rfl
  have hp:Tryz.prog.stoodInHeld 52=false:=by kernel_rfl
  refine me (cs:=Note.cs) (by kernel_rfl) fun x y w=>?_
  have u3:=Tryz.underlying9;have a3:=Tryz.isAgg9;have z3:=Tryz.sizeOf9;have u4:=Tryz.underlying3;have a4:=Tryz.isAgg3;have z4:=Tryz.sizeOf3
  obtain ⟨x1,x2,x3,x4⟩:=x;obtain ⟨y1,y2,y3,y4⟩:=y
  rw [Op.equal,Op.maxDepth,show (10000:Nat)=9999+1 from rfl,run_equalIn_agg w 9999 52 _ _ hS hp]
  simp only [Program.fieldsOf,Tryz.underlying52]
  go_simp
  have tl:∀a b:ByteArray,a.toList=b.toList↔a=b:=fun a b=>by have:=jl a b;rw [Bool.eq_iff_iff] at this;simpa using this
  by_cases h1:x1=y1 <;> by_cases h2:x2=y2 <;> by_cases h3:x3=y3 <;> by_cases h4:x4=y4 <;> simp [h1,h2,h3,h4,tl]
end Go.Proofs.YtpipachmngdegaaGreat
end
section
namespace Go.Proofs.YtpipachmngdegaaGreat
open Go Go.RowKit
set_option linter.unusedVariables false
set_option maxRecDepth 100000
theorem iT (err:Int)(f:Int)(w:World)(h0:0≤err):Calls Tryz.prog 12 #[ek err,.int .i64 f] w fun e w'=>e = .returned (.bool (decide (err=f)))∧Ext w w':=by
  refine R.enter (n:=26) (vs:=[ek err,.int .i64 f]) [] [(0,ek err),(1,.int .i64 f)] Tryz.func12 rfl rfl rfl rfl ?_
  refine R.reg rfl<|R.u 1 rfl<|R.nil ?_
  refine R.reg rfl<|R.u 1 rfl<|?_
  by_cases h1:err=0
  ·
    refine R.q (q.uy rfl rfl Tryz.underlying41 (by omega)) rfl<|R.nil ?_
    refine R.aI rfl rfl ?_
    refine R.reg rfl<|R.u 1 rfl<|?_
    by_cases h2:f=0
    ·
      refine R.q (q.eql rfl rfl (beq_iff_eq.2 (by omega))) rfl<|R.u 1 rfl<|R.nil ?_
      exact R.rv rfl Tryz.results12 rfl (rB (by (first|exact (decide_eq_true (by omega)).symm|exact (decide_eq_false (by omega)).symm)))
    ·
      refine R.q (q.eql rfl rfl (beq_eq_false_iff_ne.2 (by omega))) rfl<|R.u 1 rfl<|R.nil ?_
      exact R.rv rfl Tryz.results12 rfl (rB (by (first|exact (decide_eq_true (by omega)).symm|exact (decide_eq_false (by omega)).symm)))
  ·
    refine R.q (q.uz rfl rfl Tryz.underlying41 (by omega)) rfl<|R.nil ?_
    refine R.aH rfl rfl ?_
    refine R.reg rfl<|R.u 1 rfl<|R.q (q.yh rfl (by omega) Tryz.underlying69) rfl<|R.u 5 rfl<|R.nil ?_
    refine R.reg rfl<|R.u 3 rfl<|?_
    by_cases h3:0<f
    ·
      refine R.qg rfl (q.gtr rfl rfl (decide_eq_true (by omega))) rfl<|R.u 4 rfl<|?_
      by_cases h4:err=f
      ·
        refine R.qg rfl (q.eql rfl rfl (beq_iff_eq.2 (by omega))) rfl<|R.u 2 rfl<|R.nil ?_
        exact R.rv rfl Tryz.results12 rfl (rB (by (first|exact (decide_eq_true (by omega)).symm|exact (decide_eq_false (by omega)).symm)))
      ·
        refine R.qg rfl (q.eql rfl rfl (beq_eq_false_iff_ne.2 (by omega))) rfl<|R.u 2 rfl<|R.nil ?_
        exact R.rv rfl Tryz.results12 rfl (rB (by (first|exact (decide_eq_true (by omega)).symm|exact (decide_eq_false (by omega)).symm)))
    ·
      refine R.qg rfl (q.gtr rfl rfl (decide_eq_false (by omega))) rfl<|R.u 7 rfl<|R.nil ?_
      exact R.rv rfl Tryz.results12 rfl (rB (by (first|exact (decide_eq_true (by omega)).symm|exact (decide_eq_false (by omega)).symm)))
end Go.Proofs.YtpipachmngdegaaGreat
end
