import Derived.Test.YtnmpibjlnninjaaGreatDoorKS21
namespace Go.Proofs.YtnmpibjlnninjaaGreatDoor
set_option linter.unusedVariables false
set_option linter.unusedSimpArgs false
set_option maxRecDepth 100000
set_option maxHeartbeats 90000000
section
open Go Go.RowKit
attribute [local irreducible] Run Rg Rq Qt Qa Stp Dg Do Dm cD
theorem rC (r:Int)(w:World):Calls Tryz.prog 207 #[iV r] w fun e w'=>e = .returned (cD (dZ r))/\Ext w w':=by
 refine R.enter [] [(0,iV r)] Tryz.func207 O O O O<|U ?_
 by_cases h1:r<0
 .
  refine U ?_
  exact R.rv O Tryz.results207 O (dU aD (by (exact mV ae)))
 refine U ?_
 by_cases h2:7<r
 .
  refine U ?_
  exact R.rv O Tryz.results207 O (dU aD (by (exact mV ae)))
 refine U ?_
 exact R.rv O Tryz.results207 O (iT (by (exact gT ae ae)))
theorem gO (r:Int)(n:Int)(w:World)(r0:0<=r/\r<=7)(n0:0<=n/\n<=7):Calls Tryz.prog 158 #[iV r,iV n] w fun e w'=>e = .returned (.bool (hZ r n))/\Ext w w':=by
 refine R.enter [] [(0,iV r),(1,iV n)] Tryz.func158 O O O O<|U ?_
 refine R.q (q.and O O O) O<|U ?_
 by_cases h1:(bits .and .i64 r n)=n
 .
  refine U ?_
  exact R.rv O Tryz.results158 O (rB (by (exact Jn r0.1 r0.2 n0.1 n0.2 (by exact beq_iff_eq.2 af))))
 refine U ?_
 exact R.rv O Tryz.results158 O (rB (by (exact Jn r0.1 r0.2 n0.1 n0.2 (by exact beq_eq_false_iff_ne.2 af))))
theorem qa (r:Int)(n:Int)(w:World)(r0:0<=r/\r<=7)(n0:0<=n/\n<=7):Calls Tryz.prog 151 #[iV r,iV n] w fun e w'=>e = .returned (.bool (hZ r n))/\Ext w w':=by
 refine R.enter [] [(0,iV r),(1,iV n)] Tryz.func151 O O O O<|U ?_
 refine R.Mm 3 O<|U ?_
 refine R.q (q.quo (r:=n / 1) O O ae (sZ ae)) O<|R.q (q.rem (r:=(n / 1) % 2) O O ae (sC ae)) O ?_
 by_cases h1:((n / 1) % 2)=1
 .
  refine U ?_
  refine R.qg O (q.quo (r:=r / 1) O O ae (sZ ae)) O<|R.qg O (q.rem (r:=(r / 1) % 2) O O ae (sC ae)) O ?_
  by_cases h2:((r / 1) % 2)=0
  .
   refine U ?_
   exact R.rv O Tryz.results151 O (rB (by (rw [<- iu r0.1 r0.2 n0.1 n0.2];exact (jS ae).symm)))
  refine U ?_
  refine R.q (q.mul (r:=2) O O aD) O<|U ?_
  refine R.again O O<|U ?_
  refine R.q (q.quo (r:=n / 2) O O ae (sZ ae)) O<|R.q (q.rem (r:=(n / 2) % 2) O O ae (sC ae)) O ?_
  by_cases h3:((n / 2) % 2)=1
  .
   refine U ?_
   refine R.qg O (q.quo (r:=r / 2) O O ae (sZ ae)) O<|R.qg O (q.rem (r:=(r / 2) % 2) O O ae (sC ae)) O ?_
   by_cases h4:((r / 2) % 2)=0
   .
    refine U ?_
    exact R.rv O Tryz.results151 O (rB (by (rw [<- iu r0.1 r0.2 n0.1 n0.2];exact (jS ae).symm)))
   refine U ?_
   refine R.q (q.mul (r:=4) O O aD) O<|U ?_
   refine R.again O O<|U ?_
   refine R.q (q.quo (r:=n / 4) O O ae (sZ ae)) O<|R.q (q.rem (r:=(n / 4) % 2) O O ae (sC ae)) O ?_
   by_cases h5:((n / 4) % 2)=1
   .
    refine U ?_
    refine R.qg O (q.quo (r:=r / 4) O O ae (sZ ae)) O<|R.qg O (q.rem (r:=(r / 4) % 2) O O ae (sC ae)) O ?_
    by_cases h6:((r / 4) % 2)=0
    .
     refine U ?_
     exact R.rv O Tryz.results151 O (rB (by (rw [<- iu r0.1 r0.2 n0.1 n0.2];exact (jS ae).symm)))
    refine U ?_
    refine R.q (q.mul (r:=8) O O aD) O<|U ?_
    refine R.again O O<|U ?_
    exact R.rv O Tryz.results151 O (rB (by (rw [<- iu r0.1 r0.2 n0.1 n0.2];exact (j7 ae ae ae).symm)))
   refine U ?_
   refine R.q (q.mul (r:=8) O O aD) O<|U ?_
   refine R.again O O<|U ?_
   exact R.rv O Tryz.results151 O (rB (by (rw [<- iu r0.1 r0.2 n0.1 n0.2];exact (j7 ae ae ae).symm)))
  refine U ?_
  refine R.q (q.mul (r:=4) O O aD) O<|U ?_
  refine R.again O O<|U ?_
  refine R.q (q.quo (r:=n / 4) O O ae (sZ ae)) O<|R.q (q.rem (r:=(n / 4) % 2) O O ae (sC ae)) O ?_
  by_cases h7:((n / 4) % 2)=1
  .
   refine U ?_
   refine R.qg O (q.quo (r:=r / 4) O O ae (sZ ae)) O<|R.qg O (q.rem (r:=(r / 4) % 2) O O ae (sC ae)) O ?_
   by_cases h8:((r / 4) % 2)=0
   .
    refine U ?_
    exact R.rv O Tryz.results151 O (rB (by (rw [<- iu r0.1 r0.2 n0.1 n0.2];exact (jS ae).symm)))
   refine U ?_
   refine R.q (q.mul (r:=8) O O aD) O<|U ?_
   refine R.again O O<|U ?_
   exact R.rv O Tryz.results151 O (rB (by (rw [<- iu r0.1 r0.2 n0.1 n0.2];exact (j7 ae ae ae).symm)))
  refine U ?_
  refine R.q (q.mul (r:=8) O O aD) O<|U ?_
  refine R.again O O<|U ?_
  exact R.rv O Tryz.results151 O (rB (by (rw [<- iu r0.1 r0.2 n0.1 n0.2];exact (j7 ae ae ae).symm)))
 refine U ?_
 refine R.q (q.mul (r:=2) O O aD) O<|U ?_
 refine R.again O O<|U ?_
 refine R.q (q.quo (r:=n / 2) O O ae (sZ ae)) O<|R.q (q.rem (r:=(n / 2) % 2) O O ae (sC ae)) O ?_
 by_cases h9:((n / 2) % 2)=1
 .
  refine U ?_
  refine R.qg O (q.quo (r:=r / 2) O O ae (sZ ae)) O<|R.qg O (q.rem (r:=(r / 2) % 2) O O ae (sC ae)) O ?_
  by_cases h10:((r / 2) % 2)=0
  .
   refine U ?_
   exact R.rv O Tryz.results151 O (rB (by (rw [<- iu r0.1 r0.2 n0.1 n0.2];exact (jS ae).symm)))
  refine U ?_
  refine R.q (q.mul (r:=4) O O aD) O<|U ?_
  refine R.again O O<|U ?_
  refine R.q (q.quo (r:=n / 4) O O ae (sZ ae)) O<|R.q (q.rem (r:=(n / 4) % 2) O O ae (sC ae)) O ?_
  by_cases h11:((n / 4) % 2)=1
  .
   refine U ?_
   refine R.qg O (q.quo (r:=r / 4) O O ae (sZ ae)) O<|R.qg O (q.rem (r:=(r / 4) % 2) O O ae (sC ae)) O ?_
   by_cases h12:((r / 4) % 2)=0
   .
    refine U ?_
    exact R.rv O Tryz.results151 O (rB (by (rw [<- iu r0.1 r0.2 n0.1 n0.2];exact (jS ae).symm)))
   refine U ?_
   refine R.q (q.mul (r:=8) O O aD) O<|U ?_
   refine R.again O O<|U ?_
   exact R.rv O Tryz.results151 O (rB (by (rw [<- iu r0.1 r0.2 n0.1 n0.2];exact (j7 ae ae ae).symm)))
  refine U ?_
  refine R.q (q.mul (r:=8) O O aD) O<|U ?_
  refine R.again O O<|U ?_
  exact R.rv O Tryz.results151 O (rB (by (rw [<- iu r0.1 r0.2 n0.1 n0.2];exact (j7 ae ae ae).symm)))
 refine U ?_
 refine R.q (q.mul (r:=4) O O aD) O<|U ?_
 refine R.again O O<|U ?_
 refine R.q (q.quo (r:=n / 4) O O ae (sZ ae)) O<|R.q (q.rem (r:=(n / 4) % 2) O O ae (sC ae)) O ?_
 by_cases VG:((n / 4) % 2)=1
 .
  refine U ?_
  refine R.qg O (q.quo (r:=r / 4) O O ae (sZ ae)) O<|R.qg O (q.rem (r:=(r / 4) % 2) O O ae (sC ae)) O ?_
  by_cases Yt:((r / 4) % 2)=0
  .
   refine U ?_
   exact R.rv O Tryz.results151 O (rB (by (rw [<- iu r0.1 r0.2 n0.1 n0.2];exact (jS ae).symm)))
  refine U ?_
  refine R.q (q.mul (r:=8) O O aD) O<|U ?_
  refine R.again O O<|U ?_
  exact R.rv O Tryz.results151 O (rB (by (rw [<- iu r0.1 r0.2 n0.1 n0.2];exact (j7 ae ae ae).symm)))
 refine U ?_
 refine R.q (q.mul (r:=8) O O aD) O<|U ?_
 refine R.again O O<|U ?_
 exact R.rv O Tryz.results151 O (rB (by (rw [<- iu r0.1 r0.2 n0.1 n0.2];exact (j7 ae ae ae).symm)))
theorem Bc (x:ap)(w:World):Calls Tryz.prog 198 #[.agg #[iV x.ID,iV x.aA,iV x.Rights,iV x.aU,iV x.From]] w fun e w'=>e = .returned (cD (dB x))/\Ext w w':=by
 refine R.enter [] [(0,.agg #[iV x.ID,iV x.aA,iV x.Rights,iV x.aU,iV x.From])] Tryz.func198 O O O O<|U ?_
 refine R.s O (s.box O O O) fun b1=>U ?_
 by_cases h1:x.ID<1
 .
  refine U ?_
  exact R.rv O Tryz.results198 O (dU aD (by (exact fE ae)))
 refine U ?_
 by_cases h2:999<x.ID
 .
  refine U ?_
  exact R.rv O Tryz.results198 O (dU aD (by (exact fE ae)))
 refine U ?_
 by_cases h3:x.aA<1
 .
  refine U ?_
  exact R.rv O Tryz.results198 O (dU aD (by (exact fE ae)))
 refine U ?_
 by_cases h4:999<x.aA
 .
  refine U ?_
  exact R.rv O Tryz.results198 O (dU aD (by (exact fE ae)))
 refine U ?_
 by_cases h5:x.aU<0
 .
  refine U ?_
  exact R.rv O Tryz.results198 O (dU aD (by (exact fE ae)))
 refine U ?_
 by_cases h6:99<x.aU
 .
  refine U ?_
  exact R.rv O Tryz.results198 O (dU aD (by (exact fE ae)))
 refine U ?_
 by_cases h7:x.From<0
 .
  refine U ?_
  exact R.rv O Tryz.results198 O (dU aD (by (exact fE ae)))
 refine U ?_
 by_cases h8:x.From<x.ID
 .
  refine U ?_
  refine R.c (q.call N3 O O (fun w hw=>(rC x.Rights w ))) O<|U ?_
  exact R.rv O Tryz.results198 O (rE (by (exact (yA ae).symm)))
 refine U ?_
 exact R.rv O Tryz.results198 O (dU aD (by (exact fE ae)))
theorem nn (x:ap)(id:Int)(r:Int)(b:Int)(w:World)(x0:0<=x.Rights/\x.Rights<=7):Calls Tryz.prog 159 #[.agg #[iV x.ID,iV x.aA,iV x.Rights,iV x.aU,iV x.From],iV id,iV r,iV b] w fun e w'=>e = .returned (.tuple #[ap.val (derived x id r b).1,cD (derived x id r b).2])/\Ext w w':=by
 refine R.enter [] [(0,.agg #[iV x.ID,iV x.aA,iV x.Rights,iV x.aU,iV x.From]),(1,iV id),(2,iV r),(3,iV b)] Tryz.func159 O O O O<|U ?_
 refine R.s O (s.box O O O) fun b1=>?_
 refine R.s O (s.alloc br O O) fun b2=>U ?_
 refine R.c (q.call N3 O O (fun w hw=>(rC r w ))) O<|U ?_
 by_cases h1:dZ r=0
 .
  refine U ?_
  have hr:=qp af
  refine U ?_
  by_cases h2:b<0
  .
   refine U ?_
   refine R.s O (s.st 0 _ O O O O (.inl aH) O O O O) fun _=>U ?_
   exact R.s7 O Tryz.results159 (RV.cell 0 O O aH) (RV.tmp O) (congrArg ap.val (show (⟨0,0,0,0,0⟩:ap)=(derived x id r b).1 from by ((rw [gI ae]) <;> rfl))) (dU aD (by ((rw [gI ae]) <;> first|rfl|exact bV af | (simp;omega))))
  refine U ?_
  by_cases h3:99<b
  .
   refine U ?_
   refine R.s O (s.st 0 _ O O O O (.inl aH) O O O O) fun _=>U ?_
   exact R.s7 O Tryz.results159 (RV.cell 0 O O aH) (RV.tmp O) (congrArg ap.val (show (⟨0,0,0,0,0⟩:ap)=(derived x id r b).1 from by ((rw [gI ae]) <;> rfl))) (dU aD (by ((rw [gI ae]) <;> first|rfl|exact bV af | (simp;omega))))
  refine U ?_
  rcases Bool.eq_false_or_eq_true (hZ x.Rights r) with h4|h4
  .
   refine R.c (q.call rm O O (fun w hw=>(cv (congrArg Value.bool h4) (gO x.Rights r w ae ae)))) O<|U ?_
   by_cases h5:b=0
   .
    refine U ?_
    refine R.s O (s.st 0 _ O O O O (.inl aH) O O O O) fun _=>U ?_
    exact R.s7 O Tryz.results159 (RV.cell 0 O O aH) (RV.tmp O) (congrArg ap.val (show (⟨id,x.aA,r,x.aU,x.ID⟩:ap)=(derived x id r b).1 from by ((rw [mW ae af ae]) <;> first|rfl|exact bV af | (simp;omega)))) (iT (by ((rw [mW ae af ae]) <;> first|rfl|exact bV af | (simp;omega))))
   refine U ?_
   by_cases h6:x.aU=0
   .
    refine U ?_
    refine R.s O (s.st 0 _ O O O O (.inl aH) O O O O) fun _=>U ?_
    exact R.s7 O Tryz.results159 (RV.cell 0 O O aH) (RV.tmp O) (congrArg ap.val (show (⟨id,x.aA,r,b,x.ID⟩:ap)=(derived x id r b).1 from by ((rw [mX ae af ae ae]) <;> first|rfl|exact bV af | (simp;omega)))) (iT (by ((rw [mX ae af ae ae]) <;> first|rfl|exact bV af | (simp;omega))))
   refine U ?_
   by_cases h7:b=x.aU
   .
    refine U ?_
    refine R.s O (s.st 0 _ O O O O (.inl aH) O O O O) fun _=>U ?_
    exact R.s7 O Tryz.results159 (RV.cell 0 O O aH) (RV.tmp O) (congrArg ap.val (show (⟨id,x.aA,r,b,x.ID⟩:ap)=(derived x id r b).1 from by ((rw [kZ ae af ae ae]) <;> (simp;omega)))) (iT (by ((rw [kZ ae af ae ae]) <;> first|rfl|exact bV af | (simp;omega))))
   refine U ?_
   refine R.s O (s.st 0 _ O O O O (.inl aH) O O O O) fun _=>U ?_
   exact R.s7 O Tryz.results159 (RV.cell 0 O O aH) (RV.tmp O) (congrArg ap.val (show (⟨0,0,0,0,0⟩:ap)=(derived x id r b).1 from by ((rw [pz ae af ae]) <;> rfl))) (dU aD (by ((rw [pz ae af ae]) <;> first|rfl|exact bV af | (simp;omega))))
  refine R.c (q.call rm O O (fun w hw=>(cv (congrArg Value.bool h4) (gO x.Rights r w ae ae)))) O<|U ?_
  refine R.s O (s.st 0 _ O O O O (.inl aH) O O O O) fun _=>U ?_
  exact R.s7 O Tryz.results159 (RV.cell 0 O O aH) (RV.tmp O) (congrArg ap.val (show (⟨0,0,0,0,0⟩:ap)=(derived x id r b).1 from by ((rw [py ae af]) <;> rfl))) (dU aD (by ((rw [py ae af]) <;> first|rfl|exact bV af | (simp;omega))))
 refine U ?_
 refine R.s O (s.st 0 _ O O O O (.inl aH) O O O O) fun _=>U ?_
 exact R.s7 O Tryz.results159 (RV.cell 0 O O aH) (RV.tmp O) (congrArg ap.val (show (⟨0,0,0,0,0⟩:ap)=(derived x id r b).1 from by ((rw [ta af]) <;> rfl))) (rE (by ((rw [ta af]) <;> exact bV af)))
theorem np (x:ap)(id:Int)(r:Int)(b:Int)(w:World)(x0:0<=x.Rights/\x.Rights<=7):Calls Tryz.prog 90 #[.agg #[iV x.ID,iV x.aA,iV x.Rights,iV x.aU,iV x.From],iV id,iV r,iV b] w fun e w'=>e = .returned (.tuple #[ap.val (derived x id r b).1,iV (derived x id r b).2])/\Ext w w':=by
 refine R.enter [] [(0,.agg #[iV x.ID,iV x.aA,iV x.Rights,iV x.aU,iV x.From]),(1,iV id),(2,iV r),(3,iV b)] Tryz.func90 O O O O<|U ?_
 refine R.s O (s.box O O O) fun b1=>?_
 refine R.s O (s.alloc br O O) fun b2=>U ?_
 by_cases h1:r<0
 .
  refine U ?_
  refine R.s O (s.st 0 _ O O O O (.inl aH) O O O O) fun _=>U ?_
  exact R.s7 O Tryz.results90 (RV.cell 0 O O aH) (RV.tmp O) (congrArg ap.val (show (⟨0,0,0,0,0⟩:ap)=(derived x id r b).1 from by ((rw [gI ae]) <;> rfl))) (rI (by ((rw [gI ae]) <;> first|rfl|exact bV af | (simp;omega))))
 refine U ?_
 by_cases h2:7<r
 .
  refine U ?_
  refine R.s O (s.st 0 _ O O O O (.inl aH) O O O O) fun _=>U ?_
  exact R.s7 O Tryz.results90 (RV.cell 0 O O aH) (RV.tmp O) (congrArg ap.val (show (⟨0,0,0,0,0⟩:ap)=(derived x id r b).1 from by ((rw [gI ae]) <;> rfl))) (rI (by ((rw [gI ae]) <;> first|rfl|exact bV af | (simp;omega))))
 refine U ?_
 by_cases h3:b<0
 .
  refine U ?_
  refine R.s O (s.st 0 _ O O O O (.inl aH) O O O O) fun _=>U ?_
  exact R.s7 O Tryz.results90 (RV.cell 0 O O aH) (RV.tmp O) (congrArg ap.val (show (⟨0,0,0,0,0⟩:ap)=(derived x id r b).1 from by ((rw [gI ae]) <;> rfl))) (rI (by ((rw [gI ae]) <;> first|rfl|exact bV af | (simp;omega))))
 refine U ?_
 by_cases h4:99<b
 .
  refine U ?_
  refine R.s O (s.st 0 _ O O O O (.inl aH) O O O O) fun _=>U ?_
  exact R.s7 O Tryz.results90 (RV.cell 0 O O aH) (RV.tmp O) (congrArg ap.val (show (⟨0,0,0,0,0⟩:ap)=(derived x id r b).1 from by ((rw [gI ae]) <;> rfl))) (rI (by ((rw [gI ae]) <;> first|rfl|exact bV af | (simp;omega))))
 refine U ?_
 rcases Bool.eq_false_or_eq_true (hZ x.Rights r) with h5|h5
 .
  refine R.c (q.call DR O O (fun w hw=>(cv (congrArg Value.bool h5) (qa x.Rights r w ae ae)))) O<|U ?_
  by_cases h6:b=0
  .
   refine U ?_
   by_cases h7:x.aU=0
   .
    refine U ?_
    refine R.s O (s.st 0 _ O O O O (.inl aH) O O O O) fun _=>U ?_
    exact R.s7 O Tryz.results90 (RV.cell 0 O O aH) (RV.tmp O) (congrArg ap.val (show (⟨id,x.aA,r,b,x.ID⟩:ap)=(derived x id r b).1 from by ((rw [mW ae af ae]) <;> (simp;omega)))) (rI (by ((rw [mW ae af ae]) <;> first|rfl|exact bV af | (simp;omega))))
   refine U ?_
   refine R.s O (s.st 0 _ O O O O (.inl aH) O O O O) fun _=>U ?_
   exact R.s7 O Tryz.results90 (RV.cell 0 O O aH) (RV.tmp O) (congrArg ap.val (show (⟨id,x.aA,r,x.aU,x.ID⟩:ap)=(derived x id r b).1 from by ((rw [kZ ae af ae ae]) <;> first|rfl|exact bV af | (simp;omega)))) (rI (by ((rw [kZ ae af ae ae]) <;> first|rfl|exact bV af | (simp;omega))))
  refine U ?_
  by_cases h8:x.aU=0
  .
   refine U ?_
   refine R.s O (s.st 0 _ O O O O (.inl aH) O O O O) fun _=>U ?_
   exact R.s7 O Tryz.results90 (RV.cell 0 O O aH) (RV.tmp O) (congrArg ap.val (show (⟨id,x.aA,r,b,x.ID⟩:ap)=(derived x id r b).1 from by ((rw [mX ae af ae ae]) <;> first|rfl|exact bV af | (simp;omega)))) (rI (by ((rw [mX ae af ae ae]) <;> first|rfl|exact bV af | (simp;omega))))
  refine U ?_
  by_cases h9:b=x.aU
  .
   refine U ?_
   refine R.s O (s.st 0 _ O O O O (.inl aH) O O O O) fun _=>U ?_
   exact R.s7 O Tryz.results90 (RV.cell 0 O O aH) (RV.tmp O) (congrArg ap.val (show (⟨id,x.aA,r,x.aU,x.ID⟩:ap)=(derived x id r b).1 from by ((rw [kZ ae af ae ae]) <;> first|rfl|exact bV af | (simp;omega)))) (rI (by ((rw [kZ ae af ae ae]) <;> first|rfl|exact bV af | (simp;omega))))
  refine U ?_
  refine R.s O (s.st 0 _ O O O O (.inl aH) O O O O) fun _=>U ?_
  exact R.s7 O Tryz.results90 (RV.cell 0 O O aH) (RV.tmp O) (congrArg ap.val (show (⟨0,0,0,0,0⟩:ap)=(derived x id r b).1 from by ((rw [pz ae af ae]) <;> rfl))) (rI (by ((rw [pz ae af ae]) <;> first|rfl|exact bV af | (simp;omega))))
 refine R.c (q.call DR O O (fun w hw=>(cv (congrArg Value.bool h5) (qa x.Rights r w ae ae)))) O<|U ?_
 refine R.s O (s.st 0 _ O O O O (.inl aH) O O O O) fun _=>U ?_
 exact R.s7 O Tryz.results90 (RV.cell 0 O O aH) (RV.tmp O) (congrArg ap.val (show (⟨0,0,0,0,0⟩:ap)=(derived x id r b).1 from by ((rw [py ae af]) <;> rfl))) (rI (by ((rw [py ae af]) <;> first|rfl|exact bV af | (simp;omega))))
theorem GH (x:ap)(id:Int)(Rb:Nat)(w:World)(XZ:(aj.box Rb [iV id] 3).ok w):Calls Tryz.prog 200 #[.agg #[iV x.ID,iV x.aA,iV x.Rights,iV x.aU,iV x.From],.pointer (some ⟨Rb,0,none⟩)] w fun e w'=>e = .returned (.bool (x.ID==id))/\Ext w w':=by
 refine R.enter [] [(0,.agg #[iV x.ID,iV x.aA,iV x.Rights,iV x.aU,iV x.From]),(1,.pointer (some ⟨Rb,0,none⟩))] Tryz.func200 O O O O<|R.oN (r:=aj.box Rb [iV id] 3) XZ (jQ XZ)<|U ?_
 refine R.s O (s.box O O O) fun b1=>U ?_
 refine R.q (q.AL 0 O O bg O) O ?_
 by_cases h1:x.ID=id
 .
  refine U ?_
  exact R.rv O Tryz.results200 O (rB (by (exact (beq_iff_eq.2 af).symm)))
 refine U ?_
 exact R.rv O Tryz.results200 O (rB (by (exact (beq_eq_false_iff_ne.2 af).symm)))
theorem nq (bL:Value)(l:List ap)(p:ap->Bool)(X0:Nat)(Yy:List Value)(X1:dw X0)(w:World)(dK:Sl w bL l)(H_p:∀W (x1:ap),Ext w W->Calls Tryz.prog X0 ([x1.val]++Yy).toArray W fun e w'=>e = .returned (.bool (p x1))/\Ext W w'):Calls Tryz.prog 199 #[bL,.func (.func X0) #[] Yy.toArray] w fun e w'=>e = .returned (iV (idxOf p l))/\Ext w w':=by
 have wk:=dK.eV
 refine R.enter [] [(0,bL),(1,.func (.func X0) #[] Yy.toArray)] Tryz.func199 O O O O<|U ?_
 refine R.loop (fun k:Nat=>[(0,bL),(1,.func (.func X0) #[] Yy.toArray),(7,iV (l.length:Int)),(8,iV (k:Int))]) (fun k:Nat=>[]) (fun k:Nat=>[]) (fun k:Nat=>k<=l.length /\ ∀ (j:Nat) x,j<k->l[j]? = some x->p x=false) (fun k:Nat=>l.length-k) 0 O (by exact ⟨ae,fun j x hj=>absurd hj (Nat.not_lt_zero _)⟩) (sF O) (eI [] [] O) ?_
 rintro k ⟨hk,HA⟩
 refine U ?_
 by_cases h1:k<l.length
 .
  refine U ?_
  obtain ⟨x1,hx1⟩:=gE l k
  refine R.q (q.idx (i:=k) (fun _=>Wd.old dK) O O cR O hx1) O<|R.q (q.dj (ds:=fY x1) (fun _=>Wd.old dK) hx1 O aH O) O ?_
  rcases Bool.eq_false_or_eq_true (p x1) with h2|h2
  .
   refine R.c (q.call X1 O O (fun w hw=>cv (congrArg Value.bool h2) (H_p w x1 hw.ext))) O<|U ?_
   exact R.rv O Tryz.results199 O (rI (by (exact (idxOf_hit hx1 af HA).symm)))
  refine R.c (q.call X1 O O (fun w hw=>cv (congrArg Value.bool h2) (H_p w x1 hw.ext))) O<|U ?_
  refine R.q (q.aL (r:=((k+1:Nat):Int)) O O) O<|U ?_
  refine R.back (k+1) O (by (exact ⟨ae,j8 HA hx1 af⟩)) ae (sF O) (eI [] [] O)
 refine U ?_
 exact R.rv O Tryz.results199 O (rI (by (exact (idxOf_miss af HA).symm)))
theorem iJ (bL:Value)(l:List ap)(id:Int)(w:World)(dK:Sl w bL l):Calls Tryz.prog 143 #[bL,iV id] w fun e w'=>e = .returned (iV (cO l id))/\Ext w w':=by
 have wk:=dK.eV
 refine R.enter [] [(0,bL),(1,iV id)] Tryz.func143 O O O O<|U ?_
 refine R.s O (s.box O O O) fun b1=>U ?_
 refine R.q (q.PN (cap:=[.pointer (some ⟨b1,0,none⟩)]) O O) O<|R.c (q.call Iw O O (fun w hw=>(nq _ l (fun (x:ap)=>x.ID==id) _ _ Un w ((fun _=>Wd.old dK) w hw) (fun W x hW=>GH x id _ W (uh (hw.b 0 O) hW) ) ))) O<|U ?_
 exact R.rv O Tryz.results143 O (rI ck)
theorem gP (bL:Value)(l:List ap)(id:Int)(w:World)(dK:Sl w bL l):Calls Tryz.prog 147 #[bL,iV id] w fun e w'=>e = .returned (iV (cO l id))/\Ext w w':=by
 have wk:=dK.eV
 refine R.enter [] [(0,bL),(1,iV id)] Tryz.func147 O O O O<|U ?_
 refine R.loop (fun k:Nat=>[(0,bL),(1,iV id),(5,iV (k:Int))]) (fun k:Nat=>[]) (fun k:Nat=>[]) (fun k:Nat=>k<=l.length /\ ∀ (j:Nat) x,j<k->l[j]? = some x->(x.ID==id)=false) (fun k:Nat=>l.length-k) 0 O (by exact ⟨ae,fun j x hj=>absurd hj (Nat.not_lt_zero _)⟩) (sF O) (eI [] [] O) ?_
 rintro k ⟨hk,HA⟩
 refine U ?_
 by_cases h1:k<l.length
 .
  refine U ?_
  obtain ⟨x1,hx1⟩:=gE l k
  refine R.q (q.idx (i:=k) (fun _=>Wd.old dK) O O cR O hx1) O<|R.q (q.ew (j':=0) (fun _=>Wd.old dK) hx1 O gV O) O<|R.q (q.gh (fun _=>Wd.old dK) hx1 O bg O) O<|U ?_
  by_cases h2:x1.ID=id
  .
   refine U ?_
   exact R.rv O Tryz.results147 O (rI (by (rw [BK];exact (idxOf_hit (p:=fun x=>x.ID==id) hx1 (beq_iff_eq.2 h2) HA).symm)))
  refine U ?_
  refine R.q (q.aL (r:=((k+1:Nat):Int)) O O) O<|U ?_
  refine R.back (k+1) O (by (exact ⟨ae,j8 (p:=fun x=>x.ID==id) HA hx1 (beq_eq_false_iff_ne.2 h2)⟩)) ae (sF O) (eI [] [] O)
 refine U ?_
 exact R.rv O Tryz.results147 O (rI (by (rw [BK];exact (idxOf_miss h1 HA).symm)))
end
section
open Go Go.RowKit
attribute [local irreducible] Run Rg Rq Qt Qa Stp Dg Do Dm cD
theorem Bd (bL:Value)(l:List ap)(w:World)(dK:Sl w bL l):Calls Tryz.prog 142 #[bL] w fun e w'=>e = .returned (cD (eQ l))/\Ext w w':=by
 have wk:=dK.eV
 refine R.enter [] [(0,bL)] Tryz.func142 O O O O<|U ?_
 refine R.loop (fun k:Nat=>[(0,bL),(8,bL),(9,iV (l.length:Int)),(10,iV (k:Int))]) (fun k:Nat=>[]) (fun k:Nat=>[]) (fun k:Nat=>k<=l.length /\ ∀j,j<k->ia l j=0) (fun k:Nat=>l.length-k) 0 O (by exact ⟨ae,fun j hj=>absurd hj (Nat.not_lt_zero _)⟩) (sF O) (eI [] [] O) ?_
 rintro k ⟨hk,HA⟩
 refine U ?_
 by_cases h1:k<l.length
 .
  refine U ?_
  obtain ⟨x1,hx1⟩:=gE l k
  have Zr:=kz x1
  refine R.q (q.idx (i:=k) (fun _=>Wd.old dK) O O cR O hx1) O<|R.q (q.dj (ds:=fY x1) (fun _=>Wd.old dK) hx1 O aH O) O<|R.s O (s.alloc br O O) fun b1=>U ?_
  refine R.s O (s.st 0 _ O O O O (.inl aH) O O O O) fun _=>U ?_
  refine R.c (q.call Um O O (fun w hw=>(Bc x1 w ))) O<|U ?_
  by_cases h2:dB x1=0
  .
   refine V ?_
   refine R.cut 2 (fun _u:Unit=>[(0,bL),(3,iV (k:Int)),(4,.pointer (some ⟨b1,0,none⟩)),(8,bL),(9,iV (l.length:Int)),(10,iV (k:Int))]) (fun _u:Unit=>[aj.box b1 (fY x1) 126]) (fun _u:Unit=>[]) (fun _u:Unit=>Hid (¬ 0<k ∨ ∃y,l[k-1]? = some y/\y.ID<x1.ID)) O O O ?_ ?_
   .
    by_cases h3:0<k
    .
     obtain ⟨x2,hx2⟩:=gE l (k-1)
     have VI:=kz x2
     by_cases h4:x2.ID<x1.ID
     .
      refine R.dA O mixed ai<|U ?_
      refine Q.qg O (q.kL (r:=((k-1:Nat):Int)) O O) O<|Q.qg O (q.idx (i:=(k-1)) (fun _=>Wd.old dK) O O cR O hx2) O<|Q.qg O (q.ew (j':=0) (fun _=>Wd.old dK) hx2 O gV O) O<|Q.qg O (q.gh (fun _=>Wd.old dK) hx2 O bg O) O<|U ?_
      exact R.meet () O (by (exact .inr ⟨_,hx2,af⟩)) (sF O) (eI [0] [] O)
     refine R.dA O mixed ai<|U ?_
     refine Q.qg O (q.kL (r:=((k-1:Nat):Int)) O O) O<|Q.qg O (q.idx (i:=(k-1)) (fun _=>Wd.old dK) O O cR O hx2) O<|Q.qg O (q.ew (j':=0) (fun _=>Wd.old dK) hx2 O gV O) O<|Q.qg O (q.gh (fun _=>Wd.old dK) hx2 O bg O) O<|U ?_
     exact R.rv O Tryz.results142 O (dU aD (by (exact (gU ae (nY hx1 ae af hx2 af) aD HA))))
    refine R.dA O mixed ai<|U ?_
    exact R.meet () O (by (exact .inl af)) (sF O) (eI [0] [] O)
   rintro _u hS
   refine U ?_
   by_cases h5:x1.From=0
   .
    refine U ?_
    refine R.q (q.aL (r:=((k+1:Nat):Int)) O O) O<|U ?_
    refine R.back (k+1) O (by (exact ⟨ae,td HA (yB hx1 ae hS.out af)⟩)) ae (sF O) (eI [] [] O)
   refine U ?_
   rcases eh (l.take k) x1.From with ⟨fS,Eh⟩ | ⟨wE,kv,fS,vj,S3⟩
   .
    refine R.dA O mixed ai<|U ?_
    refine Q.q (q.ku (i:=k) (fun _=>Wd.old dK) O O Tryz.underlying43 DJ O ae) O<|U ?_
    refine Q.c (q.call ma O O (fun w hw=>(cv (congrArg (Value.int .i64) fS) (iJ _ (l.take k) x1.From w ((fun w hw=>Sl.to ((fun _=>Wd.old dK) w hw) ae) w hw) )))) O<|U ?_
    exact R.rv O Tryz.results142 O (dU aD (by (exact (gU ae (yC hx1 ae hS.out af fS) aD HA))))
   refine R.dA O mixed ai<|U ?_
   refine Q.q (q.ku (i:=k) (fun _=>Wd.old dK) O O Tryz.underlying43 DJ O ae) O<|U ?_
   refine Q.c (q.call ma O O (fun w hw=>(cv (congrArg (Value.int .i64) fS) (iJ _ (l.take k) x1.From w ((fun w hw=>Sl.to ((fun _=>Wd.old dK) w hw) ae) w hw) )))) O<|U ?_
   have sJ:wE<k:=by simp at kv;omega
   obtain ⟨x3,hx3⟩:=gE l wE
   have wx:=um hx3 (HA wE sJ)
   have Zr:=wx.R3;have VI:=wx.R4
   have wd:=iL x3 x1.ID x1.Rights x1.aU
   refine R.eA (fuel:=17) [0] O O mixed O<|D.l nD [0] [] O<|U ?_
   refine Dm.yy O O (q.idx (i:=wE) (fun _=>Wd.old dK) O O cR O hx3) O<|Dm.yy O O (q.dj (ds:=fY x3) (fun _=>Wd.old dK) hx3 O aH O) O<|U ?_
   refine D.two (i:=10) (j:=14) O O ?_ ?_
   .
    refine Do.s (s.c (q.call zK O O (fun w hw=>(nn x3 x1.ID x1.Rights x1.aU w ae))) O) (fun _=>(aN [0] [] O)) O fun _=>?_
    refine D.l [11,12,13] [0] [] O<|U ?_
    refine D.one (i:=14) O<|Do.s (s.alloc br O O) (fun _=>(aN [1] [] O)) O fun b2=>?_
    refine D.one (i:=15) O<|Do.s (s.st 0 _ O O O O (.inl aH) O O O O) (fun _=>(aN [1] [] O)) O fun _=>?_
    refine D.l [16] [1] [] O<|U ?_
    refine D.done<|U ?_
    by_cases h6:(derived x3 x1.ID x1.Rights x1.aU).2=0
    .
     refine U ?_
     by_cases h7:(derived x3 x1.ID x1.Rights x1.aU).1=x1
     .
      refine R.q (q.kQ (x:=(derived x3 x1.ID x1.Rights x1.aU).1) (y:=x1) wh O O h7) O<|U ?_
      refine R.q (q.aL (r:=((k+1:Nat):Int)) O O) O<|U ?_
      refine R.back (k+1) O (by (exact ⟨ae,td HA ((ji hx1 ae hS.out af fS sJ hx3).trans ((if_neg ae).trans (if_neg (fun h=>h af))))⟩)) ae (sF O) (eI [] [] O)
     refine R.q (q.kR (x:=(derived x3 x1.ID x1.Rights x1.aU).1) (y:=x1) wh O O h7) O<|U ?_
     exact R.rv O Tryz.results142 O (dU aD (by (exact (gU ae ((ji hx1 ae hS.out af fS sJ hx3).trans ((if_neg ae).trans (if_pos af))) aD HA))))
    refine U ?_
    exact R.rv O Tryz.results142 O (rE (by (exact (gU ae ((ji hx1 ae hS.out af fS sJ hx3).trans (if_pos ae)) ae HA).symm)))
   refine Do.s (s.alloc br O O) (fun _=>(aN [1] [] O)) O fun b3=>?_
   refine D.one (i:=10) O<|Do.s (s.c (q.call zK O O (fun w hw=>(nn x3 x1.ID x1.Rights x1.aU w ae))) O) (fun _=>(aN [1] [] O)) O fun _=>?_
   refine D.l [11,12,13] [1] [] O<|U ?_
   refine D.one (i:=15) O<|Do.s (s.st 0 _ O O O O (.inl aH) O O O O) (fun _=>(aN [1] [] O)) O fun _=>?_
   refine D.l [16] [1] [] O<|U ?_
   refine D.done<|U ?_
   by_cases h8:(derived x3 x1.ID x1.Rights x1.aU).2=0
   .
    refine U ?_
    by_cases h9:(derived x3 x1.ID x1.Rights x1.aU).1=x1
    .
     refine R.q (q.kQ (x:=(derived x3 x1.ID x1.Rights x1.aU).1) (y:=x1) wh O O h9) O<|U ?_
     refine R.q (q.aL (r:=((k+1:Nat):Int)) O O) O<|U ?_
     refine R.back (k+1) O (by (exact ⟨ae,td HA ((ji hx1 ae hS.out af fS sJ hx3).trans ((if_neg ae).trans (if_neg (fun h=>h af))))⟩)) ae (sF O) (eI [] [] O)
    refine R.q (q.kR (x:=(derived x3 x1.ID x1.Rights x1.aU).1) (y:=x1) wh O O h9) O<|U ?_
    exact R.rv O Tryz.results142 O (dU aD (by (exact (gU ae ((ji hx1 ae hS.out af fS sJ hx3).trans ((if_neg ae).trans (if_pos af))) aD HA))))
   refine U ?_
   exact R.rv O Tryz.results142 O (rE (by (exact (gU ae ((ji hx1 ae hS.out af fS sJ hx3).trans (if_pos ae)) ae HA).symm)))
  refine U ?_
  exact R.rv O Tryz.results142 O (rE (by (have e:dB x1=1:=ae;rw [e];exact (gU ae (jh hx1 ae) aD HA).symm)))
 refine U ?_
 exact R.rv O Tryz.results142 O (iT (by (exact (qN (fun j hj=>HA j ae)))))
theorem rD (bL:Value)(l:List ap)(id:Int)(w:World)(dK:Sl w bL l)(hl:l.length<=1000000):Calls Tryz.prog 161 #[bL,iV id] w fun e w' => ∃u,e = .returned u/\Own w.heap.size 126 w' u (without l id)/\Ext w w':=by
 have wk:=dK.eV
 refine R.enter [] [(0,bL),(1,iV id)] Tryz.func161 O O O O<|U ?_
 rcases eh l id with ⟨fS,Eh⟩ | ⟨wE,kv,fS,vj,S3⟩
 .
  refine R.c (q.call ma O O (fun w hw=>(cv (congrArg (Value.int .i64) fS) (iJ _ l id w ((fun _=>Wd.old dK) w hw) )))) O<|U ?_
  refine R.row0 (α:=ap) 126<|R.loop (fun g_:Nat×Value×(List ap)=>[(1,iV id),(5,g_.2.1),(6,iV 0),(20,bL),(21,iV (l.length:Int)),(22,iV (g_.1:Int))]) (fun g_=>[aj.row 126 g_.2.1 g_.2.2]) (fun g_=>[]) (fun g_=>g_.1<=l.length/\g_.2.2=EY id 0 (l.take g_.1)) (fun g_=>l.length-g_.1) (0,nS,[]) O (by exact ⟨bW,by simp [EY,sG]⟩) (sF O) (eI [0] [] O) ?_
  rintro ⟨k,v,acc⟩ ⟨hk,HA⟩
  dsimp only at *
  have hal:acc.length<=k:=by rw [HA];exact Nat.le_trans (C6 _ _ _) (List.length_take_le _ _)
  refine U ?_
  by_cases h1:k<l.length
  .
   refine U ?_
   obtain ⟨x1,hx1⟩:=gE l k
   refine R.q (q.idx (i:=k) (fun _=>Wd.old dK) O O cR O hx1) O<|R.q (q.dj (ds:=fY x1) (fun _=>Wd.old dK) hx1 O aH O) O<|R.s O (s.alloc br O O) fun b1=>?_
   refine R.s O (s.st 0 _ O O O O (.inl aH) O O O O) fun _=>U ?_
   by_cases h2:x1.ID=id
   .
    refine U ?_
    refine R.q (q.aL (r:=((k+1:Nat):Int)) O O) O<|U ?_
    refine R.back (k+1,v,acc) O (by (exact ⟨ae,by rw [HA,Jo hx1 af]⟩)) aO (sF O) (eI [1] [] O)
   refine U ?_
   by_cases h3:x1.From=id
   .
    refine U ?_
    refine R.s O (s.st 0 _ O O O O (.inr ⟨bg,rfl⟩) O O O O) fun _=>U ?_
    refine R.s O (s.bs (l:=([(⟨x1.ID,x1.aA,x1.Rights,x1.aU,0⟩:ap)]:List ap)) cR br O O O O O O O) fun b2=>?_
    refine R.s O (s.app 2 _ O O O (bH 0 O) g9 az az (fun _=>rfl) O) fun v1=>U ?_
    refine R.q (q.aL (r:=((k+1:Nat):Int)) O O) O<|U ?_
    refine R.back (k+1,v1,(acc++([(⟨x1.ID,x1.aA,x1.Rights,x1.aU,0⟩:ap)]))) O (by (exact ⟨ae,by rw [HA,uo hx1 af,yE af]⟩)) aO (sF O) (eI [2] [] O)
   refine U ?_
   refine R.s O (s.bs (l:=([x1]:List ap)) cR br O O O O O O O) fun b3=>?_
   refine R.s O (s.app 2 _ O O O (bH 0 O) g9 az az (fun _=>rfl) O) fun v2=>U ?_
   refine R.q (q.aL (r:=((k+1:Nat):Int)) O O) O<|U ?_
   refine R.back (k+1,v2,(acc++([x1]))) O (by (exact ⟨ae,by rw [HA,uo hx1 af,vu af]⟩)) aO (sF O) (eI [2] [] O)
  refine U ?_
  exact R.ro 0 O Tryz.results161 O O (by (rw [HA,List.take_of_length_le ae];unfold without;rw [wS fS]))
 refine R.c (q.call ma O O (fun w hw=>(cv (congrArg (Value.int .i64) fS) (iJ _ l id w ((fun _=>Wd.old dK) w hw) )))) O<|U ?_
 refine R.q (q.idx (i:=wE) (fun _=>Wd.old dK) O O cR O (List.getElem?_eq_getElem kv)) O ?_
 refine R.q (q.ew (j':=4) (fun _=>Wd.old dK) (List.getElem?_eq_getElem kv) O m7 O) O ?_
 refine R.q (q.gh (fun _=>Wd.old dK) (List.getElem?_eq_getElem kv) O bg O) O ?_
 refine U ?_
 refine R.row0 (α:=ap) 126<|R.loop (fun g_:Nat×Value×(List ap)=>[(1,iV id),(5,g_.2.1),(6,iV (l[wE]).From),(20,bL),(21,iV (l.length:Int)),(22,iV (g_.1:Int))]) (fun g_=>[aj.row 126 g_.2.1 g_.2.2]) (fun g_=>[]) (fun g_=>g_.1<=l.length/\g_.2.2=EY id (l[wE]).From (l.take g_.1)) (fun g_=>l.length-g_.1) (0,nS,[]) O (by exact ⟨bW,by simp [EY,sG]⟩) (sF O) (eI [0] [] O) ?_
 rintro ⟨k,v,acc⟩ ⟨hk,HA⟩
 dsimp only at *
 have hal:acc.length<=k:=by rw [HA];exact Nat.le_trans (C6 _ _ _) (List.length_take_le _ _)
 refine U ?_
 by_cases h4:k<l.length
 .
  refine U ?_
  obtain ⟨x2,hx2⟩:=gE l k
  refine R.q (q.idx (i:=k) (fun _=>Wd.old dK) O O cR O hx2) O<|R.q (q.dj (ds:=fY x2) (fun _=>Wd.old dK) hx2 O aH O) O<|R.s O (s.alloc br O O) fun b4=>?_
  refine R.s O (s.st 0 _ O O O O (.inl aH) O O O O) fun _=>U ?_
  by_cases h5:x2.ID=id
  .
   refine U ?_
   refine R.q (q.aL (r:=((k+1:Nat):Int)) O O) O<|U ?_
   refine R.back (k+1,v,acc) O (by (exact ⟨ae,by rw [HA,Jo hx2 af]⟩)) aO (sF O) (eI [1] [] O)
  refine U ?_
  by_cases h6:x2.From=id
  .
   refine U ?_
   refine R.s O (s.st 0 _ O O O O (.inr ⟨bg,rfl⟩) O O O O) fun _=>U ?_
   refine R.s O (s.bs (l:=([(⟨x2.ID,x2.aA,x2.Rights,x2.aU,(l[wE]).From⟩:ap)]:List ap)) cR br O O O O O O O) fun b5=>?_
   refine R.s O (s.app 2 _ O O O (bH 0 O) g9 az az (fun _=>rfl) O) fun v3=>U ?_
   refine R.q (q.aL (r:=((k+1:Nat):Int)) O O) O<|U ?_
   refine R.back (k+1,v3,(acc++([(⟨x2.ID,x2.aA,x2.Rights,x2.aU,(l[wE]).From⟩:ap)]))) O (by (exact ⟨ae,by rw [HA,uo hx2 af,yE af]⟩)) aO (sF O) (eI [2] [] O)
  refine U ?_
  refine R.s O (s.bs (l:=([x2]:List ap)) cR br O O O O O O O) fun b6=>?_
  refine R.s O (s.app 2 _ O O O (bH 0 O) g9 az az (fun _=>rfl) O) fun v4=>U ?_
  refine R.q (q.aL (r:=((k+1:Nat):Int)) O O) O<|U ?_
  refine R.back (k+1,v4,(acc++([x2]))) O (by (exact ⟨ae,by rw [HA,uo hx2 af,vu af]⟩)) aO (sF O) (eI [2] [] O)
 refine U ?_
 exact R.ro 0 O Tryz.results161 O O (by (rw [HA,List.take_of_length_le ae];unfold without;rw [nZ fS (List.getElem?_eq_getElem kv)]))
theorem Ao (bL:Value)(l:List ap)(id:Int)(w:World)(dK:Sl w bL l)(hl:l.length<=1000000):Calls Tryz.prog 84 #[bL,iV id] w fun e w' => ∃u,e = .returned u/\Own w.heap.size 126 w' u (EZ l id)/\Ext w w':=by
 have wk:=dK.eV
 refine R.enter [] [(0,bL),(1,iV id)] Tryz.func84 O O O O<|U ?_
 rcases eh l id with ⟨fS,Eh⟩ | ⟨wE,kv,fS,vj,S3⟩
 .
  refine R.c (q.call pW O O (fun w hw=>(cv (congrArg (Value.int .i64) fS) (gP _ l id w ((fun _=>Wd.old dK) w hw) )))) O<|U ?_
  refine R.row0 (α:=ap) 126<|R.loop (fun g_:Nat×Value×(List ap)=>[(0,bL),(1,iV id),(5,g_.2.1),(6,iV (-1)),(7,iV (g_.1:Int))]) (fun g_=>[aj.row 126 g_.2.1 g_.2.2]) (fun g_=>[]) (fun g_=>g_.1<=l.length/\g_.2.2=sG l id (l.take g_.1)) (fun g_=>l.length-g_.1) (0,nS,[]) O (by exact ⟨bW,by simp [sG]⟩) (sF O) (eI [0] [] O) ?_
  rintro ⟨k,v,acc⟩ ⟨hk,HA⟩
  dsimp only at *
  have hal:acc.length<=k:=by rw [HA];exact Nat.le_trans (E0 _ _ _) (List.length_take_le _ _)
  refine U ?_
  by_cases h1:k<l.length
  .
   refine U ?_
   obtain ⟨x1,hx1⟩:=gE l k
   refine R.q (q.idx (i:=k) (fun _=>Wd.old dK) O O cR O hx1) O<|R.q (q.dj (ds:=fY x1) (fun _=>Wd.old dK) hx1 O aH O) O<|R.s O (s.alloc br O O) fun b1=>?_
   refine R.s O (s.st 0 _ O O O O (.inl aH) O O O O) fun _=>U ?_
   by_cases h2:x1.ID=id
   .
    refine U ?_
    refine R.q (q.aL (r:=((k+1:Nat):Int)) O O) O<|U ?_
    refine R.back (k+1,v,acc) O (by (exact ⟨ae,by rw [HA,yF hx1 af]⟩)) aO (sF O) (eI [1] [] O)
   refine U ?_
   refine R.s O (s.bs (l:=([x1]:List ap)) cR br O O O O O O O) fun b2=>?_
   refine R.s O (s.app 2 _ O O O (bH 0 O) g9 az az (fun _=>rfl) O) fun v1=>U ?_
   refine R.q (q.aL (r:=((k+1:Nat):Int)) O O) O<|U ?_
   refine R.back (k+1,v1,(acc++([x1]))) O (by (exact ⟨ae,by rw [HA,vv hx1 af,show MC l id x1=x1 from by unfold MC;rw [if_pos ae]]⟩)) aO (sF O) (eI [2] [] O)
  refine U ?_
  exact R.ro 0 O Tryz.results84 O O (by (rw [HA,List.take_of_length_le ae];exact E1 _ _))
 refine R.c (q.call pW O O (fun w hw=>(cv (congrArg (Value.int .i64) fS) (gP _ l id w ((fun _=>Wd.old dK) w hw) )))) O<|U ?_
 refine R.row0 (α:=ap) 126<|R.loop (fun g_:Nat×Value×(List ap)=>[(0,bL),(1,iV id),(5,g_.2.1),(6,iV (wE:Int)),(7,iV (g_.1:Int))]) (fun g_=>[aj.row 126 g_.2.1 g_.2.2]) (fun g_=>[]) (fun g_=>g_.1<=l.length/\g_.2.2=sG l id (l.take g_.1)) (fun g_=>l.length-g_.1) (0,nS,[]) O (by exact ⟨bW,by simp [sG]⟩) (sF O) (eI [0] [] O) ?_
 rintro ⟨k,v,acc⟩ ⟨hk,HA⟩
 dsimp only at *
 have hal:acc.length<=k:=by rw [HA];exact Nat.le_trans (E0 _ _ _) (List.length_take_le _ _)
 refine U ?_
 by_cases h3:k<l.length
 .
  refine U ?_
  obtain ⟨x2,hx2⟩:=gE l k
  refine R.q (q.idx (i:=k) (fun _=>Wd.old dK) O O cR O hx2) O<|R.q (q.dj (ds:=fY x2) (fun _=>Wd.old dK) hx2 O aH O) O<|R.s O (s.alloc br O O) fun b3=>?_
  refine R.s O (s.st 0 _ O O O O (.inl aH) O O O O) fun _=>U ?_
  by_cases h4:x2.From=id
  .
   refine U ?_
   refine R.q (q.idx (i:=wE) (fun _=>Wd.old dK) O O cR O (List.getElem?_eq_getElem kv)) O ?_
   refine R.q (q.ew (j':=4) (fun _=>Wd.old dK) (List.getElem?_eq_getElem kv) O m7 O) O ?_
   refine R.q (q.gh (fun _=>Wd.old dK) (List.getElem?_eq_getElem kv) O bg O) O ?_
   refine U ?_
   refine R.s O (s.st 0 _ O O O O (.inr ⟨bg,rfl⟩) O O O O) fun _=>U ?_
   by_cases h5:x2.ID=id
   .
    refine U ?_
    refine R.q (q.aL (r:=((k+1:Nat):Int)) O O) O<|U ?_
    refine R.back (k+1,v,acc) O (by (exact ⟨ae,by rw [HA,yF hx2 af]⟩)) aO (sF O) (eI [1] [] O)
   refine U ?_
   refine R.s O (s.bs (l:=([(⟨x2.ID,x2.aA,x2.Rights,x2.aU,(l[wE]).From⟩:ap)]:List ap)) cR br O O O O O O O) fun b4=>?_
   refine R.s O (s.app 2 _ O O O (bH 0 O) g9 az az (fun _=>rfl) O) fun v2=>U ?_
   refine R.q (q.aL (r:=((k+1:Nat):Int)) O O) O<|U ?_
   refine R.back (k+1,v2,(acc++([(⟨x2.ID,x2.aA,x2.Rights,x2.aU,(l[wE]).From⟩:ap)]))) O (by (exact ⟨ae,by rw [HA,vv hx2 af,show MC l id x2=_ from by unfold MC;rw [if_neg ae,nZ fS (List.getElem?_eq_getElem kv),yE af]]⟩)) aO (sF O) (eI [2] [] O)
  refine U ?_
  by_cases h6:x2.ID=id
  .
   refine U ?_
   refine R.q (q.aL (r:=((k+1:Nat):Int)) O O) O<|U ?_
   refine R.back (k+1,v,acc) O (by (exact ⟨ae,by rw [HA,yF hx2 af]⟩)) aO (sF O) (eI [1] [] O)
  refine U ?_
  refine R.s O (s.bs (l:=([x2]:List ap)) cR br O O O O O O O) fun b5=>?_
  refine R.s O (s.app 2 _ O O O (bH 0 O) g9 az az (fun _=>rfl) O) fun v3=>U ?_
  refine R.q (q.aL (r:=((k+1:Nat):Int)) O O) O<|U ?_
  refine R.back (k+1,v3,(acc++([x2]))) O (by (exact ⟨ae,by rw [HA,vv hx2 af,show MC l id x2=x2 from by unfold MC;rw [if_neg ae,vu af]]⟩)) aO (sF O) (eI [2] [] O)
 refine U ?_
 exact R.ro 0 O Tryz.results84 O O (by (rw [HA,List.take_of_length_le ae];exact E1 _ _))
end
section
open Go Go.RowKit
attribute [local irreducible] Run Rg Rq Qt Qa Stp Dg Do Dm cD
theorem Ei (bL:Value)(l:List ap)(id:Int)(w:World)(dK:Sl w bL l)(hl:l.length<=1000000):Calls Tryz.prog 163 #[bL,iV id] w fun e w' => ∃u,e = .returned u/\Own w.heap.size 3 w' u (jd id l)/\Ext w w':=by
 have wk:=dK.eV
 refine R.enter [] [(0,bL),(1,iV id)] Tryz.func163 O O O O<|U ?_
 refine R.s O (s.mk O) fun b1=>U ?_
 refine R.s O (s.YH 0 _ O O O O uS O) fun _=>U ?_
 refine R.row0 (α:=Int) 3<|R.loop (fun g_:Nat×Value×(List Int)×(List Int)=>[(5,.map (some b1)),(6,g_.2.1),(12,bL),(13,iV (l.length:Int)),(14,iV (g_.1:Int))]) (fun g_=>[aj.row 3 g_.2.1 g_.2.2.1,aj.s8 b1 g_.2.2.2]) (fun g_=>[]) (fun g_=>g_.1<=l.length/\g_.2.2.1=jd id (l.take g_.1) /\ ∀z,z∈g_.2.2.2↔z=id∨z∈g_.2.2.1) (fun g_=>l.length-g_.1) (0,nS,[],[id]) O (by exact ⟨bW,by simp [jd],bW⟩) (sF O) (eI [0,1] [] O) ?_
 rintro ⟨k,v,acc,S⟩ ⟨hk,HA,HS⟩
 dsimp only at *
 have hal:acc.length<=k:=by rw [HA];exact Nat.le_trans (ME _ _) (List.length_take_le _ _)
 refine U ?_
 by_cases h1:k<l.length
 .
  refine U ?_
  obtain ⟨x1,hx1⟩:=gE l k
  refine R.q (q.idx (i:=k) (fun _=>Wd.old dK) O O cR O hx1) O<|R.q (q.dj (ds:=fY x1) (fun _=>Wd.old dK) hx1 O aH O) O<|R.s O (s.alloc br O O) fun b2=>?_
  refine R.s O (s.st 0 _ O O O O (.inl aH) O O O O) fun _=>U ?_
  by_cases h2:x1.From∈S
  .
   refine R.q (q.RU 2 O O O uS (decide_eq_true h2)) O<|U ?_
   by_cases h3:0<x1.From
   .
    refine U ?_
    refine R.s O (s.mup 2 _ O O O O uS O) fun _=>U ?_
    refine R.s O (s.bs (l:=([x1.ID]:List Int)) dD kC O O O O O O O) fun b3=>?_
    refine R.s O (s.app 2 _ O O O (bH 0 O) lY az az (fun _=>rfl) O) fun v1=>U ?_
    refine R.q (q.aL (r:=((k+1:Nat):Int)) O O) O<|U ?_
    refine R.back (k+1,v1,acc++([x1.ID]),(x1.ID::S)) O (by (exact ⟨ae,by rw [HA,E2 hx1 (HA▸HS) af af],by intro z;rw [List.mem_cons,HS,List.mem_append,List.mem_singleton];constructor <;> (intro h;rcases h with h|h|h <;> simp [h])⟩)) aO (sF O) (eI [2,3] [] O)
   refine U ?_
   refine R.q (q.aL (r:=((k+1:Nat):Int)) O O) O<|U ?_
   refine R.back (k+1,v,acc,S) O (by (exact ⟨ae,by rw [HA,vx hx1 (HA▸HS) (by (intro hh;exact absurd hh.2 af))],HS⟩)) aO (sF O) (eI [1,2] [] O)
  refine R.q (q.RU 2 O O O uS (decide_eq_false h2)) O<|U ?_
  refine R.q (q.aL (r:=((k+1:Nat):Int)) O O) O<|U ?_
  refine R.back (k+1,v,acc,S) O (by (exact ⟨ae,by rw [HA,vx hx1 (HA▸HS) (by (intro hh;exact absurd hh.1 af))],HS⟩)) aO (sF O) (eI [1,2] [] O)
 refine U ?_
 exact R.ro 0 O Tryz.results163 O O (by (rw [HA,List.take_of_length_le ae]))
theorem Ap (bL:Value)(l:List ap)(id:Int)(w:World)(dK:Sl w bL l)(hT:cS l)(hl:l.length<=1000000):Calls Tryz.prog 92 #[bL,iV id] w fun e w' => ∃u,e = .returned u/\Own w.heap.size 3 w' u (beneath l id)/\Ext w w':=by
 have wk:=dK.eV
 refine R.enter [] [(0,bL),(1,iV id)] Tryz.func92 O O O O<|U ?_
 refine R.row0 (α:=Int) 3<|R.loop (fun g_:Nat×Value×(List Int)=>[(0,bL),(1,iV id),(5,g_.2.1),(6,iV (g_.1:Int))]) (fun g_=>[aj.row 3 g_.2.1 g_.2.2]) (fun g_=>[]) (fun g_=>g_.1<=l.length/\g_.2.2=tj l id (l.take g_.1)) (fun g_=>l.length-g_.1) (0,nS,[]) O (by exact ⟨bW,by simp [tj]⟩) (sF O) (eI [0] [] O) ?_
 rintro ⟨k,v,acc⟩ ⟨hk,HA⟩
 dsimp only at *
 have hal:acc.length<=k:=by rw [HA];exact Nat.le_trans (MF _ _ _) (List.length_take_le _ _)
 refine U ?_
 by_cases h1:k<l.length
 .
  refine U ?_
  obtain ⟨x1,hx1⟩:=gE l k
  have Zr:=hT.mem (List.mem_of_getElem? hx1)
  have aao:=Zr.R1
  refine R.q (q.idx (i:=k) (fun _=>Wd.old dK) O O cR O hx1) O<|R.q (q.ew (j':=4) (fun _=>Wd.old dK) hx1 O m7 O) O<|R.q (q.gh (fun _=>Wd.old dK) hx1 O bg O) O<|U ?_
  refine R.loop (fun f:Int=>[(0,bL),(1,iV id),(5,v),(6,iV (k:Int)),(7,iV f)]) (fun f:Int=>[aj.row 3 v acc]) (fun f:Int=>[]) (fun f:Int=>0<=f/\up l id f=up l id x1.From) (fun f:Int=>f.toNat) x1.From O (by exact ⟨ae,rfl⟩) (sF O) (eI [0] [] O) ?_
  rintro f ⟨hf0,HU⟩
  refine U ?_
  by_cases h2:0<f
  .
   refine U ?_
   by_cases h3:f=id
   .
    refine U ?_
    refine R.q (q.idx (i:=k) (fun _=>Wd.old dK) O O cR O hx1) O<|R.q (q.ew (j':=0) (fun _=>Wd.old dK) hx1 O gV O) O<|R.q (q.gh (fun _=>Wd.old dK) hx1 O bg O) O<|R.s O (s.bs (l:=([x1.ID]:List Int)) dD kC O O O O O O O) fun b1=>?_
    refine R.s O (s.app 1 _ O O O (bH 0 O) lY az az (fun _=>rfl) O) fun v1=>U ?_
    refine R.q (q.aL (r:=((k+1:Nat):Int)) O O) O<|U ?_
    refine R.back (k+1,v1,(acc++([x1.ID]))) O (by (exact ⟨ae,by rw [HA,E3 hx1 (by rw [<- HU,qO ae];omega) ae]⟩)) aO (sF O) (eI [1] [] O)
   refine U ?_
   refine R.c (q.call pW O O (fun w hw=>(gP _ l f w ((fun _=>Wd.old dK) w hw) ))) O<|U ?_
   by_cases h4:cO l f<0
   .
    refine U ?_
    refine R.q (q.aL (r:=((k+1:Nat):Int)) O O) O<|U ?_
    refine R.back (k+1,v,acc) O (by (exact ⟨ae,by rw [HA,rN hx1 (by rw [<- HU,qO ae];omega)]⟩)) aO (sF O) (eI [0] [] O)
   refine U ?_
   obtain ⟨x2,hx2,ex2,mx2⟩:=yD l f ae
   have VI:=hT.mem mx2
   have aap:=VI.id1;have aaq:=VI.R1;have aar:=VI.R2;have aas:=VI.R0
   have Yz:fx l f=x2.From:=nZ (j:=(cO l f).toNat) ae hx2
   refine R.q (q.idx (i:=(cO l f).toNat) (fun _=>Wd.old dK) O O cR ae hx2) O<|R.q (q.ew (j':=4) (fun _=>Wd.old dK) hx2 O m7 O) O<|R.q (q.gh (fun _=>Wd.old dK) hx2 O bg O) O<|U ?_
   refine R.back x2.From O (by (exact ⟨ae,by rw [<- HU,C8 hT (f:=f) ae ae,Yz]⟩)) ae (sF O) (eI [0] [] O)
  refine U ?_
  by_cases h5:f=id
  .
   refine U ?_
   refine R.q (q.aL (r:=((k+1:Nat):Int)) O O) O<|U ?_
   refine R.back (k+1,v,acc) O (by (exact ⟨ae,by rw [HA,rN hx1 (by rw [<- HU,qO ae];omega)]⟩)) aO (sF O) (eI [0] [] O)
  refine U ?_
  refine R.q (q.aL (r:=((k+1:Nat):Int)) O O) O<|U ?_
  refine R.back (k+1,v,acc) O (by (exact ⟨ae,by rw [HA,rN hx1 (by rw [<- HU,qO ae];omega)]⟩)) aO (sF O) (eI [0] [] O)
 refine U ?_
 exact R.ro 0 O Tryz.results92 O O (by (rw [HA,List.take_of_length_le ae];rfl))
end
section
open Go Go.RowKit
attribute [local irreducible] Run Rg Rq Qt Qa Stp Dg Do Dm cD
theorem I1 (bL:Value)(l:List ap)(w:World)(dK:Sl w bL l)(hl:l.length<=1000000):Calls Tryz.prog 146 #[bL] w fun e w' => ∃u,e = .returned u/\Own w.heap.size 3 w' u (Lib.compact (qq (l.map ap.aA)))/\Ext w w':=by
 have wk:=dK.eV
 refine R.enter [] [(0,bL)] Tryz.func146 O O O O<|U ?_
 refine R.row0 (α:=Int) 3<|R.loop (fun g_:Nat×Value×(List Int)=>[(3,g_.2.1),(6,bL),(7,iV (l.length:Int)),(8,iV (g_.1:Int))]) (fun g_=>[aj.row 3 g_.2.1 g_.2.2]) (fun g_=>[]) (fun g_=>g_.1<=l.length/\g_.2.2=(l.take g_.1).map ap.aA) (fun g_=>l.length-g_.1) (0,nS,[]) O (by exact ⟨ae,bW⟩) (sF O) (eI [0] [] O) ?_
 rintro ⟨k,v,acc⟩ ⟨hk,HA⟩
 dsimp only at *
 have hal:acc.length<=k:=by rw [HA];simp;omega
 refine U ?_
 by_cases h1:k<l.length
 .
  refine U ?_
  obtain ⟨x1,hx1⟩:=gE l k
  refine R.q (q.idx (i:=k) (fun _=>Wd.old dK) O O cR O hx1) O<|R.q (q.dj (ds:=fY x1) (fun _=>Wd.old dK) hx1 O aH O) O<|R.s O (s.alloc br O O) fun b1=>?_
  refine R.s O (s.st 0 _ O O O O (.inl aH) O O O O) fun _=>U ?_
  refine R.s O (s.bs (l:=([x1.aA]:List Int)) dD kC O O O O O O O) fun b2=>?_
  refine R.s O (s.app 2 _ O O O (bH 0 O) lY az az (fun _=>rfl) O) fun v1=>U ?_
  refine R.q (q.aL (r:=((k+1:Nat):Int)) O O) O<|U ?_
  refine R.back (k+1,v1,(acc++([x1.aA]))) O (by (exact ⟨ae,by rw [HA,List.take_add_one,hx1];simp⟩)) aO (sF O) (eI [2] [] O)
 refine U ?_
 refine R.s O (s.Mp [0] _ _ O O Up O O (fun w hw H=>MJ v acc w H ae) O) fun u1=>U ?_
 refine R.s O (s.Mp [0] _ _ O O Ur O O (fun w hw H=>E6 v (qq acc) w H (by simp [qq];omega)) O) fun v2=>U ?_
 exact R.ro 0 O Tryz.results146 O O (by (rw [HA,List.take_of_length_le ae]))
theorem Bf (bL:Value)(l:List ap)(w:World)(dK:Sl w bL l):Calls Tryz.prog 148 #[bL] w fun e w' => ∃u,e = .returned u/\Own w.heap.size 3 w' u (E5 l)/\Ext w w':=by
 have wk:=dK.eV
 refine R.enter [] [(0,bL)] Tryz.func148 O O O O<|U ?_
 refine R.row0 (α:=Int) 3<|R.loop (fun g_:Nat×Value×(List Int)=>[(0,bL),(3,g_.2.1),(4,iV (g_.1:Int))]) (fun g_=>[aj.row 3 g_.2.1 g_.2.2]) (fun g_=>[]) (fun g_=>1<=g_.1/\g_.1<=1000/\g_.2.2=eX l (g_.1-1)) (fun g_=>1000-g_.1) (1,nS,[]) O (by exact ⟨ae,ae,rfl⟩) (sF O) (eI [0] [] O) ?_
 rintro ⟨k,v,acc⟩ ⟨hk1,hk,HA⟩
 dsimp only at *
 have hal:acc.length<=k:=by rw [HA];exact Nat.le_trans (uq _ _) ae
 refine U ?_
 by_cases h1:k<1000
 .
  refine U ?_
  refine R.loop (fun j:Nat=>[(0,bL),(3,v),(4,iV (k:Int)),(5,iV (j:Int))]) (fun j:Nat=>[aj.row 3 v acc]) (fun j:Nat=>[]) (fun j:Nat => ∀ (i:Nat) x,i<j->l[i]? = some x->¬ x.aA=(k:Int)) (fun j:Nat=>l.length-j) 0 O (by exact fun i x hi=>absurd hi (Nat.not_lt_zero _)) (sF O) (eI [0] [] O) ?_
  rintro j HJ
  refine U ?_
  by_cases h2:j<l.length
  .
   refine U ?_
   obtain ⟨x1,hx1⟩:=gE l j
   refine R.q (q.idx (i:=j) (fun _=>Wd.old dK) O O cR O hx1) O<|R.q (q.ew (j':=1) (fun _=>Wd.old dK) hx1 O zC O) O<|R.q (q.gh (fun _=>Wd.old dK) hx1 O bg O) O<|U ?_
   by_cases h3:x1.aA=(k:Int)
   .
    refine U ?_
    refine R.s O (s.bs (l:=([(k:Int)]:List Int)) dD kC O O O O O O O) fun b1=>?_
    refine R.s O (s.app 1 _ O O O (bH 0 O) lY az az (fun _=>rfl) O) fun v1=>U ?_
    refine R.q (q.aL (r:=((k+1:Nat):Int)) O O) O<|U ?_
    refine R.back (k+1,v1,(acc++([(k:Int)]))) O (by (exact ⟨ae,ae,by rw [HA,Nat.add_sub_cancel];exact (C9 ae O hx1 af).symm⟩)) aO (sF O) (eI [1] [] O)
   refine U ?_
   refine R.q (q.aL (r:=((j+1:Nat):Int)) O O) O<|U ?_
   refine R.back (j+1) O (by (exact fun i x hi hx=>if e:i=j then by subst e;rw [hx1] at hx;injection hx with hx;subst hx;assumption else HJ i x ae hx)) ae (sF O) (eI [0] [] O)
  refine U ?_
  refine R.q (q.aL (r:=((k+1:Nat):Int)) O O) O<|U ?_
  refine R.back (k+1,v,acc) O (by (exact ⟨ae,ae,by rw [HA,Nat.add_sub_cancel];exact (AQ ae (fun i x hi=>HJ i x ae)).symm⟩)) aO (sF O) (eI [0] [] O)
 refine U ?_
 exact R.ro 0 O Tryz.results148 O O (by (rw [HA];have:k=1000:=ae;subst this;rfl))
end
end Go.Proofs.YtnmpibjlnninjaaGreatDoor
