import Derived.Test.YtnmpibjlnninjaaGreatDoorCT19
namespace Go.Proofs.YtnmpibjlnninjaaGreatDoor
set_option linter.unusedVariables false
set_option linter.unusedSimpArgs false
set_option maxRecDepth 100000
set_option maxHeartbeats 90000000
section
open Go Go.RowKit
attribute [local irreducible] Run Rg Rq Qt Qa Stp Dg Do Dm bQ
theorem sJ (r:Int)(w:World):Calls Tryz.prog 207 #[iV r] w fun e w'=>e = .returned (bQ (dS r))/\Ext w w':=by
 refine R.eV ?_
 refine C (r<0) ?_ ?_ <;> intro h1
 .
  refine R.rt ?_
  (exact nW ae)
 refine C (7<r) ?_ ?_ <;> intro h2
 .
  refine R.rt ?_
  (exact nW ae)
 refine R.rt ?_
 (exact ig ae ae)
theorem g8 (r:Int)(n:Int)(w:World)(r0:0<=r/\r<=7)(n0:0<=n/\n<=7):Calls Tryz.prog 158 #[iV r,iV n] w fun e w'=>e = .returned (.bool (iI r n))/\Ext w w':=by
 refine R.eV ?_
 refine R.q (q.and O O O) O<|U ?_
 refine C ((bits .and .i64 r n)=n) ?_ ?_ <;> intro h1
 .
  refine R.rt ?_
  (exact J6 r0.1 r0.2 n0.1 n0.2 (by exact beq_iff_eq.2 af))
 refine R.rt ?_
 (exact J6 r0.1 r0.2 n0.1 n0.2 (by exact beq_eq_false_iff_ne.2 af))
theorem qQ (r:Int)(n:Int)(w:World)(r0:0<=r/\r<=7)(n0:0<=n/\n<=7):Calls Tryz.prog 151 #[iV r,iV n] w fun e w'=>e = .returned (.bool (iI r n))/\Ext w w':=by
 refine R.eV ?_
 refine R.Nr 3 O<|U ?_
 refine R.q (q.quo (r:=n / 1) O O ae (uu ae)) O<|R.q (q.rem (r:=(n / 1) % 2) O O ae (tM ae)) O<|C (((n / 1) % 2)=1) ?_ ?_ <;> intro h1
 .
  refine R.qg O (q.quo (r:=r / 1) O O ae (uu ae)) O<|R.qg O (q.rem (r:=(r / 1) % 2) O O ae (tM ae)) O<|C (((r / 1) % 2)=0) ?_ ?_ <;> intro h2
  .
   refine R.rt ?_
   (rw [<- iW r0.1 r0.2 n0.1 n0.2];exact (kB ae).symm)
  refine R.q (q.mul (r:=2) O O aC) O<|U ?_
  refine R.again O O<|U ?_
  refine R.q (q.quo (r:=n / 2) O O ae (uu ae)) O<|R.q (q.rem (r:=(n / 2) % 2) O O ae (tM ae)) O<|C (((n / 2) % 2)=1) ?_ ?_ <;> intro h3
  .
   refine R.qg O (q.quo (r:=r / 2) O O ae (uu ae)) O<|R.qg O (q.rem (r:=(r / 2) % 2) O O ae (tM ae)) O<|C (((r / 2) % 2)=0) ?_ ?_ <;> intro h4
   .
    refine R.rt ?_
    (rw [<- iW r0.1 r0.2 n0.1 n0.2];exact (kB ae).symm)
   refine R.q (q.mul (r:=4) O O aC) O<|U ?_
   refine R.again O O<|U ?_
   refine R.q (q.quo (r:=n / 4) O O ae (uu ae)) O<|R.q (q.rem (r:=(n / 4) % 2) O O ae (tM ae)) O<|C (((n / 4) % 2)=1) ?_ ?_ <;> intro h5
   .
    refine R.qg O (q.quo (r:=r / 4) O O ae (uu ae)) O<|R.qg O (q.rem (r:=(r / 4) % 2) O O ae (tM ae)) O<|C (((r / 4) % 2)=0) ?_ ?_ <;> intro h6
    .
     refine R.rt ?_
     (rw [<- iW r0.1 r0.2 n0.1 n0.2];exact (kB ae).symm)
    refine R.q (q.mul (r:=8) O O aC) O<|U ?_
    refine R.again O O<|U ?_
    refine R.rt ?_
    (rw [<- iW r0.1 r0.2 n0.1 n0.2];exact (kU ae ae ae).symm)
   refine R.q (q.mul (r:=8) O O aC) O<|U ?_
   refine R.again O O<|U ?_
   refine R.rt ?_
   (rw [<- iW r0.1 r0.2 n0.1 n0.2];exact (kU ae ae ae).symm)
  refine R.q (q.mul (r:=4) O O aC) O<|U ?_
  refine R.again O O<|U ?_
  refine R.q (q.quo (r:=n / 4) O O ae (uu ae)) O<|R.q (q.rem (r:=(n / 4) % 2) O O ae (tM ae)) O<|C (((n / 4) % 2)=1) ?_ ?_ <;> intro h7
  .
   refine R.qg O (q.quo (r:=r / 4) O O ae (uu ae)) O<|R.qg O (q.rem (r:=(r / 4) % 2) O O ae (tM ae)) O<|C (((r / 4) % 2)=0) ?_ ?_ <;> intro h8
   .
    refine R.rt ?_
    (rw [<- iW r0.1 r0.2 n0.1 n0.2];exact (kB ae).symm)
   refine R.q (q.mul (r:=8) O O aC) O<|U ?_
   refine R.again O O<|U ?_
   refine R.rt ?_
   (rw [<- iW r0.1 r0.2 n0.1 n0.2];exact (kU ae ae ae).symm)
  refine R.q (q.mul (r:=8) O O aC) O<|U ?_
  refine R.again O O<|U ?_
  refine R.rt ?_
  (rw [<- iW r0.1 r0.2 n0.1 n0.2];exact (kU ae ae ae).symm)
 refine R.q (q.mul (r:=2) O O aC) O<|U ?_
 refine R.again O O<|U ?_
 refine R.q (q.quo (r:=n / 2) O O ae (uu ae)) O<|R.q (q.rem (r:=(n / 2) % 2) O O ae (tM ae)) O<|C (((n / 2) % 2)=1) ?_ ?_ <;> intro h9
 .
  refine R.qg O (q.quo (r:=r / 2) O O ae (uu ae)) O<|R.qg O (q.rem (r:=(r / 2) % 2) O O ae (tM ae)) O<|C (((r / 2) % 2)=0) ?_ ?_ <;> intro h10
  .
   refine R.rt ?_
   (rw [<- iW r0.1 r0.2 n0.1 n0.2];exact (kB ae).symm)
  refine R.q (q.mul (r:=4) O O aC) O<|U ?_
  refine R.again O O<|U ?_
  refine R.q (q.quo (r:=n / 4) O O ae (uu ae)) O<|R.q (q.rem (r:=(n / 4) % 2) O O ae (tM ae)) O<|C (((n / 4) % 2)=1) ?_ ?_ <;> intro h11
  .
   refine R.qg O (q.quo (r:=r / 4) O O ae (uu ae)) O<|R.qg O (q.rem (r:=(r / 4) % 2) O O ae (tM ae)) O<|C (((r / 4) % 2)=0) ?_ ?_ <;> intro h12
   .
    refine R.rt ?_
    (rw [<- iW r0.1 r0.2 n0.1 n0.2];exact (kB ae).symm)
   refine R.q (q.mul (r:=8) O O aC) O<|U ?_
   refine R.again O O<|U ?_
   refine R.rt ?_
   (rw [<- iW r0.1 r0.2 n0.1 n0.2];exact (kU ae ae ae).symm)
  refine R.q (q.mul (r:=8) O O aC) O<|U ?_
  refine R.again O O<|U ?_
  refine R.rt ?_
  (rw [<- iW r0.1 r0.2 n0.1 n0.2];exact (kU ae ae ae).symm)
 refine R.q (q.mul (r:=4) O O aC) O<|U ?_
 refine R.again O O<|U ?_
 refine R.q (q.quo (r:=n / 4) O O ae (uu ae)) O<|R.q (q.rem (r:=(n / 4) % 2) O O ae (tM ae)) O<|C (((n / 4) % 2)=1) ?_ ?_ <;> intro Pf
 .
  refine R.qg O (q.quo (r:=r / 4) O O ae (uu ae)) O<|R.qg O (q.rem (r:=(r / 4) % 2) O O ae (tM ae)) O<|C (((r / 4) % 2)=0) ?_ ?_ <;> intro Si
  .
   refine R.rt ?_
   (rw [<- iW r0.1 r0.2 n0.1 n0.2];exact (kB ae).symm)
  refine R.q (q.mul (r:=8) O O aC) O<|U ?_
  refine R.again O O<|U ?_
  refine R.rt ?_
  (rw [<- iW r0.1 r0.2 n0.1 n0.2];exact (kU ae ae ae).symm)
 refine R.q (q.mul (r:=8) O O aC) O<|U ?_
 refine R.again O O<|U ?_
 refine R.rt ?_
 (rw [<- iW r0.1 r0.2 n0.1 n0.2];exact (kU ae ae ae).symm)
theorem Ch (x:ak)(w:World):Calls Tryz.prog 198 #[.agg #[iV x.ID,iV x.aA,iV x.Rights,iV x.aM,iV x.From]] w fun e w'=>e = .returned (bQ (cZ x))/\Ext w w':=by
 refine R.eV ?_
 refine R.nb fun b1=>?_
 refine C (x.ID<1) ?_ ?_ <;> intro h1
 .
  refine R.rt ?_
  (exact fA ae)
 refine C (999<x.ID) ?_ ?_ <;> intro h2
 .
  refine R.rt ?_
  (exact fA ae)
 refine C (x.aA<1) ?_ ?_ <;> intro h3
 .
  refine R.rt ?_
  (exact fA ae)
 refine C (999<x.aA) ?_ ?_ <;> intro h4
 .
  refine R.rt ?_
  (exact fA ae)
 refine C (x.aM<0) ?_ ?_ <;> intro h5
 .
  refine R.rt ?_
  (exact fA ae)
 refine C (99<x.aM) ?_ ?_ <;> intro h6
 .
  refine R.rt ?_
  (exact fA ae)
 refine C (x.From<0) ?_ ?_ <;> intro h7
 .
  refine R.rt ?_
  (exact fA ae)
 refine C (x.From<x.ID) ?_ ?_ <;> intro h8
 .
  refine R.kc O O (fun w hw=>sJ x.Rights w)<|U ?_
  refine R.rt ?_
  (exact (zw ae).symm)
 refine R.rt ?_
 (exact fA ae)
theorem ox (x:ak)(id:Int)(r:Int)(b:Int)(w:World)(x0:0<=x.Rights/\x.Rights<=7):Calls Tryz.prog 159 #[.agg #[iV x.ID,iV x.aA,iV x.Rights,iV x.aM,iV x.From],iV id,iV r,iV b] w fun e w'=>e = .returned (.tuple #[ak.val (derived x id r b).1,bQ (derived x id r b).2])/\Ext w w':=by
 refine R.eV ?_
 refine R.nb fun b1=>?_
 refine R.nb fun b2=>?_
 refine R.kc O O (fun w hw=>sJ r w)<|U ?_
 refine C (dS r=0) ?_ ?_ <;> intro h1
 .
  have hr:=rl af
  refine U ?_
  refine C (b<0) ?_ ?_ <;> intro h2
  .exact R.uv O Tryz.results159 (RV.cell 0 O O cj) (RV.tmp O) (congrArg ak.val (show (⟨0,0,0,0,0⟩:ak)=(derived x id r b).1 from by ((rw [gR ae]) <;> rfl))) (rC aC (by ((rw [gR ae]) <;> first|rfl|exact bI af | (simp;omega))))
  refine C (99<b) ?_ ?_ <;> intro h3
  .exact R.uv O Tryz.results159 (RV.cell 0 O O cj) (RV.tmp O) (congrArg ak.val (show (⟨0,0,0,0,0⟩:ak)=(derived x id r b).1 from by ((rw [gR ae]) <;> rfl))) (rC aC (by ((rw [gR ae]) <;> first|rfl|exact bI af | (simp;omega))))
  rcases Bool.eq_false_or_eq_true (iI x.Rights r) with h4|h4
  .
   refine R.kc O O (fun w hw=>cv (congrArg Value.bool h4) (g8 x.Rights r w ae ae))<|U ?_
   refine C (b=0) ?_ ?_ <;> intro h5
   .exact R.uv O Tryz.results159 (RV.cell 0 O O cj) (RV.tmp O) (congrArg ak.val (show (⟨id,x.aA,r,x.aM,x.ID⟩:ak)=(derived x id r b).1 from by ((rw [nX ae af ae]) <;> first|rfl|exact bI af | (simp;omega)))) (vo (by ((rw [nX ae af ae]) <;> first|rfl|exact bI af | (simp;omega))))
   refine C (x.aM=0) ?_ ?_ <;> intro h6
   .exact R.uv O Tryz.results159 (RV.cell 0 O O cj) (RV.tmp O) (congrArg ak.val (show (⟨id,x.aA,r,b,x.ID⟩:ak)=(derived x id r b).1 from by ((rw [nY ae af ae ae]) <;> first|rfl|exact bI af | (simp;omega)))) (vo (by ((rw [nY ae af ae ae]) <;> first|rfl|exact bI af | (simp;omega))))
   refine C (b=x.aM) ?_ ?_ <;> intro h7
   .exact R.uv O Tryz.results159 (RV.cell 0 O O cj) (RV.tmp O) (congrArg ak.val (show (⟨id,x.aA,r,b,x.ID⟩:ak)=(derived x id r b).1 from by ((rw [lR ae af ae ae]) <;> (simp;omega)))) (vo (by ((rw [lR ae af ae ae]) <;> first|rfl|exact bI af | (simp;omega))))
   exact R.uv O Tryz.results159 (RV.cell 0 O O cj) (RV.tmp O) (congrArg ak.val (show (⟨0,0,0,0,0⟩:ak)=(derived x id r b).1 from by ((rw [qp ae af ae]) <;> rfl))) (rC aC (by ((rw [qp ae af ae]) <;> first|rfl|exact bI af | (simp;omega))))
  refine R.kc O O (fun w hw=>cv (congrArg Value.bool h4) (g8 x.Rights r w ae ae))<|U ?_
  exact R.uv O Tryz.results159 (RV.cell 0 O O cj) (RV.tmp O) (congrArg ak.val (show (⟨0,0,0,0,0⟩:ak)=(derived x id r b).1 from by ((rw [qn ae af]) <;> rfl))) (rC aC (by ((rw [qn ae af]) <;> first|rfl|exact bI af | (simp;omega))))
 exact R.uv O Tryz.results159 (RV.cell 0 O O cj) (RV.tmp O) (congrArg ak.val (show (⟨0,0,0,0,0⟩:ak)=(derived x id r b).1 from by ((rw [uA af]) <;> rfl))) (rE (by ((rw [uA af]) <;> exact bI af)))
theorem oy (x:ak)(id:Int)(r:Int)(b:Int)(w:World)(x0:0<=x.Rights/\x.Rights<=7):Calls Tryz.prog 90 #[.agg #[iV x.ID,iV x.aA,iV x.Rights,iV x.aM,iV x.From],iV id,iV r,iV b] w fun e w'=>e = .returned (.tuple #[ak.val (derived x id r b).1,iV (derived x id r b).2])/\Ext w w':=by
 refine R.eV ?_
 refine R.nb fun b1=>?_
 refine R.nb fun b2=>?_
 refine C (r<0) ?_ ?_ <;> intro h1
 .exact R.uv O Tryz.results90 (RV.cell 0 O O cj) (RV.tmp O) (congrArg ak.val (show (⟨0,0,0,0,0⟩:ak)=(derived x id r b).1 from by ((rw [gR ae]) <;> rfl))) (rI (by ((rw [gR ae]) <;> first|rfl|exact bI af | (simp;omega))))
 refine C (7<r) ?_ ?_ <;> intro h2
 .exact R.uv O Tryz.results90 (RV.cell 0 O O cj) (RV.tmp O) (congrArg ak.val (show (⟨0,0,0,0,0⟩:ak)=(derived x id r b).1 from by ((rw [gR ae]) <;> rfl))) (rI (by ((rw [gR ae]) <;> first|rfl|exact bI af | (simp;omega))))
 refine C (b<0) ?_ ?_ <;> intro h3
 .exact R.uv O Tryz.results90 (RV.cell 0 O O cj) (RV.tmp O) (congrArg ak.val (show (⟨0,0,0,0,0⟩:ak)=(derived x id r b).1 from by ((rw [gR ae]) <;> rfl))) (rI (by ((rw [gR ae]) <;> first|rfl|exact bI af | (simp;omega))))
 refine C (99<b) ?_ ?_ <;> intro h4
 .exact R.uv O Tryz.results90 (RV.cell 0 O O cj) (RV.tmp O) (congrArg ak.val (show (⟨0,0,0,0,0⟩:ak)=(derived x id r b).1 from by ((rw [gR ae]) <;> rfl))) (rI (by ((rw [gR ae]) <;> first|rfl|exact bI af | (simp;omega))))
 rcases Bool.eq_false_or_eq_true (iI x.Rights r) with h5|h5
 .
  refine R.kc O O (fun w hw=>cv (congrArg Value.bool h5) (qQ x.Rights r w ae ae))<|U ?_
  refine C (b=0) ?_ ?_ <;> intro h6
  .
   refine C (x.aM=0) ?_ ?_ <;> intro h7
   .exact R.uv O Tryz.results90 (RV.cell 0 O O cj) (RV.tmp O) (congrArg ak.val (show (⟨id,x.aA,r,b,x.ID⟩:ak)=(derived x id r b).1 from by ((rw [nX ae af ae]) <;> (simp;omega)))) (rI (by ((rw [nX ae af ae]) <;> first|rfl|exact bI af | (simp;omega))))
   exact R.uv O Tryz.results90 (RV.cell 0 O O cj) (RV.tmp O) (congrArg ak.val (show (⟨id,x.aA,r,x.aM,x.ID⟩:ak)=(derived x id r b).1 from by ((rw [lR ae af ae ae]) <;> first|rfl|exact bI af | (simp;omega)))) (rI (by ((rw [lR ae af ae ae]) <;> first|rfl|exact bI af | (simp;omega))))
  refine C (x.aM=0) ?_ ?_ <;> intro h8
  .exact R.uv O Tryz.results90 (RV.cell 0 O O cj) (RV.tmp O) (congrArg ak.val (show (⟨id,x.aA,r,b,x.ID⟩:ak)=(derived x id r b).1 from by ((rw [nY ae af ae ae]) <;> first|rfl|exact bI af | (simp;omega)))) (rI (by ((rw [nY ae af ae ae]) <;> first|rfl|exact bI af | (simp;omega))))
  refine C (b=x.aM) ?_ ?_ <;> intro h9
  .exact R.uv O Tryz.results90 (RV.cell 0 O O cj) (RV.tmp O) (congrArg ak.val (show (⟨id,x.aA,r,x.aM,x.ID⟩:ak)=(derived x id r b).1 from by ((rw [lR ae af ae ae]) <;> first|rfl|exact bI af | (simp;omega)))) (rI (by ((rw [lR ae af ae ae]) <;> first|rfl|exact bI af | (simp;omega))))
  exact R.uv O Tryz.results90 (RV.cell 0 O O cj) (RV.tmp O) (congrArg ak.val (show (⟨0,0,0,0,0⟩:ak)=(derived x id r b).1 from by ((rw [qp ae af ae]) <;> rfl))) (rI (by ((rw [qp ae af ae]) <;> first|rfl|exact bI af | (simp;omega))))
 refine R.kc O O (fun w hw=>cv (congrArg Value.bool h5) (qQ x.Rights r w ae ae))<|U ?_
 exact R.uv O Tryz.results90 (RV.cell 0 O O cj) (RV.tmp O) (congrArg ak.val (show (⟨0,0,0,0,0⟩:ak)=(derived x id r b).1 from by ((rw [qn ae af]) <;> rfl))) (rI (by ((rw [qn ae af]) <;> first|rfl|exact bI af | (simp;omega))))
theorem HG (x:ak)(id:Int)(SI:Nat)(w:World)(ZO:(ag.box SI [iV id] 3).ok w):Calls Tryz.prog 200 #[.agg #[iV x.ID,iV x.aA,iV x.Rights,iV x.aM,iV x.From],pV SI] w fun e w'=>e = .returned (.bool (x.ID==id))/\Ext w w':=by
 refine R.enter [] [(0,.agg #[iV x.ID,iV x.aA,iV x.Rights,iV x.aM,iV x.From]),(1,pV SI)] Tryz.func200 O O O O<|R.pH (r:=ag.box SI [iV id] 3) ZO (kz ZO)<|U ?_
 refine R.nb fun b1=>?_
 refine R.q (q.BS 0 O O eX O) O<|C (x.ID=id) ?_ ?_ <;> intro h1
 .
  refine R.rt ?_
  (exact (beq_iff_eq.2 af).symm)
 refine R.rt ?_
 (exact (beq_eq_false_iff_ne.2 af).symm)
theorem oz (bR:Value)(l:List ak)(p:ak->Bool)(g_p:Nat)(c_p:List Value)(ZP:dv g_p)(w:World)(ia:Sl w bR l)(H_p:∀W (x1:ak),Ext w W->Calls Tryz.prog g_p ([x1.val]++c_p).toArray W fun e w'=>e = .returned (.bool (p x1))/\Ext W w'):Calls Tryz.prog 199 #[bR,.func (.func g_p) #[] c_p.toArray] w fun e w'=>e = .returned (iV (idxOf p l))/\Ext w w':=by
 have yA:=ia.fS
 refine R.eV ?_
 refine R.loop (fun k:Nat=>[(0,bR),(1,.func (.func g_p) #[] c_p.toArray),(7,iV (l.length:Int)),(8,iV (k:Int))]) (fun k:Nat=>[]) (fun k:Nat=>[]) (fun k:Nat=>k<=l.length /\ ∀ (j:Nat) x,j<k->l[j]? = some x->p x=false) (fun k:Nat=>l.length-k) 0 O (by exact ⟨ae,fun j x hj=>absurd hj (Nat.not_lt_zero _)⟩) (sF O) (dX [] [] O) ?_
 rintro k ⟨hk,HA⟩
 refine U ?_
 refine C (k<l.length) ?_ ?_ <;> intro h1
 .
  obtain ⟨x1,hx1⟩:=gE l k
  refine U ?_
  rcases Bool.eq_false_or_eq_true (p x1) with h2|h2
  .
   refine R.c (q.call ZP O O (fun w hw=>cv (congrArg Value.bool h2) (H_p w x1 hw.ext))) O<|U ?_
   refine R.rt ?_
   (exact (idxOf_hit hx1 af HA).symm)
  refine R.c (q.call ZP O O (fun w hw=>cv (congrArg Value.bool h2) (H_p w x1 hw.ext))) O<|U ?_
  refine R.back (k+1) O (by exact ⟨ae,kV HA hx1 af⟩) ae (sF O) (dX [] [] O)
 refine R.rt ?_
 (exact (idxOf_miss af HA).symm)
theorem jl (bR:Value)(l:List ak)(id:Int)(w:World)(ia:Sl w bR l):Calls Tryz.prog 143 #[bR,iV id] w fun e w'=>e = .returned (iV (cE l id))/\Ext w w':=by
 have yA:=ia.fS
 refine R.eV ?_
 refine R.nb fun b1=>?_
 refine R.q (q.D3 (cap:=[pV b1]) O O) O<|R.kc O O (fun w hw=>oz _ l (fun (x:ak)=>x.ID==id) _ _ V2 w ((fun _=>Wd.old ia) w hw) (fun W x hW=>HG x id _ W (vp (hw.b 0 O) hW)))<|U ?_
 refine R.rt ?_
 rfl
theorem g9 (bR:Value)(l:List ak)(id:Int)(w:World)(ia:Sl w bR l):Calls Tryz.prog 147 #[bR,iV id] w fun e w'=>e = .returned (iV (cE l id))/\Ext w w':=by
 have yA:=ia.fS
 refine R.eV ?_
 refine R.loop (fun k:Nat=>[(0,bR),(1,iV id),(5,iV (k:Int))]) (fun k:Nat=>[]) (fun k:Nat=>[]) (fun k:Nat=>k<=l.length /\ ∀ (j:Nat) x,j<k->l[j]? = some x->(x.ID==id)=false) (fun k:Nat=>l.length-k) 0 O (by exact ⟨ae,fun j x hj=>absurd hj (Nat.not_lt_zero _)⟩) (sF O) (dX [] [] O) ?_
 rintro k ⟨hk,HA⟩
 refine U ?_
 refine C (k<l.length) ?_ ?_ <;> intro h1
 .
  obtain ⟨x1,hx1⟩:=gE l k
  refine U ?_
  refine C (x1.ID=id) ?_ ?_ <;> intro h2
  .
   refine R.rt ?_
   (rw [CC];exact (idxOf_hit (p:=fun x=>x.ID==id) hx1 (beq_iff_eq.2 h2) HA).symm)
  refine R.back (k+1) O (by exact ⟨ae,kV (p:=fun x=>x.ID==id) HA hx1 (beq_eq_false_iff_ne.2 h2)⟩) ae (sF O) (dX [] [] O)
 refine R.rt ?_
 (rw [CC];exact (idxOf_miss h1 HA).symm)
end
section
open Go Go.RowKit
attribute [local irreducible] Run Rg Rq Qt Qa Stp Dg Do Dm bQ
theorem Ci (bR:Value)(l:List ak)(w:World)(ia:Sl w bR l):Calls Tryz.prog 142 #[bR] w fun e w'=>e = .returned (bQ (eE l))/\Ext w w':=by
 have yA:=ia.fS
 refine R.eV ?_
 refine R.loop (fun k:Nat=>[(0,bR),(8,bR),(9,iV (l.length:Int)),(10,iV (k:Int))]) (fun k:Nat=>[]) (fun k:Nat=>[]) (fun k:Nat=>k<=l.length /\ ∀j,j<k->iJ l j=0) (fun k:Nat=>l.length-k) 0 O (by exact ⟨ae,fun j hj=>absurd hj (Nat.not_lt_zero _)⟩) (sF O) (dX [] [] O) ?_
 rintro k ⟨hk,HA⟩
 refine U ?_
 by_cases h1:k<l.length
 .
  refine U ?_
  obtain ⟨x1,hx1⟩:=gE l k
  have wx1:=lw x1
  refine U ?_
  refine R.nb fun b1=>?_
  refine R.kc O O (fun w hw=>Ch x1 w)<|U ?_
  by_cases h2:cZ x1=0
  .
   refine V ?_
   refine R.cut 2 (fun _u:Unit=>[(0,bR),(3,iV (k:Int)),(4,pV b1),(8,bR),(9,iV (l.length:Int)),(10,iV (k:Int))]) (fun _u:Unit=>[ag.box b1 (uo x1) 126]) (fun _u:Unit=>[]) (fun _u:Unit=>Hid (¬ 0<k ∨ ∃y,l[k-1]? = some y/\y.ID<x1.ID)) O O O ?_ ?_
   .
    by_cases h3:0<k
    .
     obtain ⟨x2,hx2⟩:=gE l (k-1)
     have XM:=lw x2
     by_cases h4:x2.ID<x1.ID
     .
      refine R.c6 O mixed ay<|U ?_
      refine Q.qg O (q.lG (r:=((k-1:Nat):Int)) O O) O<|U ?_
      exact R.meet () O (by exact .inr ⟨_,hx2,af⟩) (sF O) (dX [0] [] O)
     refine R.c6 O mixed ay<|U ?_
     refine Q.qg O (q.lG (r:=((k-1:Nat):Int)) O O) O<|U ?_
     refine R.rt ?_
     (exact (ij ae (oT hx1 ae af hx2 af) aC HA))
    refine R.c6 O mixed ay<|U ?_
    exact R.meet () O (by exact .inl af) (sF O) (dX [0] [] O)
   rintro _u hS
   refine U ?_
   by_cases h5:x1.From=0
   .
    refine U ?_
    refine R.back (k+1) O (by exact ⟨ae,uB HA (zx hx1 ae hS.out af)⟩) ae (sF O) (dX [] [] O)
   refine U ?_
   rcases ea (l.take k) x1.From with ⟨fR,E8⟩ | ⟨yh,m6,fR,wF,UF⟩
   .
    refine R.c6 O mixed ay<|U ?_
    refine Q.q (q.jT (i:=k) (fun _=>Wd.old ia) O O Tryz.underlying43 EM O ae) O<|U ?_
    refine Q.c (q.call ER O O (fun w hw=>cv (congrArg (Value.int .i64) fR) (jl _ (l.take k) x1.From w ((fun w hw=>Sl.to ((fun _=>Wd.old ia) w hw) ae) w hw)))) O<|U ?_
    refine R.rt ?_
    (exact (ij ae (zy hx1 ae hS.out af fR) aC HA))
   refine R.c6 O mixed ay<|U ?_
   refine Q.q (q.jT (i:=k) (fun _=>Wd.old ia) O O Tryz.underlying43 EM O ae) O<|U ?_
   refine Q.c (q.call ER O O (fun w hw=>cv (congrArg (Value.int .i64) fR) (jl _ (l.take k) x1.From w ((fun w hw=>Sl.to ((fun _=>Wd.old ia) w hw) ae) w hw)))) O<|U ?_
   have yi:yh<k:=by simp at m6;omega
   obtain ⟨x3,hx3⟩:=gE l yh
   have wx:=vy hx3 (HA yh yi)
   have wx1:=wx.Ry;have XM:=wx.Rz
   have wd:=gq x3 x1.ID x1.Rights x1.aM
   refine R.cO (fuel:=17) [0] O O mixed O<|D.l jH [0] [] O<|U ?_
   refine D.two (i:=10) (j:=14) O O ?_ ?_
   .
    refine Do.p [0] [] (s.c (q.call OZ O O (fun w hw=>ox x3 x1.ID x1.Rights x1.aM w ae)) O) fun _=>?_
    refine D.l [11,12,13] [0] [] O<|U ?_
    refine D.p 14 O [1] [] (s.alloc eG O O) fun b2=>?_
    refine D.p 15 O [1] [] (s.st 0 _ O O O O (.inl cj) O O O O) fun _=>?_
    refine D.l [16] [1] [] O<|U ?_
    refine D.done<|U ?_
    by_cases h6:(derived x3 x1.ID x1.Rights x1.aM).2=0
    .
     refine U ?_
     by_cases h7:(derived x3 x1.ID x1.Rights x1.aM).1=x1
     .
      refine R.q (q.oP (x:=(derived x3 x1.ID x1.Rights x1.aM).1) (y:=x1) EV O O h7) O<|U ?_
      refine R.back (k+1) O (by exact ⟨ae,uB HA ((jK hx1 ae hS.out af fR yi hx3).trans ((if_neg ae).trans (if_neg (fun h=>h af))))⟩) ae (sF O) (dX [] [] O)
     refine R.q (q.oQ (x:=(derived x3 x1.ID x1.Rights x1.aM).1) (y:=x1) EV O O h7) O<|U ?_
     refine R.rt ?_
     (exact (ij ae ((jK hx1 ae hS.out af fR yi hx3).trans ((if_neg ae).trans (if_pos af))) aC HA))
    refine U ?_
    refine R.rt ?_
    (exact (ij ae ((jK hx1 ae hS.out af fR yi hx3).trans (if_pos ae)) ae HA).symm)
   refine Do.p [1] [] (s.alloc eG O O) fun b3=>?_
   refine D.p 10 O [1] [] (s.c (q.call OZ O O (fun w hw=>ox x3 x1.ID x1.Rights x1.aM w ae)) O) fun _=>?_
   refine D.l [11,12,13] [1] [] O<|U ?_
   refine D.p 15 O [1] [] (s.st 0 _ O O O O (.inl cj) O O O O) fun _=>?_
   refine D.l [16] [1] [] O<|U ?_
   refine D.done<|U ?_
   by_cases h8:(derived x3 x1.ID x1.Rights x1.aM).2=0
   .
    refine U ?_
    by_cases h9:(derived x3 x1.ID x1.Rights x1.aM).1=x1
    .
     refine R.q (q.oP (x:=(derived x3 x1.ID x1.Rights x1.aM).1) (y:=x1) EV O O h9) O<|U ?_
     refine R.back (k+1) O (by exact ⟨ae,uB HA ((jK hx1 ae hS.out af fR yi hx3).trans ((if_neg ae).trans (if_neg (fun h=>h af))))⟩) ae (sF O) (dX [] [] O)
    refine R.q (q.oQ (x:=(derived x3 x1.ID x1.Rights x1.aM).1) (y:=x1) EV O O h9) O<|U ?_
    refine R.rt ?_
    (exact (ij ae ((jK hx1 ae hS.out af fR yi hx3).trans ((if_neg ae).trans (if_pos af))) aC HA))
   refine U ?_
   refine R.rt ?_
   (exact (ij ae ((jK hx1 ae hS.out af fR yi hx3).trans (if_pos ae)) ae HA).symm)
  refine U ?_
  refine R.rt ?_
  (have e:cZ x1=1:=ae;rw [e];exact (ij ae (jJ hx1 ae) aC HA).symm)
 refine U ?_
 refine R.rt ?_
 (exact (rZ (fun j hj=>HA j ae)))
theorem sK (bR:Value)(l:List ak)(id:Int)(w:World)(ia:Sl w bR l)(hl:l.length<=1000000):Calls Tryz.prog 161 #[bR,iV id] w fun e w' => ∃u,e = .returned u/\Own w.heap.size 126 w' u (without l id)/\Ext w w':=by
 have yA:=ia.fS
 refine R.eV ?_
 rcases ea l id with ⟨fR,E8⟩ | ⟨yh,m6,fR,wF,UF⟩
 .
  refine R.kc O O (fun w hw=>cv (congrArg (Value.int .i64) fR) (jl _ l id w ((fun _=>Wd.old ia) w hw)))<|U ?_
  refine R.row0 (α:=ak) 126<|R.loop (fun g_:Nat×Value×(List ak)=>[(1,iV id),(5,g_.2.1),(6,iV 0),(20,bR),(21,iV (l.length:Int)),(22,iV (g_.1:Int))]) (fun g_=>[ag.row 126 g_.2.1 g_.2.2]) (fun g_=>[]) (fun g_=>g_.1<=l.length/\g_.2.2=FZ id 0 (l.take g_.1)) (fun g_=>l.length-g_.1) (0,nS,[]) O (by exact ⟨bA,by simp [FZ,tP]⟩) (sF O) (dX [0] [] O) ?_
  rintro ⟨k,v,acc⟩ ⟨hk,HA⟩
  dsimp only at *
  have hal:acc.length<=k:=by rw [HA];exact Nat.le_trans (Eo _ _ _) (List.length_take_le _ _)
  refine U ?_
  refine C (k<l.length) ?_ ?_ <;> intro h1
  .
   obtain ⟨x1,hx1⟩:=gE l k
   refine U ?_
   refine R.nb fun b1=>?_
   refine C (x1.ID=id) ?_ ?_ <;> intro h2
   .refine R.back (k+1,v,acc) O (by exact ⟨ae,by rw [HA,J7 hx1 af]⟩) aJ (sF O) (dX [1] [] O)
   refine C (x1.From=id) ?_ ?_ <;> intro h3
   .
    refine R.s O (s.bs (l:=([(⟨x1.ID,x1.aA,x1.Rights,x1.aM,0⟩:ak)]:List ak)) gP eG O O O O O O O) fun b2=>?_
    refine R.ap fun v1=>?_
    refine R.back (k+1,v1,(acc++([(⟨x1.ID,x1.aA,x1.Rights,x1.aM,0⟩:ak)]))) O (by exact ⟨ae,by rw [HA,vz hx1 af,zB af]⟩) aJ (sF O) (dX [2] [] O)
   refine R.s O (s.bs (l:=([x1]:List ak)) gP eG O O O O O O O) fun b3=>?_
   refine R.ap fun v2=>?_
   refine R.back (k+1,v2,(acc++([x1]))) O (by exact ⟨ae,by rw [HA,vz hx1 af,wO af]⟩) aJ (sF O) (dX [2] [] O)
  exact R.ro 0 O Tryz.results161 O O (by rw [HA,List.take_of_length_le ae];unfold without;rw [xK fR])
 refine R.kc O O (fun w hw=>cv (congrArg (Value.int .i64) fR) (jl _ l id w ((fun _=>Wd.old ia) w hw)))<|U ?_
 refine R.q (q.idx (i:=yh) (fun _=>Wd.old ia) O O gP O (List.getElem?_eq_getElem m6)) O ?_
 refine R.q (q.Nk (j':=4) (fun _=>Wd.old ia) (List.getElem?_eq_getElem m6) O AE O) O ?_
 refine R.q (q.Rf (fun _=>Wd.old ia) (List.getElem?_eq_getElem m6) O eX O) O ?_
 refine U ?_
 refine R.row0 (α:=ak) 126<|R.loop (fun g_:Nat×Value×(List ak)=>[(1,iV id),(5,g_.2.1),(6,iV (l[yh]).From),(20,bR),(21,iV (l.length:Int)),(22,iV (g_.1:Int))]) (fun g_=>[ag.row 126 g_.2.1 g_.2.2]) (fun g_=>[]) (fun g_=>g_.1<=l.length/\g_.2.2=FZ id (l[yh]).From (l.take g_.1)) (fun g_=>l.length-g_.1) (0,nS,[]) O (by exact ⟨bA,by simp [FZ,tP]⟩) (sF O) (dX [0] [] O) ?_
 rintro ⟨k,v,acc⟩ ⟨hk,HA⟩
 dsimp only at *
 have hal:acc.length<=k:=by rw [HA];exact Nat.le_trans (Eo _ _ _) (List.length_take_le _ _)
 refine U ?_
 refine C (k<l.length) ?_ ?_ <;> intro h4
 .
  obtain ⟨x2,hx2⟩:=gE l k
  refine U ?_
  refine R.nb fun b4=>?_
  refine C (x2.ID=id) ?_ ?_ <;> intro h5
  .refine R.back (k+1,v,acc) O (by exact ⟨ae,by rw [HA,J7 hx2 af]⟩) aJ (sF O) (dX [1] [] O)
  refine C (x2.From=id) ?_ ?_ <;> intro h6
  .
   refine R.s O (s.bs (l:=([(⟨x2.ID,x2.aA,x2.Rights,x2.aM,(l[yh]).From⟩:ak)]:List ak)) gP eG O O O O O O O) fun b5=>?_
   refine R.ap fun v3=>?_
   refine R.back (k+1,v3,(acc++([(⟨x2.ID,x2.aA,x2.Rights,x2.aM,(l[yh]).From⟩:ak)]))) O (by exact ⟨ae,by rw [HA,vz hx2 af,zB af]⟩) aJ (sF O) (dX [2] [] O)
  refine R.s O (s.bs (l:=([x2]:List ak)) gP eG O O O O O O O) fun b6=>?_
  refine R.ap fun v4=>?_
  refine R.back (k+1,v4,(acc++([x2]))) O (by exact ⟨ae,by rw [HA,vz hx2 af,wO af]⟩) aJ (sF O) (dX [2] [] O)
 exact R.ro 0 O Tryz.results161 O O (by rw [HA,List.take_of_length_le ae];unfold without;rw [oU fR (List.getElem?_eq_getElem m6)])
theorem Bu (bR:Value)(l:List ak)(id:Int)(w:World)(ia:Sl w bR l)(hl:l.length<=1000000):Calls Tryz.prog 84 #[bR,iV id] w fun e w' => ∃u,e = .returned u/\Own w.heap.size 126 w' u (F3 l id)/\Ext w w':=by
 have yA:=ia.fS
 refine R.eV ?_
 rcases ea l id with ⟨fR,E8⟩ | ⟨yh,m6,fR,wF,UF⟩
 .
  refine R.kc O O (fun w hw=>cv (congrArg (Value.int .i64) fR) (g9 _ l id w ((fun _=>Wd.old ia) w hw)))<|U ?_
  refine R.row0 (α:=ak) 126<|R.loop (fun g_:Nat×Value×(List ak)=>[(0,bR),(1,iV id),(5,g_.2.1),(6,iV (-1)),(7,iV (g_.1:Int))]) (fun g_=>[ag.row 126 g_.2.1 g_.2.2]) (fun g_=>[]) (fun g_=>g_.1<=l.length/\g_.2.2=tP l id (l.take g_.1)) (fun g_=>l.length-g_.1) (0,nS,[]) O (by exact ⟨bA,by simp [tP]⟩) (sF O) (dX [0] [] O) ?_
  rintro ⟨k,v,acc⟩ ⟨hk,HA⟩
  dsimp only at *
  have hal:acc.length<=k:=by rw [HA];exact Nat.le_trans (F4 _ _ _) (List.length_take_le _ _)
  refine U ?_
  refine C (k<l.length) ?_ ?_ <;> intro h1
  .
   obtain ⟨x1,hx1⟩:=gE l k
   refine U ?_
   refine R.nb fun b1=>?_
   refine C (x1.ID=id) ?_ ?_ <;> intro h2
   .refine R.back (k+1,v,acc) O (by exact ⟨ae,by rw [HA,zC hx1 af]⟩) aJ (sF O) (dX [1] [] O)
   refine R.s O (s.bs (l:=([x1]:List ak)) gP eG O O O O O O O) fun b2=>?_
   refine R.ap fun v1=>?_
   refine R.back (k+1,v1,(acc++([x1]))) O (by exact ⟨ae,by rw [HA,wP hx1 af,show NJ l id x1=x1 from by unfold NJ;rw [if_pos ae]]⟩) aJ (sF O) (dX [2] [] O)
  exact R.ro 0 O Tryz.results84 O O (by rw [HA,List.take_of_length_le ae];exact F5 _ _)
 refine R.kc O O (fun w hw=>cv (congrArg (Value.int .i64) fR) (g9 _ l id w ((fun _=>Wd.old ia) w hw)))<|U ?_
 refine R.row0 (α:=ak) 126<|R.loop (fun g_:Nat×Value×(List ak)=>[(0,bR),(1,iV id),(5,g_.2.1),(6,iV (yh:Int)),(7,iV (g_.1:Int))]) (fun g_=>[ag.row 126 g_.2.1 g_.2.2]) (fun g_=>[]) (fun g_=>g_.1<=l.length/\g_.2.2=tP l id (l.take g_.1)) (fun g_=>l.length-g_.1) (0,nS,[]) O (by exact ⟨bA,by simp [tP]⟩) (sF O) (dX [0] [] O) ?_
 rintro ⟨k,v,acc⟩ ⟨hk,HA⟩
 dsimp only at *
 have hal:acc.length<=k:=by rw [HA];exact Nat.le_trans (F4 _ _ _) (List.length_take_le _ _)
 refine U ?_
 refine C (k<l.length) ?_ ?_ <;> intro h3
 .
  obtain ⟨x2,hx2⟩:=gE l k
  refine U ?_
  refine R.nb fun b3=>?_
  refine C (x2.From=id) ?_ ?_ <;> intro h4
  .
   refine R.q (q.idx (i:=yh) (fun _=>Wd.old ia) O O gP O (List.getElem?_eq_getElem m6)) O ?_
   refine R.q (q.Nk (j':=4) (fun _=>Wd.old ia) (List.getElem?_eq_getElem m6) O AE O) O ?_
   refine R.q (q.Rf (fun _=>Wd.old ia) (List.getElem?_eq_getElem m6) O eX O) O ?_
   refine U ?_
   refine C (x2.ID=id) ?_ ?_ <;> intro h5
   .refine R.back (k+1,v,acc) O (by exact ⟨ae,by rw [HA,zC hx2 af]⟩) aJ (sF O) (dX [1] [] O)
   refine R.s O (s.bs (l:=([(⟨x2.ID,x2.aA,x2.Rights,x2.aM,(l[yh]).From⟩:ak)]:List ak)) gP eG O O O O O O O) fun b4=>?_
   refine R.ap fun v2=>?_
   refine R.back (k+1,v2,(acc++([(⟨x2.ID,x2.aA,x2.Rights,x2.aM,(l[yh]).From⟩:ak)]))) O (by exact ⟨ae,by rw [HA,wP hx2 af,show NJ l id x2=_ from by unfold NJ;rw [if_neg ae,oU fR (List.getElem?_eq_getElem m6),zB af]]⟩) aJ (sF O) (dX [2] [] O)
  refine C (x2.ID=id) ?_ ?_ <;> intro h6
  .refine R.back (k+1,v,acc) O (by exact ⟨ae,by rw [HA,zC hx2 af]⟩) aJ (sF O) (dX [1] [] O)
  refine R.s O (s.bs (l:=([x2]:List ak)) gP eG O O O O O O O) fun b5=>?_
  refine R.ap fun v3=>?_
  refine R.back (k+1,v3,(acc++([x2]))) O (by exact ⟨ae,by rw [HA,wP hx2 af,show NJ l id x2=x2 from by unfold NJ;rw [if_neg ae,wO af]]⟩) aJ (sF O) (dX [2] [] O)
 exact R.ro 0 O Tryz.results84 O O (by rw [HA,List.take_of_length_le ae];exact F5 _ _)
end
section
open Go Go.RowKit
attribute [local irreducible] Run Rg Rq Qt Qa Stp Dg Do Dm bQ
theorem wn (bR:Value)(l:List ak)(id:Int)(w:World)(ia:Sl w bR l)(hl:l.length<=1000000):Calls Tryz.prog 163 #[bR,iV id] w fun e w' => ∃u,e = .returned u/\Own w.heap.size 3 w' u (gW id l)/\Ext w w':=by
 have yA:=ia.fS
 refine R.eV ?_
 refine R.s O (s.mk O) fun b1=>U ?_
 refine R.s O (s.aay 0 _ O O O O wa O) fun _=>U ?_
 refine R.row0 (α:=Int) 3<|R.loop (fun g_:Nat×Value×(List Int)×(List Int)=>[(5,.map (some b1)),(6,g_.2.1),(12,bR),(13,iV (l.length:Int)),(14,iV (g_.1:Int))]) (fun g_=>[ag.row 3 g_.2.1 g_.2.2.1,ag.uw b1 g_.2.2.2]) (fun g_=>[]) (fun g_=>g_.1<=l.length/\g_.2.2.1=gW id (l.take g_.1) /\ ∀z,z∈g_.2.2.2↔z=id∨z∈g_.2.2.1) (fun g_=>l.length-g_.1) (0,nS,[],[id]) O (by exact ⟨bA,by simp [gW],bA⟩) (sF O) (dX [0,1] [] O) ?_
 rintro ⟨k,v,acc,S⟩ ⟨hk,HA,HS⟩
 dsimp only at *
 have hal:acc.length<=k:=by rw [HA];exact Nat.le_trans (zH _ _) (List.length_take_le _ _)
 refine U ?_
 refine C (k<l.length) ?_ ?_ <;> intro h1
 .
  obtain ⟨x1,hx1⟩:=gE l k
  refine U ?_
  refine R.nb fun b2=>?_
  refine C (x1.From∈S) ?_ ?_ <;> intro h2
  .
   refine R.q (q.TQ 2 O O O wa (decide_eq_true h2)) O<|U ?_
   refine C (0<x1.From) ?_ ?_ <;> intro h3
   .
    refine R.s O (s.mup 2 _ O O O O wa O) fun _=>U ?_
    refine R.s O (s.bs (l:=([x1.ID]:List Int)) kx jW O O O O O O O) fun b3=>?_
    refine R.ap fun v1=>?_
    refine R.back (k+1,v1,acc++([x1.ID]),(x1.ID::S)) O (by (exact ⟨ae,by rw [HA,F6 hx1 (HA▸HS) af af],by intro z;rw [List.mem_cons,HS,List.mem_append,List.mem_singleton];constructor <;> (intro h;rcases h with h|h|h <;> simp [h])⟩)) aJ (sF O) (dX [2,3] [] O)
   refine R.back (k+1,v,acc,S) O (by exact ⟨ae,by rw [HA,wQ hx1 (HA▸HS) (by intro hh;exact absurd hh.2 af)],HS⟩) aJ (sF O) (dX [1,2] [] O)
  refine R.q (q.TQ 2 O O O wa (decide_eq_false h2)) O<|U ?_
  refine R.back (k+1,v,acc,S) O (by exact ⟨ae,by rw [HA,wQ hx1 (HA▸HS) (by intro hh;exact absurd hh.1 af)],HS⟩) aJ (sF O) (dX [1,2] [] O)
 exact R.ro 0 O Tryz.results163 O O (by rw [HA,List.take_of_length_le ae])
theorem Bv (bR:Value)(l:List ak)(id:Int)(w:World)(ia:Sl w bR l)(hT:cJ l)(hl:l.length<=1000000):Calls Tryz.prog 92 #[bR,iV id] w fun e w' => ∃u,e = .returned u/\Own w.heap.size 3 w' u (beneath l id)/\Ext w w':=by
 have yA:=ia.fS
 refine R.eV ?_
 refine R.row0 (α:=Int) 3<|R.loop (fun g_:Nat×Value×(List Int)=>[(0,bR),(1,iV id),(5,g_.2.1),(6,iV (g_.1:Int))]) (fun g_=>[ag.row 3 g_.2.1 g_.2.2]) (fun g_=>[]) (fun g_=>g_.1<=l.length/\g_.2.2=uE l id (l.take g_.1)) (fun g_=>l.length-g_.1) (0,nS,[]) O (by exact ⟨bA,by simp [uE]⟩) (sF O) (dX [0] [] O) ?_
 rintro ⟨k,v,acc⟩ ⟨hk,HA⟩
 dsimp only at *
 have hal:acc.length<=k:=by rw [HA];exact Nat.le_trans (NL _ _ _) (List.length_take_le _ _)
 refine U ?_
 refine C (k<l.length) ?_ ?_ <;> intro h1
 .
  obtain ⟨x1,hx1⟩:=gE l k
  have wx1:=hT.mem (List.mem_of_getElem? hx1)
  have ab2:=wx1.Rw
  refine U ?_
  refine R.loop (fun f:Int=>[(0,bR),(1,iV id),(5,v),(6,iV (k:Int)),(7,iV f)]) (fun f:Int=>[ag.row 3 v acc]) (fun f:Int=>[]) (fun f:Int=>0<=f/\up l id f=up l id x1.From) (fun f:Int=>f.toNat) x1.From O (by exact ⟨ae,rfl⟩) (sF O) (dX [0] [] O) ?_
  rintro f ⟨hf0,HU⟩
  refine U ?_
  refine C (0<f) ?_ ?_ <;> intro h2
  .
   refine C (f=id) ?_ ?_ <;> intro h3
   .
    refine R.s O (s.bs (l:=([x1.ID]:List Int)) kx jW O O O O O O O) fun b1=>?_
    refine R.ap fun v1=>?_
    refine R.back (k+1,v1,(acc++([x1.ID]))) O (by exact ⟨ae,by rw [HA,F7 hx1 (by rw [<- HU,r5 ae];omega) ae]⟩) aJ (sF O) (dX [1] [] O)
   refine R.kc O O (fun w hw=>g9 _ l f w ((fun _=>Wd.old ia) w hw))<|U ?_
   refine C (cE l f<0) ?_ ?_ <;> intro h4
   .refine R.back (k+1,v,acc) O (by exact ⟨ae,by rw [HA,sV hx1 (by rw [<- HU,r5 ae];omega)]⟩) aJ (sF O) (dX [0] [] O)
   obtain ⟨x2,hx2,ex2,mx2⟩:=zA l f ae
   have XM:=hT.mem mx2
   have ab3:=XM.id1;have ab4:=XM.Rw;have ab5:=XM.Rx;have ab6:=XM.Q0
   have fx2:ff l f=x2.From:=oU (j:=(cE l f).toNat) ae hx2
   refine R.q (q.idx (i:=(cE l f).toNat) (fun _=>Wd.old ia) O O gP ae hx2) O<|U ?_
   refine R.back x2.From O (by exact ⟨ae,by rw [<- HU,Ep hT (f:=f) ae ae,fx2]⟩) ae (sF O) (dX [0] [] O)
  refine C (f=id) ?_ ?_ <;> intro h5
  .refine R.back (k+1,v,acc) O (by exact ⟨ae,by rw [HA,sV hx1 (by rw [<- HU,r5 ae];omega)]⟩) aJ (sF O) (dX [0] [] O)
  refine R.back (k+1,v,acc) O (by exact ⟨ae,by rw [HA,sV hx1 (by rw [<- HU,r5 ae];omega)]⟩) aJ (sF O) (dX [0] [] O)
 exact R.ro 0 O Tryz.results92 O O (by rw [HA,List.take_of_length_le ae];rfl)
end
section
open Go Go.RowKit
attribute [local irreducible] Run Rg Rq Qt Qa Stp Dg Do Dm bQ
theorem Jx (bR:Value)(l:List ak)(w:World)(ia:Sl w bR l)(hl:l.length<=1000000):Calls Tryz.prog 146 #[bR] w fun e w' => ∃u,e = .returned u/\Own w.heap.size 3 w' u (Lib.compact (rm (l.map ak.aA)))/\Ext w w':=by
 have yA:=ia.fS
 refine R.eV ?_
 refine R.row0 (α:=Int) 3<|R.loop (fun g_:Nat×Value×(List Int)=>[(3,g_.2.1),(6,bR),(7,iV (l.length:Int)),(8,iV (g_.1:Int))]) (fun g_=>[ag.row 3 g_.2.1 g_.2.2]) (fun g_=>[]) (fun g_=>g_.1<=l.length/\g_.2.2=(l.take g_.1).map ak.aA) (fun g_=>l.length-g_.1) (0,nS,[]) O (by exact ⟨ae,bA⟩) (sF O) (dX [0] [] O) ?_
 rintro ⟨k,v,acc⟩ ⟨hk,HA⟩
 dsimp only at *
 have hal:acc.length<=k:=by rw [HA];simp;omega
 refine U ?_
 refine C (k<l.length) ?_ ?_ <;> intro h1
 .
  obtain ⟨x1,hx1⟩:=gE l k
  refine U ?_
  refine R.nb fun b1=>?_
  refine R.s O (s.bs (l:=([x1.aA]:List Int)) kx jW O O O O O O O) fun b2=>?_
  refine R.ap fun v1=>?_
  refine R.back (k+1,v1,(acc++([x1.aA]))) O (by exact ⟨ae,by rw [HA,List.take_add_one,hx1];simp⟩) aJ (sF O) (dX [2] [] O)
 refine R.s O (s.Nt [0] _ _ O O V4 O O (fun w hw H=>NQ v acc w H ae) O) fun u1=>U ?_
 refine R.s O (s.Nt [0] _ _ O O V5 O O (fun w hw H=>Ga v (rm acc) w H (by simp [rm];omega)) O) fun v2=>U ?_
 exact R.ro 0 O Tryz.results146 O O (by rw [HA,List.take_of_length_le ae])
theorem Cj (bR:Value)(l:List ak)(w:World)(ia:Sl w bR l):Calls Tryz.prog 148 #[bR] w fun e w' => ∃u,e = .returned u/\Own w.heap.size 3 w' u (F9 l)/\Ext w w':=by
 have yA:=ia.fS
 refine R.eV ?_
 refine R.row0 (α:=Int) 3<|R.loop (fun g_:Nat×Value×(List Int)=>[(0,bR),(3,g_.2.1),(4,iV (g_.1:Int))]) (fun g_=>[ag.row 3 g_.2.1 g_.2.2]) (fun g_=>[]) (fun g_=>1<=g_.1/\g_.1<=1000/\g_.2.2=eY l (g_.1-1)) (fun g_=>1000-g_.1) (1,nS,[]) O (by exact ⟨ae,ae,rfl⟩) (sF O) (dX [0] [] O) ?_
 rintro ⟨k,v,acc⟩ ⟨hk1,hk,HA⟩
 dsimp only at *
 have hal:acc.length<=k:=by rw [HA];exact Nat.le_trans (vA _ _) ae
 refine U ?_
 refine C (k<1000) ?_ ?_ <;> intro h1
 .
  refine R.loop (fun j:Nat=>[(0,bR),(3,v),(4,iV (k:Int)),(5,iV (j:Int))]) (fun j:Nat=>[ag.row 3 v acc]) (fun j:Nat=>[]) (fun j:Nat => ∀ (i:Nat) x,i<j->l[i]? = some x->¬ x.aA=(k:Int)) (fun j:Nat=>l.length-j) 0 O (by exact fun i x hi=>absurd hi (Nat.not_lt_zero _)) (sF O) (dX [0] [] O) ?_
  rintro j HJ
  refine U ?_
  refine C (j<l.length) ?_ ?_ <;> intro h2
  .
   obtain ⟨x1,hx1⟩:=gE l j
   refine U ?_
   refine C (x1.aA=(k:Int)) ?_ ?_ <;> intro h3
   .
    refine R.s O (s.bs (l:=([(k:Int)]:List Int)) kx jW O O O O O O O) fun b1=>?_
    refine R.ap fun v1=>?_
    refine R.back (k+1,v1,(acc++([(k:Int)]))) O (by exact ⟨ae,ae,by rw [HA,Nat.add_sub_cancel];exact (Er ae O hx1 af).symm⟩) aJ (sF O) (dX [1] [] O)
   refine R.back (j+1) O (by (exact fun i x hi hx=>if e:i=j then by subst e;rw [hx1] at hx;injection hx with hx;subst hx;assumption else HJ i x ae hx)) ae (sF O) (dX [0] [] O)
  refine R.back (k+1,v,acc) O (by exact ⟨ae,ae,by rw [HA,Nat.add_sub_cancel];exact (B3 ae (fun i x hi=>HJ i x ae)).symm⟩) aJ (sF O) (dX [0] [] O)
 exact R.ro 0 O Tryz.results148 O O (by (rw [HA];have:k=1000:=ae;subst this;rfl))
end
end Go.Proofs.YtnmpibjlnninjaaGreatDoor
