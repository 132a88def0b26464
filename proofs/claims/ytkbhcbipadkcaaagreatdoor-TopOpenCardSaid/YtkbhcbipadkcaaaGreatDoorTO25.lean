import Derived.Test.YtkbhcbipadkcaaaGreatDoorTO24
namespace Go.Proofs.YtkbhcbipadkcaaaGreatDoor
set_option linter.unusedVariables false
set_option linter.unusedSimpArgs false
section
open Go Go.RowKit
set_option maxRecDepth 100000
set_option maxHeartbeats 1000000
theorem qh (r:Int)(w:World):Calls Tryz.prog 170 #[iV r] w fun e w'=>e = .returned (dh (dA r))/\Ext w w':=by
 refine R.enter [] [(0,iV r)] Tryz.func170 O O O O<|R.reg O<|R.u 1 O<|R.nil<|R.reg O<|R.u 1 O<|?_
 by_cases h1:r<0
 .
  exact R.q (q.dy O O) O<|R.u 4 O<|R.nil<|R.ay O O<|R.reg O<|R.q (q.iface O bm) O<|R.u 1 O<|R.nil<|R.rv O Tryz.results170 O (dq (by decide) (by (exact mI (by omega))))
 refine R.q (q.cW O O) O<|R.u 2 O<|?_
 by_cases h2:7<r
 .
  exact R.qg O (q.eL O O) O<|R.u 1 O<|R.nil<|R.ay O O<|R.reg O<|R.q (q.iface O bm) O<|R.u 1 O<|R.nil<|R.rv O Tryz.results170 O (dq (by decide) (by (exact mI (by omega))))
 exact R.qg O (q.eu O O) O<|R.u 1 O<|R.nil<|R.aB O O<|R.reg O<|R.u 1 O<|R.nil<|R.rv O Tryz.results170 O (iI (by (exact gS (by omega) (by omega))))
theorem gK (r:Int)(n:Int)(w:World)(r0:0<=r/\r<=7)(n0:0<=n/\n<=7):Calls Tryz.prog 119 #[iV r,iV n] w fun e w'=>e = .returned (.bool (jh r n))/\Ext w w':=by
 refine R.enter [] [(0,iV r),(1,iV n)] Tryz.func119 O O O O<|R.reg O<|R.u 1 O<|R.nil<|R.reg O<|R.u 2 O<|R.q (q.and O O O) O<|R.u 1 O<|?_
 by_cases h1:(bits .and .i64 r n)=n
 .
  exact R.q (q.fQ O O) O<|R.u 1 O<|R.nil<|R.rv O Tryz.results119 O (rB (by (exact Gt r0.1 r0.2 n0.1 n0.2 (by exact beq_iff_eq.2 ‹_›))))
 exact R.q (q.fa O O) O<|R.u 1 O<|R.nil<|R.rv O Tryz.results119 O (rB (by (exact Gt r0.1 r0.2 n0.1 n0.2 (by exact beq_eq_false_iff_ne.2 ‹_›))))
theorem yP (x:ap)(w:World):Calls Tryz.prog 188 #[.agg #[iV x.ID,iV x.aE,iV x.Rights,iV x.aN,iV x.From]] w fun e w'=>e = .returned (dh (cz x))/\Ext w w':=by
 refine R.enter [] [(0,.agg #[iV x.ID,iV x.aE,iV x.Rights,iV x.aN,iV x.From])] Tryz.func188 O O O O<|R.reg O<|R.s O (s.box O O O) fun b1=>R.u 1 O<|R.nil<|R.reg O<|R.q (q.aO O bX O) O<|R.q (q.ld 0 O O av O) O<|?_
 by_cases h1:x.ID<1
 .
  exact R.q (q.dy O O) O<|R.u 37 O<|R.nil<|R.ay O O<|R.reg O<|R.q (q.iface O bm) O<|R.u 1 O<|R.nil<|R.rv O Tryz.results188 O (dq (by decide) (by (exact fe (by omega))))
 refine R.q (q.cW O O) O<|R.u 1 O<|R.qg O (q.aO O bX O) O<|R.qg O (q.ld 0 O O av O) O<|?_
 by_cases h2:999<x.ID
 .
  exact R.qg O (q.eL O O) O<|R.u 33 O<|R.nil<|R.ay O O<|R.reg O<|R.q (q.iface O bm) O<|R.u 1 O<|R.nil<|R.rv O Tryz.results188 O (dq (by decide) (by (exact fe (by omega))))
 refine R.qg O (q.eu O O) O<|R.u 2 O<|R.qg O (q.aO O fT O) O<|R.qg O (q.ld 0 O O av O) O<|?_
 by_cases h3:x.aE<1
 .
  exact R.qg O (q.dy O O) O<|R.u 28 O<|R.nil<|R.ay O O<|R.reg O<|R.q (q.iface O bm) O<|R.u 1 O<|R.nil<|R.rv O Tryz.results188 O (dq (by decide) (by (exact fe (by omega))))
 refine R.qg O (q.cW O O) O<|R.u 2 O<|R.qg O (q.aO O fT O) O<|R.qg O (q.ld 0 O O av O) O<|?_
 by_cases h4:999<x.aE
 .
  exact R.qg O (q.eL O O) O<|R.u 23 O<|R.nil<|R.ay O O<|R.reg O<|R.q (q.iface O bm) O<|R.u 1 O<|R.nil<|R.rv O Tryz.results188 O (dq (by decide) (by (exact fe (by omega))))
 refine R.qg O (q.eu O O) O<|R.u 2 O<|R.qg O (q.aO O iZ O) O<|R.qg O (q.ld 0 O O av O) O<|?_
 by_cases h5:x.aN<0
 .
  exact R.qg O (q.dy O O) O<|R.u 18 O<|R.nil<|R.ay O O<|R.reg O<|R.q (q.iface O bm) O<|R.u 1 O<|R.nil<|R.rv O Tryz.results188 O (dq (by decide) (by (exact fe (by omega))))
 refine R.qg O (q.cW O O) O<|R.u 2 O<|R.qg O (q.aO O iZ O) O<|R.qg O (q.ld 0 O O av O) O<|?_
 by_cases h6:99<x.aN
 .
  exact R.qg O (q.eL O O) O<|R.u 13 O<|R.nil<|R.ay O O<|R.reg O<|R.q (q.iface O bm) O<|R.u 1 O<|R.nil<|R.rv O Tryz.results188 O (dq (by decide) (by (exact fe (by omega))))
 refine R.qg O (q.eu O O) O<|R.u 2 O<|R.qg O (q.aO O eZ O) O<|R.qg O (q.ld 0 O O av O) O<|?_
 by_cases h7:x.From<0
 .
  exact R.qg O (q.dy O O) O<|R.u 8 O<|R.nil<|R.ay O O<|R.reg O<|R.q (q.iface O bm) O<|R.u 1 O<|R.nil<|R.rv O Tryz.results188 O (dq (by decide) (by (exact fe (by omega))))
 refine R.qg O (q.cW O O) O<|R.u 2 O<|R.qg O (q.aO O eZ O) O<|R.qg O (q.ld 0 O O av O) O<|R.qg O (q.aO O bX O) O<|R.qg O (q.ld 0 O O av O) O<|?_
 by_cases h8:x.From<x.ID
 .
  exact R.qg O (q.IW O O) O<|R.u 1 O<|R.nil<|R.aB O O<|R.reg O<|R.q (q.aO O jR O) O<|R.q (q.ld 0 O O av O) O<|R.c (q.call Ju O O (fun w hw=>(qh x.Rights w ))) O<|R.u 1 O<|R.nil<|R.rv O Tryz.results188 O (rE (by (exact (xA (by omega)).symm)))
 exact R.qg O (q.G2 O O) O<|R.u 1 O<|R.nil<|R.ay O O<|R.reg O<|R.q (q.iface O bm) O<|R.u 1 O<|R.nil<|R.rv O Tryz.results188 O (dq (by decide) (by (exact fe (by omega))))
theorem mJ (x:ap)(id:Int)(r:Int)(b:Int)(w:World)(x0:0<=x.Rights/\x.Rights<=7):Calls Tryz.prog 120 #[.agg #[iV x.ID,iV x.aE,iV x.Rights,iV x.aN,iV x.From],iV id,iV r,iV b] w fun e w'=>e = .returned (.tuple #[ap.val (derived x id r b).1,dh (derived x id r b).2])/\Ext w w':=by
 refine R.enter [] [(0,.agg #[iV x.ID,iV x.aE,iV x.Rights,iV x.aN,iV x.From]),(1,iV id),(2,iV r),(3,iV b)] Tryz.func120 O O O O<|R.reg O<|R.s O (s.box O O O) fun b1=>R.s O (s.alloc bQ O O) fun b2=>R.u 1 O<|R.nil<|R.reg O<|R.u 1 O<|R.c (q.call Ju O O (fun w hw=>(qh r w ))) O<|R.u 1 O<|R.nil<|R.reg O<|R.u 1 O<|?_
 by_cases h1:dA r=0
 .
  refine R.q (q.dC O O Tryz.underlying38) O<|R.u 1 O<|R.nil<|R.aB O O ?_
  have hr:=pj ‹_›
  refine R.reg O<|R.u 1 O<|?_
  by_cases h2:b<0
  .
   exact R.q (q.dy O O) O<|R.u 5 O<|R.nil<|R.ay O O<|R.reg O<|R.q (q.build iY O O) O<|R.q (q.iface O bm) O<|R.s O (s.st 0 _ O O O O (.inl aL) O O O O) fun _=>R.u 1 O<|R.nil<|R.Cg O Tryz.results120 (RV.cell 0 O O aL) (RV.tmp O) (congrArg ap.val (show (⟨0,0,0,0,0⟩:ap)=(derived x id r b).1 from by ((rw [qQ (by omega)]) <;> rfl))) (dq (by decide) (by ((rw [qQ (by omega)]) <;> first|rfl|exact dR ‹_› | (simp;omega))))
  refine R.q (q.cW O O) O<|R.u 2 O<|?_
  by_cases h3:99<b
  .
   exact R.qg O (q.eL O O) O<|R.u 2 O<|R.nil<|R.ay O O<|R.reg O<|R.q (q.build iY O O) O<|R.q (q.iface O bm) O<|R.s O (s.st 0 _ O O O O (.inl aL) O O O O) fun _=>R.u 1 O<|R.nil<|R.Cg O Tryz.results120 (RV.cell 0 O O aL) (RV.tmp O) (congrArg ap.val (show (⟨0,0,0,0,0⟩:ap)=(derived x id r b).1 from by ((rw [qQ (by omega)]) <;> rfl))) (dq (by decide) (by ((rw [qQ (by omega)]) <;> first|rfl|exact dR ‹_› | (simp;omega))))
  refine R.qg O (q.eu O O) O<|R.u 2 O<|R.nil<|R.aB O O<|R.reg O<|R.q (q.aO O jR O) O<|R.q (q.ld 1 O O av O) O<|R.u 1 O<|?_
  rcases Bool.eq_false_or_eq_true (jh x.Rights r) with h4|h4
  .
   refine R.c (q.call pQ O O (fun w hw=>(cv (congrArg Value.bool h4) (gK x.Rights r w (by omega) (by omega))))) O<|R.u 2 O<|R.nil<|R.aB O O<|R.reg O<|R.u 1 O<|?_
   by_cases h5:b=0
   .
    exact R.q (q.lH O O) O<|R.u 12 O<|R.nil<|R.aB O O<|R.reg O<|R.u 1 O<|R.q (q.fQ O O) O<|R.nil<|R.ay O O<|R.reg O<|R.q (q.aO O iZ O) O<|R.q (q.ld 1 O O av O) O<|R.u 1 O<|R.nil<|R.reg O<|R.u 1 O<|R.q (q.aO O fT O) O<|R.q (q.ld 1 O O av O) O<|R.u 2 O<|R.q (q.aO O bX O) O<|R.q (q.ld 1 O O av O) O<|R.q (q.build iY O O) O<|R.s O (s.st 0 _ O O O O (.inl aL) O O O O) fun _=>R.u 1 O<|R.nil<|R.Cg O Tryz.results120 (RV.cell 0 O O aL) (RV.tmp O) (congrArg ap.val (show (⟨id,x.aE,r,x.aN,x.ID⟩:ap)=(derived x id r b).1 from by ((rw [r9 (by omega) ‹_› (by omega)]) <;> first|rfl|exact dR ‹_› | (simp;omega)))) (iI (by ((rw [r9 (by omega) ‹_› (by omega)]) <;> first|rfl|exact dR ‹_› | (simp;omega))))
   refine R.q (q.lG O O) O<|R.u 1 O<|R.qg O (q.aO O iZ O) O<|R.qg O (q.ld 1 O O av O) O<|?_
   by_cases h6:x.aN=0
   .
    exact R.qg O (q.lH O O) O<|R.u 8 O<|R.nil<|R.aB O O<|R.reg O<|R.u 1 O<|R.q (q.fa O O) O<|R.nil<|R.aB O O<|R.reg O<|R.u 1 O<|R.q (q.aO O fT O) O<|R.q (q.ld 1 O O av O) O<|R.u 2 O<|R.q (q.aO O bX O) O<|R.q (q.ld 1 O O av O) O<|R.q (q.build iY O O) O<|R.s O (s.st 0 _ O O O O (.inl aL) O O O O) fun _=>R.u 1 O<|R.nil<|R.Cg O Tryz.results120 (RV.cell 0 O O aL) (RV.tmp O) (congrArg ap.val (show (⟨id,x.aE,r,b,x.ID⟩:ap)=(derived x id r b).1 from by ((rw [sf (by omega) ‹_› (by omega) (by omega)]) <;> first|rfl|exact dR ‹_› | (simp;omega)))) (iI (by ((rw [sf (by omega) ‹_› (by omega) (by omega)]) <;> first|rfl|exact dR ‹_› | (simp;omega))))
   refine R.qg O (q.lG O O) O<|R.u 3 O<|R.qg O (q.aO O iZ O) O<|R.qg O (q.ld 1 O O av O) O<|?_
   by_cases h7:b=x.aN
   .
    exact R.qg O (q.lH O O) O<|R.u 2 O<|R.nil<|R.aB O O<|R.reg O<|R.u 1 O<|R.q (q.fa O O) O<|R.nil<|R.aB O O<|R.reg O<|R.u 1 O<|R.q (q.aO O fT O) O<|R.q (q.ld 1 O O av O) O<|R.u 2 O<|R.q (q.aO O bX O) O<|R.q (q.ld 1 O O av O) O<|R.q (q.build iY O O) O<|R.s O (s.st 0 _ O O O O (.inl aL) O O O O) fun _=>R.u 1 O<|R.nil<|R.Cg O Tryz.results120 (RV.cell 0 O O aL) (RV.tmp O) (congrArg ap.val (show (⟨id,x.aE,r,b,x.ID⟩:ap)=(derived x id r b).1 from by ((rw [xD (by omega) ‹_› (by omega) (by omega)]) <;> (simp;omega)))) (iI (by ((rw [xD (by omega) ‹_› (by omega) (by omega)]) <;> first|rfl|exact dR ‹_› | (simp;omega))))
   exact R.qg O (q.lG O O) O<|R.u 2 O<|R.nil<|R.ay O O<|R.reg O<|R.q (q.build iY O O) O<|R.q (q.iface O bm) O<|R.s O (s.st 0 _ O O O O (.inl aL) O O O O) fun _=>R.u 1 O<|R.nil<|R.Cg O Tryz.results120 (RV.cell 0 O O aL) (RV.tmp O) (congrArg ap.val (show (⟨0,0,0,0,0⟩:ap)=(derived x id r b).1 from by ((rw [xC (by omega) ‹_› (by omega)]) <;> rfl))) (dq (by decide) (by ((rw [xC (by omega) ‹_› (by omega)]) <;> first|rfl|exact dR ‹_› | (simp;omega))))
  exact R.c (q.call pQ O O (fun w hw=>(cv (congrArg Value.bool h4) (gK x.Rights r w (by omega) (by omega))))) O<|R.u 2 O<|R.nil<|R.ay O O<|R.reg O<|R.q (q.build iY O O) O<|R.q (q.iface O bm) O<|R.s O (s.st 0 _ O O O O (.inl aL) O O O O) fun _=>R.u 1 O<|R.nil<|R.Cg O Tryz.results120 (RV.cell 0 O O aL) (RV.tmp O) (congrArg ap.val (show (⟨0,0,0,0,0⟩:ap)=(derived x id r b).1 from by ((rw [xB (by omega) ‹_›]) <;> rfl))) (dq (by decide) (by ((rw [xB (by omega) ‹_›]) <;> first|rfl|exact dR ‹_› | (simp;omega))))
 exact R.q (q.eo O O Tryz.underlying38) O<|R.u 1 O<|R.nil<|R.ay O O<|R.reg O<|R.q (q.build iY O O) O<|R.u 1 O<|R.s O (s.st 0 _ O O O O (.inl aL) O O O O) fun _=>R.u 1 O<|R.nil<|R.Cg O Tryz.results120 (RV.cell 0 O O aL) (RV.tmp O) (congrArg ap.val (show (⟨0,0,0,0,0⟩:ap)=(derived x id r b).1 from by ((rw [r8 ‹_›]) <;> rfl))) (rE (by ((rw [r8 ‹_›]) <;> exact dR ‹_›)))
theorem Dh (x:ap)(id:Int)(MF:Nat)(w:World)(SJ:(af.box MF [iV id] 3).ok w):Calls Tryz.prog 163 #[.agg #[iV x.ID,iV x.aE,iV x.Rights,iV x.aN,iV x.From],.pointer (some ⟨MF,0,none⟩)] w fun e w'=>e = .returned (.bool (x.ID==id))/\Ext w w':=by
 refine R.enter [] [(0,.agg #[iV x.ID,iV x.aE,iV x.Rights,iV x.aN,iV x.From]),(1,.pointer (some ⟨MF,0,none⟩))] Tryz.func163 O O O O<|R.nH (r:=af.box MF [iV id] 3) SJ (jO SJ)<|R.reg O<|R.s O (s.box O O O) fun b1=>R.u 1 O<|R.nil<|R.reg O<|R.q (q.aO O bX O) O<|R.q (q.ld 0 O O av O) O<|R.q (q.yB 0 O O av O) O<|?_
 by_cases h1:x.ID=id
 .
  exact R.q (q.fQ O O) O<|R.u 1 O<|R.nil<|R.rv O Tryz.results163 O (rB (by (exact (beq_iff_eq.2 ‹_›).symm)))
 exact R.q (q.fa O O) O<|R.u 1 O<|R.nil<|R.rv O Tryz.results163 O (rB (by (exact (beq_eq_false_iff_ne.2 ‹_›).symm)))
theorem mK (bJ:Value)(l:List ap)(p:ap->Bool)(Q5:Nat)(TE:List Value)(SK:∀args w,(callFunc Q5 args).run Tryz.prog w = .ok (.enter Q5 args) w)(w:World)(ey:Sl w bJ l)(UW:∀W (x1:ap),Ext w W->Calls Tryz.prog Q5 ([x1.val]++TE).toArray W fun e w'=>e = .returned (.bool (p x1))/\Ext W w'):Calls Tryz.prog 162 #[bJ,.func (.func Q5) #[] TE.toArray] w fun e w'=>e = .returned (iV (idxOf p l))/\Ext w w':=by
 have zw:=ey.fC
 refine R.enter [] [(0,bJ),(1,.func (.func Q5) #[] TE.toArray)] Tryz.func162 O O O O<|R.reg O<|R.u 1 O<|R.nil<|R.reg O<|R.u 1 O<|R.q (q.len' (fun _=>Wd.old ey) O Tryz.underlying43) O<|R.u 1 O<|R.nil<|R.loop (fun k:Nat=>[(0,bJ),(1,.func (.func Q5) #[] TE.toArray),(7,iV (l.length:Int)),(8,iV (k:Int))]) (fun k:Nat=>[]) (fun k:Nat=>[]) (fun k:Nat=>k<=l.length /\ ∀ (j:Nat) x,j<k->l[j]? = some x->p x=false) (fun k:Nat=>l.length-k) 0 O (by exact ⟨by omega,fun j x hj=>absurd hj (Nat.not_lt_zero _)⟩) (sF O) (fun _=>Wd.pick [] [] O O O) ?_
 rintro k ⟨hk,HA⟩
 refine R.reg O<|?_
 by_cases h1:k<l.length
 .
  refine R.q (q.dy O O) O<|R.nil<|R.ay O O<|R.reg O<|R.u 2 O<|R.nil<|R.reg O<|R.u 3 O<|?_
  obtain ⟨x1,hx1⟩:∃z,l[k]? = some z:=⟨_,List.getElem?_eq_getElem (by omega)⟩
  refine R.q (q.idx (i:=k) (fun _=>Wd.old ey) O O dJ O hx1) O<|R.q (q.eV (ds:=gk x1) (fun _=>Wd.old ey) hx1 O aL O) O<|?_
  rcases Bool.eq_false_or_eq_true (p x1) with h2|h2
  .
   exact R.c (q.call SK O O (fun w hw=>cv (congrArg Value.bool h2) (UW w x1 hw.ext))) O<|R.nil<|R.ay O O<|R.reg O<|R.u 2 O<|R.nil<|R.rv O Tryz.results162 O (rI (by (exact (idxOf_hit hx1 ‹_› HA).symm)))
  refine R.c (q.call SK O O (fun w hw=>cv (congrArg Value.bool h2) (UW w x1 hw.ext))) O<|R.nil<|R.aB O O<|R.reg O<|R.q (q.bA (r:=((k+1:Nat):Int)) O O) O<|R.u 1 O<|R.nil<|R.back (k+1) O (by (exact ⟨by omega,nZ HA hx1 ‹_›⟩)) (by omega) (sF O) (fun _=>Wd.pick [] [] O O O)
 exact R.q (q.cW O O) O<|R.nil<|R.aB O O<|R.reg O<|R.u 1 O<|R.nil<|R.rv O Tryz.results162 O (rI (by (exact (idxOf_miss ‹_› HA).symm)))
theorem iA (bJ:Value)(l:List ap)(id:Int)(w:World)(ey:Sl w bJ l):Calls Tryz.prog 109 #[bJ,iV id] w fun e w'=>e = .returned (iV (cK l id))/\Ext w w':=by
 have zw:=ey.fC
 exact R.enter [] [(0,bJ),(1,iV id)] Tryz.func109 rfl rfl rfl rfl<|R.reg rfl<|R.s rfl (s.box rfl rfl rfl) fun b1=>R.u 1 rfl<|R.nil<|R.reg rfl<|R.u 1 rfl<|R.q (q.LU (cap:=[.pointer (some ⟨b1,0,none⟩)]) rfl rfl) rfl<|R.c (q.call ED rfl rfl (fun w hw=>(mK _ l (fun (x:ap)=>x.ID==id) _ _ Pp w ((fun _=>Wd.old ey) w hw) (fun W x hW=>Dh x id _ W (sM (hw.b 0 rfl) hW) ) ))) rfl<|R.u 1 rfl<|R.nil<|R.rv rfl Tryz.results109 rfl (rI (by rfl))
end
section
open Go.RowKit
def hZ (l:List ap)(i:Nat):Int :=
  match l[i]? with
  | none=>0
  | some x =>
    if cz x=1 then 1
    else if 0<i /\ ∃y,l[i-1]? = some y/\x.ID<=y.ID then 3
    else if x.From=0 then 0
    else match (l.take i).find? (fun y=>y.ID==x.From) with
      | none=>5
      | some y=>if (derived y x.ID x.Rights x.aN).2≠0 then (derived y x.ID x.Rights x.aN).2 else if (derived y x.ID x.Rights x.aN).1≠x then 7 else 0
def ea (l:List ap):Int:=match (List.range l.length).find? (fun i=>hZ l i != 0) with|some i=>hZ l i|none=>0
theorem gT {l:List ap}{k:Nat}{f:Int}(hk:k<l.length)(h:hZ l k=f)(hf:f≠0)(h0:∀j,j<k->hZ l j=0):ea l=f:=by
 unfold ea
 have:(List.range l.length).find? (fun i=>hZ l i != 0)=some k:=by
  rw [List.find?_range_eq_some]
  refine ⟨by simpa [h] using hf,by simpa using hk,fun j hj=>by simp [h0 j hj]⟩
 rw [this];exact h
theorem qi {l:List ap}(h0:∀j,j<l.length->hZ l j=0):ea l=0:=by
 unfold ea
 have:(List.range l.length).find? (fun i=>hZ l i != 0)=none:=by
  rw [List.find?_eq_none]
  intro i hi
  simp [h0 i (List.mem_range.1 hi)]
 rw [this]
theorem vj {l:List ap}(h:ea l=0):∀j,j<l.length->hZ l j=0:=by
 unfold ea at h
 cases hf:(List.range l.length).find? (fun i=>hZ l i != 0) with
 | none =>
  intro j hj
  have:=List.find?_eq_none.1 hf j (List.mem_range.2 hj)
  simpa using this
 | some i =>
  rw [hf] at h
  have:=List.find?_some hf
  simp at this;exact absurd h this
theorem kV {l:List ap}{id:Int}:(cK l id = -1/\l.find? (fun y=>y.ID==id)=none) \/ ∃ (k:Nat) (h:k<l.length),cK l id=k/\l.find? (fun y=>y.ID==id)=some l[k]:=by
 rcases fk l id with ⟨h,h2⟩ | ⟨k,hk,h1,h2,h3⟩
 .exact .inl ⟨h,by rw [List.find?_eq_none];intro x hx;simpa using h2 x hx⟩
 .
  refine .inr ⟨k,hk,h1,?_⟩
  rw [List.find?_eq_some_iff_getElem]
  exact ⟨by simpa using h2,k,hk,rfl,fun j hj=>by simpa using h3 j hj⟩
end
section
open Go.RowKit
structure Q6 (x:ap):Prop where
  id1:1<=x.ID
  Oo:x.ID<=999
  Qg:1<=x.aE
  Qh:x.aE<=999
  Qi:0<=x.aN
  Qj:x.aN<=99
  Q7:0<=x.From
  Qk:x.From<x.ID
  KA:0<=x.Rights
  KB:x.Rights<=7
theorem BD {x:ap}(h:cz x=0):Q6 x:=by
 rcases gu x with ⟨h1,_⟩ | ⟨_,h2⟩
 .omega
 .obtain ⟨a,b,c,d,e,f,g,i,j,k⟩:=h2;exact ⟨a,b,c,d,e,f,g,i,j,k⟩
theorem kx (x:ap):cz x=0\/cz x=1:=by
 rcases gu x with ⟨h1,_⟩ | ⟨h1,_⟩
 .exact .inr h1
 .exact .inl h1
theorem ji {l:List ap}{k:Nat}{x:ap}(hx:l[k]? = some x)(h:¬ cz x=0):hZ l k=1:=by
 have:cz x=1:=by rcases gu x with ⟨h1,_⟩ | ⟨h1,_⟩;exact h1;exact absurd h1 h
 unfold hZ;rw [hx];simp only [];rw [if_pos this]
theorem m7 {l:List ap}{k:Nat}{x y:ap}(hx:l[k]? = some x)(h:cz x=0)(hk:0<k)(hy:l[k-1]? = some y)(hle:¬ y.ID<x.ID):hZ l k=3:=by
 unfold hZ;rw [hx];simp only [];rw [if_neg (by omega),if_pos ⟨hk,y,hy,by omega⟩]
theorem xE {l:List ap}{k:Nat}{x:ap}(hx:l[k]? = some x)(h:cz x=0)(hs:¬ 0<k \/ ∃y,l[k-1]? = some y/\y.ID<x.ID)(h0:x.From=0):hZ l k=0:=by
 unfold hZ;rw [hx];simp only [];rw [if_neg (by omega),if_neg,if_pos h0]
 rintro ⟨hk,y,hy,hle⟩
 rcases hs with hs|⟨z,hz,hlt⟩
 .exact hs hk
 .rw [hy] at hz;injection hz with hz;subst hz;omega
theorem xF {l:List ap}{k:Nat}{x:ap}(hx:l[k]? = some x)(h:cz x=0)(hs:¬ 0<k \/ ∃y,l[k-1]? = some y/\y.ID<x.ID)(h0:¬ x.From=0)(hf:cK (l.take k) x.From = -1):hZ l k=5:=by
 have hn:(l.take k).find? (fun y=>y.ID==x.From)=none:=by
  rcases kV (l:=l.take k) (id:=x.From) with ⟨_,h2⟩ | ⟨j,hj,h1,h2⟩
  .exact h2
  .omega
 unfold hZ;rw [hx];simp only [];rw [if_neg (by omega),if_neg,if_neg h0,hn]
 rintro ⟨hk,y,hy,hle⟩
 rcases hs with hs|⟨z,hz,hlt⟩
 .exact hs hk
 .rw [hy] at hz;injection hz with hz;subst hz;omega
theorem jj {l:List ap}{k j:Nat}{x y:ap}(hx:l[k]? = some x)(h:cz x=0)(hs:¬ 0<k \/ ∃y,l[k-1]? = some y/\y.ID<x.ID)(h0:¬ x.From=0)(hf:cK (l.take k) x.From=(j:Int))(hj:j<k)(hy:l[j]? = some y) :
 hZ l k=if (derived y x.ID x.Rights x.aN).2≠0 then (derived y x.ID x.Rights x.aN).2 else if (derived y x.ID x.Rights x.aN).1≠x then 7 else 0:=by
 have hn:(l.take k).find? (fun y=>y.ID==x.From)=some y:=by
  rcases kV (l:=l.take k) (id:=x.From) with ⟨h1,h2⟩ | ⟨i,hi,h1,h2⟩
  .omega
  .
   have:i=j:=by omega
   subst this
   rw [h2,List.getElem_take,(List.getElem?_eq_some_iff.1 hy).2]
 unfold hZ;rw [hx];simp only [];rw [if_neg (by omega),if_neg,if_neg h0,hn]
 rintro ⟨hk,y,hy,hle⟩
 rcases hs with hs|⟨z,hz,hlt⟩
 .exact hs hk
 .rw [hy] at hz;injection hz with hz;subst hz;omega
theorem s8 {l:List ap}{k:Nat}{x:ap}(hx:l[k]? = some x)(h:hZ l k=0):Q6 x:=by
 by_cases h1:cz x=0
 .exact BD h1
 .rw [ji hx h1] at h;omega
theorem rK (x:ap)(id r b:Int):(derived x id r b).2=0\/(derived x id r b).2=1\/(derived x id r b).2=7:=by
 unfold derived;(repeat' split) <;> simp
def cT (l:List ap):Prop:=ea l=0
theorem cT.steps {l:List ap}(h:cT l):∀j,j<l.length->hZ l j=0:=vj h
theorem cT.mem {l:List ap}(h:cT l){x:ap}(hx:x∈l):Q6 x:=by
 obtain ⟨j,hj⟩:=List.mem_iff_getElem?.1 hx
 exact s8 hj (h.steps j (List.getElem?_eq_some_iff.1 hj).1)
theorem sg {l:List ap}{k:Nat}(h:∀j,j<k->hZ l j=0)(hk:hZ l k=0):∀j,j<k+1->hZ l j=0:=by
 intro j hj
 rcases Nat.lt_or_ge j k with h1|h1
 .exact h j h1
 .
  have:j=k:=by omega
  subst this;exact hk
theorem Di (l:List ap)(c:Int)(h:0<=cK l c):∃x,l[(cK l c).toNat]? = some x/\x.ID=c/\x∈l:=by
 rcases fk l c with ⟨h1,_⟩ | ⟨k,hk,h1,h2,_⟩
 .omega
 .
  refine ⟨l[k],?_,h2,List.getElem_mem hk⟩
  rw [h1];simp
def mP (id from':Int)(x:ap):ap:=if x.From=id then { x with From:=from' } else x
def E4 (id from':Int)(l:List ap):List ap:=(l.filter (fun x=>decide (x.ID≠id))).map (mP id from')
theorem Gu {id f:Int}{l:List ap}{k:Nat}{x:ap}(hx:l[k]? = some x)(h:x.ID=id):E4 id f (l.take (k+1))=E4 id f (l.take k):=by
 unfold E4
 rw [List.take_add_one,hx,List.filter_append];simp [h]
theorem s9 {id f:Int}{l:List ap}{k:Nat}{x:ap}(hx:l[k]? = some x)(h:¬ x.ID=id):E4 id f (l.take (k+1))=E4 id f (l.take k)++[mP id f x]:=by
 unfold E4
 rw [List.take_add_one,hx,List.filter_append];simp [h]
theorem BF (id f:Int)(l:List ap):(E4 id f l).length<=l.length:=by unfold E4;simp;exact List.length_filter_le _ _
theorem Dj {id f:Int}{x:ap}(h:x.From=id):mP id f x=⟨x.ID,x.aE,x.Rights,x.aN,f⟩:=by unfold mP;rw [if_pos h]
theorem zL {id f:Int}{x:ap}(h:¬ x.From=id):mP id f x=x:=by unfold mP;rw [if_neg h]
def eP (l:List ap)(id:Int):Int:=match l.find? (fun y=>y.ID==id) with|some y=>y.From|none=>0
theorem uI {l:List ap}{id:Int}{j:Nat}{y:ap}(hf:cK l id=(j:Int))(hy:l[j]? = some y):eP l id=y.From:=by
 unfold eP
 rcases kV (l:=l) (id:=id) with ⟨h1,_⟩ | ⟨i,hi,h1,h2⟩
 .omega
 .
  have:i=j:=by omega
  subst this;rw [h2,(List.getElem?_eq_some_iff.1 hy).2]
theorem uJ {l:List ap}{id:Int}(hf:cK l id = -1):eP l id=0:=by
 unfold eP
 rcases kV (l:=l) (id:=id) with ⟨_,h2⟩ | ⟨i,hi,h1,h2⟩
 .rw [h2]
 .omega
def without (l:List ap)(id:Int):List ap:=E4 id (eP l id) l
def VM (l:List ap)(id:Int)(x:ap):ap:=if cK l id<0 then x else mP id (eP l id) x
def SL (l:List ap)(id:Int)(m:List ap):List ap:=(m.filter (fun x=>decide (x.ID≠id))).map (VM l id)
end
end Go.Proofs.YtkbhcbipadkcaaaGreatDoor
