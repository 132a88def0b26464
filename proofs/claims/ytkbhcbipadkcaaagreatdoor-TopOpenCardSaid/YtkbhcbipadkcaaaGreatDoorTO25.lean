import Derived.Test.YtkbhcbipadkcaaaGreatDoorTO24
namespace Go.Proofs.YtkbhcbipadkcaaaGreatDoor
set_option linter.unusedVariables false
set_option linter.unusedSimpArgs false
section
open Go Go.RowKit
set_option maxRecDepth 100000
set_option maxHeartbeats 90000000
theorem qh (r:Int)(w:World):Calls Tryz.prog 170 #[iV r] w fun e w'=>e = .returned (df (dz r))/\Ext w w':=by
 refine R.enter [] [(0,iV r)] Tryz.func170 O O O O<|R.reg O<|R.u 1 O<|R.nil<|R.reg O<|R.u 1 O<|?_
 by_cases h1:r<0
 .
  exact R.q (q.dx O O) O<|R.u 4 O<|R.nil<|R.av O O<|R.reg O<|R.q (q.iface O bj) O<|R.u 1 O<|R.nil<|R.rv O Tryz.results170 O (dj (by decide) (by (exact mE (by omega))))
 refine R.q (q.cU O O) O<|R.u 2 O<|?_
 by_cases h2:7<r
 .
  exact R.qg O (q.eL O O) O<|R.u 1 O<|R.nil<|R.av O O<|R.reg O<|R.q (q.iface O bj) O<|R.u 1 O<|R.nil<|R.rv O Tryz.results170 O (dj (by decide) (by (exact mE (by omega))))
 exact R.qg O (q.eo O O) O<|R.u 1 O<|R.nil<|R.aA O O<|R.reg O<|R.u 1 O<|R.nil<|R.rv O Tryz.results170 O (iK (by (exact gQ (by omega) (by omega))))
theorem gJ (r:Int)(n:Int)(w:World)(r0:0<=r/\r<=7)(n0:0<=n/\n<=7):Calls Tryz.prog 119 #[iV r,iV n] w fun e w'=>e = .returned (.bool (ji r n))/\Ext w w':=by
 refine R.enter [] [(0,iV r),(1,iV n)] Tryz.func119 O O O O<|R.reg O<|R.u 1 O<|R.nil<|R.reg O<|R.u 2 O<|R.q (q.and O O O) O<|R.u 1 O<|?_
 by_cases h1:(bits .and .i64 r n)=n
 .
  exact R.q (q.fN O O) O<|R.u 1 O<|R.nil<|R.rv O Tryz.results119 O (rB (by (exact Gq r0.1 r0.2 n0.1 n0.2 (by exact beq_iff_eq.2 ‹_›))))
 exact R.q (q.e8 O O) O<|R.u 1 O<|R.nil<|R.rv O Tryz.results119 O (rB (by (exact Gq r0.1 r0.2 n0.1 n0.2 (by exact beq_eq_false_iff_ne.2 ‹_›))))
theorem yL (x:aj)(w:World):Calls Tryz.prog 188 #[.agg #[iV x.ID,iV x.aE,iV x.Rights,iV x.aQ,iV x.From]] w fun e w'=>e = .returned (df (cr x))/\Ext w w':=by
 refine R.enter [] [(0,.agg #[iV x.ID,iV x.aE,iV x.Rights,iV x.aQ,iV x.From])] Tryz.func188 O O O O<|R.reg O<|R.s O (s.box O O O) fun b1=>?_
 refine R.u 1 O<|R.nil<|R.reg O<|R.q (q.aO O bU O) O<|R.q (q.ld 0 O O au O) O<|?_
 by_cases h1:x.ID<1
 .
  exact R.q (q.dx O O) O<|R.u 37 O<|R.nil<|R.av O O<|R.reg O<|R.q (q.iface O bj) O<|R.u 1 O<|R.nil<|R.rv O Tryz.results188 O (dj (by decide) (by (exact fa (by omega))))
 refine R.q (q.cU O O) O<|R.u 1 O<|R.qg O (q.aO O bU O) O<|R.qg O (q.ld 0 O O au O) O<|?_
 by_cases h2:999<x.ID
 .
  exact R.qg O (q.eL O O) O<|R.u 33 O<|R.nil<|R.av O O<|R.reg O<|R.q (q.iface O bj) O<|R.u 1 O<|R.nil<|R.rv O Tryz.results188 O (dj (by decide) (by (exact fa (by omega))))
 refine R.qg O (q.eo O O) O<|R.u 2 O<|R.qg O (q.aO O fR O) O<|R.qg O (q.ld 0 O O au O) O<|?_
 by_cases h3:x.aE<1
 .
  exact R.qg O (q.dx O O) O<|R.u 28 O<|R.nil<|R.av O O<|R.reg O<|R.q (q.iface O bj) O<|R.u 1 O<|R.nil<|R.rv O Tryz.results188 O (dj (by decide) (by (exact fa (by omega))))
 refine R.qg O (q.cU O O) O<|R.u 2 O<|R.qg O (q.aO O fR O) O<|R.qg O (q.ld 0 O O au O) O<|?_
 by_cases h4:999<x.aE
 .
  exact R.qg O (q.eL O O) O<|R.u 23 O<|R.nil<|R.av O O<|R.reg O<|R.q (q.iface O bj) O<|R.u 1 O<|R.nil<|R.rv O Tryz.results188 O (dj (by decide) (by (exact fa (by omega))))
 refine R.qg O (q.eo O O) O<|R.u 2 O<|R.qg O (q.aO O iZ O) O<|R.qg O (q.ld 0 O O au O) O<|?_
 by_cases h5:x.aQ<0
 .
  exact R.qg O (q.dx O O) O<|R.u 18 O<|R.nil<|R.av O O<|R.reg O<|R.q (q.iface O bj) O<|R.u 1 O<|R.nil<|R.rv O Tryz.results188 O (dj (by decide) (by (exact fa (by omega))))
 refine R.qg O (q.cU O O) O<|R.u 2 O<|R.qg O (q.aO O iZ O) O<|R.qg O (q.ld 0 O O au O) O<|?_
 by_cases h6:99<x.aQ
 .
  exact R.qg O (q.eL O O) O<|R.u 13 O<|R.nil<|R.av O O<|R.reg O<|R.q (q.iface O bj) O<|R.u 1 O<|R.nil<|R.rv O Tryz.results188 O (dj (by decide) (by (exact fa (by omega))))
 refine R.qg O (q.eo O O) O<|R.u 2 O<|R.qg O (q.aO O eX O) O<|R.qg O (q.ld 0 O O au O) O<|?_
 by_cases h7:x.From<0
 .
  exact R.qg O (q.dx O O) O<|R.u 8 O<|R.nil<|R.av O O<|R.reg O<|R.q (q.iface O bj) O<|R.u 1 O<|R.nil<|R.rv O Tryz.results188 O (dj (by decide) (by (exact fa (by omega))))
 refine R.qg O (q.cU O O) O<|R.u 2 O<|R.qg O (q.aO O eX O) O<|R.qg O (q.ld 0 O O au O) O<|R.qg O (q.aO O bU O) O<|R.qg O (q.ld 0 O O au O) O<|?_
 by_cases h8:x.From<x.ID
 .
  refine R.qg O (q.IP O O) O<|R.u 1 O<|R.nil<|R.aA O O<|R.reg O<|R.q (q.aO O jT O) O<|R.q (q.ld 0 O O au O) O<|R.c (q.call Jq O O (fun w hw=>(qh x.Rights w ))) O<|R.u 1 O<|R.nil ?_
  exact R.rv O Tryz.results188 O (rE (by (exact (xu (by omega)).symm)))
 exact R.qg O (q.G0 O O) O<|R.u 1 O<|R.nil<|R.av O O<|R.reg O<|R.q (q.iface O bj) O<|R.u 1 O<|R.nil<|R.rv O Tryz.results188 O (dj (by decide) (by (exact fa (by omega))))
theorem mF (x:aj)(id:Int)(r:Int)(b:Int)(w:World)(x0:0<=x.Rights/\x.Rights<=7):Calls Tryz.prog 120 #[.agg #[iV x.ID,iV x.aE,iV x.Rights,iV x.aQ,iV x.From],iV id,iV r,iV b] w fun e w'=>e = .returned (.tuple #[aj.val (derived x id r b).1,df (derived x id r b).2])/\Ext w w':=by
 refine R.enter [] [(0,.agg #[iV x.ID,iV x.aE,iV x.Rights,iV x.aQ,iV x.From]),(1,iV id),(2,iV r),(3,iV b)] Tryz.func120 O O O O<|R.reg O<|R.s O (s.box O O O) fun b1=>?_
 refine R.s O (s.alloc bO O O) fun b2=>?_
 refine R.u 1 O<|R.nil<|R.reg O<|R.u 1 O<|R.c (q.call Jq O O (fun w hw=>(qh r w ))) O<|R.u 1 O<|R.nil ?_
 refine R.reg O<|R.u 1 O<|?_
 by_cases h1:dz r=0
 .
  refine R.q (q.dB O O Tryz.underlying38) O<|R.u 1 O<|R.nil<|R.aA O O ?_
  have hr:=pn ‹_›
  refine R.reg O<|R.u 1 O<|?_
  by_cases h2:b<0
  .
   refine R.q (q.dx O O) O<|R.u 5 O<|R.nil<|R.av O O<|R.reg O<|R.q (q.build iY O O) O<|R.q (q.iface O bj) O<|R.s O (s.st 0 _ O O O O (.inl aM) O O O O) fun _=>?_
   exact R.u 1 O<|R.nil<|R.Ca O Tryz.results120 (RV.cell 0 O O aM) (RV.tmp O) (congrArg aj.val (show (⟨0,0,0,0,0⟩:aj)=(derived x id r b).1 from by ((rw [qQ (by omega)]) <;> rfl))) (dj (by decide) (by ((rw [qQ (by omega)]) <;> first|rfl|exact dQ ‹_› | (simp;omega))))
  refine R.q (q.cU O O) O<|R.u 2 O<|?_
  by_cases h3:99<b
  .
   refine R.qg O (q.eL O O) O<|R.u 2 O<|R.nil<|R.av O O<|R.reg O<|R.q (q.build iY O O) O<|R.q (q.iface O bj) O<|R.s O (s.st 0 _ O O O O (.inl aM) O O O O) fun _=>?_
   exact R.u 1 O<|R.nil<|R.Ca O Tryz.results120 (RV.cell 0 O O aM) (RV.tmp O) (congrArg aj.val (show (⟨0,0,0,0,0⟩:aj)=(derived x id r b).1 from by ((rw [qQ (by omega)]) <;> rfl))) (dj (by decide) (by ((rw [qQ (by omega)]) <;> first|rfl|exact dQ ‹_› | (simp;omega))))
  refine R.qg O (q.eo O O) O<|R.u 2 O<|R.nil<|R.aA O O<|R.reg O<|R.q (q.aO O jT O) O<|R.q (q.ld 1 O O au O) O<|R.u 1 O<|?_
  rcases Bool.eq_false_or_eq_true (ji x.Rights r) with h4|h4
  .
   refine R.c (q.call pR O O (fun w hw=>(cv (congrArg Value.bool h4) (gJ x.Rights r w (by omega) (by omega))))) O<|R.u 2 O<|R.nil ?_
   refine R.aA O O<|R.reg O<|R.u 1 O<|?_
   by_cases h5:b=0
   .
    refine R.q (q.lK O O) O<|R.u 12 O<|R.nil<|R.aA O O<|R.reg O<|R.u 1 O<|R.q (q.fN O O) O<|R.nil<|R.av O O<|R.reg O<|R.q (q.aO O iZ O) O<|R.q (q.ld 1 O O au O) O<|R.u 1 O<|R.nil<|R.reg O<|R.u 1 O<|R.q (q.aO O fR O) O<|R.q (q.ld 1 O O au O) O<|R.u 2 O<|R.q (q.aO O bU O) O<|R.q (q.ld 1 O O au O) O<|R.q (q.build iY O O) O<|R.s O (s.st 0 _ O O O O (.inl aM) O O O O) fun _=>?_
    exact R.u 1 O<|R.nil<|R.Ca O Tryz.results120 (RV.cell 0 O O aM) (RV.tmp O) (congrArg aj.val (show (⟨id,x.aE,r,x.aQ,x.ID⟩:aj)=(derived x id r b).1 from by ((rw [r6 (by omega) ‹_› (by omega)]) <;> first|rfl|exact dQ ‹_› | (simp;omega)))) (iK (by ((rw [r6 (by omega) ‹_› (by omega)]) <;> first|rfl|exact dQ ‹_› | (simp;omega))))
   refine R.q (q.lJ O O) O<|R.u 1 O<|R.qg O (q.aO O iZ O) O<|R.qg O (q.ld 1 O O au O) O<|?_
   by_cases h6:x.aQ=0
   .
    refine R.qg O (q.lK O O) O<|R.u 8 O<|R.nil<|R.aA O O<|R.reg O<|R.u 1 O<|R.q (q.e8 O O) O<|R.nil<|R.aA O O<|R.reg O<|R.u 1 O<|R.q (q.aO O fR O) O<|R.q (q.ld 1 O O au O) O<|R.u 2 O<|R.q (q.aO O bU O) O<|R.q (q.ld 1 O O au O) O<|R.q (q.build iY O O) O<|R.s O (s.st 0 _ O O O O (.inl aM) O O O O) fun _=>?_
    exact R.u 1 O<|R.nil<|R.Ca O Tryz.results120 (RV.cell 0 O O aM) (RV.tmp O) (congrArg aj.val (show (⟨id,x.aE,r,b,x.ID⟩:aj)=(derived x id r b).1 from by ((rw [r8 (by omega) ‹_› (by omega) (by omega)]) <;> first|rfl|exact dQ ‹_› | (simp;omega)))) (iK (by ((rw [r8 (by omega) ‹_› (by omega) (by omega)]) <;> first|rfl|exact dQ ‹_› | (simp;omega))))
   refine R.qg O (q.lJ O O) O<|R.u 3 O<|R.qg O (q.aO O iZ O) O<|R.qg O (q.ld 1 O O au O) O<|?_
   by_cases h7:b=x.aQ
   .
    refine R.qg O (q.lK O O) O<|R.u 2 O<|R.nil<|R.aA O O<|R.reg O<|R.u 1 O<|R.q (q.e8 O O) O<|R.nil<|R.aA O O<|R.reg O<|R.u 1 O<|R.q (q.aO O fR O) O<|R.q (q.ld 1 O O au O) O<|R.u 2 O<|R.q (q.aO O bU O) O<|R.q (q.ld 1 O O au O) O<|R.q (q.build iY O O) O<|R.s O (s.st 0 _ O O O O (.inl aM) O O O O) fun _=>?_
    exact R.u 1 O<|R.nil<|R.Ca O Tryz.results120 (RV.cell 0 O O aM) (RV.tmp O) (congrArg aj.val (show (⟨id,x.aE,r,b,x.ID⟩:aj)=(derived x id r b).1 from by ((rw [xy (by omega) ‹_› (by omega) (by omega)]) <;> (simp;omega)))) (iK (by ((rw [xy (by omega) ‹_› (by omega) (by omega)]) <;> first|rfl|exact dQ ‹_› | (simp;omega))))
   refine R.qg O (q.lJ O O) O<|R.u 2 O<|R.nil<|R.av O O<|R.reg O<|R.q (q.build iY O O) O<|R.q (q.iface O bj) O<|R.s O (s.st 0 _ O O O O (.inl aM) O O O O) fun _=>?_
   exact R.u 1 O<|R.nil<|R.Ca O Tryz.results120 (RV.cell 0 O O aM) (RV.tmp O) (congrArg aj.val (show (⟨0,0,0,0,0⟩:aj)=(derived x id r b).1 from by ((rw [xx (by omega) ‹_› (by omega)]) <;> rfl))) (dj (by decide) (by ((rw [xx (by omega) ‹_› (by omega)]) <;> first|rfl|exact dQ ‹_› | (simp;omega))))
  refine R.c (q.call pR O O (fun w hw=>(cv (congrArg Value.bool h4) (gJ x.Rights r w (by omega) (by omega))))) O<|R.u 2 O<|R.nil ?_
  refine R.av O O<|R.reg O<|R.q (q.build iY O O) O<|R.q (q.iface O bj) O<|R.s O (s.st 0 _ O O O O (.inl aM) O O O O) fun _=>?_
  exact R.u 1 O<|R.nil<|R.Ca O Tryz.results120 (RV.cell 0 O O aM) (RV.tmp O) (congrArg aj.val (show (⟨0,0,0,0,0⟩:aj)=(derived x id r b).1 from by ((rw [xw (by omega) ‹_›]) <;> rfl))) (dj (by decide) (by ((rw [xw (by omega) ‹_›]) <;> first|rfl|exact dQ ‹_› | (simp;omega))))
 refine R.q (q.ej O O Tryz.underlying38) O<|R.u 1 O<|R.nil<|R.av O O<|R.reg O<|R.q (q.build iY O O) O<|R.u 1 O<|R.s O (s.st 0 _ O O O O (.inl aM) O O O O) fun _=>?_
 exact R.u 1 O<|R.nil<|R.Ca O Tryz.results120 (RV.cell 0 O O aM) (RV.tmp O) (congrArg aj.val (show (⟨0,0,0,0,0⟩:aj)=(derived x id r b).1 from by ((rw [r5 ‹_›]) <;> rfl))) (rE (by ((rw [r5 ‹_›]) <;> exact dQ ‹_›)))
theorem Dc (x:aj)(id:Int)(ME:Nat)(w:World)(SI:(ag.box ME [iV id] 3).ok w):Calls Tryz.prog 163 #[.agg #[iV x.ID,iV x.aE,iV x.Rights,iV x.aQ,iV x.From],.pointer (some ⟨ME,0,none⟩)] w fun e w'=>e = .returned (.bool (x.ID==id))/\Ext w w':=by
 refine R.enter [] [(0,.agg #[iV x.ID,iV x.aE,iV x.Rights,iV x.aQ,iV x.From]),(1,.pointer (some ⟨ME,0,none⟩))] Tryz.func163 O O O O<|R.nI (r:=ag.box ME [iV id] 3) SI (jQ SI)<|R.reg O<|R.s O (s.box O O O) fun b1=>?_
 refine R.u 1 O<|R.nil<|R.reg O<|R.q (q.aO O bU O) O<|R.q (q.ld 0 O O au O) O<|R.q (q.yx 0 O O au O) O<|?_
 by_cases h1:x.ID=id
 .
  exact R.q (q.fN O O) O<|R.u 1 O<|R.nil<|R.rv O Tryz.results163 O (rB (by (exact (beq_iff_eq.2 ‹_›).symm)))
 exact R.q (q.e8 O O) O<|R.u 1 O<|R.nil<|R.rv O Tryz.results163 O (rB (by (exact (beq_eq_false_iff_ne.2 ‹_›).symm)))
theorem mG (bN:Value)(l:List aj)(p:aj->Bool)(Q0:Nat)(TD:List Value)(SJ:∀args w,(callFunc Q0 args).run Tryz.prog w = .ok (.enter Q0 args) w)(w:World)(ew:Sl w bN l)(UW:∀W (x1:aj),Ext w W->Calls Tryz.prog Q0 ([x1.val]++TD).toArray W fun e w'=>e = .returned (.bool (p x1))/\Ext W w'):Calls Tryz.prog 162 #[bN,.func (.func Q0) #[] TD.toArray] w fun e w'=>e = .returned (iV (idxOf p l))/\Ext w w':=by
 have zq:=ew.fA
 refine R.enter [] [(0,bN),(1,.func (.func Q0) #[] TD.toArray)] Tryz.func162 O O O O<|R.reg O<|R.u 1 O<|R.nil<|R.reg O<|R.u 1 O<|R.q (q.len' (fun _=>Wd.old ew) O Tryz.underlying43) O<|R.u 1 O<|R.nil<|R.loop (fun k:Nat=>[(0,bN),(1,.func (.func Q0) #[] TD.toArray),(7,iV (l.length:Int)),(8,iV (k:Int))]) (fun k:Nat=>[]) (fun k:Nat=>[]) (fun k:Nat=>k<=l.length /\ ∀ (j:Nat) x,j<k->l[j]? = some x->p x=false) (fun k:Nat=>l.length-k) 0 O (by exact ⟨by omega,fun j x hj=>absurd hj (Nat.not_lt_zero _)⟩) (sF O) (ic [] [] O) ?_
 rintro k ⟨hk,HA⟩
 refine R.reg O<|?_
 by_cases h1:k<l.length
 .
  refine R.q (q.dx O O) O<|R.nil<|R.av O O<|R.reg O<|R.u 2 O<|R.nil<|R.reg O<|R.u 3 O<|?_
  obtain ⟨x1,hx1⟩:∃z,l[k]? = some z:=⟨_,List.getElem?_eq_getElem (by omega)⟩
  refine R.q (q.idx (i:=k) (fun _=>Wd.old ew) O O dJ O hx1) O<|R.q (q.eS (ds:=im x1) (fun _=>Wd.old ew) hx1 O aM O) O<|?_
  rcases Bool.eq_false_or_eq_true (p x1) with h2|h2
  .
   refine R.c (q.call SJ O O (fun w hw=>cv (congrArg Value.bool h2) (UW w x1 hw.ext))) O<|R.nil ?_
   exact R.av O O<|R.reg O<|R.u 2 O<|R.nil<|R.rv O Tryz.results162 O (rI (by (exact (idxOf_hit hx1 ‹_› HA).symm)))
  refine R.c (q.call SJ O O (fun w hw=>cv (congrArg Value.bool h2) (UW w x1 hw.ext))) O<|R.nil ?_
  refine R.aA O O<|R.reg O<|R.q (q.bA (r:=((k+1:Nat):Int)) O O) O<|R.u 1 O<|R.nil<|R.back (k+1) O (by (exact ⟨by omega,oa HA hx1 ‹_›⟩)) (by omega) (sF O) (ic [] [] O)
 exact R.q (q.cU O O) O<|R.nil<|R.aA O O<|R.reg O<|R.u 1 O<|R.nil<|R.rv O Tryz.results162 O (rI (by (exact (idxOf_miss ‹_› HA).symm)))
theorem iD (bN:Value)(l:List aj)(id:Int)(w:World)(ew:Sl w bN l):Calls Tryz.prog 109 #[bN,iV id] w fun e w'=>e = .returned (iV (cG l id))/\Ext w w':=by
 have zq:=ew.fA
 refine R.enter [] [(0,bN),(1,iV id)] Tryz.func109 O O O O<|R.reg O<|R.s O (s.box O O O) fun b1=>?_
 refine R.u 1 O<|R.nil<|R.reg O<|R.u 1 O<|R.q (q.LR (cap:=[.pointer (some ⟨b1,0,none⟩)]) O O) O<|R.c (q.call EB O O (fun w hw=>(mG _ l (fun (x:aj)=>x.ID==id) _ _ Pn w ((fun _=>Wd.old ew) w hw) (fun W x hW=>Dc x id _ W (sK (hw.b 0 O) hW) ) ))) O<|R.u 1 O<|R.nil ?_
 exact R.rv O Tryz.results109 O (rI (by rfl))
end
section
open Go.RowKit
def hY (l:List aj)(i:Nat):Int :=
  match l[i]? with
  | none=>0
  | some x =>
    if cr x=1 then 1
    else if 0<i /\ ∃y,l[i-1]? = some y/\x.ID<=y.ID then 3
    else if x.From=0 then 0
    else match (l.take i).find? (fun y=>y.ID==x.From) with
      | none=>5
      | some y=>if (derived y x.ID x.Rights x.aQ).2≠0 then (derived y x.ID x.Rights x.aQ).2 else if (derived y x.ID x.Rights x.aQ).1≠x then 7 else 0
def d9 (l:List aj):Int:=match (List.range l.length).find? (fun i=>hY l i != 0) with|some i=>hY l i|none=>0
theorem gR {l:List aj}{k:Nat}{f:Int}(hk:k<l.length)(h:hY l k=f)(hf:f≠0)(h0:∀j,j<k->hY l j=0):d9 l=f:=by
 unfold d9
 have:(List.range l.length).find? (fun i=>hY l i != 0)=some k:=by
  rw [List.find?_range_eq_some]
  refine ⟨by simpa [h] using hf,by simpa using hk,fun j hj=>by simp [h0 j hj]⟩
 rw [this];exact h
theorem qi {l:List aj}(h0:∀j,j<l.length->hY l j=0):d9 l=0:=by
 unfold d9
 have:(List.range l.length).find? (fun i=>hY l i != 0)=none:=by
  rw [List.find?_eq_none]
  intro i hi
  simp [h0 i (List.mem_range.1 hi)]
 rw [this]
theorem vj {l:List aj}(h:d9 l=0):∀j,j<l.length->hY l j=0:=by
 unfold d9 at h
 cases hf:(List.range l.length).find? (fun i=>hY l i != 0) with
 | none =>
  intro j hj
  have:=List.find?_eq_none.1 hf j (List.mem_range.2 hj)
  simpa using this
 | some i =>
  rw [hf] at h
  have:=List.find?_some hf
  simp at this;exact absurd h this
theorem kZ {l:List aj}{id:Int}:(cG l id = -1/\l.find? (fun y=>y.ID==id)=none) ∨ ∃ (k:Nat) (h:k<l.length),cG l id=k/\l.find? (fun y=>y.ID==id)=some l[k]:=by
 rcases fj l id with ⟨h,h2⟩ | ⟨k,hk,h1,h2,h3⟩
 .exact .inl ⟨h,by rw [List.find?_eq_none];intro x hx;simpa using h2 x hx⟩
 .
  refine .inr ⟨k,hk,h1,?_⟩
  rw [List.find?_eq_some_iff_getElem]
  exact ⟨by simpa using h2,k,hk,rfl,fun j hj=>by simpa using h3 j hj⟩
end
section
open Go.RowKit
structure Q5 (x:aj):Prop where
  id1:1<=x.ID
  Ol:x.ID<=999
  Qf:1<=x.aE
  Qg:x.aE<=999
  Qh:0<=x.aQ
  Qi:x.aQ<=99
  Q6:0<=x.From
  Qj:x.From<x.ID
  Kx:0<=x.Rights
  Ky:x.Rights<=7
theorem Bt {x:aj}(h:cr x=0):Q5 x:=by
 rcases gq x with ⟨h1,_⟩ | ⟨_,h2⟩
 .omega
 .obtain ⟨a,b,c,d,e,f,g,i,j,k⟩:=h2;exact ⟨a,b,c,d,e,f,g,i,j,k⟩
theorem kA (x:aj):cr x=0∨cr x=1:=by
 rcases gq x with ⟨h1,_⟩ | ⟨h1,_⟩
 .exact .inr h1
 .exact .inl h1
theorem jj {l:List aj}{k:Nat}{x:aj}(hx:l[k]? = some x)(h:¬ cr x=0):hY l k=1:=by
 have:cr x=1:=by rcases gq x with ⟨h1,_⟩ | ⟨h1,_⟩;exact h1;exact absurd h1 h
 unfold hY;rw [hx];simp only [];rw [if_pos this]
theorem m8 {l:List aj}{k:Nat}{x y:aj}(hx:l[k]? = some x)(h:cr x=0)(hk:0<k)(hy:l[k-1]? = some y)(hle:¬ y.ID<x.ID):hY l k=3:=by
 unfold hY;rw [hx];simp only [];rw [if_neg (by omega),if_pos ⟨hk,y,hy,by omega⟩]
theorem xA {l:List aj}{k:Nat}{x:aj}(hx:l[k]? = some x)(h:cr x=0)(hs:¬ 0<k ∨ ∃y,l[k-1]? = some y/\y.ID<x.ID)(h0:x.From=0):hY l k=0:=by
 unfold hY;rw [hx];simp only [];rw [if_neg (by omega),if_neg,if_pos h0]
 rintro ⟨hk,y,hy,hle⟩
 rcases hs with hs|⟨z,hz,hlt⟩
 .exact hs hk
 .rw [hy] at hz;injection hz with hz;subst hz;omega
theorem xB {l:List aj}{k:Nat}{x:aj}(hx:l[k]? = some x)(h:cr x=0)(hs:¬ 0<k ∨ ∃y,l[k-1]? = some y/\y.ID<x.ID)(h0:¬ x.From=0)(hf:cG (l.take k) x.From = -1):hY l k=5:=by
 have hn:(l.take k).find? (fun y=>y.ID==x.From)=none:=by
  rcases kZ (l:=l.take k) (id:=x.From) with ⟨_,h2⟩ | ⟨j,hj,h1,h2⟩
  .exact h2
  .omega
 unfold hY;rw [hx];simp only [];rw [if_neg (by omega),if_neg,if_neg h0,hn]
 rintro ⟨hk,y,hy,hle⟩
 rcases hs with hs|⟨z,hz,hlt⟩
 .exact hs hk
 .rw [hy] at hz;injection hz with hz;subst hz;omega
theorem jk {l:List aj}{k j:Nat}{x y:aj}(hx:l[k]? = some x)(h:cr x=0)(hs:¬ 0<k ∨ ∃y,l[k-1]? = some y/\y.ID<x.ID)(h0:¬ x.From=0)(hf:cG (l.take k) x.From=(j:Int))(hj:j<k)(hy:l[j]? = some y) :
 hY l k=if (derived y x.ID x.Rights x.aQ).2≠0 then (derived y x.ID x.Rights x.aQ).2 else if (derived y x.ID x.Rights x.aQ).1≠x then 7 else 0:=by
 have hn:(l.take k).find? (fun y=>y.ID==x.From)=some y:=by
  rcases kZ (l:=l.take k) (id:=x.From) with ⟨h1,h2⟩ | ⟨i,hi,h1,h2⟩
  .omega
  .
   have:i=j:=by omega
   subst this
   rw [h2,List.getElem_take,(List.getElem?_eq_some_iff.1 hy).2]
 unfold hY;rw [hx];simp only [];rw [if_neg (by omega),if_neg,if_neg h0,hn]
 rintro ⟨hk,y,hy,hle⟩
 rcases hs with hs|⟨z,hz,hlt⟩
 .exact hs hk
 .rw [hy] at hz;injection hz with hz;subst hz;omega
theorem sZ {l:List aj}{k:Nat}{x:aj}(hx:l[k]? = some x)(h:hY l k=0):Q5 x:=by
 by_cases h1:cr x=0
 .exact Bt h1
 .rw [jj hx h1] at h;omega
theorem rK (x:aj)(id r b:Int):(derived x id r b).2=0∨(derived x id r b).2=1∨(derived x id r b).2=7:=by
 unfold derived;(repeat' split) <;> simp
def cR (l:List aj):Prop:=d9 l=0
theorem cR.steps {l:List aj}(h:cR l):∀j,j<l.length->hY l j=0:=vj h
theorem cR.mem {l:List aj}(h:cR l){x:aj}(hx:x∈l):Q5 x:=by
 obtain ⟨j,hj⟩:=List.mem_iff_getElem?.1 hx
 exact sZ hj (h.steps j (List.getElem?_eq_some_iff.1 hj).1)
theorem r9 {l:List aj}{k:Nat}(h:∀j,j<k->hY l j=0)(hk:hY l k=0):∀j,j<k+1->hY l j=0:=by
 intro j hj
 rcases Nat.lt_or_ge j k with h1|h1
 .exact h j h1
 .
  have:j=k:=by omega
  subst this;exact hk
theorem Dd (l:List aj)(c:Int)(h:0<=cG l c):∃x,l[(cG l c).toNat]? = some x/\x.ID=c/\x∈l:=by
 rcases fj l c with ⟨h1,_⟩ | ⟨k,hk,h1,h2,_⟩
 .omega
 .
  refine ⟨l[k],?_,h2,List.getElem_mem hk⟩
  rw [h1];simp
def mM (id from':Int)(x:aj):aj:=if x.From=id then { x with From:=from' } else x
def E1 (id from':Int)(l:List aj):List aj:=(l.filter (fun x=>decide (x.ID≠id))).map (mM id from')
theorem Gr {id f:Int}{l:List aj}{k:Nat}{x:aj}(hx:l[k]? = some x)(h:x.ID=id):E1 id f (l.take (k+1))=E1 id f (l.take k):=by
 unfold E1
 rw [List.take_add_one,hx,List.filter_append];simp [h]
theorem s7 {id f:Int}{l:List aj}{k:Nat}{x:aj}(hx:l[k]? = some x)(h:¬ x.ID=id):E1 id f (l.take (k+1))=E1 id f (l.take k)++[mM id f x]:=by
 unfold E1
 rw [List.take_add_one,hx,List.filter_append];simp [h]
theorem Bu (id f:Int)(l:List aj):(E1 id f l).length<=l.length:=by unfold E1;simp;exact List.length_filter_le _ _
theorem De {id f:Int}{x:aj}(h:x.From=id):mM id f x=⟨x.ID,x.aE,x.Rights,x.aQ,f⟩:=by unfold mM;rw [if_pos h]
theorem zG {id f:Int}{x:aj}(h:¬ x.From=id):mM id f x=x:=by unfold mM;rw [if_neg h]
def eO (l:List aj)(id:Int):Int:=match l.find? (fun y=>y.ID==id) with|some y=>y.From|none=>0
theorem uI {l:List aj}{id:Int}{j:Nat}{y:aj}(hf:cG l id=(j:Int))(hy:l[j]? = some y):eO l id=y.From:=by
 unfold eO
 rcases kZ (l:=l) (id:=id) with ⟨h1,_⟩ | ⟨i,hi,h1,h2⟩
 .omega
 .
  have:i=j:=by omega
  subst this;rw [h2,(List.getElem?_eq_some_iff.1 hy).2]
theorem uJ {l:List aj}{id:Int}(hf:cG l id = -1):eO l id=0:=by
 unfold eO
 rcases kZ (l:=l) (id:=id) with ⟨_,h2⟩ | ⟨i,hi,h1,h2⟩
 .rw [h2]
 .omega
def without (l:List aj)(id:Int):List aj:=E1 id (eO l id) l
def VM (l:List aj)(id:Int)(x:aj):aj:=if cG l id<0 then x else mM id (eO l id) x
def SK (l:List aj)(id:Int)(m:List aj):List aj:=(m.filter (fun x=>decide (x.ID≠id))).map (VM l id)
end
end Go.Proofs.YtkbhcbipadkcaaaGreatDoor
