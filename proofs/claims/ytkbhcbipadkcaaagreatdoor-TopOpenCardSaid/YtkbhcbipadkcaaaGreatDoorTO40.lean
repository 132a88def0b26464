import Derived.Test.YtkbhcbipadkcaaaGreatDoorTO39
namespace Go.Proofs.YtkbhcbipadkcaaaGreatDoor
set_option linter.unusedVariables false
set_option linter.unusedSimpArgs false
section
open Go Go.RowKit
set_option maxRecDepth 100000
set_option maxHeartbeats 90000000
theorem Iq {s:ByteArray}{m:Nat}(h:eD s m=true):dV s m=some (numsL s m):=by
 unfold eD at h;unfold numsL
 cases hq:dV s m with|none=>rw [hq] at h;cases h|some l=>rfl
theorem qu {s:ByteArray}{m:Nat}(h:eD s m=true):(numsL s m).length=m/\4*m<=s.size:=Ih (Iq h)
theorem rM {s:ByteArray}{m j:Nat}{x:Int}(h:(numsL s m)[j]? = some x):Ik (dV s m) j=x:=by
 show (((numsL s m)[j]?).getD 0)=x;rw [h];rfl
section
variable {r:aC} {c:Change} {y:UInt8}
theorem lZ (h:¬ c.Key=⟨#[]⟩):¬ c.Key.size=0:=fun e=>h (JM e)
theorem oo {s:ByteArray}{i:Nat}{y:UInt8}(h:s.data[i]? = some y):bf s i=y.toNat:=by unfold bf;rw [h];rfl
theorem Lt (h:c.Key=⟨#[]⟩):rowP r c=(r,false):=by unfold rowP;rw [if_pos (by rw [h];rfl)]
theorem BQ (h0:¬ c.Key=⟨#[]⟩)(hy:c.Key.data[0]? = some y)(e:y.toNat=104)(hb:eD c.Val 1=false∨¬ c.Val.size=4∨¬ c.Key.size=3):rowP r c=(r,false):=by
 unfold rowP;rw [if_neg (lZ h0)];dsimp only;rw [if_pos ((oo hy).trans e),if_pos (show (dV c.Val 1).isSome=false∨c.Val.size≠4∨c.Key.size≠3 from hb)]
theorem Nc {a b:UInt8}{n:Int}{v:Bool}(h0:¬ c.Key=⟨#[]⟩)(hy:c.Key.data[0]? = some y)(e:y.toNat=104)(hb:eD c.Val 1=true)(h4:c.Val.size=4)(h3:c.Key.size=3)(ha:c.Key.data[1]? = some a)(hbb:c.Key.data[2]? = some b)
 (hn:(numsL c.Val 1)[0]? = some n) (hv:v=decide (aY ⟨(a.toNat:Int)-48,(b.toNat:Int)-48⟩=0)):rowP r c=(⟨r.ak,r.Things,r.Held++[⟨⟨(a.toNat:Int)-48,(b.toNat:Int)-48⟩,n⟩],r.Notes,r.ae,r.ah⟩,v):=by
 unfold rowP;rw [if_neg (lZ h0)];dsimp only
 rw [if_pos ((oo hy).trans e),if_neg (show ¬ ((dV c.Val 1).isSome=false∨c.Val.size≠4∨c.Key.size≠3) from (by show ¬ (eD c.Val 1=false∨c.Val.size≠4∨c.Key.size≠3);rw [hb,h4,h3];simp)),rM hn,hv]
 unfold Ii S2 M1;rw [oo ha,oo hbb]
def Ep (c:Change):Bool:=eD (c.Key.extract 1 c.Key.size) 1&&decide (c.Key.size=5)
theorem QA (h:eD (c.Key.extract 1 c.Key.size) 1=false):false=Ep c:=by unfold Ep;rw [h];rfl
theorem Nf (h:¬ c.Key.size=5):false=Ep c:=by unfold Ep;rw [decide_eq_false h,Bool.and_false]
theorem Ng (h:eD (c.Key.extract 1 c.Key.size) 1=true)(h5:c.Key.size=5):true=Ep c:=by unfold Ep;rw [h,decide_eq_true h5];rfl
theorem Lu (h:Ep c=true):(numsL (c.Key.extract 1 c.Key.size) 1).length=1:=by
 unfold Ep at h;rw [Bool.and_eq_true] at h;exact (qu h.1).1
theorem BR (h0:¬ c.Key=⟨#[]⟩)(hy:c.Key.data[0]? = some y)(e:y.toNat=116)(hb:Ep c=false∨eD c.Val 1=false∨12<c.Val.size):rowP r c=(r,false):=by
 unfold rowP;rw [if_neg (lZ h0)];dsimp only
 rw [if_neg (by rw [oo hy];omega),if_pos ((oo hy).trans e),if_pos (show ((dV (c.Key.extract 1 c.Key.size) 1).isSome&&decide (c.Key.size=5))=false∨(dV c.Val 1).isSome=false∨12<c.Val.size from hb)]
theorem DT {k n:Int}{v:Bool}(h0:¬ c.Key=⟨#[]⟩)(hy:c.Key.data[0]? = some y)(e:y.toNat=116)(hk:Ep c=true)(hb:eD c.Val 1=true)(h12:¬ 12<c.Val.size)
 (hi:(numsL (c.Key.extract 1 c.Key.size) 1)[0]? = some k) (hn:(numsL c.Val 1)[0]? = some n) (hv:v=decide (n=1∨n=2/\c.Val.size=4)):rowP r c=(⟨r.ak,r.Things++[⟨k,n,c.Val.extract 4 c.Val.size⟩],r.Held,r.Notes,r.ae,r.ah⟩,v):=by
 unfold rowP;rw [if_neg (lZ h0)];dsimp only
 rw [if_neg (by rw [oo hy];omega),if_pos ((oo hy).trans e),if_neg (show ¬ (((dV (c.Key.extract 1 c.Key.size) 1).isSome&&decide (c.Key.size=5))=false∨(dV c.Val 1).isSome=false∨12<c.Val.size) from (by
  show ¬ (Ep c=false∨eD c.Val 1=false∨12<c.Val.size)
  rw [hk,hb];simp;omega)),rM hn,rM hi,hv]
 rfl
theorem BS (h0:¬ c.Key=⟨#[]⟩)(hy:c.Key.data[0]? = some y)(e:y.toNat=119)(hb:Ep c=false∨eD c.Val 4=false∨¬ c.Val.size=16):rowP r c=(r,false):=by
 unfold rowP;rw [if_neg (lZ h0)];dsimp only
 rw [if_neg (by rw [oo hy];omega),if_neg (by rw [oo hy];omega),if_pos ((oo hy).trans e),if_pos (show ((dV (c.Key.extract 1 c.Key.size) 1).isSome&&decide (c.Key.size=5))=false∨(dV c.Val 4).isSome=false∨c.Val.size≠16 from hb)]
theorem Ta {k n0 n1 n2 n3:Int}(h0:¬ c.Key=⟨#[]⟩)(hy:c.Key.data[0]? = some y)(e:y.toNat=119)(hk:Ep c=true)(hb:eD c.Val 4=true)(h16:c.Val.size=16)
 (hi:(numsL (c.Key.extract 1 c.Key.size) 1)[0]? = some k) (a0:(numsL c.Val 4)[0]? = some n0) (a1:(numsL c.Val 4)[1]? = some n1) (a2:(numsL c.Val 4)[2]? = some n2) (a3:(numsL c.Val 4)[3]? = some n3):rowP r c=(⟨r.ak++[⟨k,n0,n1,n2,n3⟩],r.Things,r.Held,r.Notes,r.ae,r.ah⟩,true):=by
 unfold rowP;rw [if_neg (lZ h0)];dsimp only
 rw [if_neg (by rw [oo hy];omega),if_neg (by rw [oo hy];omega),if_pos ((oo hy).trans e),if_neg (show ¬ (((dV (c.Key.extract 1 c.Key.size) 1).isSome&&decide (c.Key.size=5))=false∨(dV c.Val 4).isSome=false∨c.Val.size≠16) from (by
  show ¬ (Ep c=false∨eD c.Val 4=false∨c.Val.size≠16)
  rw [hk,hb,h16];simp)),rM hi,rM a0,rM a1,rM a2,rM a3]
 rfl
theorem BU (h0:¬ c.Key=⟨#[]⟩)(hy:c.Key.data[0]? = some y)(e1:¬ y.toNat=104)(e2:¬ y.toNat=116)(e3:¬ y.toNat=119)(hb:¬ c.Key=⟨#[120]⟩∨eD c.Val 2=false∨¬ c.Val.size=8):rowP r c=(r,false):=by
 unfold rowP;rw [if_neg (lZ h0)];dsimp only
 rw [if_neg (by rw [oo hy];omega),if_neg (by rw [oo hy];omega),if_neg (by rw [oo hy];omega),if_pos (show c.Key≠kX∨(dV c.Val 2).isSome=false∨c.Val.size≠8 from hb)]
theorem Uu {n0 n1:Int}(h0:¬ c.Key=⟨#[]⟩)(hy:c.Key.data[0]? = some y)(e1:¬ y.toNat=104)(e2:¬ y.toNat=116)(e3:¬ y.toNat=119)(hk:c.Key=⟨#[120]⟩)(hb:eD c.Val 2=true)(h8:c.Val.size=8)(a0:(numsL c.Val 2)[0]? = some n0)(a1:(numsL c.Val 2)[1]? = some n1) :
 rowP r c=(⟨r.ak,r.Things,r.Held,r.Notes,n0,n1⟩,true):=by
 unfold rowP;rw [if_neg (lZ h0)];dsimp only
 rw [if_neg (by rw [oo hy];omega),if_neg (by rw [oo hy];omega),if_neg (by rw [oo hy];omega),if_neg (show ¬ (c.Key≠kX∨(dV c.Val 2).isSome=false∨c.Val.size≠8) from (by
  show ¬ (c.Key≠⟨#[120]⟩∨eD c.Val 2=false∨c.Val.size≠8)
  rw [hb,h8];simp [hk])),rM a0,rM a1]
 rfl
end
attribute [local irreducible] numsL eD Ep rowP
set_option maxRecDepth 100000 in
set_option maxHeartbeats 90000000 in
theorem vH (KL:Nat)(cM cS dG cE:Value)(r:aC)(c:Change)(w:World)(own:List Nat)(H:HN w own [ag.box KL [cM,cS,dG,cE,iV r.ae,iV r.ah] 48,ag.row 127 cM r.ak,ag.row 100 cS r.Things,ag.row 124 dG r.Held,ag.row 89 cE r.Notes] [eC])(hc:c.Key.size<=1000/\c.Val.size<=1000)(hr:r.ak.length<=1000/\r.Things.length<=1000/\r.Held.length<=1000):RC Tryz.prog 89 #[.pointer (some ⟨KL,0,none⟩),.agg #[.string c.Key,.string c.Val,.bool c.Gone]] H (fun _:Value×Value×Value×Value => .bool (rowP r c).2) (fun z=>[ag.box KL [z.1,z.2.1,z.2.2.1,z.2.2.2,iV (rowP r c).1.ae,iV (rowP r c).1.ah] 48,ag.row 127 z.1 (rowP r c).1.ak,ag.row 100 z.2.1 (rowP r c).1.Things,ag.row 124 z.2.2.1 (rowP r c).1.Held,ag.row 89 z.2.2.2 (rowP r c).1.Notes]) (fun _=>[]):=by
 have Q8:=H.cap 1 rfl;have eJ:=H.cL 1 rfl
 have QB:=H.cap 2 rfl;have dM:=H.cL 2 rfl
 have Tb:=H.cap 3 rfl;have fG:=H.cL 3 rfl
 have Q9:=H.cap 4 rfl;have eK:=H.cL 4 rfl
 refine R.bC [(0,.pointer (some ⟨KL,0,none⟩)),(1,.agg #[.string c.Key,.string c.Val,.bool c.Gone])] Tryz.func89 O O O O H<|R.reg O<|R.s O (s.box O O O) fun b1=>?_
 refine R.u 1 O<|R.nil<|R.reg O<|R.q (q.aO O bG O) O<|R.q (q.ld 0 O O bE O) O<|?_
 by_cases h1:c.Key=⟨#[]⟩
 .
  refine R.q (q.pI O O h1) O<|R.nil<|R.av O O<|R.reg O<|R.u 1 O<|R.nil ?_
  have hz:rowP r c=(r,false):=by (exact Lt ‹_›)
  rw [hz]
  exact R.w1 (cM,cS,dG,cE) [1,2,3,4,5,6] [] O Tryz.results89 (RV.tmp O) O O O O
 refine R.q (q.pJ O O h1) O<|R.nil<|R.aA O O ?_
 have kp:=lZ (c:=c) ‹_›
 refine R.reg O<|R.q (q.aO O bG O) O<|R.q (q.ld 0 O O bE O) O<|R.q (q.Cm (i:=1) O O Tryz.underlying9 O (by omega)) O<|R.s O (s.aW mg [0] _ _ _ O O O wB O O (fun w own hw H=>lF (c.Key.extract 1 c.Key.size) 1 w own H (by (rw [ByteArray.size_extract];omega))) O) fun z1=>?_
 refine R.u 5 O<|R.nil<|R.cut 1 (fun b:Bool=>[(0,.pointer (some ⟨KL,0,none⟩)),(3,.pointer (some ⟨b1,0,none⟩)),(5,z1),(6,.bool b)]) (fun b:Bool=>[ag.row 3 z1 (numsL (c.Key.extract 1 c.Key.size) 1),ag.box b1 (iz c) 117,ag.box KL [cM,cS,dG,cE,iV r.ae,iV r.ah] 48,ag.row 127 cM r.ak,ag.row 100 cS r.Things,ag.row 124 dG r.Held,ag.row 89 cE r.Notes,ag.held w own]) (fun b:Bool=>[eC]) (fun b:Bool=>b=Ep c) O O O ?_ ?_
 .
  refine R.reg O<|R.u 2 O<|?_
  rcases Bool.eq_false_or_eq_true (eD (c.Key.extract 1 c.Key.size) 1) with h2|h2
  .
   rw [h2]
   refine R.qg O (q.aO O bG O) O<|R.qg O (q.ld 1 O O bE O) O<|R.qg O (q.iA O Tryz.underlying9) O<|?_
   by_cases h3:c.Key.size=5
   .
    exact R.qg O (q.fN O O) O<|R.u 2 O<|R.nil<|R.meet true O (by (exact Ng ‹_› (by omega))) (sF O) (ic ff [0] O)
   exact R.qg O (q.e8 O O) O<|R.u 2 O<|R.nil<|R.meet false O (by (exact Nf (by omega))) (sF O) (ic ff [0] O)
  rw [h2]
  exact R.u 6 O<|R.nil<|R.meet false O (by (exact QA ‹_›)) (sF O) (ic ff [0] O)
 rintro b hC
 refine R.reg O<|R.q (q.aO O bG O) O<|R.q (q.ld 1 O O bE O) O<|?_
 obtain ⟨y1,hy1⟩:∃z,c.Key.data[0]? = some z:=⟨_,Array.getElem?_eq_getElem (show 0<c.Key.size from by omega)⟩
 have Sf:=y1.toNat_lt
 refine R.q (q.iL (i:=0) O O Tryz.underlying9 O hy1) O<|R.nil<|R.reg O<|?_
 by_cases h4:y1.toNat=104
 .
  refine R.q (q.fN O O) O<|R.u 1 O<|R.nil<|R.av O O<|R.reg O<|R.q (q.aO O cX O) O<|R.q (q.ld 1 O O bE O) O<|R.s O (s.aW ff [0] _ _ _ O O O wB O O (fun w own hw H=>lF c.Val 1 w own H (by omega)) O) fun z2=>?_
  refine R.u 5 O<|R.nil<|R.reg O<|R.u 1 O<|R.q (q.not O) O<|R.u 1 O<|?_
  rcases Bool.eq_false_or_eq_true (eD c.Val 1) with h5|h5
  .
   rw [h5]
   refine R.qg O (q.aO O cX O) O<|R.qg O (q.ld 2 O O bE O) O<|R.qg O (q.iA O Tryz.underlying9) O<|?_
   by_cases h6:c.Val.size=4
   .
    refine R.qg O (q.lK O O) O<|R.u 2 O<|R.qg O (q.aO O bG O) O<|R.qg O (q.ld 2 O O bE O) O<|R.qg O (q.iA O Tryz.underlying9) O<|?_
    by_cases h7:c.Key.size=3
    .
     refine R.qg O (q.lK O O) O<|R.u 1 O<|R.nil<|R.aA O O ?_
     obtain ⟨y2,hy2⟩:∃z,c.Key.data[1]? = some z:=⟨_,Array.getElem?_eq_getElem (show 1<c.Key.size from by omega)⟩
     have Sg:=y2.toNat_lt
     obtain ⟨y3,hy3⟩:∃z,c.Key.data[2]? = some z:=⟨_,Array.getElem?_eq_getElem (show 2<c.Key.size from by omega)⟩
     have TA:=y3.toNat_lt
     refine R.fY (fuel:=13) bZ O O mixed O<|D.q (i:=0) O (aD bZ [0] O) O (q.aO O bG O) O<|D.q (i:=1) O (aD bZ [0] O) O (q.ld 2 O O bE O) O<|D.q (i:=2) O (aD bZ [0] O) O (q.iL (i:=1) O O Tryz.underlying9 O hy2) O<|D.q (i:=3) O (aD bZ [0] O) O (q.np (r:=((y2.toNat:Nat):Int)) O (by rw [Tryz.underlying5];rfl) Tryz.underlying3 (wr (by omega))) O<|D.q (i:=4) O (aD bZ [0] O) O (q.lT (r:=(y2.toNat:Int)-48) O O) O<|D.q (i:=5) O (aD bZ [0] O) O (q.aO O bG O) O<|D.q (i:=6) O (aD bZ [0] O) O (q.ld 2 O O bE O) O<|D.q (i:=7) O (aD bZ [0] O) O (q.iL (i:=2) O O Tryz.underlying9 O hy3) O<|D.q (i:=8) O (aD bZ [0] O) O (q.np (r:=((y3.toNat:Nat):Int)) O (by rw [Tryz.underlying5];rfl) Tryz.underlying3 (wr (by omega))) O<|D.q (i:=9) O (aD bZ [0] O) O (q.lT (r:=(y3.toNat:Int)-48) O O) O<|D.q (i:=10) O (aD bZ [0] O) O (q.build wk O O) O<|D.one (i:=11) O<|Do.s (s.alloc Co O O) (fun _=>(aD Cc [0] O)) O fun b2=>?_
     refine D.one (i:=12) O<|Do.s (s.st 0 _ O O O O (.inl bM) O O O O) (fun _=>(aD Cc [0] O)) O fun _=>?_
     refine D.done<|?_
     have V1:=qu (s:=c.Val) (m:=1) ‹_›
     obtain ⟨x1,hx1⟩:∃z,(numsL c.Val 1)[0]? = some z:=⟨_,List.getElem?_eq_getElem (by omega)⟩
     refine R.fY (fuel:=15) pC O O mixed O<|D.q (i:=0) O (aD pC [0] O) O (q.mv O) O<|D.q (i:=1) O (aD pC [0] O) O (q.mv O) O<|D.q (i:=2) O (aD pC [0] O) O (q.cb O) O<|D.q (i:=3) O (aD pC [0] O) O (q.aO O cz O) O<|D.q (i:=5) O (aD pC [0] O) O (q.dt 0 O O bM) O<|D.q (i:=6) O (aD pC [0] O) O (q.mv O) O<|D.q (i:=7) O (aD pC [0] O) O (q.idx (i:=0) (bB 1 O) O O da O hx1) O<|D.q (i:=8) O (aD pC [0] O) O (q.lv (bB 1 O) hx1 O au O) O<|D.q (i:=9) O (aD pC [0] O) O (q.build I6 O O) O<|D.two (i:=4) (j:=10) O O ?_ ?_
     .
      refine Do.s (s.c (Qt.a (q.ld 4 O O dD O)) O) (fun _=>(aD pC [0] O)) O fun _=>?_
      refine D.one (i:=10) O<|Do.s (s.bs (l:=([(⟨(⟨((y2.toNat:Int)-48),((y3.toNat:Int)-48)⟩:Place),x1⟩:Held)]:List Held)) cI gY O O O O O O O) (fun _=>(aD pD [0] O)) O fun b3=>?_
      refine D.one (i:=11) O<|Do.s (s.app 8 _ O O O (bB 0 O) oD (by (simp;omega)) (by (simp;omega)) (fun _=>rfl) O) (fun _=>(aD pD [0] O)) O fun v1=>?_
      refine D.q (i:=12) O (aD pD [0] O) O (q.cb O) O<|D.q (i:=13) O (aD pD [0] O) O (q.aO O cz O) O<|D.one (i:=14) O<|Do.s (s.fX 5 _ O O O (fun w hw=>Sl.cm (hw.row 8 O)) (.inr ⟨dD,rfl⟩) (fun w hw=>(af (Sl.one (hw.row 8 O)) aP)) O O O) (fun _=>(aD pD [0] O)) O fun _=>?_
      refine D.done<|R.reg O<|R.q (q.dt 1 O O bM) O<|R.c (q.call AB O O (fun w hw=>(kr (⟨((y2.toNat:Int)-48),((y3.toNat:Int)-48)⟩:Place) w ))) O<|?_
      by_cases h8:aY (⟨((y2.toNat:Int)-48),((y3.toNat:Int)-48)⟩:Place)=0
      .
       refine R.q (q.mo O O Tryz.underlying38) O<|R.u 1 O<|R.nil ?_
       have hz:rowP r c=((⟨r.ak,r.Things,(r.Held++([(⟨(⟨((y2.toNat:Int)-48),((y3.toNat:Int)-48)⟩:Place),x1⟩:Held)])),r.Notes,r.ae,r.ah⟩:aC),true):=by (exact Nc ‹_› hy1 (by omega) ‹_› (by omega) (by omega) hy2 hy3 ‹_› (decide_eq_true ‹_›).symm)
       rw [hz]
       exact R.w1 (cM,cS,v1,cE) [5,6,7,8,9,10] [] O Tryz.results89 (RV.tmp O) O O O O
      refine R.q (q.jG O O Tryz.underlying38) O<|R.u 1 O<|R.nil ?_
      have hz:rowP r c=((⟨r.ak,r.Things,(r.Held++([(⟨(⟨((y2.toNat:Int)-48),((y3.toNat:Int)-48)⟩:Place),x1⟩:Held)])),r.Notes,r.ae,r.ah⟩:aC),false):=by (exact Nc ‹_› hy1 (by omega) ‹_› (by omega) (by omega) hy2 hy3 ‹_› (decide_eq_false ‹_›).symm)
      rw [hz]
      exact R.w1 (cM,cS,v1,cE) [5,6,7,8,9,10] [] O Tryz.results89 (RV.tmp O) O O O O
     refine Do.s (s.bs (l:=([(⟨(⟨((y2.toNat:Int)-48),((y3.toNat:Int)-48)⟩:Place),x1⟩:Held)]:List Held)) cI gY O O O O O O O) (fun _=>(aD pD [0] O)) O fun b4=>?_
     refine D.one (i:=4) O<|Do.s (s.c (Qt.a (q.ld 5 O O dD O)) O) (fun _=>(aD pD [0] O)) O fun _=>?_
     refine D.one (i:=11) O<|Do.s (s.app 8 _ O O O (bB 0 O) oD (by (simp;omega)) (by (simp;omega)) (fun _=>rfl) O) (fun _=>(aD pD [0] O)) O fun v2=>?_
     refine D.q (i:=12) O (aD pD [0] O) O (q.cb O) O<|D.q (i:=13) O (aD pD [0] O) O (q.aO O cz O) O<|D.one (i:=14) O<|Do.s (s.fX 5 _ O O O (fun w hw=>Sl.cm (hw.row 8 O)) (.inr ⟨dD,rfl⟩) (fun w hw=>(af (Sl.one (hw.row 8 O)) aP)) O O O) (fun _=>(aD pD [0] O)) O fun _=>?_
     refine D.done<|R.reg O<|R.q (q.dt 1 O O bM) O<|R.c (q.call AB O O (fun w hw=>(kr (⟨((y2.toNat:Int)-48),((y3.toNat:Int)-48)⟩:Place) w ))) O<|?_
     by_cases h9:aY (⟨((y2.toNat:Int)-48),((y3.toNat:Int)-48)⟩:Place)=0
     .
      refine R.q (q.mo O O Tryz.underlying38) O<|R.u 1 O<|R.nil ?_
      have hz:rowP r c=((⟨r.ak,r.Things,(r.Held++([(⟨(⟨((y2.toNat:Int)-48),((y3.toNat:Int)-48)⟩:Place),x1⟩:Held)])),r.Notes,r.ae,r.ah⟩:aC),true):=by (exact Nc ‹_› hy1 (by omega) ‹_› (by omega) (by omega) hy2 hy3 ‹_› (decide_eq_true ‹_›).symm)
      rw [hz]
      exact R.w1 (cM,cS,v2,cE) [5,6,7,8,9,10] [] O Tryz.results89 (RV.tmp O) O O O O
     refine R.q (q.jG O O Tryz.underlying38) O<|R.u 1 O<|R.nil ?_
     have hz:rowP r c=((⟨r.ak,r.Things,(r.Held++([(⟨(⟨((y2.toNat:Int)-48),((y3.toNat:Int)-48)⟩:Place),x1⟩:Held)])),r.Notes,r.ae,r.ah⟩:aC),false):=by (exact Nc ‹_› hy1 (by omega) ‹_› (by omega) (by omega) hy2 hy3 ‹_› (decide_eq_false ‹_›).symm)
     rw [hz]
     exact R.w1 (cM,cS,v2,cE) [5,6,7,8,9,10] [] O Tryz.results89 (RV.tmp O) O O O O
    refine R.qg O (q.lJ O O) O<|R.u 1 O<|R.nil<|R.av O O<|R.reg O<|R.u 1 O<|R.nil ?_
    have hz:rowP r c=(r,false):=by (exact BQ ‹_› hy1 (by omega) (.inr (.inr (by omega))))
    rw [hz]
    exact R.w1 (cM,cS,dG,cE) mS [] O Tryz.results89 (RV.tmp O) O O O O
   refine R.qg O (q.lJ O O) O<|R.u 7 O<|R.nil<|R.av O O<|R.reg O<|R.u 1 O<|R.nil ?_
   have hz:rowP r c=(r,false):=by (exact BQ ‹_› hy1 (by omega) (.inr (.inl (by omega))))
   rw [hz]
   exact R.w1 (cM,cS,dG,cE) mS [] O Tryz.results89 (RV.tmp O) O O O O
  rw [h5]
  refine R.u 11 O<|R.nil<|R.av O O<|R.reg O<|R.u 1 O<|R.nil ?_
  have hz:rowP r c=(r,false):=by (exact BQ ‹_› hy1 (by omega) (.inl ‹_›))
  rw [hz]
  exact R.w1 (cM,cS,dG,cE) mS [] O Tryz.results89 (RV.tmp O) O O O O
 refine R.q (q.e8 O O) O<|R.u 1 O<|R.nil<|R.aA O O<|R.reg O<|?_
 by_cases h10:y1.toNat=116
 .
  refine R.q (q.fN O O) O<|R.u 1 O<|R.nil<|R.av O O<|R.reg O<|R.q (q.aO O cX O) O<|R.q (q.ld 1 O O bE O) O<|R.s O (s.aW ff [0] _ _ _ O O O wB O O (fun w own hw H=>lF c.Val 1 w own H (by omega)) O) fun z3=>?_
  refine R.u 5 O<|R.nil<|R.reg O<|R.u 1 O<|R.q (q.not O) O<|R.u 1 O<|?_
  cases b
  .
   refine R.u 9 O<|R.nil<|R.av O O<|R.reg O<|R.u 1 O<|R.nil ?_
   have hz:rowP r c=(r,false):=by (exact BR ‹_› hy1 (by omega) (.inl hC.symm))
   rw [hz]
   exact R.w1 (cM,cS,dG,cE) mS [] O Tryz.results89 (RV.tmp O) O O O O
  refine R.u 1 O<|R.qg O (q.not O) O<|R.u 2 O<|?_
  rcases Bool.eq_false_or_eq_true (eD c.Val 1) with h11|h11
  .
   rw [h11]
   refine R.qg O (q.aO O cX O) O<|R.qg O (q.ld 2 O O bE O) O<|R.qg O (q.iA O Tryz.underlying9) O<|?_
   by_cases h12:12<c.Val.size
   .
    refine R.qg O (q.eL O O) O<|R.u 1 O<|R.nil<|R.av O O<|R.reg O<|R.u 1 O<|R.nil ?_
    have hz:rowP r c=(r,false):=by (exact BR ‹_› hy1 (by omega) (.inr (.inr (by omega))))
    rw [hz]
    exact R.w1 (cM,cS,dG,cE) mS [] O Tryz.results89 (RV.tmp O) O O O O
   refine R.qg O (q.eo O O) O<|R.u 1 O<|R.nil<|R.aA O O ?_
   have ek:=Lu (c:=c) hC.symm
   have V1:=qu (s:=c.Val) (m:=1) ‹_›
   obtain ⟨x2,hx2⟩:∃z,(numsL (c.Key.extract 1 c.Key.size) 1)[0]? = some z:=⟨_,List.getElem?_eq_getElem (by omega)⟩
   obtain ⟨x3,hx3⟩:∃z,(numsL c.Val 1)[0]? = some z:=⟨_,List.getElem?_eq_getElem (by omega)⟩
   refine R.fY (fuel:=20) rq O O mixed O<|D.q (i:=0) O (aD rq [0] O) O (q.mv O) O<|D.q (i:=1) O (aD rq [0] O) O (q.mv O) O<|D.q (i:=2) O (aD rq [0] O) O (q.cb O) O<|D.q (i:=3) O (aD rq [0] O) O (q.aO O cy O) O<|D.q (i:=5) O (aD rq [0] O) O (q.mv O) O<|D.q (i:=6) O (aD rq [0] O) O (q.idx (i:=0) (bB 1 O) O O da O hx2) O<|D.q (i:=7) O (aD rq [0] O) O (q.lv (bB 1 O) hx2 O au O) O<|D.q (i:=8) O (aD rq [0] O) O (q.mv O) O<|D.q (i:=9) O (aD rq [0] O) O (q.idx (i:=0) (bB 0 O) O O da O hx3) O<|D.q (i:=10) O (aD rq [0] O) O (q.lv (bB 0 O) hx3 O au O) O<|D.q (i:=11) O (aD rq [0] O) O (q.aO O cX O) O<|D.q (i:=12) O (aD rq [0] O) O (q.ld 2 O O bE O) O<|D.q (i:=13) O (aD rq [0] O) O (q.Cm (i:=4) O O Tryz.underlying9 O (by omega)) O<|D.q (i:=14) O (aD rq [0] O) O (q.build Ev O O) O<|D.two (i:=4) (j:=15) O O ?_ ?_
   .
    refine Do.s (s.c (Qt.a (q.ld 3 O O dC O)) O) (fun _=>(aD rq [0] O)) O fun _=>?_
    refine D.one (i:=15) O<|Do.s (s.bs (l:=([(⟨x2,x3,(c.Val.extract 4 c.Val.size)⟩:aE)]:List aE)) iM ju O O O O O O O) (fun _=>(aD pE [0] O)) O fun b5=>?_
    refine D.one (i:=16) O<|Do.s (s.app 6 _ O O O (bB 0 O) sQ (by (simp;omega)) (by (simp;omega)) (fun _=>rfl) O) (fun _=>(aD pE [0] O)) O fun v3=>?_
    refine D.q (i:=17) O (aD pE [0] O) O (q.cb O) O<|D.q (i:=18) O (aD pE [0] O) O (q.aO O cy O) O<|D.one (i:=19) O<|Do.s (s.fX 4 _ O O O (fun w hw=>Sl.cm (hw.row 6 O)) (.inr ⟨dC,rfl⟩) (fun w hw=>(af (Sl.one (hw.row 6 O)) aP)) O O O) (fun _=>(aD pE [0] O)) O fun _=>?_
    refine D.done<|R.reg O<|R.u 1 O<|R.q (q.idx (i:=0) (bB 1 O) O O da O hx3) O<|R.q (q.lv (bB 1 O) hx3 O au O) O<|?_
    by_cases UJ:x3=1
    .
     refine R.q (q.fN O O) O<|R.u 13 O<|R.nil ?_
     have hz:rowP r c=((⟨r.ak,(r.Things++([(⟨x2,x3,(c.Val.extract 4 c.Val.size)⟩:aE)])),r.Held,r.Notes,r.ae,r.ah⟩:aC),true):=by (exact DT ‹_› hy1 (by omega) hC.symm ‹_› (by omega) ‹_› ‹_› (decide_eq_true (by omega)).symm)
     rw [hz]
     exact R.w1 (cM,v3,dG,cE) rC [] O Tryz.results89 (RV.tmp O) O O O O
    refine R.q (q.e8 O O) O<|R.u 2 O<|R.qg O (q.idx (i:=0) (bB 1 O) O O da O hx3) O<|R.qg O (q.lv (bB 1 O) hx3 O au O) O<|?_
    by_cases UK:x3=2
    .
     refine R.qg O (q.fN O O) O<|R.u 1 O<|R.qg O (q.aO O cX O) O<|R.qg O (q.ld 3 O O bE O) O<|R.qg O (q.iA O Tryz.underlying9) O<|?_
     by_cases UL:c.Val.size=4
     .
      refine R.qg O (q.fN O O) O<|R.u 3 O<|R.nil ?_
      have hz:rowP r c=((⟨r.ak,(r.Things++([(⟨x2,x3,(c.Val.extract 4 c.Val.size)⟩:aE)])),r.Held,r.Notes,r.ae,r.ah⟩:aC),true):=by (exact DT ‹_› hy1 (by omega) hC.symm ‹_› (by omega) ‹_› ‹_› (decide_eq_true (by omega)).symm)
      rw [hz]
      exact R.w1 (cM,v3,dG,cE) rC [] O Tryz.results89 (RV.tmp O) O O O O
     refine R.qg O (q.e8 O O) O<|R.u 3 O<|R.nil ?_
     have hz:rowP r c=((⟨r.ak,(r.Things++([(⟨x2,x3,(c.Val.extract 4 c.Val.size)⟩:aE)])),r.Held,r.Notes,r.ae,r.ah⟩:aC),false):=by (exact DT ‹_› hy1 (by omega) hC.symm ‹_› (by omega) ‹_› ‹_› (decide_eq_false (by omega)).symm)
     rw [hz]
     exact R.w1 (cM,v3,dG,cE) rC [] O Tryz.results89 (RV.tmp O) O O O O
    refine R.qg O (q.e8 O O) O<|R.u 8 O<|R.nil ?_
    have hz:rowP r c=((⟨r.ak,(r.Things++([(⟨x2,x3,(c.Val.extract 4 c.Val.size)⟩:aE)])),r.Held,r.Notes,r.ae,r.ah⟩:aC),false):=by (exact DT ‹_› hy1 (by omega) hC.symm ‹_› (by omega) ‹_› ‹_› (decide_eq_false (by omega)).symm)
    rw [hz]
    exact R.w1 (cM,v3,dG,cE) rC [] O Tryz.results89 (RV.tmp O) O O O O
   refine Do.s (s.bs (l:=([(⟨x2,x3,(c.Val.extract 4 c.Val.size)⟩:aE)]:List aE)) iM ju O O O O O O O) (fun _=>(aD pE [0] O)) O fun b6=>?_
   refine D.one (i:=4) O<|Do.s (s.c (Qt.a (q.ld 4 O O dC O)) O) (fun _=>(aD pE [0] O)) O fun _=>?_
   refine D.one (i:=16) O<|Do.s (s.app 6 _ O O O (bB 0 O) sQ (by (simp;omega)) (by (simp;omega)) (fun _=>rfl) O) (fun _=>(aD pE [0] O)) O fun v4=>?_
   refine D.q (i:=17) O (aD pE [0] O) O (q.cb O) O<|D.q (i:=18) O (aD pE [0] O) O (q.aO O cy O) O<|D.one (i:=19) O<|Do.s (s.fX 4 _ O O O (fun w hw=>Sl.cm (hw.row 6 O)) (.inr ⟨dC,rfl⟩) (fun w hw=>(af (Sl.one (hw.row 6 O)) aP)) O O O) (fun _=>(aD pE [0] O)) O fun _=>?_
   refine D.done<|R.reg O<|R.u 1 O<|R.q (q.idx (i:=0) (bB 1 O) O O da O hx3) O<|R.q (q.lv (bB 1 O) hx3 O au O) O<|?_
   by_cases h16:x3=1
   .
    refine R.q (q.fN O O) O<|R.u 13 O<|R.nil ?_
    have hz:rowP r c=((⟨r.ak,(r.Things++([(⟨x2,x3,(c.Val.extract 4 c.Val.size)⟩:aE)])),r.Held,r.Notes,r.ae,r.ah⟩:aC),true):=by (exact DT ‹_› hy1 (by omega) hC.symm ‹_› (by omega) ‹_› ‹_› (decide_eq_true (by omega)).symm)
    rw [hz]
    exact R.w1 (cM,v4,dG,cE) rC [] O Tryz.results89 (RV.tmp O) O O O O
   refine R.q (q.e8 O O) O<|R.u 2 O<|R.qg O (q.idx (i:=0) (bB 1 O) O O da O hx3) O<|R.qg O (q.lv (bB 1 O) hx3 O au O) O<|?_
   by_cases UM:x3=2
   .
    refine R.qg O (q.fN O O) O<|R.u 1 O<|R.qg O (q.aO O cX O) O<|R.qg O (q.ld 3 O O bE O) O<|R.qg O (q.iA O Tryz.underlying9) O<|?_
    by_cases h18:c.Val.size=4
    .
     refine R.qg O (q.fN O O) O<|R.u 3 O<|R.nil ?_
     have hz:rowP r c=((⟨r.ak,(r.Things++([(⟨x2,x3,(c.Val.extract 4 c.Val.size)⟩:aE)])),r.Held,r.Notes,r.ae,r.ah⟩:aC),true):=by (exact DT ‹_› hy1 (by omega) hC.symm ‹_› (by omega) ‹_› ‹_› (decide_eq_true (by omega)).symm)
     rw [hz]
     exact R.w1 (cM,v4,dG,cE) rC [] O Tryz.results89 (RV.tmp O) O O O O
    refine R.qg O (q.e8 O O) O<|R.u 3 O<|R.nil ?_
    have hz:rowP r c=((⟨r.ak,(r.Things++([(⟨x2,x3,(c.Val.extract 4 c.Val.size)⟩:aE)])),r.Held,r.Notes,r.ae,r.ah⟩:aC),false):=by (exact DT ‹_› hy1 (by omega) hC.symm ‹_› (by omega) ‹_› ‹_› (decide_eq_false (by omega)).symm)
    rw [hz]
    exact R.w1 (cM,v4,dG,cE) rC [] O Tryz.results89 (RV.tmp O) O O O O
   refine R.qg O (q.e8 O O) O<|R.u 8 O<|R.nil ?_
   have hz:rowP r c=((⟨r.ak,(r.Things++([(⟨x2,x3,(c.Val.extract 4 c.Val.size)⟩:aE)])),r.Held,r.Notes,r.ae,r.ah⟩:aC),false):=by (exact DT ‹_› hy1 (by omega) hC.symm ‹_› (by omega) ‹_› ‹_› (decide_eq_false (by omega)).symm)
   rw [hz]
   exact R.w1 (cM,v4,dG,cE) rC [] O Tryz.results89 (RV.tmp O) O O O O
  rw [h11]
  refine R.u 5 O<|R.nil<|R.av O O<|R.reg O<|R.u 1 O<|R.nil ?_
  have hz:rowP r c=(r,false):=by (exact BR ‹_› hy1 (by omega) (.inr (.inl ‹_›)))
  rw [hz]
  exact R.w1 (cM,cS,dG,cE) mS [] O Tryz.results89 (RV.tmp O) O O O O
 refine R.q (q.e8 O O) O<|R.u 1 O<|R.nil<|R.aA O O<|R.reg O<|?_
 by_cases h19:y1.toNat=119
 .
  refine R.q (q.fN O O) O<|R.u 1 O<|R.nil<|R.av O O<|R.reg O<|R.q (q.aO O cX O) O<|R.q (q.ld 1 O O bE O) O<|R.s O (s.aW ff [0] _ _ _ O O O wB O O (fun w own hw H=>lF c.Val 4 w own H (by omega)) O) fun z4=>?_
  refine R.u 5 O<|R.nil<|R.reg O<|R.u 1 O<|R.q (q.not O) O<|R.u 1 O<|?_
  cases b
  .
   refine R.u 9 O<|R.nil<|R.av O O<|R.reg O<|R.u 1 O<|R.nil ?_
   have hz:rowP r c=(r,false):=by (exact BS ‹_› hy1 (by omega) (.inl hC.symm))
   rw [hz]
   exact R.w1 (cM,cS,dG,cE) mS [] O Tryz.results89 (RV.tmp O) O O O O
  refine R.u 1 O<|R.qg O (q.not O) O<|R.u 2 O<|?_
  rcases Bool.eq_false_or_eq_true (eD c.Val 4) with h20|h20
  .
   rw [h20]
   refine R.qg O (q.aO O cX O) O<|R.qg O (q.ld 2 O O bE O) O<|R.qg O (q.iA O Tryz.underlying9) O<|?_
   by_cases h21:c.Val.size=16
   .
    refine R.qg O (q.lK O O) O<|R.u 1 O<|R.nil<|R.aA O O ?_
    have ek:=Lu (c:=c) hC.symm
    have Wr:=qu (s:=c.Val) (m:=4) ‹_›
    obtain ⟨x4,hx4⟩:∃z,(numsL (c.Key.extract 1 c.Key.size) 1)[0]? = some z:=⟨_,List.getElem?_eq_getElem (by omega)⟩
    obtain ⟨x5,hx5⟩:∃z,(numsL c.Val 4)[0]? = some z:=⟨_,List.getElem?_eq_getElem (by omega)⟩
    obtain ⟨x6,hx6⟩:∃z,(numsL c.Val 4)[1]? = some z:=⟨_,List.getElem?_eq_getElem (by omega)⟩
    obtain ⟨x7,hx7⟩:∃z,(numsL c.Val 4)[2]? = some z:=⟨_,List.getElem?_eq_getElem (by omega)⟩
    obtain ⟨x8,U1⟩:∃z,(numsL c.Val 4)[3]? = some z:=⟨_,List.getElem?_eq_getElem (by omega)⟩
    refine R.fY (fuel:=26) mK O O mixed O<|D.q (i:=0) O (aD mK [0] O) O (q.mv O) O<|D.q (i:=1) O (aD mK [0] O) O (q.mv O) O<|D.q (i:=2) O (aD mK [0] O) O (q.cb O) O<|D.q (i:=3) O (aD mK [0] O) O (q.aO O bg O) O<|D.q (i:=5) O (aD mK [0] O) O (q.mv O) O<|D.q (i:=6) O (aD mK [0] O) O (q.idx (i:=0) (bB 1 O) O O da O hx4) O<|D.q (i:=7) O (aD mK [0] O) O (q.lv (bB 1 O) hx4 O au O) O<|D.q (i:=8) O (aD mK [0] O) O (q.mv O) O<|D.q (i:=9) O (aD mK [0] O) O (q.idx (i:=0) (bB 0 O) O O da O hx5) O<|D.q (i:=10) O (aD mK [0] O) O (q.lv (bB 0 O) hx5 O au O) O<|D.q (i:=11) O (aD mK [0] O) O (q.mv O) O<|D.q (i:=12) O (aD mK [0] O) O (q.idx (i:=1) (bB 0 O) O O da O hx6) O<|D.q (i:=13) O (aD mK [0] O) O (q.lv (bB 0 O) hx6 O au O) O<|D.q (i:=14) O (aD mK [0] O) O (q.mv O) O<|D.q (i:=15) O (aD mK [0] O) O (q.idx (i:=2) (bB 0 O) O O da O hx7) O<|D.q (i:=16) O (aD mK [0] O) O (q.lv (bB 0 O) hx7 O au O) O<|D.q (i:=17) O (aD mK [0] O) O (q.mv O) O<|D.q (i:=18) O (aD mK [0] O) O (q.idx (i:=3) (bB 0 O) O O da O U1) O<|D.q (i:=19) O (aD mK [0] O) O (q.lv (bB 0 O) U1 O au O) O<|D.q (i:=20) O (aD mK [0] O) O (q.build iY O O) O<|D.two (i:=4) (j:=21) O O ?_ ?_
    .
     refine Do.s (s.c (Qt.a (q.ld 3 O O bS O)) O) (fun _=>(aD mK [0] O)) O fun _=>?_
     refine D.one (i:=21) O<|Do.s (s.bs (l:=([(⟨x4,x5,x6,x7,x8⟩:aj)]:List aj)) dJ bO O O O O O O O) (fun _=>(aD pF [0] O)) O fun b7=>?_
     refine D.one (i:=22) O<|Do.s (s.app 5 _ O O O (bB 0 O) lj (by (simp;omega)) (by (simp;omega)) (fun _=>rfl) O) (fun _=>(aD pF [0] O)) O fun v5=>?_
     refine D.q (i:=23) O (aD pF [0] O) O (q.cb O) O<|D.q (i:=24) O (aD pF [0] O) O (q.aO O bg O) O<|D.one (i:=25) O<|Do.s (s.fX 4 _ O O O (fun w hw=>Sl.cm (hw.row 5 O)) (.inr ⟨bS,rfl⟩) (fun w hw=>(af (Sl.one (hw.row 5 O)) aP)) O O O) (fun _=>(aD pF [0] O)) O fun _=>?_
     refine D.done<|R.reg O<|R.u 1 O<|R.nil ?_
     have hz:rowP r c=((⟨(r.ak++([(⟨x4,x5,x6,x7,x8⟩:aj)])),r.Things,r.Held,r.Notes,r.ae,r.ah⟩:aC),true):=by (exact Ta ‹_› hy1 (by omega) hC.symm ‹_› (by omega) ‹_› ‹_› ‹_› ‹_› ‹_›)
     rw [hz]
     exact R.w1 (v5,cS,dG,cE) rC [] O Tryz.results89 (RV.tmp O) O O O O
    refine Do.s (s.bs (l:=([(⟨x4,x5,x6,x7,x8⟩:aj)]:List aj)) dJ bO O O O O O O O) (fun _=>(aD pF [0] O)) O fun b8=>?_
    refine D.one (i:=4) O<|Do.s (s.c (Qt.a (q.ld 4 O O bS O)) O) (fun _=>(aD pF [0] O)) O fun _=>?_
    refine D.one (i:=22) O<|Do.s (s.app 5 _ O O O (bB 0 O) lj (by (simp;omega)) (by (simp;omega)) (fun _=>rfl) O) (fun _=>(aD pF [0] O)) O fun v6=>?_
    refine D.q (i:=23) O (aD pF [0] O) O (q.cb O) O<|D.q (i:=24) O (aD pF [0] O) O (q.aO O bg O) O<|D.one (i:=25) O<|Do.s (s.fX 4 _ O O O (fun w hw=>Sl.cm (hw.row 5 O)) (.inr ⟨bS,rfl⟩) (fun w hw=>(af (Sl.one (hw.row 5 O)) aP)) O O O) (fun _=>(aD pF [0] O)) O fun _=>?_
    refine D.done<|R.reg O<|R.u 1 O<|R.nil ?_
    have hz:rowP r c=((⟨(r.ak++([(⟨x4,x5,x6,x7,x8⟩:aj)])),r.Things,r.Held,r.Notes,r.ae,r.ah⟩:aC),true):=by (exact Ta ‹_› hy1 (by omega) hC.symm ‹_› (by omega) ‹_› ‹_› ‹_› ‹_› ‹_›)
    rw [hz]
    exact R.w1 (v6,cS,dG,cE) rC [] O Tryz.results89 (RV.tmp O) O O O O
   refine R.qg O (q.lJ O O) O<|R.u 1 O<|R.nil<|R.av O O<|R.reg O<|R.u 1 O<|R.nil ?_
   have hz:rowP r c=(r,false):=by (exact BS ‹_› hy1 (by omega) (.inr (.inr (by omega))))
   rw [hz]
   exact R.w1 (cM,cS,dG,cE) mS [] O Tryz.results89 (RV.tmp O) O O O O
  rw [h20]
  refine R.u 5 O<|R.nil<|R.av O O<|R.reg O<|R.u 1 O<|R.nil ?_
  have hz:rowP r c=(r,false):=by (exact BS ‹_› hy1 (by omega) (.inr (.inl ‹_›)))
  rw [hz]
  exact R.w1 (cM,cS,dG,cE) mS [] O Tryz.results89 (RV.tmp O) O O O O
 refine R.q (q.e8 O O) O<|R.u 1 O<|R.nil<|R.aA O O<|R.reg O<|R.q (q.aO O cX O) O<|R.q (q.ld 1 O O bE O) O<|R.s O (s.aW ff [0] _ _ _ O O O wB O O (fun w own hw H=>lF c.Val 2 w own H (by omega)) O) fun z5=>?_
 refine R.u 5 O<|R.nil<|R.reg O<|R.q (q.aO O bG O) O<|R.q (q.ld 2 O O bE O) O<|?_
 by_cases h22:c.Key=⟨#[120]⟩
 .
  refine R.q (q.uA O O h22) O<|R.u 2 O<|R.qg O (q.not O) O<|R.u 2 O<|?_
  rcases Bool.eq_false_or_eq_true (eD c.Val 2) with h23|h23
  .
   rw [h23]
   refine R.qg O (q.aO O cX O) O<|R.qg O (q.ld 2 O O bE O) O<|R.qg O (q.iA O Tryz.underlying9) O<|?_
   by_cases Ws:c.Val.size=8
   .
    refine R.qg O (q.lK O O) O<|R.u 1 O<|R.nil<|R.aA O O ?_
    have Wt:=qu (s:=c.Val) (m:=2) ‹_›
    obtain ⟨x9,U2⟩:∃z,(numsL c.Val 2)[0]? = some z:=⟨_,List.getElem?_eq_getElem (by omega)⟩
    obtain ⟨x10,Tc⟩:∃z,(numsL c.Val 2)[1]? = some z:=⟨_,List.getElem?_eq_getElem (by omega)⟩
    refine R.fY (fuel:=14) mh O O mixed O<|D.q (i:=0) O (aD mh [0] O) O (q.mv O) O<|D.q (i:=1) O (aD mh [0] O) O (q.mv O) O<|D.q (i:=2) O (aD mh [0] O) O (q.mv O) O<|D.q (i:=3) O (aD mh [0] O) O (q.idx (i:=0) (bB 0 O) O O da O U2) O<|D.q (i:=4) O (aD mh [0] O) O (q.lv (bB 0 O) U2 O au O) O<|D.q (i:=5) O (aD mh [0] O) O (q.mv O) O<|D.q (i:=6) O (aD mh [0] O) O (q.idx (i:=1) (bB 0 O) O O da O Tc) O<|D.q (i:=7) O (aD mh [0] O) O (q.lv (bB 0 O) Tc O au O) O<|D.q (i:=8) O (aD mh [0] O) O (q.cb O) O<|D.q (i:=9) O (aD mh [0] O) O (q.aO O cJ O) O<|D.one (i:=10) O<|Do.s (s.st 3 _ O O O O (.inr ⟨au,rfl⟩) O O O O) (fun _=>(aD mh [0] O)) O fun _=>?_
    refine D.q (i:=11) O (aD mh [0] O) O (q.cb O) O<|D.q (i:=12) O (aD mh [0] O) O (q.aO O dO O) O<|D.one (i:=13) O<|Do.s (s.st 3 _ O O O O (.inr ⟨au,rfl⟩) O O O O) (fun _=>(aD mh [0] O)) O fun _=>?_
    refine D.done<|R.reg O<|R.u 1 O<|R.nil ?_
    have hz:rowP r c=((⟨r.ak,r.Things,r.Held,r.Notes,x9,x10⟩:aC),true):=by (exact Uu ‹_› hy1 (by omega) (by omega) (by omega) ‹_› ‹_› (by omega) ‹_› ‹_›)
    rw [hz]
    exact R.w1 (cM,cS,dG,cE) mS [] O Tryz.results89 (RV.tmp O) O O O O
   refine R.qg O (q.lJ O O) O<|R.u 1 O<|R.nil<|R.av O O<|R.reg O<|R.u 1 O<|R.nil ?_
   have hz:rowP r c=(r,false):=by (exact BU ‹_› hy1 (by omega) (by omega) (by omega) (.inr (.inr (by omega))))
   rw [hz]
   exact R.w1 (cM,cS,dG,cE) mS [] O Tryz.results89 (RV.tmp O) O O O O
  rw [h23]
  refine R.u 5 O<|R.nil<|R.av O O<|R.reg O<|R.u 1 O<|R.nil ?_
  have hz:rowP r c=(r,false):=by (exact BU ‹_› hy1 (by omega) (by omega) (by omega) (.inr (.inl ‹_›)))
  rw [hz]
  exact R.w1 (cM,cS,dG,cE) mS [] O Tryz.results89 (RV.tmp O) O O O O
 refine R.q (q.y9 O O h22) O<|R.u 10 O<|R.nil<|R.av O O<|R.reg O<|R.u 1 O<|R.nil ?_
 have hz:rowP r c=(r,false):=by (exact BU ‹_› hy1 (by omega) (by omega) (by omega) (.inl ‹_›))
 rw [hz]
 exact R.w1 (cM,cS,dG,cE) mS [] O Tryz.results89 (RV.tmp O) O O O O
end
theorem hk0 (h:Held):∃l,bl (hrow h).Key=104::l:=⟨_,by show bl (kH++gS h.Place.aB++gS h.Place.Slot)=_;rw [iN,iN];rfl⟩
def V2 (t:aE):Bool:=decide ((t.Kind=1∨t.Kind=2/\t.Data.size=0)/\t.Data.size<=8)
def xr (a b:Int):Change:=⟨kX,bK a++bK b,false⟩
structure Kinds (l:List Change)(hs:List Held)(ts:List aE)(ws:List aj)(xs:List Change):Prop where
  eq:l=hs.map hrow++ts.map lY++ws.map og++xs
  h:∀x∈hs,aY x.Place=0
  t:∀x∈ts,V2 x=true
  x:(xs=[] /\ ∀r:aC,l.foldl tC r=⟨r.ak++ws,r.Things++ts,r.Held++hs,r.Notes,r.ae,r.ah⟩) ∨ ∃a b,xs=[xr a b] /\ ∀r:aC,l.foldl tC r=⟨r.ak++ws,r.Things++ts,r.Held++hs,r.Notes,a,b⟩
theorem yn {z:aC}(h:Inv z)(hn:z.Notes=[]):aZ z=z:=by
 obtain ⟨a,b,c,d,e,f⟩:=z
 simp only at hn;subst hn
 exact ya h
end Go.Proofs.YtkbhcbipadkcaaaGreatDoor
