import Derived.Test.YtkbhcbipadkcaaaGreatDoorTF25
namespace Go.Proofs.YtkbhcbipadkcaaaGreatDoor
set_option linter.unusedVariables false
set_option linter.unusedSimpArgs false
set_option maxRecDepth 100000
set_option maxHeartbeats 90000000
section
open Go Go.RowKit
theorem IC {s:ByteArray}{m:Nat}(h:eG s m=true):dY s m=some (numsL s m):=by
 unfold eG at h;unfold numsL
 cases hq:dY s m with|none=>rw [hq] at h;cases h|some l=>rfl
theorem qt {s:ByteArray}{m:Nat}(h:eG s m=true):(numsL s m).length=m/\4*m<=s.size:=Iu (IC h)
theorem rK {s:ByteArray}{m j:Nat}{x:Int}(h:(numsL s m)[j]? = some x):Ix (dY s m) j=x:=by
 show (((numsL s m)[j]?).getD 0)=x;rw [h];rfl
section
variable {r:aB} {c:Change} {y:UInt8}
theorem l4 (h:¬ c.Key=⟨#[]⟩):¬ c.Key.size=0:=fun e=>h (JY e)
theorem od {s:ByteArray}{i:Nat}{y:UInt8}(h:s.data[i]? = some y):bf s i=y.toNat:=by unfold bf;rw [h];rfl
theorem Ls (h:c.Key=⟨#[]⟩):rowP r c=(r,false):=by unfold rowP;rw [if_pos (by rw [h];rfl)]
theorem BS (h0:¬ c.Key=⟨#[]⟩)(hy:c.Key.data[0]? = some y)(e:y.toNat=104)(hb:eG c.Val 1=false∨¬ c.Val.size=4∨¬ c.Key.size=3):rowP r c=(r,false):=by
 unfold rowP;rw [if_neg (l4 h0)];dsimp only;rw [if_pos ((od hy).trans e),if_pos (show (dY c.Val 1).isSome=false∨c.Val.size≠4∨c.Key.size≠3 from hb)]
theorem Nf {a b:UInt8}{n:Int}{v:Bool}(h0:¬ c.Key=⟨#[]⟩)(hy:c.Key.data[0]? = some y)(e:y.toNat=104)(hb:eG c.Val 1=true)(h4:c.Val.size=4)(h3:c.Key.size=3)(ha:c.Key.data[1]? = some a)(hbb:c.Key.data[2]? = some b)
 (hn:(numsL c.Val 1)[0]? = some n) (hv:v=decide (aY ⟨(a.toNat:Int)-48,(b.toNat:Int)-48⟩=0)):rowP r c=(⟨r.ao,r.Things,r.Held++[⟨⟨(a.toNat:Int)-48,(b.toNat:Int)-48⟩,n⟩],r.Notes,r.ae,r.ah⟩,v):=by
 unfold rowP;rw [if_neg (l4 h0)];dsimp only
 rw [if_pos ((od hy).trans e),if_neg (show ¬ ((dY c.Val 1).isSome=false∨c.Val.size≠4∨c.Key.size≠3) from (by show ¬ (eG c.Val 1=false∨c.Val.size≠4∨c.Key.size≠3);rw [hb,h4,h3];simp)),rK hn,hv]
 unfold Iv Tc M3;rw [od ha,od hbb]
def Ez (c:Change):Bool:=eG (c.Key.extract 1 c.Key.size) 1&&decide (c.Key.size=5)
theorem QE (h:eG (c.Key.extract 1 c.Key.size) 1=false):false=Ez c:=by unfold Ez;rw [h];rfl
theorem Ng (h:¬ c.Key.size=5):false=Ez c:=by unfold Ez;rw [decide_eq_false h,Bool.and_false]
theorem Nh (h:eG (c.Key.extract 1 c.Key.size) 1=true)(h5:c.Key.size=5):true=Ez c:=by unfold Ez;rw [h,decide_eq_true h5];rfl
theorem Lt (h:Ez c=true):(numsL (c.Key.extract 1 c.Key.size) 1).length=1:=by
 unfold Ez at h;rw [Bool.and_eq_true] at h;exact (qt h.1).1
theorem BU (h0:¬ c.Key=⟨#[]⟩)(hy:c.Key.data[0]? = some y)(e:y.toNat=116)(hb:Ez c=false∨eG c.Val 1=false∨12<c.Val.size):rowP r c=(r,false):=by
 unfold rowP;rw [if_neg (l4 h0)];dsimp only
 rw [if_neg (by rw [od hy];omega),if_pos ((od hy).trans e),if_pos (show ((dY (c.Key.extract 1 c.Key.size) 1).isSome&&decide (c.Key.size=5))=false∨(dY c.Val 1).isSome=false∨12<c.Val.size from hb)]
theorem D3 {k n:Int}{v:Bool}(h0:¬ c.Key=⟨#[]⟩)(hy:c.Key.data[0]? = some y)(e:y.toNat=116)(hk:Ez c=true)(hb:eG c.Val 1=true)(h12:¬ 12<c.Val.size)
 (hi:(numsL (c.Key.extract 1 c.Key.size) 1)[0]? = some k) (hn:(numsL c.Val 1)[0]? = some n) (hv:v=decide (n=1∨n=2/\c.Val.size=4)):rowP r c=(⟨r.ao,r.Things++[⟨k,n,c.Val.extract 4 c.Val.size⟩],r.Held,r.Notes,r.ae,r.ah⟩,v):=by
 unfold rowP;rw [if_neg (l4 h0)];dsimp only
 rw [if_neg (by rw [od hy];omega),if_pos ((od hy).trans e),if_neg (show ¬ (((dY (c.Key.extract 1 c.Key.size) 1).isSome&&decide (c.Key.size=5))=false∨(dY c.Val 1).isSome=false∨12<c.Val.size) from (by
  show ¬ (Ez c=false∨eG c.Val 1=false∨12<c.Val.size)
  rw [hk,hb];simp;omega)),rK hn,rK hi,hv]
 rfl
theorem BV (h0:¬ c.Key=⟨#[]⟩)(hy:c.Key.data[0]? = some y)(e:y.toNat=119)(hb:Ez c=false∨eG c.Val 4=false∨¬ c.Val.size=16):rowP r c=(r,false):=by
 unfold rowP;rw [if_neg (l4 h0)];dsimp only
 rw [if_neg (by rw [od hy];omega),if_neg (by rw [od hy];omega),if_pos ((od hy).trans e),if_pos (show ((dY (c.Key.extract 1 c.Key.size) 1).isSome&&decide (c.Key.size=5))=false∨(dY c.Val 4).isSome=false∨c.Val.size≠16 from hb)]
theorem Tl {k n0 n1 n2 n3:Int}(h0:¬ c.Key=⟨#[]⟩)(hy:c.Key.data[0]? = some y)(e:y.toNat=119)(hk:Ez c=true)(hb:eG c.Val 4=true)(h16:c.Val.size=16)
 (hi:(numsL (c.Key.extract 1 c.Key.size) 1)[0]? = some k) (a0:(numsL c.Val 4)[0]? = some n0) (a1:(numsL c.Val 4)[1]? = some n1) (a2:(numsL c.Val 4)[2]? = some n2) (a3:(numsL c.Val 4)[3]? = some n3):rowP r c=(⟨r.ao++[⟨k,n0,n1,n2,n3⟩],r.Things,r.Held,r.Notes,r.ae,r.ah⟩,true):=by
 unfold rowP;rw [if_neg (l4 h0)];dsimp only
 rw [if_neg (by rw [od hy];omega),if_neg (by rw [od hy];omega),if_pos ((od hy).trans e),if_neg (show ¬ (((dY (c.Key.extract 1 c.Key.size) 1).isSome&&decide (c.Key.size=5))=false∨(dY c.Val 4).isSome=false∨c.Val.size≠16) from (by
  show ¬ (Ez c=false∨eG c.Val 4=false∨c.Val.size≠16)
  rw [hk,hb,h16];simp)),rK hi,rK a0,rK a1,rK a2,rK a3]
 rfl
theorem BW (h0:¬ c.Key=⟨#[]⟩)(hy:c.Key.data[0]? = some y)(e1:¬ y.toNat=104)(e2:¬ y.toNat=116)(e3:¬ y.toNat=119)(hb:¬ c.Key=⟨#[120]⟩∨eG c.Val 2=false∨¬ c.Val.size=8):rowP r c=(r,false):=by
 unfold rowP;rw [if_neg (l4 h0)];dsimp only
 rw [if_neg (by rw [od hy];omega),if_neg (by rw [od hy];omega),if_neg (by rw [od hy];omega),if_pos (show c.Key≠kX∨(dY c.Val 2).isSome=false∨c.Val.size≠8 from hb)]
theorem UK {n0 n1:Int}(h0:¬ c.Key=⟨#[]⟩)(hy:c.Key.data[0]? = some y)(e1:¬ y.toNat=104)(e2:¬ y.toNat=116)(e3:¬ y.toNat=119)(hk:c.Key=⟨#[120]⟩)(hb:eG c.Val 2=true)(h8:c.Val.size=8)(a0:(numsL c.Val 2)[0]? = some n0)(a1:(numsL c.Val 2)[1]? = some n1) :
 rowP r c=(⟨r.ao,r.Things,r.Held,r.Notes,n0,n1⟩,true):=by
 unfold rowP;rw [if_neg (l4 h0)];dsimp only
 rw [if_neg (by rw [od hy];omega),if_neg (by rw [od hy];omega),if_neg (by rw [od hy];omega),if_neg (show ¬ (c.Key≠kX∨(dY c.Val 2).isSome=false∨c.Val.size≠8) from (by
  show ¬ (c.Key≠⟨#[120]⟩∨eG c.Val 2=false∨c.Val.size≠8)
  rw [hb,h8];simp [hk])),rK a0,rK a1]
 rfl
end
attribute [local irreducible] numsL eG Ez rowP
theorem vL (KU:Nat)(cK cS dF cE:Value)(r:aB)(c:Change)(w:World)(own:List Nat)(H:HN w own [ag.box KU [cK,cS,dF,cE,iV r.ae,iV r.ah] 48,ag.row 127 cK r.ao,ag.row 100 cS r.Things,ag.row 124 dF r.Held,ag.row 89 cE r.Notes] [ew])(hc:c.Key.size<=1000/\c.Val.size<=1000)(hr:r.ao.length<=1000/\r.Things.length<=1000/\r.Held.length<=1000):RC Tryz.prog 89 #[.pointer (some ⟨KU,0,none⟩),.agg #[.string c.Key,.string c.Val,.bool c.Gone]] H (fun _:Value×Value×Value×Value => .bool (rowP r c).2) (fun z=>[ag.box KU [z.1,z.2.1,z.2.2.1,z.2.2.2,iV (rowP r c).1.ae,iV (rowP r c).1.ah] 48,ag.row 127 z.1 (rowP r c).1.ao,ag.row 100 z.2.1 (rowP r c).1.Things,ag.row 124 z.2.2.1 (rowP r c).1.Held,ag.row 89 z.2.2.2 (rowP r c).1.Notes]) (fun _=>[]):=by
 have Rh:=H.cap 1 rfl;have eJ:=H.cC 1 rfl
 have QF:=H.cap 2 rfl;have dK:=H.cC 2 rfl
 have Tm:=H.cap 3 rfl;have fI:=H.cC 3 rfl
 have Ri:=H.cap 4 rfl;have eK:=H.cC 4 rfl
 refine R.bD [(0,.pointer (some ⟨KU,0,none⟩)),(1,.agg #[.string c.Key,.string c.Val,.bool c.Gone])] Tryz.func89 O O O O H<|R.reg O<|R.s O (s.box O O O) fun b1=>?_
 refine R.u 1 O<|R.nil<|R.reg O<|R.q (q.aP O bH O) O<|R.q (q.ld 0 O O bF O) O<|?_
 by_cases h1:c.Key=⟨#[]⟩
 .
  refine R.q (q.pI O O h1) O<|R.nil<|R.az O O<|R.reg O<|R.u 1 O<|R.nil ?_
  have hz:rowP r c=(r,false):=by (exact Ls ‹_›)
  rw [hz]
  exact R.w1 (cK,cS,dF,cE) [1,2,3,4,5,6] [] O Tryz.results89 (RV.tmp O) O O O O
 refine R.q (q.pJ O O h1) O<|R.nil<|R.aC O O ?_
 have kp:=l4 (c:=c) ‹_›
 refine R.reg O<|R.q (q.aP O bH O) O<|R.q (q.ld 0 O O bF O) O<|R.q (q.Co (i:=1) O O Tryz.underlying9 O (by omega)) O<|R.s O (s.aT mH [0] _ _ _ O O O wD O O (fun w own hw H=>lH (c.Key.extract 1 c.Key.size) 1 w own H (by (rw [ByteArray.size_extract];omega))) O) fun z1=>?_
 refine R.u 5 O<|R.nil<|R.cut 1 (fun b:Bool=>[(0,.pointer (some ⟨KU,0,none⟩)),(3,.pointer (some ⟨b1,0,none⟩)),(5,z1),(6,.bool b)]) (fun b:Bool=>[ag.row 3 z1 (numsL (c.Key.extract 1 c.Key.size) 1),ag.box b1 (fD c) 117,ag.box KU [cK,cS,dF,cE,iV r.ae,iV r.ah] 48,ag.row 127 cK r.ao,ag.row 100 cS r.Things,ag.row 124 dF r.Held,ag.row 89 cE r.Notes,ag.held w own]) (fun b:Bool=>[ew]) (fun b:Bool=>b=Ez c) O O O ?_ ?_
 .
  refine R.reg O<|R.u 2 O<|?_
  rcases Bool.eq_false_or_eq_true (eG (c.Key.extract 1 c.Key.size) 1) with h2|h2
  .
   rw [h2]
   refine R.qg O (q.aP O bH O) O<|R.qg O (q.ld 1 O O bF O) O<|R.qg O (q.iy O Tryz.underlying9) O<|?_
   by_cases h3:c.Key.size=5
   .
    exact R.qg O (q.fJ O O) O<|R.u 2 O<|R.nil<|R.meet true O (by (exact Nh ‹_› (by omega))) (sF O) (iz fj [0] O)
   exact R.qg O (q.eX O O) O<|R.u 2 O<|R.nil<|R.meet false O (by (exact Ng (by omega))) (sF O) (iz fj [0] O)
  rw [h2]
  exact R.u 6 O<|R.nil<|R.meet false O (by (exact QE ‹_›)) (sF O) (iz fj [0] O)
 rintro b hC
 refine R.reg O<|R.q (q.aP O bH O) O<|R.q (q.ld 1 O O bF O) O<|?_
 obtain ⟨y1,hy1⟩:∃z,c.Key.data[0]? = some z:=⟨_,Array.getElem?_eq_getElem (show 0<c.Key.size from by omega)⟩
 have Sw:=y1.toNat_lt
 refine R.q (q.iK (i:=0) O O Tryz.underlying9 O hy1) O<|R.nil<|R.reg O<|?_
 by_cases h4:y1.toNat=104
 .
  refine R.q (q.fJ O O) O<|R.u 1 O<|R.nil<|R.az O O<|R.reg O<|R.q (q.aP O cY O) O<|R.q (q.ld 1 O O bF O) O<|R.s O (s.aT fj [0] _ _ _ O O O wD O O (fun w own hw H=>lH c.Val 1 w own H (by omega)) O) fun z2=>?_
  refine R.u 5 O<|R.nil<|R.reg O<|R.u 1 O<|R.q (q.not O) O<|R.u 1 O<|?_
  rcases Bool.eq_false_or_eq_true (eG c.Val 1) with h5|h5
  .
   rw [h5]
   refine R.qg O (q.aP O cY O) O<|R.qg O (q.ld 2 O O bF O) O<|R.qg O (q.iy O Tryz.underlying9) O<|?_
   by_cases h6:c.Val.size=4
   .
    refine R.qg O (q.nB O O) O<|R.u 2 O<|R.qg O (q.aP O bH O) O<|R.qg O (q.ld 2 O O bF O) O<|R.qg O (q.iy O Tryz.underlying9) O<|?_
    by_cases h7:c.Key.size=3
    .
     refine R.qg O (q.nB O O) O<|R.u 1 O<|R.nil<|R.aC O O ?_
     obtain ⟨y2,hy2⟩:∃z,c.Key.data[1]? = some z:=⟨_,Array.getElem?_eq_getElem (show 1<c.Key.size from by omega)⟩
     have Sx:=y2.toNat_lt
     obtain ⟨y3,hy3⟩:∃z,c.Key.data[2]? = some z:=⟨_,Array.getElem?_eq_getElem (show 2<c.Key.size from by omega)⟩
     have TQ:=y3.toNat_lt
     refine R.fP (fuel:=13) cj O O mixed O<|D.q (i:=0) O (aD cj [0] O) O (q.aP O bH O) O<|D.q (i:=1) O (aD cj [0] O) O (q.ld 2 O O bF O) O<|D.q (i:=2) O (aD cj [0] O) O (q.iK (i:=1) O O Tryz.underlying9 O hy2) O<|D.q (i:=3) O (aD cj [0] O) O (q.ni (r:=((y2.toNat:Nat):Int)) O (by rw [Tryz.underlying5];rfl) Tryz.underlying3 (wr (by omega))) O<|D.q (i:=4) O (aD cj [0] O) O (q.lU (r:=(y2.toNat:Int)-48) O O) O<|D.q (i:=5) O (aD cj [0] O) O (q.aP O bH O) O<|D.q (i:=6) O (aD cj [0] O) O (q.ld 2 O O bF O) O<|D.q (i:=7) O (aD cj [0] O) O (q.iK (i:=2) O O Tryz.underlying9 O hy3) O<|D.q (i:=8) O (aD cj [0] O) O (q.ni (r:=((y3.toNat:Nat):Int)) O (by rw [Tryz.underlying5];rfl) Tryz.underlying3 (wr (by omega))) O<|D.q (i:=9) O (aD cj [0] O) O (q.lU (r:=(y3.toNat:Int)-48) O O) O<|D.q (i:=10) O (aD cj [0] O) O (q.build wn O O) O<|D.one (i:=11) O<|Do.s (s.alloc Cr O O) (fun _=>(aD Cg [0] O)) O fun b2=>?_
     refine D.one (i:=12) O<|Do.s (s.st 0 _ O O O O (.inl bO) O O O O) (fun _=>(aD Cg [0] O)) O fun _=>?_
     refine D.done<|?_
     have Wj:=qt (s:=c.Val) (m:=1) ‹_›
     obtain ⟨x1,hx1⟩:∃z,(numsL c.Val 1)[0]? = some z:=⟨_,List.getElem?_eq_getElem (by omega)⟩
     refine R.fP (fuel:=15) pB O O mixed O<|D.q (i:=0) O (aD pB [0] O) O (q.mv O) O<|D.q (i:=1) O (aD pB [0] O) O (q.mv O) O<|D.q (i:=2) O (aD pB [0] O) O (q.bQ O) O<|D.q (i:=3) O (aD pB [0] O) O (q.aP O cQ O) O<|D.q (i:=5) O (aD pB [0] O) O (q.cW 0 O O bO) O<|D.q (i:=6) O (aD pB [0] O) O (q.mv O) O<|D.q (i:=7) O (aD pB [0] O) O (q.idx (i:=0) (bE 1 O) O O dc O hx1) O<|D.q (i:=8) O (aD pB [0] O) O (q.lw (bE 1 O) hx1 O au O) O<|D.q (i:=9) O (aD pB [0] O) O (q.build Jh O O) O<|D.two (i:=4) (j:=10) O O ?_ ?_
     .
      refine Do.s (s.c (Qt.a (q.ld 4 O O dV O)) O) (fun _=>(aD pB [0] O)) O fun _=>?_
      refine D.one (i:=10) O<|Do.s (s.bs (l:=([(⟨(⟨((y2.toNat:Int)-48),((y3.toNat:Int)-48)⟩:Place),x1⟩:Held)]:List Held)) cM gW O O O O O O O) (fun _=>(aD pC [0] O)) O fun b3=>?_
      refine D.one (i:=11) O<|Do.s (s.app 8 _ O O O (bE 0 O) oz (by (simp;omega)) (by (simp;omega)) (fun _=>rfl) O) (fun _=>(aD pC [0] O)) O fun v1=>?_
      refine D.q (i:=12) O (aD pC [0] O) O (q.bQ O) O<|D.q (i:=13) O (aD pC [0] O) O (q.aP O cQ O) O<|D.one (i:=14) O<|Do.s (s.fR 5 _ O O O (fun w hw=>Sl.cq (hw.row 8 O)) (.inr ⟨dV,rfl⟩) (fun w hw=>(af (Sl.one (hw.row 8 O)) aO)) O O O) (fun _=>(aD pC [0] O)) O fun _=>?_
      refine D.done<|R.reg O<|R.q (q.cW 1 O O bO) O<|R.c (q.call AB O O (fun w hw=>(ko (⟨((y2.toNat:Int)-48),((y3.toNat:Int)-48)⟩:Place) w ))) O<|?_
      by_cases h8:aY (⟨((y2.toNat:Int)-48),((y3.toNat:Int)-48)⟩:Place)=0
      .
       refine R.q (q.lQ O O Tryz.underlying38) O<|R.u 1 O<|R.nil ?_
       have hz:rowP r c=((⟨r.ao,r.Things,(r.Held++([(⟨(⟨((y2.toNat:Int)-48),((y3.toNat:Int)-48)⟩:Place),x1⟩:Held)])),r.Notes,r.ae,r.ah⟩:aB),true):=by (exact Nf ‹_› hy1 (by omega) ‹_› (by omega) (by omega) hy2 hy3 ‹_› (decide_eq_true ‹_›).symm)
       rw [hz]
       exact R.w1 (cK,cS,v1,cE) [5,6,7,8,9,10] [] O Tryz.results89 (RV.tmp O) O O O O
      refine R.q (q.jw O O Tryz.underlying38) O<|R.u 1 O<|R.nil ?_
      have hz:rowP r c=((⟨r.ao,r.Things,(r.Held++([(⟨(⟨((y2.toNat:Int)-48),((y3.toNat:Int)-48)⟩:Place),x1⟩:Held)])),r.Notes,r.ae,r.ah⟩:aB),false):=by (exact Nf ‹_› hy1 (by omega) ‹_› (by omega) (by omega) hy2 hy3 ‹_› (decide_eq_false ‹_›).symm)
      rw [hz]
      exact R.w1 (cK,cS,v1,cE) [5,6,7,8,9,10] [] O Tryz.results89 (RV.tmp O) O O O O
     refine Do.s (s.bs (l:=([(⟨(⟨((y2.toNat:Int)-48),((y3.toNat:Int)-48)⟩:Place),x1⟩:Held)]:List Held)) cM gW O O O O O O O) (fun _=>(aD pC [0] O)) O fun b4=>?_
     refine D.one (i:=4) O<|Do.s (s.c (Qt.a (q.ld 5 O O dV O)) O) (fun _=>(aD pC [0] O)) O fun _=>?_
     refine D.one (i:=11) O<|Do.s (s.app 8 _ O O O (bE 0 O) oz (by (simp;omega)) (by (simp;omega)) (fun _=>rfl) O) (fun _=>(aD pC [0] O)) O fun v2=>?_
     refine D.q (i:=12) O (aD pC [0] O) O (q.bQ O) O<|D.q (i:=13) O (aD pC [0] O) O (q.aP O cQ O) O<|D.one (i:=14) O<|Do.s (s.fR 5 _ O O O (fun w hw=>Sl.cq (hw.row 8 O)) (.inr ⟨dV,rfl⟩) (fun w hw=>(af (Sl.one (hw.row 8 O)) aO)) O O O) (fun _=>(aD pC [0] O)) O fun _=>?_
     refine D.done<|R.reg O<|R.q (q.cW 1 O O bO) O<|R.c (q.call AB O O (fun w hw=>(ko (⟨((y2.toNat:Int)-48),((y3.toNat:Int)-48)⟩:Place) w ))) O<|?_
     by_cases h9:aY (⟨((y2.toNat:Int)-48),((y3.toNat:Int)-48)⟩:Place)=0
     .
      refine R.q (q.lQ O O Tryz.underlying38) O<|R.u 1 O<|R.nil ?_
      have hz:rowP r c=((⟨r.ao,r.Things,(r.Held++([(⟨(⟨((y2.toNat:Int)-48),((y3.toNat:Int)-48)⟩:Place),x1⟩:Held)])),r.Notes,r.ae,r.ah⟩:aB),true):=by (exact Nf ‹_› hy1 (by omega) ‹_› (by omega) (by omega) hy2 hy3 ‹_› (decide_eq_true ‹_›).symm)
      rw [hz]
      exact R.w1 (cK,cS,v2,cE) [5,6,7,8,9,10] [] O Tryz.results89 (RV.tmp O) O O O O
     refine R.q (q.jw O O Tryz.underlying38) O<|R.u 1 O<|R.nil ?_
     have hz:rowP r c=((⟨r.ao,r.Things,(r.Held++([(⟨(⟨((y2.toNat:Int)-48),((y3.toNat:Int)-48)⟩:Place),x1⟩:Held)])),r.Notes,r.ae,r.ah⟩:aB),false):=by (exact Nf ‹_› hy1 (by omega) ‹_› (by omega) (by omega) hy2 hy3 ‹_› (decide_eq_false ‹_›).symm)
     rw [hz]
     exact R.w1 (cK,cS,v2,cE) [5,6,7,8,9,10] [] O Tryz.results89 (RV.tmp O) O O O O
    refine R.qg O (q.nA O O) O<|R.u 1 O<|R.nil<|R.az O O<|R.reg O<|R.u 1 O<|R.nil ?_
    have hz:rowP r c=(r,false):=by (exact BS ‹_› hy1 (by omega) (.inr (.inr (by omega))))
    rw [hz]
    exact R.w1 (cK,cS,dF,cE) mP [] O Tryz.results89 (RV.tmp O) O O O O
   refine R.qg O (q.nA O O) O<|R.u 7 O<|R.nil<|R.az O O<|R.reg O<|R.u 1 O<|R.nil ?_
   have hz:rowP r c=(r,false):=by (exact BS ‹_› hy1 (by omega) (.inr (.inl (by omega))))
   rw [hz]
   exact R.w1 (cK,cS,dF,cE) mP [] O Tryz.results89 (RV.tmp O) O O O O
  rw [h5]
  refine R.u 11 O<|R.nil<|R.az O O<|R.reg O<|R.u 1 O<|R.nil ?_
  have hz:rowP r c=(r,false):=by (exact BS ‹_› hy1 (by omega) (.inl ‹_›))
  rw [hz]
  exact R.w1 (cK,cS,dF,cE) mP [] O Tryz.results89 (RV.tmp O) O O O O
 refine R.q (q.eX O O) O<|R.u 1 O<|R.nil<|R.aC O O<|R.reg O<|?_
 by_cases h10:y1.toNat=116
 .
  refine R.q (q.fJ O O) O<|R.u 1 O<|R.nil<|R.az O O<|R.reg O<|R.q (q.aP O cY O) O<|R.q (q.ld 1 O O bF O) O<|R.s O (s.aT fj [0] _ _ _ O O O wD O O (fun w own hw H=>lH c.Val 1 w own H (by omega)) O) fun z3=>?_
  refine R.u 5 O<|R.nil<|R.reg O<|R.u 1 O<|R.q (q.not O) O<|R.u 1 O<|?_
  cases b
  .
   refine R.u 9 O<|R.nil<|R.az O O<|R.reg O<|R.u 1 O<|R.nil ?_
   have hz:rowP r c=(r,false):=by (exact BU ‹_› hy1 (by omega) (.inl hC.symm))
   rw [hz]
   exact R.w1 (cK,cS,dF,cE) mP [] O Tryz.results89 (RV.tmp O) O O O O
  refine R.u 1 O<|R.qg O (q.not O) O<|R.u 2 O<|?_
  rcases Bool.eq_false_or_eq_true (eG c.Val 1) with h11|h11
  .
   rw [h11]
   refine R.qg O (q.aP O cY O) O<|R.qg O (q.ld 2 O O bF O) O<|R.qg O (q.iy O Tryz.underlying9) O<|?_
   by_cases h12:12<c.Val.size
   .
    refine R.qg O (q.eM O O) O<|R.u 1 O<|R.nil<|R.az O O<|R.reg O<|R.u 1 O<|R.nil ?_
    have hz:rowP r c=(r,false):=by (exact BU ‹_› hy1 (by omega) (.inr (.inr (by omega))))
    rw [hz]
    exact R.w1 (cK,cS,dF,cE) mP [] O Tryz.results89 (RV.tmp O) O O O O
   refine R.qg O (q.ey O O) O<|R.u 1 O<|R.nil<|R.aC O O ?_
   have ek:=Lt (c:=c) hC.symm
   have Wj:=qt (s:=c.Val) (m:=1) ‹_›
   obtain ⟨x2,hx2⟩:∃z,(numsL (c.Key.extract 1 c.Key.size) 1)[0]? = some z:=⟨_,List.getElem?_eq_getElem (by omega)⟩
   obtain ⟨x3,hx3⟩:∃z,(numsL c.Val 1)[0]? = some z:=⟨_,List.getElem?_eq_getElem (by omega)⟩
   refine R.fP (fuel:=20) rl O O mixed O<|D.q (i:=0) O (aD rl [0] O) O (q.mv O) O<|D.q (i:=1) O (aD rl [0] O) O (q.mv O) O<|D.q (i:=2) O (aD rl [0] O) O (q.bQ O) O<|D.q (i:=3) O (aD rl [0] O) O (q.aP O du O) O<|D.q (i:=5) O (aD rl [0] O) O (q.mv O) O<|D.q (i:=6) O (aD rl [0] O) O (q.idx (i:=0) (bE 1 O) O O dc O hx2) O<|D.q (i:=7) O (aD rl [0] O) O (q.lw (bE 1 O) hx2 O au O) O<|D.q (i:=8) O (aD rl [0] O) O (q.mv O) O<|D.q (i:=9) O (aD rl [0] O) O (q.idx (i:=0) (bE 0 O) O O dc O hx3) O<|D.q (i:=10) O (aD rl [0] O) O (q.lw (bE 0 O) hx3 O au O) O<|D.q (i:=11) O (aD rl [0] O) O (q.aP O cY O) O<|D.q (i:=12) O (aD rl [0] O) O (q.ld 2 O O bF O) O<|D.q (i:=13) O (aD rl [0] O) O (q.Co (i:=4) O O Tryz.underlying9 O (by omega)) O<|D.q (i:=14) O (aD rl [0] O) O (q.build EF O O) O<|D.two (i:=4) (j:=15) O O ?_ ?_
   .
    refine Do.s (s.c (Qt.a (q.ld 3 O O eR O)) O) (fun _=>(aD rl [0] O)) O fun _=>?_
    refine D.one (i:=15) O<|Do.s (s.bs (l:=([(⟨x2,x3,(c.Val.extract 4 c.Val.size)⟩:aF)]:List aF)) kg jo O O O O O O O) (fun _=>(aD pD [0] O)) O fun b5=>?_
    refine D.one (i:=16) O<|Do.s (s.app 6 _ O O O (bE 0 O) sS (by (simp;omega)) (by (simp;omega)) (fun _=>rfl) O) (fun _=>(aD pD [0] O)) O fun v3=>?_
    refine D.q (i:=17) O (aD pD [0] O) O (q.bQ O) O<|D.q (i:=18) O (aD pD [0] O) O (q.aP O du O) O<|D.one (i:=19) O<|Do.s (s.fR 4 _ O O O (fun w hw=>Sl.cq (hw.row 6 O)) (.inr ⟨eR,rfl⟩) (fun w hw=>(af (Sl.one (hw.row 6 O)) aO)) O O O) (fun _=>(aD pD [0] O)) O fun _=>?_
    refine D.done<|R.reg O<|R.u 1 O<|R.q (q.idx (i:=0) (bE 1 O) O O dc O hx3) O<|R.q (q.lw (bE 1 O) hx3 O au O) O<|?_
    by_cases UZ:x3=1
    .
     refine R.q (q.fJ O O) O<|R.u 13 O<|R.nil ?_
     have hz:rowP r c=((⟨r.ao,(r.Things++([(⟨x2,x3,(c.Val.extract 4 c.Val.size)⟩:aF)])),r.Held,r.Notes,r.ae,r.ah⟩:aB),true):=by (exact D3 ‹_› hy1 (by omega) hC.symm ‹_› (by omega) ‹_› ‹_› (decide_eq_true (by omega)).symm)
     rw [hz]
     exact R.w1 (cK,v3,dF,cE) rA [] O Tryz.results89 (RV.tmp O) O O O O
    refine R.q (q.eX O O) O<|R.u 2 O<|R.qg O (q.idx (i:=0) (bE 1 O) O O dc O hx3) O<|R.qg O (q.lw (bE 1 O) hx3 O au O) O<|?_
    by_cases U0:x3=2
    .
     refine R.qg O (q.fJ O O) O<|R.u 1 O<|R.qg O (q.aP O cY O) O<|R.qg O (q.ld 3 O O bF O) O<|R.qg O (q.iy O Tryz.underlying9) O<|?_
     by_cases U1:c.Val.size=4
     .
      refine R.qg O (q.fJ O O) O<|R.u 3 O<|R.nil ?_
      have hz:rowP r c=((⟨r.ao,(r.Things++([(⟨x2,x3,(c.Val.extract 4 c.Val.size)⟩:aF)])),r.Held,r.Notes,r.ae,r.ah⟩:aB),true):=by (exact D3 ‹_› hy1 (by omega) hC.symm ‹_› (by omega) ‹_› ‹_› (decide_eq_true (by omega)).symm)
      rw [hz]
      exact R.w1 (cK,v3,dF,cE) rA [] O Tryz.results89 (RV.tmp O) O O O O
     refine R.qg O (q.eX O O) O<|R.u 3 O<|R.nil ?_
     have hz:rowP r c=((⟨r.ao,(r.Things++([(⟨x2,x3,(c.Val.extract 4 c.Val.size)⟩:aF)])),r.Held,r.Notes,r.ae,r.ah⟩:aB),false):=by (exact D3 ‹_› hy1 (by omega) hC.symm ‹_› (by omega) ‹_› ‹_› (decide_eq_false (by omega)).symm)
     rw [hz]
     exact R.w1 (cK,v3,dF,cE) rA [] O Tryz.results89 (RV.tmp O) O O O O
    refine R.qg O (q.eX O O) O<|R.u 8 O<|R.nil ?_
    have hz:rowP r c=((⟨r.ao,(r.Things++([(⟨x2,x3,(c.Val.extract 4 c.Val.size)⟩:aF)])),r.Held,r.Notes,r.ae,r.ah⟩:aB),false):=by (exact D3 ‹_› hy1 (by omega) hC.symm ‹_› (by omega) ‹_› ‹_› (decide_eq_false (by omega)).symm)
    rw [hz]
    exact R.w1 (cK,v3,dF,cE) rA [] O Tryz.results89 (RV.tmp O) O O O O
   refine Do.s (s.bs (l:=([(⟨x2,x3,(c.Val.extract 4 c.Val.size)⟩:aF)]:List aF)) kg jo O O O O O O O) (fun _=>(aD pD [0] O)) O fun b6=>?_
   refine D.one (i:=4) O<|Do.s (s.c (Qt.a (q.ld 4 O O eR O)) O) (fun _=>(aD pD [0] O)) O fun _=>?_
   refine D.one (i:=16) O<|Do.s (s.app 6 _ O O O (bE 0 O) sS (by (simp;omega)) (by (simp;omega)) (fun _=>rfl) O) (fun _=>(aD pD [0] O)) O fun v4=>?_
   refine D.q (i:=17) O (aD pD [0] O) O (q.bQ O) O<|D.q (i:=18) O (aD pD [0] O) O (q.aP O du O) O<|D.one (i:=19) O<|Do.s (s.fR 4 _ O O O (fun w hw=>Sl.cq (hw.row 6 O)) (.inr ⟨eR,rfl⟩) (fun w hw=>(af (Sl.one (hw.row 6 O)) aO)) O O O) (fun _=>(aD pD [0] O)) O fun _=>?_
   refine D.done<|R.reg O<|R.u 1 O<|R.q (q.idx (i:=0) (bE 1 O) O O dc O hx3) O<|R.q (q.lw (bE 1 O) hx3 O au O) O<|?_
   by_cases h16:x3=1
   .
    refine R.q (q.fJ O O) O<|R.u 13 O<|R.nil ?_
    have hz:rowP r c=((⟨r.ao,(r.Things++([(⟨x2,x3,(c.Val.extract 4 c.Val.size)⟩:aF)])),r.Held,r.Notes,r.ae,r.ah⟩:aB),true):=by (exact D3 ‹_› hy1 (by omega) hC.symm ‹_› (by omega) ‹_› ‹_› (decide_eq_true (by omega)).symm)
    rw [hz]
    exact R.w1 (cK,v4,dF,cE) rA [] O Tryz.results89 (RV.tmp O) O O O O
   refine R.q (q.eX O O) O<|R.u 2 O<|R.qg O (q.idx (i:=0) (bE 1 O) O O dc O hx3) O<|R.qg O (q.lw (bE 1 O) hx3 O au O) O<|?_
   by_cases U2:x3=2
   .
    refine R.qg O (q.fJ O O) O<|R.u 1 O<|R.qg O (q.aP O cY O) O<|R.qg O (q.ld 3 O O bF O) O<|R.qg O (q.iy O Tryz.underlying9) O<|?_
    by_cases h18:c.Val.size=4
    .
     refine R.qg O (q.fJ O O) O<|R.u 3 O<|R.nil ?_
     have hz:rowP r c=((⟨r.ao,(r.Things++([(⟨x2,x3,(c.Val.extract 4 c.Val.size)⟩:aF)])),r.Held,r.Notes,r.ae,r.ah⟩:aB),true):=by (exact D3 ‹_› hy1 (by omega) hC.symm ‹_› (by omega) ‹_› ‹_› (decide_eq_true (by omega)).symm)
     rw [hz]
     exact R.w1 (cK,v4,dF,cE) rA [] O Tryz.results89 (RV.tmp O) O O O O
    refine R.qg O (q.eX O O) O<|R.u 3 O<|R.nil ?_
    have hz:rowP r c=((⟨r.ao,(r.Things++([(⟨x2,x3,(c.Val.extract 4 c.Val.size)⟩:aF)])),r.Held,r.Notes,r.ae,r.ah⟩:aB),false):=by (exact D3 ‹_› hy1 (by omega) hC.symm ‹_› (by omega) ‹_› ‹_› (decide_eq_false (by omega)).symm)
    rw [hz]
    exact R.w1 (cK,v4,dF,cE) rA [] O Tryz.results89 (RV.tmp O) O O O O
   refine R.qg O (q.eX O O) O<|R.u 8 O<|R.nil ?_
   have hz:rowP r c=((⟨r.ao,(r.Things++([(⟨x2,x3,(c.Val.extract 4 c.Val.size)⟩:aF)])),r.Held,r.Notes,r.ae,r.ah⟩:aB),false):=by (exact D3 ‹_› hy1 (by omega) hC.symm ‹_› (by omega) ‹_› ‹_› (decide_eq_false (by omega)).symm)
   rw [hz]
   exact R.w1 (cK,v4,dF,cE) rA [] O Tryz.results89 (RV.tmp O) O O O O
  rw [h11]
  refine R.u 5 O<|R.nil<|R.az O O<|R.reg O<|R.u 1 O<|R.nil ?_
  have hz:rowP r c=(r,false):=by (exact BU ‹_› hy1 (by omega) (.inr (.inl ‹_›)))
  rw [hz]
  exact R.w1 (cK,cS,dF,cE) mP [] O Tryz.results89 (RV.tmp O) O O O O
 refine R.q (q.eX O O) O<|R.u 1 O<|R.nil<|R.aC O O<|R.reg O<|?_
 by_cases h19:y1.toNat=119
 .
  refine R.q (q.fJ O O) O<|R.u 1 O<|R.nil<|R.az O O<|R.reg O<|R.q (q.aP O cY O) O<|R.q (q.ld 1 O O bF O) O<|R.s O (s.aT fj [0] _ _ _ O O O wD O O (fun w own hw H=>lH c.Val 4 w own H (by omega)) O) fun z4=>?_
  refine R.u 5 O<|R.nil<|R.reg O<|R.u 1 O<|R.q (q.not O) O<|R.u 1 O<|?_
  cases b
  .
   refine R.u 9 O<|R.nil<|R.az O O<|R.reg O<|R.u 1 O<|R.nil ?_
   have hz:rowP r c=(r,false):=by (exact BV ‹_› hy1 (by omega) (.inl hC.symm))
   rw [hz]
   exact R.w1 (cK,cS,dF,cE) mP [] O Tryz.results89 (RV.tmp O) O O O O
  refine R.u 1 O<|R.qg O (q.not O) O<|R.u 2 O<|?_
  rcases Bool.eq_false_or_eq_true (eG c.Val 4) with h20|h20
  .
   rw [h20]
   refine R.qg O (q.aP O cY O) O<|R.qg O (q.ld 2 O O bF O) O<|R.qg O (q.iy O Tryz.underlying9) O<|?_
   by_cases h21:c.Val.size=16
   .
    refine R.qg O (q.nB O O) O<|R.u 1 O<|R.nil<|R.aC O O ?_
    have ek:=Lt (c:=c) hC.symm
    have WH:=qt (s:=c.Val) (m:=4) ‹_›
    obtain ⟨x4,hx4⟩:∃z,(numsL (c.Key.extract 1 c.Key.size) 1)[0]? = some z:=⟨_,List.getElem?_eq_getElem (by omega)⟩
    obtain ⟨x5,hx5⟩:∃z,(numsL c.Val 4)[0]? = some z:=⟨_,List.getElem?_eq_getElem (by omega)⟩
    obtain ⟨x6,hx6⟩:∃z,(numsL c.Val 4)[1]? = some z:=⟨_,List.getElem?_eq_getElem (by omega)⟩
    obtain ⟨x7,hx7⟩:∃z,(numsL c.Val 4)[2]? = some z:=⟨_,List.getElem?_eq_getElem (by omega)⟩
    obtain ⟨x8,Vh⟩:∃z,(numsL c.Val 4)[3]? = some z:=⟨_,List.getElem?_eq_getElem (by omega)⟩
    refine R.fP (fuel:=26) mI O O mixed O<|D.q (i:=0) O (aD mI [0] O) O (q.mv O) O<|D.q (i:=1) O (aD mI [0] O) O (q.mv O) O<|D.q (i:=2) O (aD mI [0] O) O (q.bQ O) O<|D.q (i:=3) O (aD mI [0] O) O (q.aP O bq O) O<|D.q (i:=5) O (aD mI [0] O) O (q.mv O) O<|D.q (i:=6) O (aD mI [0] O) O (q.idx (i:=0) (bE 1 O) O O dc O hx4) O<|D.q (i:=7) O (aD mI [0] O) O (q.lw (bE 1 O) hx4 O au O) O<|D.q (i:=8) O (aD mI [0] O) O (q.mv O) O<|D.q (i:=9) O (aD mI [0] O) O (q.idx (i:=0) (bE 0 O) O O dc O hx5) O<|D.q (i:=10) O (aD mI [0] O) O (q.lw (bE 0 O) hx5 O au O) O<|D.q (i:=11) O (aD mI [0] O) O (q.mv O) O<|D.q (i:=12) O (aD mI [0] O) O (q.idx (i:=1) (bE 0 O) O O dc O hx6) O<|D.q (i:=13) O (aD mI [0] O) O (q.lw (bE 0 O) hx6 O au O) O<|D.q (i:=14) O (aD mI [0] O) O (q.mv O) O<|D.q (i:=15) O (aD mI [0] O) O (q.idx (i:=2) (bE 0 O) O O dc O hx7) O<|D.q (i:=16) O (aD mI [0] O) O (q.lw (bE 0 O) hx7 O au O) O<|D.q (i:=17) O (aD mI [0] O) O (q.mv O) O<|D.q (i:=18) O (aD mI [0] O) O (q.idx (i:=3) (bE 0 O) O O dc O Vh) O<|D.q (i:=19) O (aD mI [0] O) O (q.lw (bE 0 O) Vh O au O) O<|D.q (i:=20) O (aD mI [0] O) O (q.build iT O O) O<|D.two (i:=4) (j:=21) O O ?_ ?_
    .
     refine Do.s (s.c (Qt.a (q.ld 3 O O cb O)) O) (fun _=>(aD mI [0] O)) O fun _=>?_
     refine D.one (i:=21) O<|Do.s (s.bs (l:=([(⟨x4,x5,x6,x7,x8⟩:ak)]:List ak)) eu bR O O O O O O O) (fun _=>(aD pE [0] O)) O fun b7=>?_
     refine D.one (i:=22) O<|Do.s (s.app 5 _ O O O (bE 0 O) ln (by (simp;omega)) (by (simp;omega)) (fun _=>rfl) O) (fun _=>(aD pE [0] O)) O fun v5=>?_
     refine D.q (i:=23) O (aD pE [0] O) O (q.bQ O) O<|D.q (i:=24) O (aD pE [0] O) O (q.aP O bq O) O<|D.one (i:=25) O<|Do.s (s.fR 4 _ O O O (fun w hw=>Sl.cq (hw.row 5 O)) (.inr ⟨cb,rfl⟩) (fun w hw=>(af (Sl.one (hw.row 5 O)) aO)) O O O) (fun _=>(aD pE [0] O)) O fun _=>?_
     refine D.done<|R.reg O<|R.u 1 O<|R.nil ?_
     have hz:rowP r c=((⟨(r.ao++([(⟨x4,x5,x6,x7,x8⟩:ak)])),r.Things,r.Held,r.Notes,r.ae,r.ah⟩:aB),true):=by (exact Tl ‹_› hy1 (by omega) hC.symm ‹_› (by omega) ‹_› ‹_› ‹_› ‹_› ‹_›)
     rw [hz]
     exact R.w1 (v5,cS,dF,cE) rA [] O Tryz.results89 (RV.tmp O) O O O O
    refine Do.s (s.bs (l:=([(⟨x4,x5,x6,x7,x8⟩:ak)]:List ak)) eu bR O O O O O O O) (fun _=>(aD pE [0] O)) O fun b8=>?_
    refine D.one (i:=4) O<|Do.s (s.c (Qt.a (q.ld 4 O O cb O)) O) (fun _=>(aD pE [0] O)) O fun _=>?_
    refine D.one (i:=22) O<|Do.s (s.app 5 _ O O O (bE 0 O) ln (by (simp;omega)) (by (simp;omega)) (fun _=>rfl) O) (fun _=>(aD pE [0] O)) O fun v6=>?_
    refine D.q (i:=23) O (aD pE [0] O) O (q.bQ O) O<|D.q (i:=24) O (aD pE [0] O) O (q.aP O bq O) O<|D.one (i:=25) O<|Do.s (s.fR 4 _ O O O (fun w hw=>Sl.cq (hw.row 5 O)) (.inr ⟨cb,rfl⟩) (fun w hw=>(af (Sl.one (hw.row 5 O)) aO)) O O O) (fun _=>(aD pE [0] O)) O fun _=>?_
    refine D.done<|R.reg O<|R.u 1 O<|R.nil ?_
    have hz:rowP r c=((⟨(r.ao++([(⟨x4,x5,x6,x7,x8⟩:ak)])),r.Things,r.Held,r.Notes,r.ae,r.ah⟩:aB),true):=by (exact Tl ‹_› hy1 (by omega) hC.symm ‹_› (by omega) ‹_› ‹_› ‹_› ‹_› ‹_›)
    rw [hz]
    exact R.w1 (v6,cS,dF,cE) rA [] O Tryz.results89 (RV.tmp O) O O O O
   refine R.qg O (q.nA O O) O<|R.u 1 O<|R.nil<|R.az O O<|R.reg O<|R.u 1 O<|R.nil ?_
   have hz:rowP r c=(r,false):=by (exact BV ‹_› hy1 (by omega) (.inr (.inr (by omega))))
   rw [hz]
   exact R.w1 (cK,cS,dF,cE) mP [] O Tryz.results89 (RV.tmp O) O O O O
  rw [h20]
  refine R.u 5 O<|R.nil<|R.az O O<|R.reg O<|R.u 1 O<|R.nil ?_
  have hz:rowP r c=(r,false):=by (exact BV ‹_› hy1 (by omega) (.inr (.inl ‹_›)))
  rw [hz]
  exact R.w1 (cK,cS,dF,cE) mP [] O Tryz.results89 (RV.tmp O) O O O O
 refine R.q (q.eX O O) O<|R.u 1 O<|R.nil<|R.aC O O<|R.reg O<|R.q (q.aP O cY O) O<|R.q (q.ld 1 O O bF O) O<|R.s O (s.aT fj [0] _ _ _ O O O wD O O (fun w own hw H=>lH c.Val 2 w own H (by omega)) O) fun z5=>?_
 refine R.u 5 O<|R.nil<|R.reg O<|R.q (q.aP O bH O) O<|R.q (q.ld 2 O O bF O) O<|?_
 by_cases h22:c.Key=⟨#[120]⟩
 .
  refine R.q (q.uD O O h22) O<|R.u 2 O<|R.qg O (q.not O) O<|R.u 2 O<|?_
  rcases Bool.eq_false_or_eq_true (eG c.Val 2) with h23|h23
  .
   rw [h23]
   refine R.qg O (q.aP O cY O) O<|R.qg O (q.ld 2 O O bF O) O<|R.qg O (q.iy O Tryz.underlying9) O<|?_
   by_cases WI:c.Val.size=8
   .
    refine R.qg O (q.nB O O) O<|R.u 1 O<|R.nil<|R.aC O O ?_
    have WJ:=qt (s:=c.Val) (m:=2) ‹_›
    obtain ⟨x9,Vi⟩:∃z,(numsL c.Val 2)[0]? = some z:=⟨_,List.getElem?_eq_getElem (by omega)⟩
    obtain ⟨x10,Tn⟩:∃z,(numsL c.Val 2)[1]? = some z:=⟨_,List.getElem?_eq_getElem (by omega)⟩
    refine R.fP (fuel:=14) mb O O mixed O<|D.q (i:=0) O (aD mb [0] O) O (q.mv O) O<|D.q (i:=1) O (aD mb [0] O) O (q.mv O) O<|D.q (i:=2) O (aD mb [0] O) O (q.mv O) O<|D.q (i:=3) O (aD mb [0] O) O (q.idx (i:=0) (bE 0 O) O O dc O Vi) O<|D.q (i:=4) O (aD mb [0] O) O (q.lw (bE 0 O) Vi O au O) O<|D.q (i:=5) O (aD mb [0] O) O (q.mv O) O<|D.q (i:=6) O (aD mb [0] O) O (q.idx (i:=1) (bE 0 O) O O dc O Tn) O<|D.q (i:=7) O (aD mb [0] O) O (q.lw (bE 0 O) Tn O au O) O<|D.q (i:=8) O (aD mb [0] O) O (q.bQ O) O<|D.q (i:=9) O (aD mb [0] O) O (q.aP O cR O) O<|D.one (i:=10) O<|Do.s (s.st 3 _ O O O O (.inr ⟨au,rfl⟩) O O O O) (fun _=>(aD mb [0] O)) O fun _=>?_
    refine D.q (i:=11) O (aD mb [0] O) O (q.bQ O) O<|D.q (i:=12) O (aD mb [0] O) O (q.aP O eH O) O<|D.one (i:=13) O<|Do.s (s.st 3 _ O O O O (.inr ⟨au,rfl⟩) O O O O) (fun _=>(aD mb [0] O)) O fun _=>?_
    refine D.done<|R.reg O<|R.u 1 O<|R.nil ?_
    have hz:rowP r c=((⟨r.ao,r.Things,r.Held,r.Notes,x9,x10⟩:aB),true):=by (exact UK ‹_› hy1 (by omega) (by omega) (by omega) ‹_› ‹_› (by omega) ‹_› ‹_›)
    rw [hz]
    exact R.w1 (cK,cS,dF,cE) mP [] O Tryz.results89 (RV.tmp O) O O O O
   refine R.qg O (q.nA O O) O<|R.u 1 O<|R.nil<|R.az O O<|R.reg O<|R.u 1 O<|R.nil ?_
   have hz:rowP r c=(r,false):=by (exact BW ‹_› hy1 (by omega) (by omega) (by omega) (.inr (.inr (by omega))))
   rw [hz]
   exact R.w1 (cK,cS,dF,cE) mP [] O Tryz.results89 (RV.tmp O) O O O O
  rw [h23]
  refine R.u 5 O<|R.nil<|R.az O O<|R.reg O<|R.u 1 O<|R.nil ?_
  have hz:rowP r c=(r,false):=by (exact BW ‹_› hy1 (by omega) (by omega) (by omega) (.inr (.inl ‹_›)))
  rw [hz]
  exact R.w1 (cK,cS,dF,cE) mP [] O Tryz.results89 (RV.tmp O) O O O O
 refine R.q (q.yW O O h22) O<|R.u 10 O<|R.nil<|R.az O O<|R.reg O<|R.u 1 O<|R.nil ?_
 have hz:rowP r c=(r,false):=by (exact BW ‹_› hy1 (by omega) (by omega) (by omega) (.inl ‹_›))
 rw [hz]
 exact R.w1 (cK,cS,dF,cE) mP [] O Tryz.results89 (RV.tmp O) O O O O
end
theorem hk0 (h:Held):∃l,bl (hrow h).Key=104::l:=⟨_,by show bl (kH++gQ h.Place.aA++gQ h.Place.Slot)=_;rw [iL,iL];rfl⟩
def Wk (t:aF):Bool:=decide ((t.Kind=1∨t.Kind=2/\t.Data.size=0)/\t.Data.size<=8)
def xr (a b:Int):Change:=⟨kX,bM a++bM b,false⟩
structure Kinds (l:List Change)(hs:List Held)(ts:List aF)(ws:List ak)(xs:List Change):Prop where
  eq:l=hs.map hrow++ts.map lZ++ws.map oc++xs
  h:∀x∈hs,aY x.Place=0
  t:∀x∈ts,Wk x=true
  x:(xs=[] /\ ∀r:aB,l.foldl tE r=⟨r.ao++ws,r.Things++ts,r.Held++hs,r.Notes,r.ae,r.ah⟩) ∨ ∃a b,xs=[xr a b] /\ ∀r:aB,l.foldl tE r=⟨r.ao++ws,r.Things++ts,r.Held++hs,r.Notes,a,b⟩
theorem yk {z:aB}(h:Inv z)(hn:z.Notes=[]):bm z=z:=by
 obtain ⟨a,b,c,d,e,f⟩:=z
 simp only at hn;subst hn
 exact xZ h
section
open Go Go.RowKit
theorem D4 {b:Bool}(h:(!b)=true):b=false:=by cases b <;> simp_all
theorem D5 {b:Bool}(h:(!b)=false):b=true:=by cases b <;> simp_all
theorem QG {α β:Type}{f:α->β}{L:List α}{k:Nat}{x:α}(hx:L[k]? = some x)(hm:f x∈(L.take k).map f):¬ (L.map f).Nodup:=fun hn=>by
 have hk:=(List.getElem?_eq_some_iff.1 hx).1
 rw [<- List.take_append_drop k L,List.map_append] at hn
 have h2:f x∈(L.drop k).map f:=List.mem_map.2 ⟨x,List.mem_of_getElem? (i:=0) (by rw [List.getElem?_drop,Nat.add_zero];exact hx),rfl⟩
 exact (List.nodup_append.1 hn).2.2 _ hm _ h2 rfl
theorem FE {l:List Int}{x:Int}(h:l.Nodup)(hx:¬ x∈l):(l++[x]).Nodup:=by
 rw [List.nodup_append]
 exact ⟨h,(List.nodup_cons.2 ⟨(by simp),List.nodup_nil⟩),fun a ha b hb e=>hx (by rw [List.mem_singleton.1 hb] at e;rw [<- e];exact ha)⟩
section
variable {r:aB} {k:Nat} {x:Held} {seen ts:List Int}
theorem Ni (hx:r.Held[k]? = some x)(h:cI r.ao x.ak<0):dZ r=false:=gv fun hw=>by
 have:=hw.eQ x (List.mem_of_getElem? hx);omega
theorem QH (hx:r.Held[k]? = some x)(hs:seen=(r.Held.take k).map Held.ak)(h:x.ak∈seen):dZ r=false:=gv fun hw=>QG hx (hs▸h) hw.once
theorem IE (ht:ts=(r.Things.take k).map aF.ID)(hk:r.Things.length<=k)(h:¬ ts=bV r.ao):dZ r=false:=gv fun hw=>h (by rw [ht,List.take_of_length_le hk];exact hw.things)
theorem Tp {x:ak}(hx:r.ao[r.ao.length-1]? = some x)(h:¬ x.ID<r.ae):dZ r=false:=gv fun hw=>h (hw.Oy x (by rw [List.getLast?_eq_getElem?];exact hx))
theorem D6 {α β:Type}{f:α->β}{L:List α}{y:β}(h:(L.map f)[(L.map f).length-1]? = some y):∃x,L.getLast? = some x/\f x=y:=by
 rw [List.getElem?_map,List.length_map,<- List.getLast?_eq_getElem?] at h
 obtain ⟨x,h1,h2⟩:=Option.map_eq_some_iff.1 h
 exact ⟨x,h1,h2⟩
theorem OD {y:Int}(ht:ts=(r.Things.take k).map aF.ID)(hk:r.Things.length<=k)(hy:ts[ts.length-1]? = some y)(h:¬ y<r.ah):dZ r=false:=gv fun hw=>by
 subst ht;rw [List.take_of_length_le hk] at hy
 obtain ⟨x,h1,h2⟩:=D6 hy
 exact h (h2▸hw.Oz x h1)
theorem BX (a1:ef r.ao=0)(a2:r.Things.length<=10)(a3:1<=r.ae/\r.ae<=1000)(a5:1<=r.ah/\r.ah<=1000)(a7:r.Held.length=r.ao.length){i:Nat}(hs:seen=(r.Held.take i).map Held.ak)(hi:r.Held.length<=i)
 (hf:∀h∈r.Held.take i,0<=cI r.ao h.ak) (hn:seen.Nodup) (ht:ts=(r.Things.take k).map aF.ID) (hk:r.Things.length<=k) (he:ts=bV r.ao) (hw:r.ao.length=0 ∨ ∃x,r.ao[r.ao.length-1]? = some x/\x.ID<r.ae) (hl:ts.length=0 ∨ ∃y,ts[ts.length-1]? = some y/\y<r.ah):dZ r=true:=by
 rw [List.take_of_length_le hi] at hs hf
 rw [List.take_of_length_le hk] at ht
 refine yc ⟨a1,a2,a3.1,a3.2,a5.1,a5.2,a7,hf,hs▸hn,ht.symm.trans he,fun w hq=>?_,fun t hq=>?_⟩
 .
  rcases hw with hw|⟨x,h1,h2⟩
  .rw [List.eq_nil_of_length_eq_zero hw] at hq;cases hq
  .rw [List.getLast?_eq_getElem?,h1] at hq;injection hq with hq;rw [<- hq];exact h2
 .
  rcases hl with hl|⟨y,h1,h2⟩
  .rw [ht,List.length_map] at hl;rw [List.eq_nil_of_length_eq_zero hl] at hq;cases hq
  .
   subst ht
   obtain ⟨x,h3,h4⟩:=D6 h1
   rw [h3] at hq;injection hq with hq;rw [<- hq,h4];exact h2
end
theorem IG (bU bJ bK bL:Value)(r:aB)(w:World)(own:List Nat)(H:HN w own [] [ag.ls bU r.ao,ag.ls bJ r.Things,ag.ls bK r.Held,ag.ls bL r.Notes])(hr:r.ao.length<=1000/\r.Things.length<=1000/\r.Held.length<=1000):RC Tryz.prog 90 #[.agg #[bU,bJ,bK,bL,iV r.ae,iV r.ah]] H (fun _:Unit => .bool (dZ r)) (fun _=>[]) (fun _=>[]):=by
 have eJ:=H.ck 0 rfl
 have dK:=H.ck 1 rfl
 have fI:=H.ck 2 rfl
 have eK:=H.ck 3 rfl
 refine R.bD [(0,.agg #[bU,bJ,bK,bL,iV r.ae,iV r.ah])] Tryz.func90 O O O O H<|R.reg O<|R.s O (s.box O O O) fun b1=>?_
 refine R.u 1 O<|R.nil<|R.reg O<|R.q (q.aP O bq O) O<|R.q (q.ld 0 O O cb O) O<|R.c (q.call Pp O O (fun w hw=>(yI _ r.ao w (hw.bN 0 O) ))) O<|?_
 by_cases h1:ef r.ao=0
 .
  refine R.q (q.dq O O Tryz.underlying38) O<|R.u 1 O<|R.qg O (q.aP O du O) O<|R.qg O (q.ld 0 O O eR O) O<|R.qg O (q.len' (dx 1 O) O Tryz.underlying44) O<|?_
  by_cases h2:10<r.Things.length
  .
   refine R.qg O (q.eM O O) O<|R.u 30 O<|R.nil<|R.az O O<|R.reg O<|R.u 1 O<|R.nil ?_
   have hz:dZ r=false:=by (exact gv (fun hw=>by have a1:ef r.ao=0:=hw.tree;have a2:=hw.jl;have a3:=hw.oS;have a4:=hw.qX;have a5:=hw.py;have a6:=hw.pz;have a7:=hw.hlen;omega))
   rw [hz]
   exact R.w1 () [1] [] O Tryz.results90 (RV.tmp O) O O O O
  refine R.qg O (q.ey O O) O<|R.u 2 O<|R.qg O (q.aP O cR O) O<|R.qg O (q.ld 0 O O au O) O<|?_
  by_cases h3:r.ae<1
  .
   refine R.qg O (q.dD O O) O<|R.u 25 O<|R.nil<|R.az O O<|R.reg O<|R.u 1 O<|R.nil ?_
   have hz:dZ r=false:=by (exact gv (fun hw=>by have a1:ef r.ao=0:=hw.tree;have a2:=hw.jl;have a3:=hw.oS;have a4:=hw.qX;have a5:=hw.py;have a6:=hw.pz;have a7:=hw.hlen;omega))
   rw [hz]
   exact R.w1 () [1] [] O Tryz.results90 (RV.tmp O) O O O O
  refine R.qg O (q.cU O O) O<|R.u 2 O<|R.qg O (q.aP O cR O) O<|R.qg O (q.ld 0 O O au O) O<|?_
  by_cases h4:1000<r.ae
  .
   refine R.qg O (q.eM O O) O<|R.u 20 O<|R.nil<|R.az O O<|R.reg O<|R.u 1 O<|R.nil ?_
   have hz:dZ r=false:=by (exact gv (fun hw=>by have a1:ef r.ao=0:=hw.tree;have a2:=hw.jl;have a3:=hw.oS;have a4:=hw.qX;have a5:=hw.py;have a6:=hw.pz;have a7:=hw.hlen;omega))
   rw [hz]
   exact R.w1 () [1] [] O Tryz.results90 (RV.tmp O) O O O O
  refine R.qg O (q.ey O O) O<|R.u 2 O<|R.qg O (q.aP O eH O) O<|R.qg O (q.ld 0 O O au O) O<|?_
  by_cases h5:r.ah<1
  .
   refine R.qg O (q.dD O O) O<|R.u 15 O<|R.nil<|R.az O O<|R.reg O<|R.u 1 O<|R.nil ?_
   have hz:dZ r=false:=by (exact gv (fun hw=>by have a1:ef r.ao=0:=hw.tree;have a2:=hw.jl;have a3:=hw.oS;have a4:=hw.qX;have a5:=hw.py;have a6:=hw.pz;have a7:=hw.hlen;omega))
   rw [hz]
   exact R.w1 () [1] [] O Tryz.results90 (RV.tmp O) O O O O
  refine R.qg O (q.cU O O) O<|R.u 2 O<|R.qg O (q.aP O eH O) O<|R.qg O (q.ld 0 O O au O) O<|?_
  by_cases h6:1000<r.ah
  .
   refine R.qg O (q.eM O O) O<|R.u 10 O<|R.nil<|R.az O O<|R.reg O<|R.u 1 O<|R.nil ?_
   have hz:dZ r=false:=by (exact gv (fun hw=>by have a1:ef r.ao=0:=hw.tree;have a2:=hw.jl;have a3:=hw.oS;have a4:=hw.qX;have a5:=hw.py;have a6:=hw.pz;have a7:=hw.hlen;omega))
   rw [hz]
   exact R.w1 () [1] [] O Tryz.results90 (RV.tmp O) O O O O
  refine R.qg O (q.ey O O) O<|R.u 2 O<|R.qg O (q.aP O cQ O) O<|R.qg O (q.ld 0 O O dV O) O<|R.qg O (q.len' (dx 2 O) O Tryz.underlying45) O<|R.qg O (q.aP O bq O) O<|R.qg O (q.ld 0 O O cb O) O<|R.qg O (q.len' (dx 0 O) O Tryz.underlying43) O<|?_
  by_cases h7:r.Held.length=r.ao.length
  .
   refine R.qg O (q.nB O O) O<|R.u 1 O<|R.nil<|R.aC O O<|R.reg O<|R.u 1 O<|R.nil<|R.reg O<|R.q (q.aP O cQ O) O<|R.q (q.ld 0 O O dV O) O<|R.q (q.len' (dx 2 O) O Tryz.underlying45) O<|R.u 1 O<|R.nil<|R.row0 (α:=Int) 3<|R.loop (fun g_:Nat×Value×(List Int)=>[(1,.pointer (some ⟨b1,0,none⟩)),(3,g_.2.1),(49,bK),(50,iV (r.Held.length:Int)),(51,iV (g_.1:Int))]) (fun g_=>[ag.row 3 g_.2.1 g_.2.2,ag.box b1 [bU,bJ,bK,bL,iV r.ae,iV r.ah] 48,ag.held w own]) (fun g_=>[ag.ls bU r.ao,ag.ls bJ r.Things,ag.ls bK r.Held,ag.ls bL r.Notes]) (fun g_=>g_.1<=r.Held.length/\g_.2.2=(r.Held.take g_.1).map Held.ak/\(∀h∈r.Held.take g_.1,0<=cI r.ao h.ak)/\g_.2.2.Nodup) (fun g_=>r.Held.length-g_.1) (0,(nS),[]) O (by exact ⟨by omega,rfl,(by intro h hh;simp at hh),List.nodup_nil⟩) (sF O) (iz [0,1,2] bI O) ?_
   rintro ⟨k,u,seen⟩ ⟨hk,HS,HF,HN⟩
   dsimp only at *
   have ll:seen.length<=1000:=by rw [HS,List.length_map,List.length_take];omega
   refine R.reg O<|?_
   by_cases h8:k<r.Held.length
   .
    refine R.q (q.dD O O) O<|R.nil<|R.az O O<|R.reg O<|?_
    obtain ⟨x1,hx1⟩:∃z,r.Held[k]? = some z:=⟨_,List.getElem?_eq_getElem (by omega)⟩
    refine R.q (q.idx (i:=k) (dx 2 O) O O cM O hx1) O<|R.q (q.gk (ds:=pF x1) (dx 2 O) hx1 O gy O) O<|R.s O (s.alloc gW O O) fun b2=>?_
    refine R.s O (s.st 0 _ O O O O (.inl gy) O O O O) fun _=>?_
    refine R.nil<|R.reg O<|R.q (q.aP O bq O) O<|R.q (q.ld 2 O O cb O) O<|R.q (q.aP O jQ O) O<|R.q (q.ld 0 O O au O) O<|?_
    rcases ft r.ao x1.ak with ⟨gS,Ey⟩ | ⟨Dq,lW,gS,vh,S4⟩
    .
     refine R.c (q.call lJ O O (fun w hw=>(cv (congrArg (Value.int .i64) gS) (iC _ r.ao x1.ak w (hw.bN 0 O) )))) O<|R.q (q.lss (b:=true) O O (by decide)) O<|R.u 6 O<|R.nil ?_
     refine R.az O O<|R.reg O<|R.u 1 O<|R.nil ?_
     have hz:dZ r=false:=by (exact Ni hx1 (by omega))
     rw [hz]
     exact R.w1 () [3] [] O Tryz.results90 (RV.tmp O) O O O O
    refine R.c (q.call lJ O O (fun w hw=>(cv (congrArg (Value.int .i64) gS) (iC _ r.ao x1.ak w (hw.bN 0 O) )))) O<|R.q (q.cU O O) O<|R.u 2 O<|R.qg O (q.aP O jQ O) O<|R.qg O (q.ld 0 O O au O) O<|?_
    rcases Bool.eq_false_or_eq_true (decide (x1.ak∈seen)) with h9|h9
    .
     refine R.cg O (q.call pP O O (fun w hw=>(cv (congrArg Value.bool h9) (fO _ seen x1.ak w (hw.row 1 O) )))) O<|R.u 1 O<|R.nil<|R.az O O<|R.reg O<|R.u 1 O<|R.nil ?_
     have hz:dZ r=false:=by (exact QH hx1 HS (of_decide_eq_true ‹_›))
     rw [hz]
     exact R.w1 () [3] [] O Tryz.results90 (RV.tmp O) O O O O
    refine R.cg O (q.call pP O O (fun w hw=>(cv (congrArg Value.bool h9) (fO _ seen x1.ak w (hw.row 1 O) )))) O<|R.u 1 O<|R.nil<|R.aC O O<|R.reg O<|R.u 1 O<|R.q (q.aP O jQ O) O<|R.q (q.ld 0 O O au O) O<|R.s O (s.bs (l:=([x1.ak]:List Int)) dc lV O O O O O O O) fun b3=>?_
    refine R.s O (s.app 2 _ O O O (bE 0 O) nL (by (simp;omega)) (by (simp;omega)) (fun _=>rfl) O) fun v1=>?_
    refine R.u 1 O<|R.nil<|R.reg O<|R.q (q.bC (r:=((k+1:Nat):Int)) O O) O<|R.u 1 O<|R.nil<|R.back (k+1,v1,(seen++([x1.ak]))) O (by (exact ⟨by omega,by rw [qp Held.ak hx1,<- HS],(by rw [List.take_add_one,hx1];intro h hh;rcases List.mem_append.1 hh with hh|hh;exact HF h hh;rw [List.mem_singleton.1 hh];omega),FE HN (of_decide_eq_false ‹_›)⟩)) (by dsimp only;omega) (sF O) (aD [2,3,4] bI O)
   refine R.q (q.cU O O) O<|R.nil<|R.aC O O<|R.reg O<|R.u 1 O<|R.nil<|R.reg O<|R.q (q.aP O du O) O<|R.q (q.ld 1 O O eR O) O<|R.q (q.len' (dx 1 O) O Tryz.underlying44) O<|R.u 1 O<|R.nil<|R.row0 (α:=Int) 3<|R.loop (fun g_:Nat×Value×(List Int)=>[(1,.pointer (some ⟨b1,0,none⟩)),(6,g_.2.1),(74,bJ),(75,iV (r.Things.length:Int)),(76,iV (g_.1:Int))]) (fun g_=>[ag.row 3 g_.2.1 g_.2.2,ag.row 3 u seen,ag.box b1 [bU,bJ,bK,bL,iV r.ae,iV r.ah] 48,ag.held w own]) (fun g_=>[ag.ls bU r.ao,ag.ls bJ r.Things,ag.ls bK r.Held,ag.ls bL r.Notes]) (fun g_=>g_.1<=r.Things.length/\g_.2.2=(r.Things.take g_.1).map aF.ID) (fun g_=>r.Things.length-g_.1) (0,(nS),[]) O (by exact ⟨by omega,rfl⟩) (sF O) (iz bI bI O) ?_
   rintro ⟨j,u2,ts⟩ ⟨hj,HT⟩
   dsimp only at *
   have Vg:ts.length<=1000:=by rw [HT,List.length_map,List.length_take];omega
   refine R.reg O<|?_
   by_cases h10:j<r.Things.length
   .
    refine R.q (q.dD O O) O<|R.nil<|R.az O O<|R.reg O<|?_
    obtain ⟨x2,hx2⟩:∃z,r.Things[j]? = some z:=⟨_,List.getElem?_eq_getElem (by omega)⟩
    refine R.q (q.idx (i:=j) (dx 1 O) O O kg O hx2) O<|R.q (q.gk (ds:=vv x2) (dx 1 O) hx2 O jD O) O<|R.s O (s.alloc jo O O) fun b4=>?_
    refine R.s O (s.st 0 _ O O O O (.inl jD) O O O O) fun _=>?_
    refine R.nil<|R.reg O<|R.u 1 O<|R.q (q.aP O ou O) O<|R.q (q.ld 0 O O au O) O<|R.s O (s.bs (l:=([x2.ID]:List Int)) dc lV O O O O O O O) fun b5=>?_
    refine R.s O (s.app 2 _ O O O (bE 0 O) nL (by (simp;omega)) (by (simp;omega)) (fun _=>rfl) O) fun v2=>?_
    refine R.u 1 O<|R.nil<|R.reg O<|R.q (q.bC (r:=((j+1:Nat):Int)) O O) O<|R.u 1 O<|R.nil<|R.back (j+1,v2,(ts++([x2.ID]))) O (by (exact ⟨by omega,by rw [qp aF.ID hx2,<- HT]⟩)) (by dsimp only;omega) (sF O) (aD [2,3,4,5] bI O)
   refine R.q (q.cU O O) O<|R.nil<|R.aC O O<|R.reg O<|R.u 1 O<|R.q (q.aP O bq O) O<|R.q (q.ld 2 O O cb O) O<|R.s O (s.vU Js O O (fun w hw=>uP _ r.ao w (hw.bN 0 O) (by omega)) O) fun v3=>?_
   rcases Bool.eq_false_or_eq_true (decide (ts=(bV r.ao))) with h11|h11
   .
    refine R.c (q.call Jz O O (fun w hw=>(cv (congrArg Value.bool h11) (yj _ ts _ (bV r.ao) w (hw.row 1 O) (hw.row 0 O) )))) O<|R.u 1 O<|R.nil ?_
    refine R.aC O O ?_
    by_cases h12:r.ao.length=0
    .
     by_cases UZ:ts.length=0
     .
      refine R.fa O mixed (by kernel_rfl)<|Q.q (q.aP O bq O) O<|Q.q (q.ld 3 O O cb O) O<|Q.q (q.len' (dx 0 O) O Tryz.underlying43) O<|Q.q (q.fJ O O) O<|Q.u 16 O<|Q.qg O (q.len' (bE 1 O) O Tryz.underlying159) O<|Q.qg O (q.fJ O O) O<|Q.u 13 O<|Q.nil ?_
      have hz:dZ r=true:=by (exact BX (by omega) (by omega) (by omega) (by omega) (by omega) HS (by omega) HF HN HT (by omega) (of_decide_eq_true ‹_›) (.inl (by omega)) (.inl (by omega)))
      rw [hz]
      exact R.w1 () [4] [] O Tryz.results90 (RV.tmp O) O O O O
     obtain ⟨x3,hx3⟩:∃z,ts[(ts.length-1)]? = some z:=⟨_,List.getElem?_eq_getElem (by omega)⟩
     by_cases U0:x3<r.ah
     .
      refine R.fa O mixed (by kernel_rfl)<|Q.q (q.aP O bq O) O<|Q.q (q.ld 3 O O cb O) O<|Q.q (q.len' (dx 0 O) O Tryz.underlying43) O<|Q.q (q.fJ O O) O<|Q.u 16 O<|Q.qg O (q.len' (bE 1 O) O Tryz.underlying159) O<|Q.qg O (q.eX O O) O<|Q.u 3 O<|Q.qg O (q.len' (bE 1 O) O Tryz.underlying159) O<|Q.qg O (q.lU (r:=((ts.length-1:Nat):Int)) O O) O<|Q.qg O (q.idx (i:=(ts.length-1)) (bE 1 O) O O dc O hx3) O<|Q.qg O (q.lw (bE 1 O) hx3 O au O) O<|Q.qg O (q.aP O eH O) O<|Q.qg O (q.ld 3 O O au O) O<|Q.qg O (q.dD O O) O<|Q.u 3 O<|Q.nil ?_
      have hz:dZ r=true:=by (exact BX (by omega) (by omega) (by omega) (by omega) (by omega) HS (by omega) HF HN HT (by omega) (of_decide_eq_true ‹_›) (.inl (by omega)) (.inr ⟨_,hx3,by assumption⟩))
      rw [hz]
      exact R.w1 () [4] [] O Tryz.results90 (RV.tmp O) O O O O
     refine R.fa O mixed (by kernel_rfl)<|Q.q (q.aP O bq O) O<|Q.q (q.ld 3 O O cb O) O<|Q.q (q.len' (dx 0 O) O Tryz.underlying43) O<|Q.q (q.fJ O O) O<|Q.u 16 O<|Q.qg O (q.len' (bE 1 O) O Tryz.underlying159) O<|Q.qg O (q.eX O O) O<|Q.u 3 O<|Q.qg O (q.len' (bE 1 O) O Tryz.underlying159) O<|Q.qg O (q.lU (r:=((ts.length-1:Nat):Int)) O O) O<|Q.qg O (q.idx (i:=(ts.length-1)) (bE 1 O) O O dc O hx3) O<|Q.qg O (q.lw (bE 1 O) hx3 O au O) O<|Q.qg O (q.aP O eH O) O<|Q.qg O (q.ld 3 O O au O) O<|Q.qg O (q.cU O O) O<|Q.u 3 O<|Q.nil ?_
     have hz:dZ r=false:=by (exact OD HT (by omega) hx3 ‹_›)
     rw [hz]
     exact R.w1 () [4] [] O Tryz.results90 (RV.tmp O) O O O O
    obtain ⟨x4,hx4⟩:∃z,r.ao[(r.ao.length-1)]? = some z:=⟨_,List.getElem?_eq_getElem (by omega)⟩
    by_cases U1:x4.ID<r.ae
    .
     by_cases h16:ts.length=0
     .
      refine R.fa O mixed (by kernel_rfl)<|Q.q (q.aP O bq O) O<|Q.q (q.ld 3 O O cb O) O<|Q.q (q.len' (dx 0 O) O Tryz.underlying43) O<|Q.q (q.eX O O) O<|Q.u 1 O<|Q.qg O (q.aP O bq O) O<|Q.qg O (q.ld 3 O O cb O) O<|Q.qg O (q.aP O bq O) O<|Q.qg O (q.ld 3 O O cb O) O<|Q.qg O (q.len' (dx 0 O) O Tryz.underlying43) O<|Q.qg O (q.lU (r:=((r.ao.length-1:Nat):Int)) O O) O<|Q.qg O (q.idx (i:=(r.ao.length-1)) (dx 0 O) O O eu O hx4) O<|Q.qg O (q.nD (j':=0) (dx 0 O) hx4 O bX O) O<|Q.qg O (q.lw (dx 0 O) hx4 O au O) O<|Q.qg O (q.aP O cR O) O<|Q.qg O (q.ld 3 O O au O) O<|Q.qg O (q.dD O O) O<|Q.u 3 O<|Q.qg O (q.len' (bE 1 O) O Tryz.underlying159) O<|Q.qg O (q.fJ O O) O<|Q.u 13 O<|Q.nil ?_
      have hz:dZ r=true:=by (exact BX (by omega) (by omega) (by omega) (by omega) (by omega) HS (by omega) HF HN HT (by omega) (of_decide_eq_true ‹_›) (.inr ⟨_,hx4,by assumption⟩) (.inl (by omega)))
      rw [hz]
      exact R.w1 () [4] [] O Tryz.results90 (RV.tmp O) O O O O
     obtain ⟨x5,hx5⟩:∃z,ts[(ts.length-1)]? = some z:=⟨_,List.getElem?_eq_getElem (by omega)⟩
     by_cases U2:x5<r.ah
     .
      refine R.fa O mixed (by kernel_rfl)<|Q.q (q.aP O bq O) O<|Q.q (q.ld 3 O O cb O) O<|Q.q (q.len' (dx 0 O) O Tryz.underlying43) O<|Q.q (q.eX O O) O<|Q.u 1 O<|Q.qg O (q.aP O bq O) O<|Q.qg O (q.ld 3 O O cb O) O<|Q.qg O (q.aP O bq O) O<|Q.qg O (q.ld 3 O O cb O) O<|Q.qg O (q.len' (dx 0 O) O Tryz.underlying43) O<|Q.qg O (q.lU (r:=((r.ao.length-1:Nat):Int)) O O) O<|Q.qg O (q.idx (i:=(r.ao.length-1)) (dx 0 O) O O eu O hx4) O<|Q.qg O (q.nD (j':=0) (dx 0 O) hx4 O bX O) O<|Q.qg O (q.lw (dx 0 O) hx4 O au O) O<|Q.qg O (q.aP O cR O) O<|Q.qg O (q.ld 3 O O au O) O<|Q.qg O (q.dD O O) O<|Q.u 3 O<|Q.qg O (q.len' (bE 1 O) O Tryz.underlying159) O<|Q.qg O (q.eX O O) O<|Q.u 3 O<|Q.qg O (q.len' (bE 1 O) O Tryz.underlying159) O<|Q.qg O (q.lU (r:=((ts.length-1:Nat):Int)) O O) O<|Q.qg O (q.idx (i:=(ts.length-1)) (bE 1 O) O O dc O hx5) O<|Q.qg O (q.lw (bE 1 O) hx5 O au O) O<|Q.qg O (q.aP O eH O) O<|Q.qg O (q.ld 3 O O au O) O<|Q.qg O (q.dD O O) O<|Q.u 3 O<|Q.nil ?_
      have hz:dZ r=true:=by (exact BX (by omega) (by omega) (by omega) (by omega) (by omega) HS (by omega) HF HN HT (by omega) (of_decide_eq_true ‹_›) (.inr ⟨_,hx4,by assumption⟩) (.inr ⟨_,hx5,by assumption⟩))
      rw [hz]
      exact R.w1 () [4] [] O Tryz.results90 (RV.tmp O) O O O O
     refine R.fa O mixed (by kernel_rfl)<|Q.q (q.aP O bq O) O<|Q.q (q.ld 3 O O cb O) O<|Q.q (q.len' (dx 0 O) O Tryz.underlying43) O<|Q.q (q.eX O O) O<|Q.u 1 O<|Q.qg O (q.aP O bq O) O<|Q.qg O (q.ld 3 O O cb O) O<|Q.qg O (q.aP O bq O) O<|Q.qg O (q.ld 3 O O cb O) O<|Q.qg O (q.len' (dx 0 O) O Tryz.underlying43) O<|Q.qg O (q.lU (r:=((r.ao.length-1:Nat):Int)) O O) O<|Q.qg O (q.idx (i:=(r.ao.length-1)) (dx 0 O) O O eu O hx4) O<|Q.qg O (q.nD (j':=0) (dx 0 O) hx4 O bX O) O<|Q.qg O (q.lw (dx 0 O) hx4 O au O) O<|Q.qg O (q.aP O cR O) O<|Q.qg O (q.ld 3 O O au O) O<|Q.qg O (q.dD O O) O<|Q.u 3 O<|Q.qg O (q.len' (bE 1 O) O Tryz.underlying159) O<|Q.qg O (q.eX O O) O<|Q.u 3 O<|Q.qg O (q.len' (bE 1 O) O Tryz.underlying159) O<|Q.qg O (q.lU (r:=((ts.length-1:Nat):Int)) O O) O<|Q.qg O (q.idx (i:=(ts.length-1)) (bE 1 O) O O dc O hx5) O<|Q.qg O (q.lw (bE 1 O) hx5 O au O) O<|Q.qg O (q.aP O eH O) O<|Q.qg O (q.ld 3 O O au O) O<|Q.qg O (q.cU O O) O<|Q.u 3 O<|Q.nil ?_
     have hz:dZ r=false:=by (exact OD HT (by omega) hx5 ‹_›)
     rw [hz]
     exact R.w1 () [4] [] O Tryz.results90 (RV.tmp O) O O O O
    refine R.fa O mixed (by kernel_rfl)<|Q.q (q.aP O bq O) O<|Q.q (q.ld 3 O O cb O) O<|Q.q (q.len' (dx 0 O) O Tryz.underlying43) O<|Q.q (q.eX O O) O<|Q.u 1 O<|Q.qg O (q.aP O bq O) O<|Q.qg O (q.ld 3 O O cb O) O<|Q.qg O (q.aP O bq O) O<|Q.qg O (q.ld 3 O O cb O) O<|Q.qg O (q.len' (dx 0 O) O Tryz.underlying43) O<|Q.qg O (q.lU (r:=((r.ao.length-1:Nat):Int)) O O) O<|Q.qg O (q.idx (i:=(r.ao.length-1)) (dx 0 O) O O eu O hx4) O<|Q.qg O (q.nD (j':=0) (dx 0 O) hx4 O bX O) O<|Q.qg O (q.lw (dx 0 O) hx4 O au O) O<|Q.qg O (q.aP O cR O) O<|Q.qg O (q.ld 3 O O au O) O<|Q.qg O (q.cU O O) O<|Q.u 18 O<|Q.nil ?_
    have hz:dZ r=false:=by (exact Tp hx4 ‹_›)
    rw [hz]
    exact R.w1 () [4] [] O Tryz.results90 (RV.tmp O) O O O O
   refine R.c (q.call Jz O O (fun w hw=>(cv (congrArg Value.bool h11) (yj _ ts _ (bV r.ao) w (hw.row 1 O) (hw.row 0 O) )))) O<|R.u 1 O<|R.nil ?_
   refine R.az O O<|R.reg O<|R.u 1 O<|R.nil ?_
   have hz:dZ r=false:=by (exact IE HT (by omega) (of_decide_eq_false ‹_›))
   rw [hz]
   exact R.w1 () [4] [] O Tryz.results90 (RV.tmp O) O O O O
  refine R.qg O (q.nA O O) O<|R.u 1 O<|R.nil<|R.az O O<|R.reg O<|R.u 1 O<|R.nil ?_
  have hz:dZ r=false:=by (exact gv (fun hw=>by have a1:ef r.ao=0:=hw.tree;have a2:=hw.jl;have a3:=hw.oS;have a4:=hw.qX;have a5:=hw.py;have a6:=hw.pz;have a7:=hw.hlen;omega))
  rw [hz]
  exact R.w1 () [1] [] O Tryz.results90 (RV.tmp O) O O O O
 refine R.q (q.dW O O Tryz.underlying38) O<|R.u 35 O<|R.nil<|R.az O O<|R.reg O<|R.u 1 O<|R.nil ?_
 have hz:dZ r=false:=by (exact gv (fun hw=>by have a1:ef r.ao=0:=hw.tree;have a2:=hw.jl;have a3:=hw.oS;have a4:=hw.qX;have a5:=hw.py;have a6:=hw.pz;have a7:=hw.hlen;omega))
 rw [hz]
 exact R.w1 () [1] [] O Tryz.results90 (RV.tmp O) O O O O
def prevK (l:List Change)(k:Nat):Option ByteArray:=if k=0 then none else (l[k-1]?).map Change.Key
section
variable {l:List Change} {k:Nat} {x y:Change} {z:aB} {Z:Option aB}
theorem D7 (hx:l[k]? = some x):l.drop k=x::l.drop (k+1):=by
 obtain ⟨h,rfl⟩:=List.getElem?_eq_some_iff.1 hx
 exact List.drop_eq_getElem_cons h
theorem D8 (h:¬ 0<k):sk (prevK l k) x=true:=by unfold prevK;rw [if_pos (by omega)];rfl
theorem D9 (h:0<k)(hy:l[k-1]? = some y)(hl:(jx x.Key y.Key||decide (x.Key=y.Key))=false):sk (prevK l k) x=true:=by
 unfold prevK;rw [if_neg (by omega),hy];exact P4 hl
theorem Nj (h:0<k)(hy:l[k-1]? = some y)(hl:(jx x.Key y.Key||decide (x.Key=y.Key))=true):sk (prevK l k) x=false:=by
 unfold prevK;rw [if_neg (by omega),hy];exact Mx hl
theorem OE (h:x.Gone=false):(⟨x.Key,x.Val,false⟩:Change)=x:=by rw [<- h]
theorem vM (h:pgo (l.drop k) (prevK l k) z=Z)(hx:l[k]? = some x)(h1:sk (prevK l k) x=true)(h2:x.Gone=false)(h3:(rowP z ⟨x.Key,x.Val,false⟩).2=true):pgo (l.drop (k+1)) (prevK l (k+1)) (rowP z ⟨x.Key,x.Val,false⟩).1=Z:=by
 rw [OE h2] at h3 ⊢
 rw [D7 hx] at h;simp only [pgo] at h
 rw [if_pos (by rw [h1,h2,h3];rfl)] at h
 unfold prevK;rw [if_neg (by omega),Nat.add_sub_cancel,hx];exact h
theorem oW (h:pgo (l.drop k) (prevK l k) z=pgo l none r0)(hx:l[k]? = some x)(h1:sk (prevK l k) x=false∨x.Gone=true∨x.Gone=false/\(rowP z ⟨x.Key,x.Val,false⟩).2=false):bS l=(r0,4):=by
 rw [D7 hx] at h;simp only [pgo] at h
 rw [if_neg (by
  rcases h1 with e|e|⟨e1,e⟩
  .rw [e];simp
  .rw [e];simp
  .rw [OE e1] at e;rw [e];simp)] at h
 unfold bS;rw [<- h]
theorem Lu (h:pgo (l.drop k) (prevK l k) z=pgo l none r0)(hk:l.length<=k):pgo l none r0=some z:=by
 rw [List.drop_of_length_le hk] at h;exact h.symm
theorem QI (h:pgo (l.drop k) (prevK l k) z=pgo l none r0)(hk:l.length<=k)(hw:dZ z=false):bS l=(r0,4):=by
 unfold bS;rw [Lu h hk];dsimp only;rw [if_neg (by rw [hw];decide)]
theorem Tq (h:pgo (l.drop k) (prevK l k) z=pgo l none r0)(hk:l.length<=k)(hw:dZ z=true):bS l=(z,0):=by
 unfold bS;rw [Lu h hk];dsimp only;rw [if_pos hw]
theorem tF (z:aB)(x:Change):(rowP z x).1.ao.length<=z.ao.length+1/\(rowP z x).1.Things.length<=z.Things.length+1/\(rowP z x).1.Held.length<=z.Held.length+1:=by
 unfold rowP
 (repeat' split) <;> dsimp only <;> (repeat' split) <;> simp [Iv,Iw,DR,M4] <;> omega
end
attribute [local irreducible] rowP pgo bS
theorem II (bP:Value)(l:List Change)(w:World)(own:List Nat)(H:HN w own [] [ag.ls bP l,ew])(hl:l.length<=900)(hc:∀c∈l,c.Key.size<=1000/\c.Val.size<=1000):RC Tryz.prog 37 #[bP] H (fun z:Value×Value×Value×Value => .tuple #[.agg #[z.1,z.2.1,z.2.2.1,z.2.2.2,iV (bS l).1.ae,iV (bS l).1.ah],dh (bS l).2]) (fun _=>[]) (fun z=>[ag.ls z.1 (bS l).1.ao,ag.ls z.2.1 (bS l).1.Things,ag.ls z.2.2.1 (bS l).1.Held,ag.ls z.2.2.2 (bS l).1.Notes]):=by
 have yw:=H.ck 0 rfl
 refine R.bD [(0,bP)] Tryz.func37 O O O O H<|R.reg O<|R.s O (s.alloc dB O O) fun b1=>?_
 refine R.u 1 O<|R.nil<|R.reg O<|R.s O (s.alloc dB O O) fun b2=>?_
 refine R.nil<|R.reg O<|R.u 1 O<|R.q (q.len' (dx 0 O) O Tryz.underlying34) O<|R.u 1 O<|R.nil<|R.row0 (α:=ak) 127<|R.row0 (α:=aF) 100<|R.row0 (α:=Held) 124<|R.row0 (α:=Note) 89<|R.loop (fun g_:Nat×aB×Value×Value×Value×Value=>[(0,bP),(2,.pointer (some ⟨b1,0,none⟩)),(4,.pointer (some ⟨b2,0,none⟩)),(7,bP),(8,iV (l.length:Int)),(9,iV (g_.1:Int))]) (fun g_=>[ag.row 89 g_.2.2.2.2.2 g_.2.1.Notes,ag.row 124 g_.2.2.2.2.1 g_.2.1.Held,ag.row 100 g_.2.2.2.1 g_.2.1.Things,ag.row 127 g_.2.2.1 g_.2.1.ao,ag.box b2 [g_.2.2.1,g_.2.2.2.1,g_.2.2.2.2.1,g_.2.2.2.2.2,iV g_.2.1.ae,iV g_.2.1.ah] 48,ag.box b1 Hb 48,ag.held w own]) (fun g_=>[ag.ls bP l,ew]) (fun g_=>g_.1<=l.length/\pgo (l.drop g_.1) (prevK l g_.1) g_.2.1=pgo l none r0/\g_.2.1.ao.length<=g_.1/\g_.2.1.Things.length<=g_.1/\g_.2.1.Held.length<=g_.1) (fun g_=>l.length-g_.1) (0,(⟨[],[],[],[],0,0⟩:aB),(nS),(nS),(nS),(nS)) O (by (try dsimp only);exact ⟨by omega,rfl,Nat.le_refl _,Nat.le_refl _,Nat.le_refl _⟩) (sF O) (iz mH [0,1] O) ?_
 rintro ⟨k,z,ra,og,ut,rh⟩ ⟨hk,HP,WK,WL,WM⟩
 dsimp only at *
 refine R.reg O<|?_
 by_cases h1:k<l.length
 .
  refine R.q (q.dD O O) O<|R.nil<|R.az O O<|R.reg O<|R.u 1 O<|?_
  obtain ⟨x1,hx1⟩:∃z,l[k]? = some z:=⟨_,List.getElem?_eq_getElem (by omega)⟩
  have P2:=hc x1 (List.mem_of_getElem? hx1)
  refine R.q (q.idx (i:=k) (dx 0 O) O O bW O hx1) O<|R.q (q.gk (ds:=[.string x1.Key,.string x1.Val,.bool x1.Gone]) (dx 0 O) hx1 O aX O) O<|R.s O (s.alloc cG O O) fun b3=>?_
  refine R.u 1 O<|R.s O (s.st 0 _ O O O O (.inl aX) O O O O) fun _=>?_
  refine R.nil ?_
  by_cases h2:0<k
  .
   obtain ⟨x2,hx2⟩:∃z,l[(k-1)]? = some z:=⟨_,List.getElem?_eq_getElem (by omega)⟩
   have Wi:=hc x2 (List.mem_of_getElem? hx2)
   rcases Bool.eq_false_or_eq_true (jx x1.Key x2.Key||decide (x1.Key=x2.Key)) with h3|h3
   .
    refine R.fa O mixed (by kernel_rfl)<|Q.u 1 O<|Q.q (q.eM O O) O<|Q.u 1 O<|Q.qg O (q.aP O bH O) O<|Q.qg O (q.ld 0 O O bF O) O<|Q.u 2 O<|Q.qg O (q.lU (r:=((k-1:Nat):Int)) O O) O<|Q.qg O (q.idx (i:=(k-1)) (dx 0 O) O O bW O hx2) O<|Q.qg O (q.nD (j':=0) (dx 0 O) hx2 O bH O) O<|Q.qg O (q.lw (dx 0 O) hx2 O bF O) O<|Q.qg O (q.Ma O O h3) O<|Q.u 10 O<|Q.nil<|R.az O O<|R.reg O<|R.q (q.build ec O O) O<|R.q (q.iface O br) O<|R.s O (s.st 6 _ O O O O (.inl aj) O O O O) fun _=>?_
    refine R.u 1 O<|R.nil<|R.mp (fun _ hw=>hw.a8 (α:=ak))<|R.mp (fun _ hw=>hw.a8 (α:=aF))<|R.mp (fun _ hw=>hw.a8 (α:=Held))<|R.mp (fun _ hw=>hw.a8 (α:=Note)) ?_
    have hz:bS l=((⟨[],[],[],[],0,0⟩:aB),4):=by (exact oW HP hx1 (.inl (Nj (by omega) hx2 ‹_›)))
    rw [hz]
    exact R.w2 ((nS),(nS),(nS),(nS)) [7] gj O Tryz.results37 (RV.cell 6 O O aj) (RV.tmp O) O O O (dy O (dj (by decide) O))
   rcases Bool.eq_false_or_eq_true x1.Gone with h4|h4
   .
    rw [h4]
    refine R.fa O mixed (by kernel_rfl)<|Q.u 1 O<|Q.q (q.eM O O) O<|Q.u 1 O<|Q.qg O (q.aP O bH O) O<|Q.qg O (q.ld 0 O O bF O) O<|Q.u 2 O<|Q.qg O (q.lU (r:=((k-1:Nat):Int)) O O) O<|Q.qg O (q.idx (i:=(k-1)) (dx 0 O) O O bW O hx2) O<|Q.qg O (q.nD (j':=0) (dx 0 O) hx2 O bH O) O<|Q.qg O (q.lw (dx 0 O) hx2 O bF O) O<|Q.qg O (q.Ma O O h3) O<|Q.u 2 O<|Q.qg O (q.aP O gL O) O<|Q.qg O (q.ld 0 O O ig O) O<|Q.u 6 O<|Q.nil<|R.az O O<|R.reg O<|R.q (q.build ec O O) O<|R.q (q.iface O br) O<|R.s O (s.st 6 _ O O O O (.inl aj) O O O O) fun _=>?_
    refine R.u 1 O<|R.nil<|R.mp (fun _ hw=>hw.a8 (α:=ak))<|R.mp (fun _ hw=>hw.a8 (α:=aF))<|R.mp (fun _ hw=>hw.a8 (α:=Held))<|R.mp (fun _ hw=>hw.a8 (α:=Note)) ?_
    have hz:bS l=((⟨[],[],[],[],0,0⟩:aB),4):=by (exact oW HP hx1 (.inr (.inl ‹_›)))
    rw [hz]
    exact R.w2 ((nS),(nS),(nS),(nS)) [7] gj O Tryz.results37 (RV.cell 6 O O aj) (RV.tmp O) O O O (dy O (dj (by decide) O))
   rw [h4]
   rcases Bool.eq_false_or_eq_true (!((rowP z (⟨x1.Key,x1.Val,false⟩:Change)).2)) with h5|h5
   .
    refine R.fP (fuel:=22) [0,6,7] O O mixed O<|D.q (i:=0) O (aD [0,6,7] [0,1] O) O (q.mv O) O<|D.q (i:=1) O (aD [0,6,7] [0,1] O) O (q.eM O O) O<|D.q (i:=2) O (aD [0,6,7] [0,1] O) O (q.mv O) O<|D.q (i:=3) O (aD [0,6,7] [0,1] O) O (q.aP O bH O) O<|D.q (i:=4) O (aD [0,6,7] [0,1] O) O (q.ld 0 O O bF O) O<|D.q (i:=5) O (aD [0,6,7] [0,1] O) O (q.mv O) O<|D.q (i:=6) O (aD [0,6,7] [0,1] O) O (q.mv O) O<|D.q (i:=7) O (aD [0,6,7] [0,1] O) O (q.lU (r:=((k-1:Nat):Int)) O O) O<|D.q (i:=8) O (aD [0,6,7] [0,1] O) O (q.idx (i:=(k-1)) (dx 0 O) O O bW O hx2) O<|D.q (i:=9) O (aD [0,6,7] [0,1] O) O (q.nD (j':=0) (dx 0 O) hx2 O bH O) O<|D.q (i:=10) O (aD [0,6,7] [0,1] O) O (q.lw (dx 0 O) hx2 O bF O) O<|D.q (i:=11) O (aD [0,6,7] [0,1] O) O (q.Ma O O h3) O<|D.q (i:=12) O (aD [0,6,7] [0,1] O) O (q.NN O O) O<|D.q (i:=13) O (aD [0,6,7] [0,1] O) O (q.mv O) O<|D.q (i:=14) O (aD [0,6,7] [0,1] O) O (q.aP O gL O) O<|D.q (i:=15) O (aD [0,6,7] [0,1] O) O (q.ld 0 O O ig O) O<|D.q (i:=16) O (aD [0,6,7] [0,1] O) O (q.rC O O) O<|D.q (i:=17) O (aD [0,6,7] [0,1] O) O (q.mv O) O<|D.q (i:=18) O (aD [0,6,7] [0,1] O) O (q.cW 0 O O aX) O<|D.one (i:=19) O<|Do.s (s.aT FU [1] _ _ _ O O O Ge O O (fun w own hw H=>vL b2 ra og ut rh z (⟨x1.Key,x1.Val,false⟩:Change) w own H ‹_› (by omega)) O) (fun _=>(aD [5,6,7] [0,1] O)) O ?_
    rintro ⟨z9,lE,lX,z12⟩
    dsimp only
    refine D.q (i:=20) O (aD [5,6,7] [0,1] O) O (q.not O) O<|D.q (i:=21) O (aD [5,6,7] [0,1] O) O (q.rC O O) O<|D.done<|R.cond O O (fun h6=>?_) (fun h6=>?_)
    .
     refine R.reg O<|R.q (q.build ec O O) O<|R.q (q.iface O br) O<|R.s O (s.st 6 _ O O O O (.inl aj) O O O O) fun _=>?_
     refine R.u 1 O<|R.nil<|R.mp (fun _ hw=>hw.a8 (α:=ak))<|R.mp (fun _ hw=>hw.a8 (α:=aF))<|R.mp (fun _ hw=>hw.a8 (α:=Held))<|R.mp (fun _ hw=>hw.a8 (α:=Note)) ?_
     have hz:bS l=((⟨[],[],[],[],0,0⟩:aB),4):=by (exact oW HP hx1 (.inr (.inr ⟨by assumption,by exact D4 ‹_›⟩)))
     rw [hz]
     exact R.w2 ((nS),(nS),(nS),(nS)) [7] gj O Tryz.results37 (RV.cell 6 O O aj) (RV.tmp O) O O O (dy O (dj (by decide) O))
    refine R.reg O<|R.q (q.bC (r:=((k+1:Nat):Int)) O O) O<|R.u 1 O<|R.nil<|R.back (k+1,(rowP z (⟨x1.Key,x1.Val,false⟩:Change)).1,z9,lE,lX,z12) O (by ((try dsimp only);have zl:=tF z (⟨x1.Key,x1.Val,false⟩:Change);exact ⟨by omega,vM HP hx1 (by exact D9 (by omega) hx2 ‹_›) ‹_› (by exact D5 ‹_›),by omega,by omega,by omega⟩)) (by dsimp only;omega) (sF O) (aD [4,3,2,1,0,6,7] [0,1] O)
   refine R.fP (fuel:=22) [0,6,7] O O mixed O<|D.q (i:=0) O (aD [0,6,7] [0,1] O) O (q.mv O) O<|D.q (i:=1) O (aD [0,6,7] [0,1] O) O (q.eM O O) O<|D.q (i:=2) O (aD [0,6,7] [0,1] O) O (q.mv O) O<|D.q (i:=3) O (aD [0,6,7] [0,1] O) O (q.aP O bH O) O<|D.q (i:=4) O (aD [0,6,7] [0,1] O) O (q.ld 0 O O bF O) O<|D.q (i:=5) O (aD [0,6,7] [0,1] O) O (q.mv O) O<|D.q (i:=6) O (aD [0,6,7] [0,1] O) O (q.mv O) O<|D.q (i:=7) O (aD [0,6,7] [0,1] O) O (q.lU (r:=((k-1:Nat):Int)) O O) O<|D.q (i:=8) O (aD [0,6,7] [0,1] O) O (q.idx (i:=(k-1)) (dx 0 O) O O bW O hx2) O<|D.q (i:=9) O (aD [0,6,7] [0,1] O) O (q.nD (j':=0) (dx 0 O) hx2 O bH O) O<|D.q (i:=10) O (aD [0,6,7] [0,1] O) O (q.lw (dx 0 O) hx2 O bF O) O<|D.q (i:=11) O (aD [0,6,7] [0,1] O) O (q.Ma O O h3) O<|D.q (i:=12) O (aD [0,6,7] [0,1] O) O (q.NN O O) O<|D.q (i:=13) O (aD [0,6,7] [0,1] O) O (q.mv O) O<|D.q (i:=14) O (aD [0,6,7] [0,1] O) O (q.aP O gL O) O<|D.q (i:=15) O (aD [0,6,7] [0,1] O) O (q.ld 0 O O ig O) O<|D.q (i:=16) O (aD [0,6,7] [0,1] O) O (q.rC O O) O<|D.q (i:=17) O (aD [0,6,7] [0,1] O) O (q.mv O) O<|D.q (i:=18) O (aD [0,6,7] [0,1] O) O (q.cW 0 O O aX) O<|D.one (i:=19) O<|Do.s (s.aT FU [1] _ _ _ O O O Ge O O (fun w own hw H=>vL b2 ra og ut rh z (⟨x1.Key,x1.Val,false⟩:Change) w own H ‹_› (by omega)) O) (fun _=>(aD [5,6,7] [0,1] O)) O ?_
   rintro ⟨z17,xp,yG,z20⟩
   dsimp only
   refine D.q (i:=20) O (aD [5,6,7] [0,1] O) O (q.not O) O<|D.q (i:=21) O (aD [5,6,7] [0,1] O) O (q.rC O O) O<|D.done<|R.cond O O (fun h7=>?_) (fun h7=>?_)
   .
    refine R.reg O<|R.q (q.build ec O O) O<|R.q (q.iface O br) O<|R.s O (s.st 6 _ O O O O (.inl aj) O O O O) fun _=>?_
    refine R.u 1 O<|R.nil<|R.mp (fun _ hw=>hw.a8 (α:=ak))<|R.mp (fun _ hw=>hw.a8 (α:=aF))<|R.mp (fun _ hw=>hw.a8 (α:=Held))<|R.mp (fun _ hw=>hw.a8 (α:=Note)) ?_
    have hz:bS l=((⟨[],[],[],[],0,0⟩:aB),4):=by (exact oW HP hx1 (.inr (.inr ⟨by assumption,by exact D4 ‹_›⟩)))
    rw [hz]
    exact R.w2 ((nS),(nS),(nS),(nS)) [7] gj O Tryz.results37 (RV.cell 6 O O aj) (RV.tmp O) O O O (dy O (dj (by decide) O))
   refine R.reg O<|R.q (q.bC (r:=((k+1:Nat):Int)) O O) O<|R.u 1 O<|R.nil<|R.back (k+1,(rowP z (⟨x1.Key,x1.Val,false⟩:Change)).1,z17,xp,yG,z20) O (by ((try dsimp only);have zl:=tF z (⟨x1.Key,x1.Val,false⟩:Change);exact ⟨by omega,vM HP hx1 (by exact D9 (by omega) hx2 ‹_›) ‹_› (by exact D5 ‹_›),by omega,by omega,by omega⟩)) (by dsimp only;omega) (sF O) (aD [4,3,2,1,0,6,7] [0,1] O)
  rcases Bool.eq_false_or_eq_true x1.Gone with h8|h8
  .
   rw [h8]
   refine R.fa O mixed (by kernel_rfl)<|Q.u 1 O<|Q.q (q.ey O O) O<|Q.u 12 O<|Q.qg O (q.aP O gL O) O<|Q.qg O (q.ld 0 O O ig O) O<|Q.u 6 O<|Q.nil<|R.az O O<|R.reg O<|R.q (q.build ec O O) O<|R.q (q.iface O br) O<|R.s O (s.st 6 _ O O O O (.inl aj) O O O O) fun _=>?_
   refine R.u 1 O<|R.nil<|R.mp (fun _ hw=>hw.a8 (α:=ak))<|R.mp (fun _ hw=>hw.a8 (α:=aF))<|R.mp (fun _ hw=>hw.a8 (α:=Held))<|R.mp (fun _ hw=>hw.a8 (α:=Note)) ?_
   have hz:bS l=((⟨[],[],[],[],0,0⟩:aB),4):=by (exact oW HP hx1 (.inr (.inl ‹_›)))
   rw [hz]
   exact R.w2 ((nS),(nS),(nS),(nS)) [7] gj O Tryz.results37 (RV.cell 6 O O aj) (RV.tmp O) O O O (dy O (dj (by decide) O))
  rw [h8]
  rcases Bool.eq_false_or_eq_true (!((rowP z (⟨x1.Key,x1.Val,false⟩:Change)).2)) with h9|h9
  .
   refine R.fP (fuel:=22) [0,6,7] O O mixed O<|D.q (i:=0) O (aD [0,6,7] [0,1] O) O (q.mv O) O<|D.q (i:=1) O (aD [0,6,7] [0,1] O) O (q.ey O O) O<|D.q (i:=2) O (aD [0,6,7] [0,1] O) O (q.mv O) O<|D.skip (i:=3) O (aD [0,6,7] [0,1] O) O O<|D.skip (i:=4) O (aD [0,6,7] [0,1] O) O O<|D.skip (i:=5) O (aD [0,6,7] [0,1] O) O O<|D.skip (i:=6) O (aD [0,6,7] [0,1] O) O O<|D.skip (i:=7) O (aD [0,6,7] [0,1] O) O O<|D.skip (i:=8) O (aD [0,6,7] [0,1] O) O O<|D.skip (i:=9) O (aD [0,6,7] [0,1] O) O O<|D.skip (i:=10) O (aD [0,6,7] [0,1] O) O O<|D.skip (i:=11) O (aD [0,6,7] [0,1] O) O O<|D.q (i:=12) O (aD [0,6,7] [0,1] O) O (q.rC O O) O<|D.q (i:=13) O (aD [0,6,7] [0,1] O) O (q.mv O) O<|D.q (i:=14) O (aD [0,6,7] [0,1] O) O (q.aP O gL O) O<|D.q (i:=15) O (aD [0,6,7] [0,1] O) O (q.ld 0 O O ig O) O<|D.q (i:=16) O (aD [0,6,7] [0,1] O) O (q.rC O O) O<|D.q (i:=17) O (aD [0,6,7] [0,1] O) O (q.mv O) O<|D.q (i:=18) O (aD [0,6,7] [0,1] O) O (q.cW 0 O O aX) O<|D.one (i:=19) O<|Do.s (s.aT FU [1] _ _ _ O O O Ge O O (fun w own hw H=>vL b2 ra og ut rh z (⟨x1.Key,x1.Val,false⟩:Change) w own H ‹_› (by omega)) O) (fun _=>(aD [5,6,7] [0,1] O)) O ?_
   rintro ⟨z29,z30,z31,z32⟩
   dsimp only
   refine D.q (i:=20) O (aD [5,6,7] [0,1] O) O (q.not O) O<|D.q (i:=21) O (aD [5,6,7] [0,1] O) O (q.rC O O) O<|D.done<|R.cond O O (fun h10=>?_) (fun h10=>?_)
   .
    refine R.reg O<|R.q (q.build ec O O) O<|R.q (q.iface O br) O<|R.s O (s.st 6 _ O O O O (.inl aj) O O O O) fun _=>?_
    refine R.u 1 O<|R.nil<|R.mp (fun _ hw=>hw.a8 (α:=ak))<|R.mp (fun _ hw=>hw.a8 (α:=aF))<|R.mp (fun _ hw=>hw.a8 (α:=Held))<|R.mp (fun _ hw=>hw.a8 (α:=Note)) ?_
    have hz:bS l=((⟨[],[],[],[],0,0⟩:aB),4):=by (exact oW HP hx1 (.inr (.inr ⟨by assumption,by exact D4 ‹_›⟩)))
    rw [hz]
    exact R.w2 ((nS),(nS),(nS),(nS)) [7] gj O Tryz.results37 (RV.cell 6 O O aj) (RV.tmp O) O O O (dy O (dj (by decide) O))
   refine R.reg O<|R.q (q.bC (r:=((k+1:Nat):Int)) O O) O<|R.u 1 O<|R.nil<|R.back (k+1,(rowP z (⟨x1.Key,x1.Val,false⟩:Change)).1,z29,z30,z31,z32) O (by ((try dsimp only);have zl:=tF z (⟨x1.Key,x1.Val,false⟩:Change);exact ⟨by omega,vM HP hx1 (by exact D8 (by omega)) ‹_› (by exact D5 ‹_›),by omega,by omega,by omega⟩)) (by dsimp only;omega) (sF O) (aD [4,3,2,1,0,6,7] [0,1] O)
  refine R.fP (fuel:=22) [0,6,7] O O mixed O<|D.q (i:=0) O (aD [0,6,7] [0,1] O) O (q.mv O) O<|D.q (i:=1) O (aD [0,6,7] [0,1] O) O (q.ey O O) O<|D.q (i:=2) O (aD [0,6,7] [0,1] O) O (q.mv O) O<|D.skip (i:=3) O (aD [0,6,7] [0,1] O) O O<|D.skip (i:=4) O (aD [0,6,7] [0,1] O) O O<|D.skip (i:=5) O (aD [0,6,7] [0,1] O) O O<|D.skip (i:=6) O (aD [0,6,7] [0,1] O) O O<|D.skip (i:=7) O (aD [0,6,7] [0,1] O) O O<|D.skip (i:=8) O (aD [0,6,7] [0,1] O) O O<|D.skip (i:=9) O (aD [0,6,7] [0,1] O) O O<|D.skip (i:=10) O (aD [0,6,7] [0,1] O) O O<|D.skip (i:=11) O (aD [0,6,7] [0,1] O) O O<|D.q (i:=12) O (aD [0,6,7] [0,1] O) O (q.rC O O) O<|D.q (i:=13) O (aD [0,6,7] [0,1] O) O (q.mv O) O<|D.q (i:=14) O (aD [0,6,7] [0,1] O) O (q.aP O gL O) O<|D.q (i:=15) O (aD [0,6,7] [0,1] O) O (q.ld 0 O O ig O) O<|D.q (i:=16) O (aD [0,6,7] [0,1] O) O (q.rC O O) O<|D.q (i:=17) O (aD [0,6,7] [0,1] O) O (q.mv O) O<|D.q (i:=18) O (aD [0,6,7] [0,1] O) O (q.cW 0 O O aX) O<|D.one (i:=19) O<|Do.s (s.aT FU [1] _ _ _ O O O Ge O O (fun w own hw H=>vL b2 ra og ut rh z (⟨x1.Key,x1.Val,false⟩:Change) w own H ‹_› (by omega)) O) (fun _=>(aD [5,6,7] [0,1] O)) O ?_
  rintro ⟨z37,z38,z39,z40⟩
  dsimp only
  refine D.q (i:=20) O (aD [5,6,7] [0,1] O) O (q.not O) O<|D.q (i:=21) O (aD [5,6,7] [0,1] O) O (q.rC O O) O<|D.done<|R.cond O O (fun h11=>?_) (fun h11=>?_)
  .
   refine R.reg O<|R.q (q.build ec O O) O<|R.q (q.iface O br) O<|R.s O (s.st 6 _ O O O O (.inl aj) O O O O) fun _=>?_
   refine R.u 1 O<|R.nil<|R.mp (fun _ hw=>hw.a8 (α:=ak))<|R.mp (fun _ hw=>hw.a8 (α:=aF))<|R.mp (fun _ hw=>hw.a8 (α:=Held))<|R.mp (fun _ hw=>hw.a8 (α:=Note)) ?_
   have hz:bS l=((⟨[],[],[],[],0,0⟩:aB),4):=by (exact oW HP hx1 (.inr (.inr ⟨by assumption,by exact D4 ‹_›⟩)))
   rw [hz]
   exact R.w2 ((nS),(nS),(nS),(nS)) [7] gj O Tryz.results37 (RV.cell 6 O O aj) (RV.tmp O) O O O (dy O (dj (by decide) O))
  refine R.reg O<|R.q (q.bC (r:=((k+1:Nat):Int)) O O) O<|R.u 1 O<|R.nil<|R.back (k+1,(rowP z (⟨x1.Key,x1.Val,false⟩:Change)).1,z37,z38,z39,z40) O (by ((try dsimp only);have zl:=tF z (⟨x1.Key,x1.Val,false⟩:Change);exact ⟨by omega,vM HP hx1 (by exact D8 (by omega)) ‹_› (by exact D5 ‹_›),by omega,by omega,by omega⟩)) (by dsimp only;omega) (sF O) (aD [4,3,2,1,0,6,7] [0,1] O)
 refine R.q (q.cU O O) O<|R.nil<|R.aC O O<|R.reg O<|R.q (q.cW 4 O O aj) O<|R.s O (s.pre (fun _ hw=>hw.cX 3 _ O O) (s.pre (fun _ hw=>hw.cX 2 _ O O) (s.pre (fun _ hw=>hw.cX 1 _ O O) (s.pre (fun _ hw=>hw.cX 0 _ O O) (s.aT [0,1,2] gj _ _ _ O O O Sr O O (fun w own hw H=>IG ra og ut rh z w own H (by omega)) O))))) fun _=>?_
 refine R.q (q.not O) O<|R.nil<|R.cond O O (fun h12=>?_) (fun h12=>?_)
 .
  refine R.reg O<|R.q (q.build ec O O) O<|R.q (q.iface O br) O<|R.s O (s.st 1 _ O O O O (.inl aj) O O O O) fun _=>?_
  refine R.u 1 O<|R.nil<|R.mp (fun _ hw=>hw.a8 (α:=ak))<|R.mp (fun _ hw=>hw.a8 (α:=aF))<|R.mp (fun _ hw=>hw.a8 (α:=Held))<|R.mp (fun _ hw=>hw.a8 (α:=Note)) ?_
  have hz:bS l=((⟨[],[],[],[],0,0⟩:aB),4):=by (exact QI HP (by omega) (by exact D4 ‹_›))
  rw [hz]
  exact R.w2 ((nS),(nS),(nS),(nS)) [2] gj O Tryz.results37 (RV.cell 1 O O aj) (RV.tmp O) O O O (dy O (dj (by decide) O))
 refine R.reg O<|R.q (q.cW 0 O O aj) O<|R.s O (s.fR 1 _ O O O (fun _ _=>rfl) (.inl aj) (fun w hw=>(af (Sl.one (hw.bN 3 O)) (af (Sl.one (hw.bN 2 O)) (af (Sl.one (hw.bN 1 O)) (af (Sl.one (hw.bN 0 O)) (af O (af O aO))))))) O O O) fun _=>?_
 refine R.u 1 O<|R.nil ?_
 have hz:bS l=(z,0):=by (exact Tq HP (by omega) (by exact D5 ‹_›))
 rw [hz]
 exact R.w2 (ra,og,ut,rh) [2] gj O Tryz.results37 (RV.cell 1 O O aj) (RV.tmp O) O O O (dy O (iJ O))
end
end Go.Proofs.YtkbhcbipadkcaaaGreatDoor
