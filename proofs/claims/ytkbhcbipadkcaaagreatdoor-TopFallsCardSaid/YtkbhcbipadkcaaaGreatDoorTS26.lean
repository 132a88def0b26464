import Derived.Test.YtkbhcbipadkcaaaGreatDoorTS25
namespace Go.Proofs.YtkbhcbipadkcaaaGreatDoor
set_option linter.unusedVariables false
set_option linter.unusedSimpArgs false
set_option maxRecDepth 100000
set_option maxHeartbeats 90000000
section
open Go Go.RowKit
theorem Ix {s:ByteArray}{m:Nat}(h:eH s m=true):dR s m=some (numsL s m):=by
 unfold eH at h;unfold numsL
 cases hq:dR s m with|none=>rw [hq] at h;cases h|some l=>rfl
theorem qq {s:ByteArray}{m:Nat}(h:eH s m=true):(numsL s m).length=m/\4*m<=s.size:=Im (Ix h)
theorem rF {s:ByteArray}{m j:Nat}{x:Int}(h:(numsL s m)[j]? = some x):Iq (dR s m) j=x:=by
 show (((numsL s m)[j]?).getD 0)=x;rw [h];rfl
section
variable {r:aB} {c:Change} {y:UInt8}
theorem lX (h:¬ c.Key=⟨#[]⟩):¬ c.Key.size=0:=fun e=>h (JM e)
theorem nY {s:ByteArray}{i:Nat}{y:UInt8}(h:s.data[i]? = some y):bj s i=y.toNat:=by unfold bj;rw [h];rfl
theorem Lk (h:c.Key=⟨#[]⟩):rowP r c=(r,false):=by unfold rowP;rw [if_pos (by rw [h];rfl)]
theorem BR (h0:¬ c.Key=⟨#[]⟩)(hy:c.Key.data[0]? = some y)(e:y.toNat=104)(hb:eH c.Val 1=false∨¬ c.Val.size=4∨¬ c.Key.size=3):rowP r c=(r,false):=by
 unfold rowP;rw [if_neg (lX h0)];dsimp only;rw [if_pos ((nY hy).trans e),if_pos (show (dR c.Val 1).isSome=false∨c.Val.size≠4∨c.Key.size≠3 from hb)]
theorem M5 {a b:UInt8}{n:Int}{v:Bool}(h0:¬ c.Key=⟨#[]⟩)(hy:c.Key.data[0]? = some y)(e:y.toNat=104)(hb:eH c.Val 1=true)(h4:c.Val.size=4)(h3:c.Key.size=3)(ha:c.Key.data[1]? = some a)(hbb:c.Key.data[2]? = some b)
 (hn:(numsL c.Val 1)[0]? = some n) (hv:v=decide (aZ ⟨(a.toNat:Int)-48,(b.toNat:Int)-48⟩=0)):rowP r c=(⟨r.ao,r.Things,r.Held++[⟨⟨(a.toNat:Int)-48,(b.toNat:Int)-48⟩,n⟩],r.Notes,r.af,r.ah⟩,v):=by
 unfold rowP;rw [if_neg (lX h0)];dsimp only
 rw [if_pos ((nY hy).trans e),if_neg (show ¬ ((dR c.Val 1).isSome=false∨c.Val.size≠4∨c.Key.size≠3) from (by show ¬ (eH c.Val 1=false∨c.Val.size≠4∨c.Key.size≠3);rw [hb,h4,h3];simp)),rF hn,hv]
 unfold Io S3 MU;rw [nY ha,nY hbb]
def Ev (c:Change):Bool:=eH (c.Key.extract 1 c.Key.size) 1&&decide (c.Key.size=5)
theorem Qx (h:eH (c.Key.extract 1 c.Key.size) 1=false):false=Ev c:=by unfold Ev;rw [h];rfl
theorem M6 (h:¬ c.Key.size=5):false=Ev c:=by unfold Ev;rw [decide_eq_false h,Bool.and_false]
theorem M7 (h:eH (c.Key.extract 1 c.Key.size) 1=true)(h5:c.Key.size=5):true=Ev c:=by unfold Ev;rw [h,decide_eq_true h5];rfl
theorem Ll (h:Ev c=true):(numsL (c.Key.extract 1 c.Key.size) 1).length=1:=by
 unfold Ev at h;rw [Bool.and_eq_true] at h;exact (qq h.1).1
theorem BS (h0:¬ c.Key=⟨#[]⟩)(hy:c.Key.data[0]? = some y)(e:y.toNat=116)(hb:Ev c=false∨eH c.Val 1=false∨12<c.Val.size):rowP r c=(r,false):=by
 unfold rowP;rw [if_neg (lX h0)];dsimp only
 rw [if_neg (by rw [nY hy];omega),if_pos ((nY hy).trans e),if_pos (show ((dR (c.Key.extract 1 c.Key.size) 1).isSome&&decide (c.Key.size=5))=false∨(dR c.Val 1).isSome=false∨12<c.Val.size from hb)]
theorem D2 {k n:Int}{v:Bool}(h0:¬ c.Key=⟨#[]⟩)(hy:c.Key.data[0]? = some y)(e:y.toNat=116)(hk:Ev c=true)(hb:eH c.Val 1=true)(h12:¬ 12<c.Val.size)
 (hi:(numsL (c.Key.extract 1 c.Key.size) 1)[0]? = some k) (hn:(numsL c.Val 1)[0]? = some n) (hv:v=decide (n=1∨n=2/\c.Val.size=4)):rowP r c=(⟨r.ao,r.Things++[⟨k,n,c.Val.extract 4 c.Val.size⟩],r.Held,r.Notes,r.af,r.ah⟩,v):=by
 unfold rowP;rw [if_neg (lX h0)];dsimp only
 rw [if_neg (by rw [nY hy];omega),if_pos ((nY hy).trans e),if_neg (show ¬ (((dR (c.Key.extract 1 c.Key.size) 1).isSome&&decide (c.Key.size=5))=false∨(dR c.Val 1).isSome=false∨12<c.Val.size) from (by
  show ¬ (Ev c=false∨eH c.Val 1=false∨12<c.Val.size)
  rw [hk,hb];simp;omega)),rF hn,rF hi,hv]
 rfl
theorem BU (h0:¬ c.Key=⟨#[]⟩)(hy:c.Key.data[0]? = some y)(e:y.toNat=119)(hb:Ev c=false∨eH c.Val 4=false∨¬ c.Val.size=16):rowP r c=(r,false):=by
 unfold rowP;rw [if_neg (lX h0)];dsimp only
 rw [if_neg (by rw [nY hy];omega),if_neg (by rw [nY hy];omega),if_pos ((nY hy).trans e),if_pos (show ((dR (c.Key.extract 1 c.Key.size) 1).isSome&&decide (c.Key.size=5))=false∨(dR c.Val 4).isSome=false∨c.Val.size≠16 from hb)]
theorem Tb {k n0 n1 n2 n3:Int}(h0:¬ c.Key=⟨#[]⟩)(hy:c.Key.data[0]? = some y)(e:y.toNat=119)(hk:Ev c=true)(hb:eH c.Val 4=true)(h16:c.Val.size=16)
 (hi:(numsL (c.Key.extract 1 c.Key.size) 1)[0]? = some k) (a0:(numsL c.Val 4)[0]? = some n0) (a1:(numsL c.Val 4)[1]? = some n1) (a2:(numsL c.Val 4)[2]? = some n2) (a3:(numsL c.Val 4)[3]? = some n3):rowP r c=(⟨r.ao++[⟨k,n0,n1,n2,n3⟩],r.Things,r.Held,r.Notes,r.af,r.ah⟩,true):=by
 unfold rowP;rw [if_neg (lX h0)];dsimp only
 rw [if_neg (by rw [nY hy];omega),if_neg (by rw [nY hy];omega),if_pos ((nY hy).trans e),if_neg (show ¬ (((dR (c.Key.extract 1 c.Key.size) 1).isSome&&decide (c.Key.size=5))=false∨(dR c.Val 4).isSome=false∨c.Val.size≠16) from (by
  show ¬ (Ev c=false∨eH c.Val 4=false∨c.Val.size≠16)
  rw [hk,hb,h16];simp)),rF hi,rF a0,rF a1,rF a2,rF a3]
 rfl
theorem BV (h0:¬ c.Key=⟨#[]⟩)(hy:c.Key.data[0]? = some y)(e1:¬ y.toNat=104)(e2:¬ y.toNat=116)(e3:¬ y.toNat=119)(hb:¬ c.Key=⟨#[120]⟩∨eH c.Val 2=false∨¬ c.Val.size=8):rowP r c=(r,false):=by
 unfold rowP;rw [if_neg (lX h0)];dsimp only
 rw [if_neg (by rw [nY hy];omega),if_neg (by rw [nY hy];omega),if_neg (by rw [nY hy];omega),if_pos (show c.Key≠kX∨(dR c.Val 2).isSome=false∨c.Val.size≠8 from hb)]
theorem UG {n0 n1:Int}(h0:¬ c.Key=⟨#[]⟩)(hy:c.Key.data[0]? = some y)(e1:¬ y.toNat=104)(e2:¬ y.toNat=116)(e3:¬ y.toNat=119)(hk:c.Key=⟨#[120]⟩)(hb:eH c.Val 2=true)(h8:c.Val.size=8)(a0:(numsL c.Val 2)[0]? = some n0)(a1:(numsL c.Val 2)[1]? = some n1) :
 rowP r c=(⟨r.ao,r.Things,r.Held,r.Notes,n0,n1⟩,true):=by
 unfold rowP;rw [if_neg (lX h0)];dsimp only
 rw [if_neg (by rw [nY hy];omega),if_neg (by rw [nY hy];omega),if_neg (by rw [nY hy];omega),if_neg (show ¬ (c.Key≠kX∨(dR c.Val 2).isSome=false∨c.Val.size≠8) from (by
  show ¬ (c.Key≠⟨#[120]⟩∨eH c.Val 2=false∨c.Val.size≠8)
  rw [hb,h8];simp [hk])),rF a0,rF a1]
 rfl
end
attribute [local irreducible] numsL eH Ev rowP
theorem vJ (KM:Nat)(cI cQ dE cB:Value)(r:aB)(c:Change)(w:World)(own:List Nat)(H:HN w own [ag.box KM [cI,cQ,dE,cB,iV r.af,iV r.ah] 48,ag.row 127 cI r.ao,ag.row 100 cQ r.Things,ag.row 124 dE r.Held,ag.row 89 cB r.Notes] [ew])(hc:c.Key.size<=1000/\c.Val.size<=1000)(hr:r.ao.length<=1000/\r.Things.length<=1000/\r.Held.length<=1000):RC Tryz.prog 89 #[.pointer (some ⟨KM,0,none⟩),.agg #[.string c.Key,.string c.Val,.bool c.Gone]] H (fun _:Value×Value×Value×Value => .bool (rowP r c).2) (fun z=>[ag.box KM [z.1,z.2.1,z.2.2.1,z.2.2.2,iV (rowP r c).1.af,iV (rowP r c).1.ah] 48,ag.row 127 z.1 (rowP r c).1.ao,ag.row 100 z.2.1 (rowP r c).1.Things,ag.row 124 z.2.2.1 (rowP r c).1.Held,ag.row 89 z.2.2.2 (rowP r c).1.Notes]) (fun _=>[]):=by
 have QZ:=H.cap 1 rfl;have eK:=H.cE 1 rfl
 have Qy:=H.cap 2 rfl;have dJ:=H.cE 2 rfl
 have Tc:=H.cap 3 rfl;have fG:=H.cE 3 rfl
 have Q0:=H.cap 4 rfl;have eL:=H.cE 4 rfl
 refine R.bF [(0,.pointer (some ⟨KM,0,none⟩)),(1,.agg #[.string c.Key,.string c.Val,.bool c.Gone])] Tryz.func89 O O O O H<|R.reg O<|R.s O (s.box O O O) fun b1=>?_
 refine R.u 1 O<|R.nil<|R.reg O<|R.q (q.aP O bI O) O<|R.q (q.ld 0 O O bG O) O<|?_
 by_cases h1:c.Key=⟨#[]⟩
 .
  refine R.q (q.ru O O h1) O<|R.nil<|R.az O O<|R.reg O<|R.u 1 O<|R.nil ?_
  have hz:rowP r c=(r,false):=by (exact Lk ‹_›)
  rw [hz]
  exact R.w1 (cI,cQ,dE,cB) [1,2,3,4,5,6] [] O Tryz.results89 (RV.tmp O) O O O O
 refine R.q (q.rx O O h1) O<|R.nil<|R.aD O O ?_
 have kp:=lX (c:=c) ‹_›
 refine R.reg O<|R.q (q.aP O bI O) O<|R.q (q.ld 0 O O bG O) O<|R.q (q.Cq (i:=1) O O Tryz.underlying9 O (by omega)) O<|R.s O (s.aT l9 [0] _ _ _ O O O wB O O (fun w own hw H=>lH (c.Key.extract 1 c.Key.size) 1 w own H (by (rw [ByteArray.size_extract];omega))) O) fun z1=>?_
 refine R.u 5 O<|R.nil<|R.cut 1 (fun b:Bool=>[(0,.pointer (some ⟨KM,0,none⟩)),(3,.pointer (some ⟨b1,0,none⟩)),(5,z1),(6,.bool b)]) (fun b:Bool=>[ag.row 3 z1 (numsL (c.Key.extract 1 c.Key.size) 1),ag.box b1 (fC c) 117,ag.box KM [cI,cQ,dE,cB,iV r.af,iV r.ah] 48,ag.row 127 cI r.ao,ag.row 100 cQ r.Things,ag.row 124 dE r.Held,ag.row 89 cB r.Notes,ag.held w own]) (fun b:Bool=>[ew]) (fun b:Bool=>b=Ev c) O O O ?_ ?_
 .
  refine R.reg O<|R.u 2 O<|?_
  rcases Bool.eq_false_or_eq_true (eH (c.Key.extract 1 c.Key.size) 1) with h2|h2
  .
   rw [h2]
   refine R.qg O (q.aP O bI O) O<|R.qg O (q.ld 1 O O bG O) O<|R.qg O (q.iy O Tryz.underlying9) O<|?_
   by_cases h3:c.Key.size=5
   .
    exact R.qg O (q.fI O O) O<|R.u 2 O<|R.nil<|R.meet true O (by (exact M7 ‹_› (by omega))) (sF O) (iz dU [0] O)
   exact R.qg O (q.eU O O) O<|R.u 2 O<|R.nil<|R.meet false O (by (exact M6 (by omega))) (sF O) (iz dU [0] O)
  rw [h2]
  exact R.u 6 O<|R.nil<|R.meet false O (by (exact Qx ‹_›)) (sF O) (iz dU [0] O)
 rintro b hC
 refine R.reg O<|R.q (q.aP O bI O) O<|R.q (q.ld 1 O O bG O) O<|?_
 obtain ⟨y1,hy1⟩:∃z,c.Key.data[0]? = some z:=⟨_,Array.getElem?_eq_getElem (show 0<c.Key.size from by omega)⟩
 have Sj:=y1.toNat_lt
 refine R.q (q.iK (i:=0) O O Tryz.underlying9 O hy1) O<|R.nil<|R.reg O<|?_
 by_cases h4:y1.toNat=104
 .
  refine R.q (q.fI O O) O<|R.u 1 O<|R.nil<|R.az O O<|R.reg O<|R.q (q.aP O cX O) O<|R.q (q.ld 1 O O bG O) O<|R.s O (s.aT dU [0] _ _ _ O O O wB O O (fun w own hw H=>lH c.Val 1 w own H (by omega)) O) fun z2=>?_
  refine R.u 5 O<|R.nil<|R.reg O<|R.u 1 O<|R.q (q.not O) O<|R.u 1 O<|?_
  rcases Bool.eq_false_or_eq_true (eH c.Val 1) with h5|h5
  .
   rw [h5]
   refine R.qg O (q.aP O cX O) O<|R.qg O (q.ld 2 O O bG O) O<|R.qg O (q.iy O Tryz.underlying9) O<|?_
   by_cases h6:c.Val.size=4
   .
    refine R.qg O (q.ny O O) O<|R.u 2 O<|R.qg O (q.aP O bI O) O<|R.qg O (q.ld 2 O O bG O) O<|R.qg O (q.iy O Tryz.underlying9) O<|?_
    by_cases h7:c.Key.size=3
    .
     refine R.qg O (q.ny O O) O<|R.u 1 O<|R.nil<|R.aD O O ?_
     obtain ⟨y2,hy2⟩:∃z,c.Key.data[1]? = some z:=⟨_,Array.getElem?_eq_getElem (show 1<c.Key.size from by omega)⟩
     have Sk:=y2.toNat_lt
     obtain ⟨y3,hy3⟩:∃z,c.Key.data[2]? = some z:=⟨_,Array.getElem?_eq_getElem (show 2<c.Key.size from by omega)⟩
     have TM:=y3.toNat_lt
     refine R.fJ (fuel:=13) bZ O O mixed O<|D.q (i:=0) O (aA bZ [0] O) O (q.aP O bI O) O<|D.q (i:=1) O (aA bZ [0] O) O (q.ld 2 O O bG O) O<|D.q (i:=2) O (aA bZ [0] O) O (q.iK (i:=1) O O Tryz.underlying9 O hy2) O<|D.q (i:=3) O (aA bZ [0] O) O (q.nf (r:=((y2.toNat:Nat):Int)) O (by rw [Tryz.underlying5];rfl) Tryz.underlying3 (wr (by omega))) O<|D.q (i:=4) O (aA bZ [0] O) O (q.lS (r:=(y2.toNat:Int)-48) O O) O<|D.q (i:=5) O (aA bZ [0] O) O (q.aP O bI O) O<|D.q (i:=6) O (aA bZ [0] O) O (q.ld 2 O O bG O) O<|D.q (i:=7) O (aA bZ [0] O) O (q.iK (i:=2) O O Tryz.underlying9 O hy3) O<|D.q (i:=8) O (aA bZ [0] O) O (q.nf (r:=((y3.toNat:Nat):Int)) O (by rw [Tryz.underlying5];rfl) Tryz.underlying3 (wr (by omega))) O<|D.q (i:=9) O (aA bZ [0] O) O (q.lS (r:=(y3.toNat:Int)-48) O O) O<|D.q (i:=10) O (aA bZ [0] O) O (q.build wk O O) O<|D.one (i:=11) O<|Do.s (s.alloc Ct O O) (fun _=>(aA Cg [0] O)) O fun b2=>?_
     refine D.one (i:=12) O<|Do.s (s.st 0 _ O O O O (.inl bP) O O O O) (fun _=>(aA Cg [0] O)) O fun _=>?_
     refine D.done<|?_
     have Wh:=qq (s:=c.Val) (m:=1) ‹_›
     obtain ⟨x1,hx1⟩:∃z,(numsL c.Val 1)[0]? = some z:=⟨_,List.getElem?_eq_getElem (by omega)⟩
     refine R.fJ (fuel:=15) pA O O mixed O<|D.q (i:=0) O (aA pA [0] O) O (q.mv O) O<|D.q (i:=1) O (aA pA [0] O) O (q.mv O) O<|D.q (i:=2) O (aA pA [0] O) O (q.bR O) O<|D.q (i:=3) O (aA pA [0] O) O (q.aP O cM O) O<|D.q (i:=5) O (aA pA [0] O) O (q.cT 0 O O bP) O<|D.q (i:=6) O (aA pA [0] O) O (q.mv O) O<|D.q (i:=7) O (aA pA [0] O) O (q.idx (i:=0) (bD 1 O) O O da O hx1) O<|D.q (i:=8) O (aA pA [0] O) O (q.ln (bD 1 O) hx1 O ap O) O<|D.q (i:=9) O (aA pA [0] O) O (q.build I8 O O) O<|D.two (i:=4) (j:=10) O O ?_ ?_
     .
      refine Do.s (s.c (Qt.a (q.ld 4 O O dP O)) O) (fun _=>(aA pA [0] O)) O fun _=>?_
      refine D.one (i:=10) O<|Do.s (s.bs (l:=([(⟨(⟨((y2.toNat:Int)-48),((y3.toNat:Int)-48)⟩:Place),x1⟩:Held)]:List Held)) cK gX O O O O O O O) (fun _=>(aA pB [0] O)) O fun b3=>?_
      refine D.one (i:=11) O<|Do.s (s.app 8 _ O O O (bD 0 O) ow (by (simp;omega)) (by (simp;omega)) (fun _=>rfl) O) (fun _=>(aA pB [0] O)) O fun v1=>?_
      refine D.q (i:=12) O (aA pB [0] O) O (q.bR O) O<|D.q (i:=13) O (aA pB [0] O) O (q.aP O cM O) O<|D.one (i:=14) O<|Do.s (s.fP 5 _ O O O (fun w hw=>Sl.cr (hw.row 8 O)) (.inr ⟨dP,rfl⟩) (fun w hw=>(ae (Sl.one (hw.row 8 O)) aO)) O O O) (fun _=>(aA pB [0] O)) O fun _=>?_
      refine D.done<|R.reg O<|R.q (q.cT 1 O O bP) O<|R.c (q.call Ay O O (fun w hw=>(ko (⟨((y2.toNat:Int)-48),((y3.toNat:Int)-48)⟩:Place) w ))) O<|?_
      by_cases h8:aZ (⟨((y2.toNat:Int)-48),((y3.toNat:Int)-48)⟩:Place)=0
      .
       refine R.q (q.lP O O Tryz.underlying38) O<|R.u 1 O<|R.nil ?_
       have hz:rowP r c=((⟨r.ao,r.Things,(r.Held++([(⟨(⟨((y2.toNat:Int)-48),((y3.toNat:Int)-48)⟩:Place),x1⟩:Held)])),r.Notes,r.af,r.ah⟩:aB),true):=by (exact M5 ‹_› hy1 (by omega) ‹_› (by omega) (by omega) hy2 hy3 ‹_› (decide_eq_true ‹_›).symm)
       rw [hz]
       exact R.w1 (cI,cQ,v1,cB) [5,6,7,8,9,10] [] O Tryz.results89 (RV.tmp O) O O O O
      refine R.q (q.jx O O Tryz.underlying38) O<|R.u 1 O<|R.nil ?_
      have hz:rowP r c=((⟨r.ao,r.Things,(r.Held++([(⟨(⟨((y2.toNat:Int)-48),((y3.toNat:Int)-48)⟩:Place),x1⟩:Held)])),r.Notes,r.af,r.ah⟩:aB),false):=by (exact M5 ‹_› hy1 (by omega) ‹_› (by omega) (by omega) hy2 hy3 ‹_› (decide_eq_false ‹_›).symm)
      rw [hz]
      exact R.w1 (cI,cQ,v1,cB) [5,6,7,8,9,10] [] O Tryz.results89 (RV.tmp O) O O O O
     refine Do.s (s.bs (l:=([(⟨(⟨((y2.toNat:Int)-48),((y3.toNat:Int)-48)⟩:Place),x1⟩:Held)]:List Held)) cK gX O O O O O O O) (fun _=>(aA pB [0] O)) O fun b4=>?_
     refine D.one (i:=4) O<|Do.s (s.c (Qt.a (q.ld 5 O O dP O)) O) (fun _=>(aA pB [0] O)) O fun _=>?_
     refine D.one (i:=11) O<|Do.s (s.app 8 _ O O O (bD 0 O) ow (by (simp;omega)) (by (simp;omega)) (fun _=>rfl) O) (fun _=>(aA pB [0] O)) O fun v2=>?_
     refine D.q (i:=12) O (aA pB [0] O) O (q.bR O) O<|D.q (i:=13) O (aA pB [0] O) O (q.aP O cM O) O<|D.one (i:=14) O<|Do.s (s.fP 5 _ O O O (fun w hw=>Sl.cr (hw.row 8 O)) (.inr ⟨dP,rfl⟩) (fun w hw=>(ae (Sl.one (hw.row 8 O)) aO)) O O O) (fun _=>(aA pB [0] O)) O fun _=>?_
     refine D.done<|R.reg O<|R.q (q.cT 1 O O bP) O<|R.c (q.call Ay O O (fun w hw=>(ko (⟨((y2.toNat:Int)-48),((y3.toNat:Int)-48)⟩:Place) w ))) O<|?_
     by_cases h9:aZ (⟨((y2.toNat:Int)-48),((y3.toNat:Int)-48)⟩:Place)=0
     .
      refine R.q (q.lP O O Tryz.underlying38) O<|R.u 1 O<|R.nil ?_
      have hz:rowP r c=((⟨r.ao,r.Things,(r.Held++([(⟨(⟨((y2.toNat:Int)-48),((y3.toNat:Int)-48)⟩:Place),x1⟩:Held)])),r.Notes,r.af,r.ah⟩:aB),true):=by (exact M5 ‹_› hy1 (by omega) ‹_› (by omega) (by omega) hy2 hy3 ‹_› (decide_eq_true ‹_›).symm)
      rw [hz]
      exact R.w1 (cI,cQ,v2,cB) [5,6,7,8,9,10] [] O Tryz.results89 (RV.tmp O) O O O O
     refine R.q (q.jx O O Tryz.underlying38) O<|R.u 1 O<|R.nil ?_
     have hz:rowP r c=((⟨r.ao,r.Things,(r.Held++([(⟨(⟨((y2.toNat:Int)-48),((y3.toNat:Int)-48)⟩:Place),x1⟩:Held)])),r.Notes,r.af,r.ah⟩:aB),false):=by (exact M5 ‹_› hy1 (by omega) ‹_› (by omega) (by omega) hy2 hy3 ‹_› (decide_eq_false ‹_›).symm)
     rw [hz]
     exact R.w1 (cI,cQ,v2,cB) [5,6,7,8,9,10] [] O Tryz.results89 (RV.tmp O) O O O O
    refine R.qg O (q.nu O O) O<|R.u 1 O<|R.nil<|R.az O O<|R.reg O<|R.u 1 O<|R.nil ?_
    have hz:rowP r c=(r,false):=by (exact BR ‹_› hy1 (by omega) (.inr (.inr (by omega))))
    rw [hz]
    exact R.w1 (cI,cQ,dE,cB) mL [] O Tryz.results89 (RV.tmp O) O O O O
   refine R.qg O (q.nu O O) O<|R.u 7 O<|R.nil<|R.az O O<|R.reg O<|R.u 1 O<|R.nil ?_
   have hz:rowP r c=(r,false):=by (exact BR ‹_› hy1 (by omega) (.inr (.inl (by omega))))
   rw [hz]
   exact R.w1 (cI,cQ,dE,cB) mL [] O Tryz.results89 (RV.tmp O) O O O O
  rw [h5]
  refine R.u 11 O<|R.nil<|R.az O O<|R.reg O<|R.u 1 O<|R.nil ?_
  have hz:rowP r c=(r,false):=by (exact BR ‹_› hy1 (by omega) (.inl ‹_›))
  rw [hz]
  exact R.w1 (cI,cQ,dE,cB) mL [] O Tryz.results89 (RV.tmp O) O O O O
 refine R.q (q.eU O O) O<|R.u 1 O<|R.nil<|R.aD O O<|R.reg O<|?_
 by_cases h10:y1.toNat=116
 .
  refine R.q (q.fI O O) O<|R.u 1 O<|R.nil<|R.az O O<|R.reg O<|R.q (q.aP O cX O) O<|R.q (q.ld 1 O O bG O) O<|R.s O (s.aT dU [0] _ _ _ O O O wB O O (fun w own hw H=>lH c.Val 1 w own H (by omega)) O) fun z3=>?_
  refine R.u 5 O<|R.nil<|R.reg O<|R.u 1 O<|R.q (q.not O) O<|R.u 1 O<|?_
  cases b
  .
   refine R.u 9 O<|R.nil<|R.az O O<|R.reg O<|R.u 1 O<|R.nil ?_
   have hz:rowP r c=(r,false):=by (exact BS ‹_› hy1 (by omega) (.inl hC.symm))
   rw [hz]
   exact R.w1 (cI,cQ,dE,cB) mL [] O Tryz.results89 (RV.tmp O) O O O O
  refine R.u 1 O<|R.qg O (q.not O) O<|R.u 2 O<|?_
  rcases Bool.eq_false_or_eq_true (eH c.Val 1) with h11|h11
  .
   rw [h11]
   refine R.qg O (q.aP O cX O) O<|R.qg O (q.ld 2 O O bG O) O<|R.qg O (q.iy O Tryz.underlying9) O<|?_
   by_cases h12:12<c.Val.size
   .
    refine R.qg O (q.eM O O) O<|R.u 1 O<|R.nil<|R.az O O<|R.reg O<|R.u 1 O<|R.nil ?_
    have hz:rowP r c=(r,false):=by (exact BS ‹_› hy1 (by omega) (.inr (.inr (by omega))))
    rw [hz]
    exact R.w1 (cI,cQ,dE,cB) mL [] O Tryz.results89 (RV.tmp O) O O O O
   refine R.qg O (q.ey O O) O<|R.u 1 O<|R.nil<|R.aD O O ?_
   have ek:=Ll (c:=c) hC.symm
   have Wh:=qq (s:=c.Val) (m:=1) ‹_›
   obtain ⟨x2,hx2⟩:∃z,(numsL (c.Key.extract 1 c.Key.size) 1)[0]? = some z:=⟨_,List.getElem?_eq_getElem (by omega)⟩
   obtain ⟨x3,hx3⟩:∃z,(numsL c.Val 1)[0]? = some z:=⟨_,List.getElem?_eq_getElem (by omega)⟩
   refine R.fJ (fuel:=20) lO O O mixed O<|D.q (i:=0) O (aA lO [0] O) O (q.mv O) O<|D.q (i:=1) O (aA lO [0] O) O (q.mv O) O<|D.q (i:=2) O (aA lO [0] O) O (q.bR O) O<|D.q (i:=3) O (aA lO [0] O) O (q.aP O du O) O<|D.q (i:=5) O (aA lO [0] O) O (q.mv O) O<|D.q (i:=6) O (aA lO [0] O) O (q.idx (i:=0) (bD 1 O) O O da O hx2) O<|D.q (i:=7) O (aA lO [0] O) O (q.ln (bD 1 O) hx2 O ap O) O<|D.q (i:=8) O (aA lO [0] O) O (q.mv O) O<|D.q (i:=9) O (aA lO [0] O) O (q.idx (i:=0) (bD 0 O) O O da O hx3) O<|D.q (i:=10) O (aA lO [0] O) O (q.ln (bD 0 O) hx3 O ap O) O<|D.q (i:=11) O (aA lO [0] O) O (q.aP O cX O) O<|D.q (i:=12) O (aA lO [0] O) O (q.ld 2 O O bG O) O<|D.q (i:=13) O (aA lO [0] O) O (q.Cq (i:=4) O O Tryz.underlying9 O (by omega)) O<|D.q (i:=14) O (aA lO [0] O) O (q.build Ey O O) O<|D.two (i:=4) (j:=15) O O ?_ ?_
   .
    refine Do.s (s.c (Qt.a (q.ld 3 O O eQ O)) O) (fun _=>(aA lO [0] O)) O fun _=>?_
    refine D.one (i:=15) O<|Do.s (s.bs (l:=([(⟨x2,x3,(c.Val.extract 4 c.Val.size)⟩:aE)]:List aE)) kg jq O O O O O O O) (fun _=>(aA pC [0] O)) O fun b5=>?_
    refine D.one (i:=16) O<|Do.s (s.app 6 _ O O O (bD 0 O) sM (by (simp;omega)) (by (simp;omega)) (fun _=>rfl) O) (fun _=>(aA pC [0] O)) O fun v3=>?_
    refine D.q (i:=17) O (aA pC [0] O) O (q.bR O) O<|D.q (i:=18) O (aA pC [0] O) O (q.aP O du O) O<|D.one (i:=19) O<|Do.s (s.fP 4 _ O O O (fun w hw=>Sl.cr (hw.row 6 O)) (.inr ⟨eQ,rfl⟩) (fun w hw=>(ae (Sl.one (hw.row 6 O)) aO)) O O O) (fun _=>(aA pC [0] O)) O fun _=>?_
    refine D.done<|R.reg O<|R.u 1 O<|R.q (q.idx (i:=0) (bD 1 O) O O da O hx3) O<|R.q (q.ln (bD 1 O) hx3 O ap O) O<|?_
    by_cases UX:x3=1
    .
     refine R.q (q.fI O O) O<|R.u 13 O<|R.nil ?_
     have hz:rowP r c=((⟨r.ao,(r.Things++([(⟨x2,x3,(c.Val.extract 4 c.Val.size)⟩:aE)])),r.Held,r.Notes,r.af,r.ah⟩:aB),true):=by (exact D2 ‹_› hy1 (by omega) hC.symm ‹_› (by omega) ‹_› ‹_› (decide_eq_true (by omega)).symm)
     rw [hz]
     exact R.w1 (cI,v3,dE,cB) rm [] O Tryz.results89 (RV.tmp O) O O O O
    refine R.q (q.eU O O) O<|R.u 2 O<|R.qg O (q.idx (i:=0) (bD 1 O) O O da O hx3) O<|R.qg O (q.ln (bD 1 O) hx3 O ap O) O<|?_
    by_cases UY:x3=2
    .
     refine R.qg O (q.fI O O) O<|R.u 1 O<|R.qg O (q.aP O cX O) O<|R.qg O (q.ld 3 O O bG O) O<|R.qg O (q.iy O Tryz.underlying9) O<|?_
     by_cases UZ:c.Val.size=4
     .
      refine R.qg O (q.fI O O) O<|R.u 3 O<|R.nil ?_
      have hz:rowP r c=((⟨r.ao,(r.Things++([(⟨x2,x3,(c.Val.extract 4 c.Val.size)⟩:aE)])),r.Held,r.Notes,r.af,r.ah⟩:aB),true):=by (exact D2 ‹_› hy1 (by omega) hC.symm ‹_› (by omega) ‹_› ‹_› (decide_eq_true (by omega)).symm)
      rw [hz]
      exact R.w1 (cI,v3,dE,cB) rm [] O Tryz.results89 (RV.tmp O) O O O O
     refine R.qg O (q.eU O O) O<|R.u 3 O<|R.nil ?_
     have hz:rowP r c=((⟨r.ao,(r.Things++([(⟨x2,x3,(c.Val.extract 4 c.Val.size)⟩:aE)])),r.Held,r.Notes,r.af,r.ah⟩:aB),false):=by (exact D2 ‹_› hy1 (by omega) hC.symm ‹_› (by omega) ‹_› ‹_› (decide_eq_false (by omega)).symm)
     rw [hz]
     exact R.w1 (cI,v3,dE,cB) rm [] O Tryz.results89 (RV.tmp O) O O O O
    refine R.qg O (q.eU O O) O<|R.u 8 O<|R.nil ?_
    have hz:rowP r c=((⟨r.ao,(r.Things++([(⟨x2,x3,(c.Val.extract 4 c.Val.size)⟩:aE)])),r.Held,r.Notes,r.af,r.ah⟩:aB),false):=by (exact D2 ‹_› hy1 (by omega) hC.symm ‹_› (by omega) ‹_› ‹_› (decide_eq_false (by omega)).symm)
    rw [hz]
    exact R.w1 (cI,v3,dE,cB) rm [] O Tryz.results89 (RV.tmp O) O O O O
   refine Do.s (s.bs (l:=([(⟨x2,x3,(c.Val.extract 4 c.Val.size)⟩:aE)]:List aE)) kg jq O O O O O O O) (fun _=>(aA pC [0] O)) O fun b6=>?_
   refine D.one (i:=4) O<|Do.s (s.c (Qt.a (q.ld 4 O O eQ O)) O) (fun _=>(aA pC [0] O)) O fun _=>?_
   refine D.one (i:=16) O<|Do.s (s.app 6 _ O O O (bD 0 O) sM (by (simp;omega)) (by (simp;omega)) (fun _=>rfl) O) (fun _=>(aA pC [0] O)) O fun v4=>?_
   refine D.q (i:=17) O (aA pC [0] O) O (q.bR O) O<|D.q (i:=18) O (aA pC [0] O) O (q.aP O du O) O<|D.one (i:=19) O<|Do.s (s.fP 4 _ O O O (fun w hw=>Sl.cr (hw.row 6 O)) (.inr ⟨eQ,rfl⟩) (fun w hw=>(ae (Sl.one (hw.row 6 O)) aO)) O O O) (fun _=>(aA pC [0] O)) O fun _=>?_
   refine D.done<|R.reg O<|R.u 1 O<|R.q (q.idx (i:=0) (bD 1 O) O O da O hx3) O<|R.q (q.ln (bD 1 O) hx3 O ap O) O<|?_
   by_cases h16:x3=1
   .
    refine R.q (q.fI O O) O<|R.u 13 O<|R.nil ?_
    have hz:rowP r c=((⟨r.ao,(r.Things++([(⟨x2,x3,(c.Val.extract 4 c.Val.size)⟩:aE)])),r.Held,r.Notes,r.af,r.ah⟩:aB),true):=by (exact D2 ‹_› hy1 (by omega) hC.symm ‹_› (by omega) ‹_› ‹_› (decide_eq_true (by omega)).symm)
    rw [hz]
    exact R.w1 (cI,v4,dE,cB) rm [] O Tryz.results89 (RV.tmp O) O O O O
   refine R.q (q.eU O O) O<|R.u 2 O<|R.qg O (q.idx (i:=0) (bD 1 O) O O da O hx3) O<|R.qg O (q.ln (bD 1 O) hx3 O ap O) O<|?_
   by_cases U0:x3=2
   .
    refine R.qg O (q.fI O O) O<|R.u 1 O<|R.qg O (q.aP O cX O) O<|R.qg O (q.ld 3 O O bG O) O<|R.qg O (q.iy O Tryz.underlying9) O<|?_
    by_cases h18:c.Val.size=4
    .
     refine R.qg O (q.fI O O) O<|R.u 3 O<|R.nil ?_
     have hz:rowP r c=((⟨r.ao,(r.Things++([(⟨x2,x3,(c.Val.extract 4 c.Val.size)⟩:aE)])),r.Held,r.Notes,r.af,r.ah⟩:aB),true):=by (exact D2 ‹_› hy1 (by omega) hC.symm ‹_› (by omega) ‹_› ‹_› (decide_eq_true (by omega)).symm)
     rw [hz]
     exact R.w1 (cI,v4,dE,cB) rm [] O Tryz.results89 (RV.tmp O) O O O O
    refine R.qg O (q.eU O O) O<|R.u 3 O<|R.nil ?_
    have hz:rowP r c=((⟨r.ao,(r.Things++([(⟨x2,x3,(c.Val.extract 4 c.Val.size)⟩:aE)])),r.Held,r.Notes,r.af,r.ah⟩:aB),false):=by (exact D2 ‹_› hy1 (by omega) hC.symm ‹_› (by omega) ‹_› ‹_› (decide_eq_false (by omega)).symm)
    rw [hz]
    exact R.w1 (cI,v4,dE,cB) rm [] O Tryz.results89 (RV.tmp O) O O O O
   refine R.qg O (q.eU O O) O<|R.u 8 O<|R.nil ?_
   have hz:rowP r c=((⟨r.ao,(r.Things++([(⟨x2,x3,(c.Val.extract 4 c.Val.size)⟩:aE)])),r.Held,r.Notes,r.af,r.ah⟩:aB),false):=by (exact D2 ‹_› hy1 (by omega) hC.symm ‹_› (by omega) ‹_› ‹_› (decide_eq_false (by omega)).symm)
   rw [hz]
   exact R.w1 (cI,v4,dE,cB) rm [] O Tryz.results89 (RV.tmp O) O O O O
  rw [h11]
  refine R.u 5 O<|R.nil<|R.az O O<|R.reg O<|R.u 1 O<|R.nil ?_
  have hz:rowP r c=(r,false):=by (exact BS ‹_› hy1 (by omega) (.inr (.inl ‹_›)))
  rw [hz]
  exact R.w1 (cI,cQ,dE,cB) mL [] O Tryz.results89 (RV.tmp O) O O O O
 refine R.q (q.eU O O) O<|R.u 1 O<|R.nil<|R.aD O O<|R.reg O<|?_
 by_cases h19:y1.toNat=119
 .
  refine R.q (q.fI O O) O<|R.u 1 O<|R.nil<|R.az O O<|R.reg O<|R.q (q.aP O cX O) O<|R.q (q.ld 1 O O bG O) O<|R.s O (s.aT dU [0] _ _ _ O O O wB O O (fun w own hw H=>lH c.Val 4 w own H (by omega)) O) fun z4=>?_
  refine R.u 5 O<|R.nil<|R.reg O<|R.u 1 O<|R.q (q.not O) O<|R.u 1 O<|?_
  cases b
  .
   refine R.u 9 O<|R.nil<|R.az O O<|R.reg O<|R.u 1 O<|R.nil ?_
   have hz:rowP r c=(r,false):=by (exact BU ‹_› hy1 (by omega) (.inl hC.symm))
   rw [hz]
   exact R.w1 (cI,cQ,dE,cB) mL [] O Tryz.results89 (RV.tmp O) O O O O
  refine R.u 1 O<|R.qg O (q.not O) O<|R.u 2 O<|?_
  rcases Bool.eq_false_or_eq_true (eH c.Val 4) with h20|h20
  .
   rw [h20]
   refine R.qg O (q.aP O cX O) O<|R.qg O (q.ld 2 O O bG O) O<|R.qg O (q.iy O Tryz.underlying9) O<|?_
   by_cases h21:c.Val.size=16
   .
    refine R.qg O (q.ny O O) O<|R.u 1 O<|R.nil<|R.aD O O ?_
    have ek:=Ll (c:=c) hC.symm
    have WE:=qq (s:=c.Val) (m:=4) ‹_›
    obtain ⟨x4,hx4⟩:∃z,(numsL (c.Key.extract 1 c.Key.size) 1)[0]? = some z:=⟨_,List.getElem?_eq_getElem (by omega)⟩
    obtain ⟨x5,hx5⟩:∃z,(numsL c.Val 4)[0]? = some z:=⟨_,List.getElem?_eq_getElem (by omega)⟩
    obtain ⟨x6,hx6⟩:∃z,(numsL c.Val 4)[1]? = some z:=⟨_,List.getElem?_eq_getElem (by omega)⟩
    obtain ⟨x7,hx7⟩:∃z,(numsL c.Val 4)[2]? = some z:=⟨_,List.getElem?_eq_getElem (by omega)⟩
    obtain ⟨x8,Vf⟩:∃z,(numsL c.Val 4)[3]? = some z:=⟨_,List.getElem?_eq_getElem (by omega)⟩
    refine R.fJ (fuel:=26) mI O O mixed O<|D.q (i:=0) O (aA mI [0] O) O (q.mv O) O<|D.q (i:=1) O (aA mI [0] O) O (q.mv O) O<|D.q (i:=2) O (aA mI [0] O) O (q.bR O) O<|D.q (i:=3) O (aA mI [0] O) O (q.aP O bq O) O<|D.q (i:=5) O (aA mI [0] O) O (q.mv O) O<|D.q (i:=6) O (aA mI [0] O) O (q.idx (i:=0) (bD 1 O) O O da O hx4) O<|D.q (i:=7) O (aA mI [0] O) O (q.ln (bD 1 O) hx4 O ap O) O<|D.q (i:=8) O (aA mI [0] O) O (q.mv O) O<|D.q (i:=9) O (aA mI [0] O) O (q.idx (i:=0) (bD 0 O) O O da O hx5) O<|D.q (i:=10) O (aA mI [0] O) O (q.ln (bD 0 O) hx5 O ap O) O<|D.q (i:=11) O (aA mI [0] O) O (q.mv O) O<|D.q (i:=12) O (aA mI [0] O) O (q.idx (i:=1) (bD 0 O) O O da O hx6) O<|D.q (i:=13) O (aA mI [0] O) O (q.ln (bD 0 O) hx6 O ap O) O<|D.q (i:=14) O (aA mI [0] O) O (q.mv O) O<|D.q (i:=15) O (aA mI [0] O) O (q.idx (i:=2) (bD 0 O) O O da O hx7) O<|D.q (i:=16) O (aA mI [0] O) O (q.ln (bD 0 O) hx7 O ap O) O<|D.q (i:=17) O (aA mI [0] O) O (q.mv O) O<|D.q (i:=18) O (aA mI [0] O) O (q.idx (i:=3) (bD 0 O) O O da O Vf) O<|D.q (i:=19) O (aA mI [0] O) O (q.ln (bD 0 O) Vf O ap O) O<|D.q (i:=20) O (aA mI [0] O) O (q.build iT O O) O<|D.two (i:=4) (j:=21) O O ?_ ?_
    .
     refine Do.s (s.c (Qt.a (q.ld 3 O O cd O)) O) (fun _=>(aA mI [0] O)) O fun _=>?_
     refine D.one (i:=21) O<|Do.s (s.bs (l:=([(⟨x4,x5,x6,x7,x8⟩:ak)]:List ak)) eu bQ O O O O O O O) (fun _=>(aA pD [0] O)) O fun b7=>?_
     refine D.one (i:=22) O<|Do.s (s.app 5 _ O O O (bD 0 O) lq (by (simp;omega)) (by (simp;omega)) (fun _=>rfl) O) (fun _=>(aA pD [0] O)) O fun v5=>?_
     refine D.q (i:=23) O (aA pD [0] O) O (q.bR O) O<|D.q (i:=24) O (aA pD [0] O) O (q.aP O bq O) O<|D.one (i:=25) O<|Do.s (s.fP 4 _ O O O (fun w hw=>Sl.cr (hw.row 5 O)) (.inr ⟨cd,rfl⟩) (fun w hw=>(ae (Sl.one (hw.row 5 O)) aO)) O O O) (fun _=>(aA pD [0] O)) O fun _=>?_
     refine D.done<|R.reg O<|R.u 1 O<|R.nil ?_
     have hz:rowP r c=((⟨(r.ao++([(⟨x4,x5,x6,x7,x8⟩:ak)])),r.Things,r.Held,r.Notes,r.af,r.ah⟩:aB),true):=by (exact Tb ‹_› hy1 (by omega) hC.symm ‹_› (by omega) ‹_› ‹_› ‹_› ‹_› ‹_›)
     rw [hz]
     exact R.w1 (v5,cQ,dE,cB) rm [] O Tryz.results89 (RV.tmp O) O O O O
    refine Do.s (s.bs (l:=([(⟨x4,x5,x6,x7,x8⟩:ak)]:List ak)) eu bQ O O O O O O O) (fun _=>(aA pD [0] O)) O fun b8=>?_
    refine D.one (i:=4) O<|Do.s (s.c (Qt.a (q.ld 4 O O cd O)) O) (fun _=>(aA pD [0] O)) O fun _=>?_
    refine D.one (i:=22) O<|Do.s (s.app 5 _ O O O (bD 0 O) lq (by (simp;omega)) (by (simp;omega)) (fun _=>rfl) O) (fun _=>(aA pD [0] O)) O fun v6=>?_
    refine D.q (i:=23) O (aA pD [0] O) O (q.bR O) O<|D.q (i:=24) O (aA pD [0] O) O (q.aP O bq O) O<|D.one (i:=25) O<|Do.s (s.fP 4 _ O O O (fun w hw=>Sl.cr (hw.row 5 O)) (.inr ⟨cd,rfl⟩) (fun w hw=>(ae (Sl.one (hw.row 5 O)) aO)) O O O) (fun _=>(aA pD [0] O)) O fun _=>?_
    refine D.done<|R.reg O<|R.u 1 O<|R.nil ?_
    have hz:rowP r c=((⟨(r.ao++([(⟨x4,x5,x6,x7,x8⟩:ak)])),r.Things,r.Held,r.Notes,r.af,r.ah⟩:aB),true):=by (exact Tb ‹_› hy1 (by omega) hC.symm ‹_› (by omega) ‹_› ‹_› ‹_› ‹_› ‹_›)
    rw [hz]
    exact R.w1 (v6,cQ,dE,cB) rm [] O Tryz.results89 (RV.tmp O) O O O O
   refine R.qg O (q.nu O O) O<|R.u 1 O<|R.nil<|R.az O O<|R.reg O<|R.u 1 O<|R.nil ?_
   have hz:rowP r c=(r,false):=by (exact BU ‹_› hy1 (by omega) (.inr (.inr (by omega))))
   rw [hz]
   exact R.w1 (cI,cQ,dE,cB) mL [] O Tryz.results89 (RV.tmp O) O O O O
  rw [h20]
  refine R.u 5 O<|R.nil<|R.az O O<|R.reg O<|R.u 1 O<|R.nil ?_
  have hz:rowP r c=(r,false):=by (exact BU ‹_› hy1 (by omega) (.inr (.inl ‹_›)))
  rw [hz]
  exact R.w1 (cI,cQ,dE,cB) mL [] O Tryz.results89 (RV.tmp O) O O O O
 refine R.q (q.eU O O) O<|R.u 1 O<|R.nil<|R.aD O O<|R.reg O<|R.q (q.aP O cX O) O<|R.q (q.ld 1 O O bG O) O<|R.s O (s.aT dU [0] _ _ _ O O O wB O O (fun w own hw H=>lH c.Val 2 w own H (by omega)) O) fun z5=>?_
 refine R.u 5 O<|R.nil<|R.reg O<|R.q (q.aP O bI O) O<|R.q (q.ld 2 O O bG O) O<|?_
 by_cases h22:c.Key=⟨#[120]⟩
 .
  refine R.q (q.uy O O h22) O<|R.u 2 O<|R.qg O (q.not O) O<|R.u 2 O<|?_
  rcases Bool.eq_false_or_eq_true (eH c.Val 2) with h23|h23
  .
   rw [h23]
   refine R.qg O (q.aP O cX O) O<|R.qg O (q.ld 2 O O bG O) O<|R.qg O (q.iy O Tryz.underlying9) O<|?_
   by_cases WG:c.Val.size=8
   .
    refine R.qg O (q.ny O O) O<|R.u 1 O<|R.nil<|R.aD O O ?_
    have WH:=qq (s:=c.Val) (m:=2) ‹_›
    obtain ⟨x9,Vg⟩:∃z,(numsL c.Val 2)[0]? = some z:=⟨_,List.getElem?_eq_getElem (by omega)⟩
    obtain ⟨x10,Td⟩:∃z,(numsL c.Val 2)[1]? = some z:=⟨_,List.getElem?_eq_getElem (by omega)⟩
    refine R.fJ (fuel:=14) ma O O mixed O<|D.q (i:=0) O (aA ma [0] O) O (q.mv O) O<|D.q (i:=1) O (aA ma [0] O) O (q.mv O) O<|D.q (i:=2) O (aA ma [0] O) O (q.mv O) O<|D.q (i:=3) O (aA ma [0] O) O (q.idx (i:=0) (bD 0 O) O O da O Vg) O<|D.q (i:=4) O (aA ma [0] O) O (q.ln (bD 0 O) Vg O ap O) O<|D.q (i:=5) O (aA ma [0] O) O (q.mv O) O<|D.q (i:=6) O (aA ma [0] O) O (q.idx (i:=1) (bD 0 O) O O da O Td) O<|D.q (i:=7) O (aA ma [0] O) O (q.ln (bD 0 O) Td O ap O) O<|D.q (i:=8) O (aA ma [0] O) O (q.bR O) O<|D.q (i:=9) O (aA ma [0] O) O (q.aP O cO O) O<|D.one (i:=10) O<|Do.s (s.st 3 _ O O O O (.inr ⟨ap,rfl⟩) O O O O) (fun _=>(aA ma [0] O)) O fun _=>?_
    refine D.q (i:=11) O (aA ma [0] O) O (q.bR O) O<|D.q (i:=12) O (aA ma [0] O) O (q.aP O eI O) O<|D.one (i:=13) O<|Do.s (s.st 3 _ O O O O (.inr ⟨ap,rfl⟩) O O O O) (fun _=>(aA ma [0] O)) O fun _=>?_
    refine D.done<|R.reg O<|R.u 1 O<|R.nil ?_
    have hz:rowP r c=((⟨r.ao,r.Things,r.Held,r.Notes,x9,x10⟩:aB),true):=by (exact UG ‹_› hy1 (by omega) (by omega) (by omega) ‹_› ‹_› (by omega) ‹_› ‹_›)
    rw [hz]
    exact R.w1 (cI,cQ,dE,cB) mL [] O Tryz.results89 (RV.tmp O) O O O O
   refine R.qg O (q.nu O O) O<|R.u 1 O<|R.nil<|R.az O O<|R.reg O<|R.u 1 O<|R.nil ?_
   have hz:rowP r c=(r,false):=by (exact BV ‹_› hy1 (by omega) (by omega) (by omega) (.inr (.inr (by omega))))
   rw [hz]
   exact R.w1 (cI,cQ,dE,cB) mL [] O Tryz.results89 (RV.tmp O) O O O O
  rw [h23]
  refine R.u 5 O<|R.nil<|R.az O O<|R.reg O<|R.u 1 O<|R.nil ?_
  have hz:rowP r c=(r,false):=by (exact BV ‹_› hy1 (by omega) (by omega) (by omega) (.inr (.inl ‹_›)))
  rw [hz]
  exact R.w1 (cI,cQ,dE,cB) mL [] O Tryz.results89 (RV.tmp O) O O O O
 refine R.q (q.yU O O h22) O<|R.u 10 O<|R.nil<|R.az O O<|R.reg O<|R.u 1 O<|R.nil ?_
 have hz:rowP r c=(r,false):=by (exact BV ‹_› hy1 (by omega) (by omega) (by omega) (.inl ‹_›))
 rw [hz]
 exact R.w1 (cI,cQ,dE,cB) mL [] O Tryz.results89 (RV.tmp O) O O O O
end
theorem hk0 (h:Held):∃l,bl (hrow h).Key=104::l:=⟨_,by show bl (kH++gQ h.Place.aC++gQ h.Place.Slot)=_;rw [iM,iM];rfl⟩
def Wi (t:aE):Bool:=decide ((t.Kind=1∨t.Kind=2/\t.Data.size=0)/\t.Data.size<=8)
def xr (a b:Int):Change:=⟨kX,bN a++bN b,false⟩
structure Kinds (l:List Change)(hs:List Held)(ts:List aE)(ws:List ak)(xs:List Change):Prop where
  eq:l=hs.map hrow++ts.map lW++ws.map nX++xs
  h:∀x∈hs,aZ x.Place=0
  t:∀x∈ts,Wi x=true
  x:(xs=[] /\ ∀r:aB,l.foldl tu r=⟨r.ao++ws,r.Things++ts,r.Held++hs,r.Notes,r.af,r.ah⟩) ∨ ∃a b,xs=[xr a b] /\ ∀r:aB,l.foldl tu r=⟨r.ao++ws,r.Things++ts,r.Held++hs,r.Notes,a,b⟩
theorem yi {z:aB}(h:Inv z)(hn:z.Notes=[]):bm z=z:=by
 obtain ⟨a,b,c,d,e,f⟩:=z
 simp only at hn;subst hn
 exact xX h
section
open Go Go.RowKit
theorem D3 {b:Bool}(h:(!b)=true):b=false:=by cases b <;> simp_all
theorem D4 {b:Bool}(h:(!b)=false):b=true:=by cases b <;> simp_all
theorem Qz {α β:Type}{f:α->β}{L:List α}{k:Nat}{x:α}(hx:L[k]? = some x)(hm:f x∈(L.take k).map f):¬ (L.map f).Nodup:=fun hn=>by
 have hk:=(List.getElem?_eq_some_iff.1 hx).1
 rw [<- List.take_append_drop k L,List.map_append] at hn
 have h2:f x∈(L.drop k).map f:=List.mem_map.2 ⟨x,List.mem_of_getElem? (i:=0) (by rw [List.getElem?_drop,Nat.add_zero];exact hx),rfl⟩
 exact (List.nodup_append.1 hn).2.2 _ hm _ h2 rfl
theorem Fy {l:List Int}{x:Int}(h:l.Nodup)(hx:¬ x∈l):(l++[x]).Nodup:=by
 rw [List.nodup_append]
 exact ⟨h,(List.nodup_cons.2 ⟨(by simp),List.nodup_nil⟩),fun a ha b hb e=>hx (by rw [List.mem_singleton.1 hb] at e;rw [<- e];exact ha)⟩
section
variable {r:aB} {k:Nat} {x:Held} {seen ts:List Int}
theorem M8 (hx:r.Held[k]? = some x)(h:cD r.ao x.ak<0):dS r=false:=gv fun hw=>by
 have:=hw.eP x (List.mem_of_getElem? hx);omega
theorem QA (hx:r.Held[k]? = some x)(hs:seen=(r.Held.take k).map Held.ak)(h:x.ak∈seen):dS r=false:=gv fun hw=>Qz hx (hs▸h) hw.once
theorem Iy (ht:ts=(r.Things.take k).map aE.ID)(hk:r.Things.length<=k)(h:¬ ts=bV r.ao):dS r=false:=gv fun hw=>h (by rw [ht,List.take_of_length_le hk];exact hw.things)
theorem Te {x:ak}(hx:r.ao[r.ao.length-1]? = some x)(h:¬ x.ID<r.af):dS r=false:=gv fun hw=>h (hw.Oj x (by rw [List.getLast?_eq_getElem?];exact hx))
theorem D5 {α β:Type}{f:α->β}{L:List α}{y:β}(h:(L.map f)[(L.map f).length-1]? = some y):∃x,L.getLast? = some x/\f x=y:=by
 rw [List.getElem?_map,List.length_map,<- List.getLast?_eq_getElem?] at h
 obtain ⟨x,h1,h2⟩:=Option.map_eq_some_iff.1 h
 exact ⟨x,h1,h2⟩
theorem Ot {y:Int}(ht:ts=(r.Things.take k).map aE.ID)(hk:r.Things.length<=k)(hy:ts[ts.length-1]? = some y)(h:¬ y<r.ah):dS r=false:=gv fun hw=>by
 subst ht;rw [List.take_of_length_le hk] at hy
 obtain ⟨x,h1,h2⟩:=D5 hy
 exact h (h2▸hw.Ol x h1)
theorem BW (a1:ef r.ao=0)(a2:r.Things.length<=10)(a3:1<=r.af/\r.af<=1000)(a5:1<=r.ah/\r.ah<=1000)(a7:r.Held.length=r.ao.length){i:Nat}(hs:seen=(r.Held.take i).map Held.ak)(hi:r.Held.length<=i)
 (hf:∀h∈r.Held.take i,0<=cD r.ao h.ak) (hn:seen.Nodup) (ht:ts=(r.Things.take k).map aE.ID) (hk:r.Things.length<=k) (he:ts=bV r.ao) (hw:r.ao.length=0 ∨ ∃x,r.ao[r.ao.length-1]? = some x/\x.ID<r.af) (hl:ts.length=0 ∨ ∃y,ts[ts.length-1]? = some y/\y<r.ah):dS r=true:=by
 rw [List.take_of_length_le hi] at hs hf
 rw [List.take_of_length_le hk] at ht
 refine ya ⟨a1,a2,a3.1,a3.2,a5.1,a5.2,a7,hf,hs▸hn,ht.symm.trans he,fun w hq=>?_,fun t hq=>?_⟩
 .
  rcases hw with hw|⟨x,h1,h2⟩
  .rw [List.eq_nil_of_length_eq_zero hw] at hq;cases hq
  .rw [List.getLast?_eq_getElem?,h1] at hq;injection hq with hq;rw [<- hq];exact h2
 .
  rcases hl with hl|⟨y,h1,h2⟩
  .rw [ht,List.length_map] at hl;rw [List.eq_nil_of_length_eq_zero hl] at hq;cases hq
  .
   subst ht
   obtain ⟨x,h3,h4⟩:=D5 h1
   rw [h3] at hq;injection hq with hq;rw [<- hq,h4];exact h2
end
theorem Iz (bU bK bL bM:Value)(r:aB)(w:World)(own:List Nat)(H:HN w own [] [ag.ls bU r.ao,ag.ls bK r.Things,ag.ls bL r.Held,ag.ls bM r.Notes])(hr:r.ao.length<=1000/\r.Things.length<=1000/\r.Held.length<=1000):RC Tryz.prog 90 #[.agg #[bU,bK,bL,bM,iV r.af,iV r.ah]] H (fun _:Unit => .bool (dS r)) (fun _=>[]) (fun _=>[]):=by
 have eK:=H.cq 0 rfl
 have dJ:=H.cq 1 rfl
 have fG:=H.cq 2 rfl
 have eL:=H.cq 3 rfl
 refine R.bF [(0,.agg #[bU,bK,bL,bM,iV r.af,iV r.ah])] Tryz.func90 O O O O H<|R.reg O<|R.s O (s.box O O O) fun b1=>?_
 refine R.u 1 O<|R.nil<|R.reg O<|R.q (q.aP O bq O) O<|R.q (q.ld 0 O O cd O) O<|R.c (q.call Pg O O (fun w hw=>(yG _ r.ao w (hw.bO 0 O) ))) O<|?_
 by_cases h1:ef r.ao=0
 .
  refine R.q (q.dx O O Tryz.underlying38) O<|R.u 1 O<|R.qg O (q.aP O du O) O<|R.qg O (q.ld 0 O O eQ O) O<|R.qg O (q.len' (dh 1 O) O Tryz.underlying44) O<|?_
  by_cases h2:10<r.Things.length
  .
   refine R.qg O (q.eM O O) O<|R.u 30 O<|R.nil<|R.az O O<|R.reg O<|R.u 1 O<|R.nil ?_
   have hz:dS r=false:=by (exact gv (fun hw=>by have a1:ef r.ao=0:=hw.tree;have a2:=hw.jl;have a3:=hw.oN;have a4:=hw.qS;have a5:=hw.pj;have a6:=hw.pn;have a7:=hw.hlen;omega))
   rw [hz]
   exact R.w1 () [1] [] O Tryz.results90 (RV.tmp O) O O O O
  refine R.qg O (q.ey O O) O<|R.u 2 O<|R.qg O (q.aP O cO O) O<|R.qg O (q.ld 0 O O ap O) O<|?_
  by_cases h3:r.af<1
  .
   refine R.qg O (q.dC O O) O<|R.u 25 O<|R.nil<|R.az O O<|R.reg O<|R.u 1 O<|R.nil ?_
   have hz:dS r=false:=by (exact gv (fun hw=>by have a1:ef r.ao=0:=hw.tree;have a2:=hw.jl;have a3:=hw.oN;have a4:=hw.qS;have a5:=hw.pj;have a6:=hw.pn;have a7:=hw.hlen;omega))
   rw [hz]
   exact R.w1 () [1] [] O Tryz.results90 (RV.tmp O) O O O O
  refine R.qg O (q.cS O O) O<|R.u 2 O<|R.qg O (q.aP O cO O) O<|R.qg O (q.ld 0 O O ap O) O<|?_
  by_cases h4:1000<r.af
  .
   refine R.qg O (q.eM O O) O<|R.u 20 O<|R.nil<|R.az O O<|R.reg O<|R.u 1 O<|R.nil ?_
   have hz:dS r=false:=by (exact gv (fun hw=>by have a1:ef r.ao=0:=hw.tree;have a2:=hw.jl;have a3:=hw.oN;have a4:=hw.qS;have a5:=hw.pj;have a6:=hw.pn;have a7:=hw.hlen;omega))
   rw [hz]
   exact R.w1 () [1] [] O Tryz.results90 (RV.tmp O) O O O O
  refine R.qg O (q.ey O O) O<|R.u 2 O<|R.qg O (q.aP O eI O) O<|R.qg O (q.ld 0 O O ap O) O<|?_
  by_cases h5:r.ah<1
  .
   refine R.qg O (q.dC O O) O<|R.u 15 O<|R.nil<|R.az O O<|R.reg O<|R.u 1 O<|R.nil ?_
   have hz:dS r=false:=by (exact gv (fun hw=>by have a1:ef r.ao=0:=hw.tree;have a2:=hw.jl;have a3:=hw.oN;have a4:=hw.qS;have a5:=hw.pj;have a6:=hw.pn;have a7:=hw.hlen;omega))
   rw [hz]
   exact R.w1 () [1] [] O Tryz.results90 (RV.tmp O) O O O O
  refine R.qg O (q.cS O O) O<|R.u 2 O<|R.qg O (q.aP O eI O) O<|R.qg O (q.ld 0 O O ap O) O<|?_
  by_cases h6:1000<r.ah
  .
   refine R.qg O (q.eM O O) O<|R.u 10 O<|R.nil<|R.az O O<|R.reg O<|R.u 1 O<|R.nil ?_
   have hz:dS r=false:=by (exact gv (fun hw=>by have a1:ef r.ao=0:=hw.tree;have a2:=hw.jl;have a3:=hw.oN;have a4:=hw.qS;have a5:=hw.pj;have a6:=hw.pn;have a7:=hw.hlen;omega))
   rw [hz]
   exact R.w1 () [1] [] O Tryz.results90 (RV.tmp O) O O O O
  refine R.qg O (q.ey O O) O<|R.u 2 O<|R.qg O (q.aP O cM O) O<|R.qg O (q.ld 0 O O dP O) O<|R.qg O (q.len' (dh 2 O) O Tryz.underlying45) O<|R.qg O (q.aP O bq O) O<|R.qg O (q.ld 0 O O cd O) O<|R.qg O (q.len' (dh 0 O) O Tryz.underlying43) O<|?_
  by_cases h7:r.Held.length=r.ao.length
  .
   refine R.qg O (q.ny O O) O<|R.u 1 O<|R.nil<|R.aD O O<|R.reg O<|R.u 1 O<|R.nil<|R.reg O<|R.q (q.aP O cM O) O<|R.q (q.ld 0 O O dP O) O<|R.q (q.len' (dh 2 O) O Tryz.underlying45) O<|R.u 1 O<|R.nil<|R.row0 (α:=Int) 3<|R.loop (fun g_:Nat×Value×(List Int)=>[(1,.pointer (some ⟨b1,0,none⟩)),(3,g_.2.1),(49,bL),(50,iV (r.Held.length:Int)),(51,iV (g_.1:Int))]) (fun g_=>[ag.row 3 g_.2.1 g_.2.2,ag.box b1 [bU,bK,bL,bM,iV r.af,iV r.ah] 48,ag.held w own]) (fun g_=>[ag.ls bU r.ao,ag.ls bK r.Things,ag.ls bL r.Held,ag.ls bM r.Notes]) (fun g_=>g_.1<=r.Held.length/\g_.2.2=(r.Held.take g_.1).map Held.ak/\(∀h∈r.Held.take g_.1,0<=cD r.ao h.ak)/\g_.2.2.Nodup) (fun g_=>r.Held.length-g_.1) (0,(nS),[]) O (by exact ⟨by omega,rfl,(by intro h hh;simp at hh),List.nodup_nil⟩) (sF O) (iz [0,1,2] bJ O) ?_
   rintro ⟨k,u,seen⟩ ⟨hk,HS,HF,HN⟩
   dsimp only at *
   have ll:seen.length<=1000:=by rw [HS,List.length_map,List.length_take];omega
   refine R.reg O<|?_
   by_cases h8:k<r.Held.length
   .
    refine R.q (q.dC O O) O<|R.nil<|R.az O O<|R.reg O<|?_
    obtain ⟨x1,hx1⟩:∃z,r.Held[k]? = some z:=⟨_,List.getElem?_eq_getElem (by omega)⟩
    refine R.q (q.idx (i:=k) (dh 2 O) O O cK O hx1) O<|R.q (q.gh (ds:=pE x1) (dh 2 O) hx1 O gy O) O<|R.s O (s.alloc gX O O) fun b2=>?_
    refine R.s O (s.st 0 _ O O O O (.inl gy) O O O O) fun _=>?_
    refine R.nil<|R.reg O<|R.q (q.aP O bq O) O<|R.q (q.ld 2 O O cd O) O<|R.q (q.aP O jS O) O<|R.q (q.ld 0 O O ap O) O<|?_
    rcases fk r.ao x1.ak with ⟨gS,Eu⟩ | ⟨Dp,lU,gS,ve,SS⟩
    .
     refine R.c (q.call lJ O O (fun w hw=>(cv (congrArg (Value.int .i64) gS) (iC _ r.ao x1.ak w (hw.bO 0 O) )))) O<|R.q (q.lss (b:=true) O O (by decide)) O<|R.u 6 O<|R.nil ?_
     refine R.az O O<|R.reg O<|R.u 1 O<|R.nil ?_
     have hz:dS r=false:=by (exact M8 hx1 (by omega))
     rw [hz]
     exact R.w1 () [3] [] O Tryz.results90 (RV.tmp O) O O O O
    refine R.c (q.call lJ O O (fun w hw=>(cv (congrArg (Value.int .i64) gS) (iC _ r.ao x1.ak w (hw.bO 0 O) )))) O<|R.q (q.cS O O) O<|R.u 2 O<|R.qg O (q.aP O jS O) O<|R.qg O (q.ld 0 O O ap O) O<|?_
    rcases Bool.eq_false_or_eq_true (decide (x1.ak∈seen)) with h9|h9
    .
     refine R.cg O (q.call pN O O (fun w hw=>(cv (congrArg Value.bool h9) (fQ _ seen x1.ak w (hw.row 1 O) )))) O<|R.u 1 O<|R.nil<|R.az O O<|R.reg O<|R.u 1 O<|R.nil ?_
     have hz:dS r=false:=by (exact QA hx1 HS (of_decide_eq_true ‹_›))
     rw [hz]
     exact R.w1 () [3] [] O Tryz.results90 (RV.tmp O) O O O O
    refine R.cg O (q.call pN O O (fun w hw=>(cv (congrArg Value.bool h9) (fQ _ seen x1.ak w (hw.row 1 O) )))) O<|R.u 1 O<|R.nil<|R.aD O O<|R.reg O<|R.u 1 O<|R.q (q.aP O jS O) O<|R.q (q.ld 0 O O ap O) O<|R.s O (s.bs (l:=([x1.ak]:List Int)) da lT O O O O O O O) fun b3=>?_
    refine R.s O (s.app 2 _ O O O (bD 0 O) nH (by (simp;omega)) (by (simp;omega)) (fun _=>rfl) O) fun v1=>?_
    refine R.u 1 O<|R.nil<|R.reg O<|R.q (q.bA (r:=((k+1:Nat):Int)) O O) O<|R.u 1 O<|R.nil<|R.back (k+1,v1,(seen++([x1.ak]))) O (by (exact ⟨by omega,by rw [qn Held.ak hx1,<- HS],(by rw [List.take_add_one,hx1];intro h hh;rcases List.mem_append.1 hh with hh|hh;exact HF h hh;rw [List.mem_singleton.1 hh];omega),Fy HN (of_decide_eq_false ‹_›)⟩)) (by dsimp only;omega) (sF O) (aA [2,3,4] bJ O)
   refine R.q (q.cS O O) O<|R.nil<|R.aD O O<|R.reg O<|R.u 1 O<|R.nil<|R.reg O<|R.q (q.aP O du O) O<|R.q (q.ld 1 O O eQ O) O<|R.q (q.len' (dh 1 O) O Tryz.underlying44) O<|R.u 1 O<|R.nil<|R.row0 (α:=Int) 3<|R.loop (fun g_:Nat×Value×(List Int)=>[(1,.pointer (some ⟨b1,0,none⟩)),(6,g_.2.1),(74,bK),(75,iV (r.Things.length:Int)),(76,iV (g_.1:Int))]) (fun g_=>[ag.row 3 g_.2.1 g_.2.2,ag.row 3 u seen,ag.box b1 [bU,bK,bL,bM,iV r.af,iV r.ah] 48,ag.held w own]) (fun g_=>[ag.ls bU r.ao,ag.ls bK r.Things,ag.ls bL r.Held,ag.ls bM r.Notes]) (fun g_=>g_.1<=r.Things.length/\g_.2.2=(r.Things.take g_.1).map aE.ID) (fun g_=>r.Things.length-g_.1) (0,(nS),[]) O (by exact ⟨by omega,rfl⟩) (sF O) (iz bJ bJ O) ?_
   rintro ⟨j,u2,ts⟩ ⟨hj,HT⟩
   dsimp only at *
   have Ve:ts.length<=1000:=by rw [HT,List.length_map,List.length_take];omega
   refine R.reg O<|?_
   by_cases h10:j<r.Things.length
   .
    refine R.q (q.dC O O) O<|R.nil<|R.az O O<|R.reg O<|?_
    obtain ⟨x2,hx2⟩:∃z,r.Things[j]? = some z:=⟨_,List.getElem?_eq_getElem (by omega)⟩
    refine R.q (q.idx (i:=j) (dh 1 O) O O kg O hx2) O<|R.q (q.gh (ds:=vt x2) (dh 1 O) hx2 O jE O) O<|R.s O (s.alloc jq O O) fun b4=>?_
    refine R.s O (s.st 0 _ O O O O (.inl jE) O O O O) fun _=>?_
    refine R.nil<|R.reg O<|R.u 1 O<|R.q (q.aP O oo O) O<|R.q (q.ld 0 O O ap O) O<|R.s O (s.bs (l:=([x2.ID]:List Int)) da lT O O O O O O O) fun b5=>?_
    refine R.s O (s.app 2 _ O O O (bD 0 O) nH (by (simp;omega)) (by (simp;omega)) (fun _=>rfl) O) fun v2=>?_
    refine R.u 1 O<|R.nil<|R.reg O<|R.q (q.bA (r:=((j+1:Nat):Int)) O O) O<|R.u 1 O<|R.nil<|R.back (j+1,v2,(ts++([x2.ID]))) O (by (exact ⟨by omega,by rw [qn aE.ID hx2,<- HT]⟩)) (by dsimp only;omega) (sF O) (aA [2,3,4,5] bJ O)
   refine R.q (q.cS O O) O<|R.nil<|R.aD O O<|R.reg O<|R.u 1 O<|R.q (q.aP O bq O) O<|R.q (q.ld 2 O O cd O) O<|R.s O (s.vT Jj O O (fun w hw=>uK _ r.ao w (hw.bO 0 O) (by omega)) O) fun v3=>?_
   rcases Bool.eq_false_or_eq_true (decide (ts=(bV r.ao))) with h11|h11
   .
    refine R.c (q.call Jq O O (fun w hw=>(cv (congrArg Value.bool h11) (yh _ ts _ (bV r.ao) w (hw.row 1 O) (hw.row 0 O) )))) O<|R.u 1 O<|R.nil ?_
    refine R.aD O O ?_
    by_cases h12:r.ao.length=0
    .
     by_cases UX:ts.length=0
     .
      refine R.eZ O mixed (by kernel_rfl)<|Q.q (q.aP O bq O) O<|Q.q (q.ld 3 O O cd O) O<|Q.q (q.len' (dh 0 O) O Tryz.underlying43) O<|Q.q (q.fI O O) O<|Q.u 16 O<|Q.qg O (q.len' (bD 1 O) O Tryz.underlying159) O<|Q.qg O (q.fI O O) O<|Q.u 13 O<|Q.nil ?_
      have hz:dS r=true:=by (exact BW (by omega) (by omega) (by omega) (by omega) (by omega) HS (by omega) HF HN HT (by omega) (of_decide_eq_true ‹_›) (.inl (by omega)) (.inl (by omega)))
      rw [hz]
      exact R.w1 () [4] [] O Tryz.results90 (RV.tmp O) O O O O
     obtain ⟨x3,hx3⟩:∃z,ts[(ts.length-1)]? = some z:=⟨_,List.getElem?_eq_getElem (by omega)⟩
     by_cases UY:x3<r.ah
     .
      refine R.eZ O mixed (by kernel_rfl)<|Q.q (q.aP O bq O) O<|Q.q (q.ld 3 O O cd O) O<|Q.q (q.len' (dh 0 O) O Tryz.underlying43) O<|Q.q (q.fI O O) O<|Q.u 16 O<|Q.qg O (q.len' (bD 1 O) O Tryz.underlying159) O<|Q.qg O (q.eU O O) O<|Q.u 3 O<|Q.qg O (q.len' (bD 1 O) O Tryz.underlying159) O<|Q.qg O (q.lS (r:=((ts.length-1:Nat):Int)) O O) O<|Q.qg O (q.idx (i:=(ts.length-1)) (bD 1 O) O O da O hx3) O<|Q.qg O (q.ln (bD 1 O) hx3 O ap O) O<|Q.qg O (q.aP O eI O) O<|Q.qg O (q.ld 3 O O ap O) O<|Q.qg O (q.dC O O) O<|Q.u 3 O<|Q.nil ?_
      have hz:dS r=true:=by (exact BW (by omega) (by omega) (by omega) (by omega) (by omega) HS (by omega) HF HN HT (by omega) (of_decide_eq_true ‹_›) (.inl (by omega)) (.inr ⟨_,hx3,by assumption⟩))
      rw [hz]
      exact R.w1 () [4] [] O Tryz.results90 (RV.tmp O) O O O O
     refine R.eZ O mixed (by kernel_rfl)<|Q.q (q.aP O bq O) O<|Q.q (q.ld 3 O O cd O) O<|Q.q (q.len' (dh 0 O) O Tryz.underlying43) O<|Q.q (q.fI O O) O<|Q.u 16 O<|Q.qg O (q.len' (bD 1 O) O Tryz.underlying159) O<|Q.qg O (q.eU O O) O<|Q.u 3 O<|Q.qg O (q.len' (bD 1 O) O Tryz.underlying159) O<|Q.qg O (q.lS (r:=((ts.length-1:Nat):Int)) O O) O<|Q.qg O (q.idx (i:=(ts.length-1)) (bD 1 O) O O da O hx3) O<|Q.qg O (q.ln (bD 1 O) hx3 O ap O) O<|Q.qg O (q.aP O eI O) O<|Q.qg O (q.ld 3 O O ap O) O<|Q.qg O (q.cS O O) O<|Q.u 3 O<|Q.nil ?_
     have hz:dS r=false:=by (exact Ot HT (by omega) hx3 ‹_›)
     rw [hz]
     exact R.w1 () [4] [] O Tryz.results90 (RV.tmp O) O O O O
    obtain ⟨x4,hx4⟩:∃z,r.ao[(r.ao.length-1)]? = some z:=⟨_,List.getElem?_eq_getElem (by omega)⟩
    by_cases UZ:x4.ID<r.af
    .
     by_cases h16:ts.length=0
     .
      refine R.eZ O mixed (by kernel_rfl)<|Q.q (q.aP O bq O) O<|Q.q (q.ld 3 O O cd O) O<|Q.q (q.len' (dh 0 O) O Tryz.underlying43) O<|Q.q (q.eU O O) O<|Q.u 1 O<|Q.qg O (q.aP O bq O) O<|Q.qg O (q.ld 3 O O cd O) O<|Q.qg O (q.aP O bq O) O<|Q.qg O (q.ld 3 O O cd O) O<|Q.qg O (q.len' (dh 0 O) O Tryz.underlying43) O<|Q.qg O (q.lS (r:=((r.ao.length-1:Nat):Int)) O O) O<|Q.qg O (q.idx (i:=(r.ao.length-1)) (dh 0 O) O O eu O hx4) O<|Q.qg O (q.m9 (j':=0) (dh 0 O) hx4 O bX O) O<|Q.qg O (q.ln (dh 0 O) hx4 O ap O) O<|Q.qg O (q.aP O cO O) O<|Q.qg O (q.ld 3 O O ap O) O<|Q.qg O (q.dC O O) O<|Q.u 3 O<|Q.qg O (q.len' (bD 1 O) O Tryz.underlying159) O<|Q.qg O (q.fI O O) O<|Q.u 13 O<|Q.nil ?_
      have hz:dS r=true:=by (exact BW (by omega) (by omega) (by omega) (by omega) (by omega) HS (by omega) HF HN HT (by omega) (of_decide_eq_true ‹_›) (.inr ⟨_,hx4,by assumption⟩) (.inl (by omega)))
      rw [hz]
      exact R.w1 () [4] [] O Tryz.results90 (RV.tmp O) O O O O
     obtain ⟨x5,hx5⟩:∃z,ts[(ts.length-1)]? = some z:=⟨_,List.getElem?_eq_getElem (by omega)⟩
     by_cases U0:x5<r.ah
     .
      refine R.eZ O mixed (by kernel_rfl)<|Q.q (q.aP O bq O) O<|Q.q (q.ld 3 O O cd O) O<|Q.q (q.len' (dh 0 O) O Tryz.underlying43) O<|Q.q (q.eU O O) O<|Q.u 1 O<|Q.qg O (q.aP O bq O) O<|Q.qg O (q.ld 3 O O cd O) O<|Q.qg O (q.aP O bq O) O<|Q.qg O (q.ld 3 O O cd O) O<|Q.qg O (q.len' (dh 0 O) O Tryz.underlying43) O<|Q.qg O (q.lS (r:=((r.ao.length-1:Nat):Int)) O O) O<|Q.qg O (q.idx (i:=(r.ao.length-1)) (dh 0 O) O O eu O hx4) O<|Q.qg O (q.m9 (j':=0) (dh 0 O) hx4 O bX O) O<|Q.qg O (q.ln (dh 0 O) hx4 O ap O) O<|Q.qg O (q.aP O cO O) O<|Q.qg O (q.ld 3 O O ap O) O<|Q.qg O (q.dC O O) O<|Q.u 3 O<|Q.qg O (q.len' (bD 1 O) O Tryz.underlying159) O<|Q.qg O (q.eU O O) O<|Q.u 3 O<|Q.qg O (q.len' (bD 1 O) O Tryz.underlying159) O<|Q.qg O (q.lS (r:=((ts.length-1:Nat):Int)) O O) O<|Q.qg O (q.idx (i:=(ts.length-1)) (bD 1 O) O O da O hx5) O<|Q.qg O (q.ln (bD 1 O) hx5 O ap O) O<|Q.qg O (q.aP O eI O) O<|Q.qg O (q.ld 3 O O ap O) O<|Q.qg O (q.dC O O) O<|Q.u 3 O<|Q.nil ?_
      have hz:dS r=true:=by (exact BW (by omega) (by omega) (by omega) (by omega) (by omega) HS (by omega) HF HN HT (by omega) (of_decide_eq_true ‹_›) (.inr ⟨_,hx4,by assumption⟩) (.inr ⟨_,hx5,by assumption⟩))
      rw [hz]
      exact R.w1 () [4] [] O Tryz.results90 (RV.tmp O) O O O O
     refine R.eZ O mixed (by kernel_rfl)<|Q.q (q.aP O bq O) O<|Q.q (q.ld 3 O O cd O) O<|Q.q (q.len' (dh 0 O) O Tryz.underlying43) O<|Q.q (q.eU O O) O<|Q.u 1 O<|Q.qg O (q.aP O bq O) O<|Q.qg O (q.ld 3 O O cd O) O<|Q.qg O (q.aP O bq O) O<|Q.qg O (q.ld 3 O O cd O) O<|Q.qg O (q.len' (dh 0 O) O Tryz.underlying43) O<|Q.qg O (q.lS (r:=((r.ao.length-1:Nat):Int)) O O) O<|Q.qg O (q.idx (i:=(r.ao.length-1)) (dh 0 O) O O eu O hx4) O<|Q.qg O (q.m9 (j':=0) (dh 0 O) hx4 O bX O) O<|Q.qg O (q.ln (dh 0 O) hx4 O ap O) O<|Q.qg O (q.aP O cO O) O<|Q.qg O (q.ld 3 O O ap O) O<|Q.qg O (q.dC O O) O<|Q.u 3 O<|Q.qg O (q.len' (bD 1 O) O Tryz.underlying159) O<|Q.qg O (q.eU O O) O<|Q.u 3 O<|Q.qg O (q.len' (bD 1 O) O Tryz.underlying159) O<|Q.qg O (q.lS (r:=((ts.length-1:Nat):Int)) O O) O<|Q.qg O (q.idx (i:=(ts.length-1)) (bD 1 O) O O da O hx5) O<|Q.qg O (q.ln (bD 1 O) hx5 O ap O) O<|Q.qg O (q.aP O eI O) O<|Q.qg O (q.ld 3 O O ap O) O<|Q.qg O (q.cS O O) O<|Q.u 3 O<|Q.nil ?_
     have hz:dS r=false:=by (exact Ot HT (by omega) hx5 ‹_›)
     rw [hz]
     exact R.w1 () [4] [] O Tryz.results90 (RV.tmp O) O O O O
    refine R.eZ O mixed (by kernel_rfl)<|Q.q (q.aP O bq O) O<|Q.q (q.ld 3 O O cd O) O<|Q.q (q.len' (dh 0 O) O Tryz.underlying43) O<|Q.q (q.eU O O) O<|Q.u 1 O<|Q.qg O (q.aP O bq O) O<|Q.qg O (q.ld 3 O O cd O) O<|Q.qg O (q.aP O bq O) O<|Q.qg O (q.ld 3 O O cd O) O<|Q.qg O (q.len' (dh 0 O) O Tryz.underlying43) O<|Q.qg O (q.lS (r:=((r.ao.length-1:Nat):Int)) O O) O<|Q.qg O (q.idx (i:=(r.ao.length-1)) (dh 0 O) O O eu O hx4) O<|Q.qg O (q.m9 (j':=0) (dh 0 O) hx4 O bX O) O<|Q.qg O (q.ln (dh 0 O) hx4 O ap O) O<|Q.qg O (q.aP O cO O) O<|Q.qg O (q.ld 3 O O ap O) O<|Q.qg O (q.cS O O) O<|Q.u 18 O<|Q.nil ?_
    have hz:dS r=false:=by (exact Te hx4 ‹_›)
    rw [hz]
    exact R.w1 () [4] [] O Tryz.results90 (RV.tmp O) O O O O
   refine R.c (q.call Jq O O (fun w hw=>(cv (congrArg Value.bool h11) (yh _ ts _ (bV r.ao) w (hw.row 1 O) (hw.row 0 O) )))) O<|R.u 1 O<|R.nil ?_
   refine R.az O O<|R.reg O<|R.u 1 O<|R.nil ?_
   have hz:dS r=false:=by (exact Iy HT (by omega) (of_decide_eq_false ‹_›))
   rw [hz]
   exact R.w1 () [4] [] O Tryz.results90 (RV.tmp O) O O O O
  refine R.qg O (q.nu O O) O<|R.u 1 O<|R.nil<|R.az O O<|R.reg O<|R.u 1 O<|R.nil ?_
  have hz:dS r=false:=by (exact gv (fun hw=>by have a1:ef r.ao=0:=hw.tree;have a2:=hw.jl;have a3:=hw.oN;have a4:=hw.qS;have a5:=hw.pj;have a6:=hw.pn;have a7:=hw.hlen;omega))
  rw [hz]
  exact R.w1 () [1] [] O Tryz.results90 (RV.tmp O) O O O O
 refine R.q (q.dX O O Tryz.underlying38) O<|R.u 35 O<|R.nil<|R.az O O<|R.reg O<|R.u 1 O<|R.nil ?_
 have hz:dS r=false:=by (exact gv (fun hw=>by have a1:ef r.ao=0:=hw.tree;have a2:=hw.jl;have a3:=hw.oN;have a4:=hw.qS;have a5:=hw.pj;have a6:=hw.pn;have a7:=hw.hlen;omega))
 rw [hz]
 exact R.w1 () [1] [] O Tryz.results90 (RV.tmp O) O O O O
def prevK (l:List Change)(k:Nat):Option ByteArray:=if k=0 then none else (l[k-1]?).map Change.Key
section
variable {l:List Change} {k:Nat} {x y:Change} {z:aB} {Z:Option aB}
theorem D6 (hx:l[k]? = some x):l.drop k=x::l.drop (k+1):=by
 obtain ⟨h,rfl⟩:=List.getElem?_eq_some_iff.1 hx
 exact List.drop_eq_getElem_cons h
theorem D7 (h:¬ 0<k):sg (prevK l k) x=true:=by unfold prevK;rw [if_pos (by omega)];rfl
theorem D8 (h:0<k)(hy:l[k-1]? = some y)(hl:(jy x.Key y.Key||decide (x.Key=y.Key))=false):sg (prevK l k) x=true:=by
 unfold prevK;rw [if_neg (by omega),hy];exact PX hl
theorem M9 (h:0<k)(hy:l[k-1]? = some y)(hl:(jy x.Key y.Key||decide (x.Key=y.Key))=true):sg (prevK l k) x=false:=by
 unfold prevK;rw [if_neg (by omega),hy];exact Mp hl
theorem Ou (h:x.Gone=false):(⟨x.Key,x.Val,false⟩:Change)=x:=by rw [<- h]
theorem vK (h:pgo (l.drop k) (prevK l k) z=Z)(hx:l[k]? = some x)(h1:sg (prevK l k) x=true)(h2:x.Gone=false)(h3:(rowP z ⟨x.Key,x.Val,false⟩).2=true):pgo (l.drop (k+1)) (prevK l (k+1)) (rowP z ⟨x.Key,x.Val,false⟩).1=Z:=by
 rw [Ou h2] at h3 ⊢
 rw [D6 hx] at h;simp only [pgo] at h
 rw [if_pos (by rw [h1,h2,h3];rfl)] at h
 unfold prevK;rw [if_neg (by omega),Nat.add_sub_cancel,hx];exact h
theorem oS (h:pgo (l.drop k) (prevK l k) z=pgo l none r0)(hx:l[k]? = some x)(h1:sg (prevK l k) x=false∨x.Gone=true∨x.Gone=false/\(rowP z ⟨x.Key,x.Val,false⟩).2=false):bE l=(r0,4):=by
 rw [D6 hx] at h;simp only [pgo] at h
 rw [if_neg (by
  rcases h1 with e|e|⟨e1,e⟩
  .rw [e];simp
  .rw [e];simp
  .rw [Ou e1] at e;rw [e];simp)] at h
 unfold bE;rw [<- h]
theorem Lm (h:pgo (l.drop k) (prevK l k) z=pgo l none r0)(hk:l.length<=k):pgo l none r0=some z:=by
 rw [List.drop_of_length_le hk] at h;exact h.symm
theorem QB (h:pgo (l.drop k) (prevK l k) z=pgo l none r0)(hk:l.length<=k)(hw:dS z=false):bE l=(r0,4):=by
 unfold bE;rw [Lm h hk];dsimp only;rw [if_neg (by rw [hw];decide)]
theorem Tf (h:pgo (l.drop k) (prevK l k) z=pgo l none r0)(hk:l.length<=k)(hw:dS z=true):bE l=(z,0):=by
 unfold bE;rw [Lm h hk];dsimp only;rw [if_pos hw]
theorem tv (z:aB)(x:Change):(rowP z x).1.ao.length<=z.ao.length+1/\(rowP z x).1.Things.length<=z.Things.length+1/\(rowP z x).1.Held.length<=z.Held.length+1:=by
 unfold rowP
 (repeat' split) <;> dsimp only <;> (repeat' split) <;> simp [Io,Ip,DN,MV] <;> omega
end
attribute [local irreducible] rowP pgo bE
theorem IA (bT:Value)(l:List Change)(w:World)(own:List Nat)(H:HN w own [] [ag.ls bT l,ew])(hl:l.length<=900)(hc:∀c∈l,c.Key.size<=1000/\c.Val.size<=1000):RC Tryz.prog 37 #[bT] H (fun z:Value×Value×Value×Value => .tuple #[.agg #[z.1,z.2.1,z.2.2.1,z.2.2.2,iV (bE l).1.af,iV (bE l).1.ah],df (bE l).2]) (fun _=>[]) (fun z=>[ag.ls z.1 (bE l).1.ao,ag.ls z.2.1 (bE l).1.Things,ag.ls z.2.2.1 (bE l).1.Held,ag.ls z.2.2.2 (bE l).1.Notes]):=by
 have AJ:=H.cq 0 rfl
 refine R.bF [(0,bT)] Tryz.func37 O O O O H<|R.reg O<|R.s O (s.alloc dq O O) fun b1=>?_
 refine R.u 1 O<|R.nil<|R.reg O<|R.s O (s.alloc dq O O) fun b2=>?_
 refine R.nil<|R.reg O<|R.u 1 O<|R.q (q.len' (dh 0 O) O Tryz.underlying34) O<|R.u 1 O<|R.nil<|R.row0 (α:=ak) 127<|R.row0 (α:=aE) 100<|R.row0 (α:=Held) 124<|R.row0 (α:=Note) 89<|R.loop (fun g_:Nat×aB×Value×Value×Value×Value=>[(0,bT),(2,.pointer (some ⟨b1,0,none⟩)),(4,.pointer (some ⟨b2,0,none⟩)),(7,bT),(8,iV (l.length:Int)),(9,iV (g_.1:Int))]) (fun g_=>[ag.row 89 g_.2.2.2.2.2 g_.2.1.Notes,ag.row 124 g_.2.2.2.2.1 g_.2.1.Held,ag.row 100 g_.2.2.2.1 g_.2.1.Things,ag.row 127 g_.2.2.1 g_.2.1.ao,ag.box b2 [g_.2.2.1,g_.2.2.2.1,g_.2.2.2.2.1,g_.2.2.2.2.2,iV g_.2.1.af,iV g_.2.1.ah] 48,ag.box b1 G0 48,ag.held w own]) (fun g_=>[ag.ls bT l,ew]) (fun g_=>g_.1<=l.length/\pgo (l.drop g_.1) (prevK l g_.1) g_.2.1=pgo l none r0/\g_.2.1.ao.length<=g_.1/\g_.2.1.Things.length<=g_.1/\g_.2.1.Held.length<=g_.1) (fun g_=>l.length-g_.1) (0,(⟨[],[],[],[],0,0⟩:aB),(nS),(nS),(nS),(nS)) O (by (try dsimp only);exact ⟨by omega,rfl,Nat.le_refl _,Nat.le_refl _,Nat.le_refl _⟩) (sF O) (iz l9 [0,1] O) ?_
 rintro ⟨k,z,qV,nZ,uj,qW⟩ ⟨hk,HP,WI,WJ,WK⟩
 dsimp only at *
 refine R.reg O<|?_
 by_cases h1:k<l.length
 .
  refine R.q (q.dC O O) O<|R.nil<|R.az O O<|R.reg O<|R.u 1 O<|?_
  obtain ⟨x1,hx1⟩:∃z,l[k]? = some z:=⟨_,List.getElem?_eq_getElem (by omega)⟩
  have PU:=hc x1 (List.mem_of_getElem? hx1)
  refine R.q (q.idx (i:=k) (dh 0 O) O O bW O hx1) O<|R.q (q.gh (ds:=[.string x1.Key,.string x1.Val,.bool x1.Gone]) (dh 0 O) hx1 O aX O) O<|R.s O (s.alloc cC O O) fun b3=>?_
  refine R.u 1 O<|R.s O (s.st 0 _ O O O O (.inl aX) O O O O) fun _=>?_
  refine R.nil ?_
  by_cases h2:0<k
  .
   obtain ⟨x2,hx2⟩:∃z,l[(k-1)]? = some z:=⟨_,List.getElem?_eq_getElem (by omega)⟩
   have Wg:=hc x2 (List.mem_of_getElem? hx2)
   rcases Bool.eq_false_or_eq_true (jy x1.Key x2.Key||decide (x1.Key=x2.Key)) with h3|h3
   .
    refine R.eZ O mixed (by kernel_rfl)<|Q.u 1 O<|Q.q (q.eM O O) O<|Q.u 1 O<|Q.qg O (q.aP O bI O) O<|Q.qg O (q.ld 0 O O bG O) O<|Q.u 2 O<|Q.qg O (q.lS (r:=((k-1:Nat):Int)) O O) O<|Q.qg O (q.idx (i:=(k-1)) (dh 0 O) O O bW O hx2) O<|Q.qg O (q.m9 (j':=0) (dh 0 O) hx2 O bI O) O<|Q.qg O (q.ln (dh 0 O) hx2 O bG O) O<|Q.qg O (q.LY O O h3) O<|Q.u 10 O<|Q.nil<|R.az O O<|R.reg O<|R.q (q.build dY O O) O<|R.q (q.iface O br) O<|R.s O (s.st 6 _ O O O O (.inl aj) O O O O) fun _=>?_
    refine R.u 1 O<|R.nil<|R.mp (fun _ hw=>hw.bg (α:=ak))<|R.mp (fun _ hw=>hw.bg (α:=aE))<|R.mp (fun _ hw=>hw.bg (α:=Held))<|R.mp (fun _ hw=>hw.bg (α:=Note)) ?_
    have hz:bE l=((⟨[],[],[],[],0,0⟩:aB),4):=by (exact oS HP hx1 (.inl (M9 (by omega) hx2 ‹_›)))
    rw [hz]
    exact R.w2 ((nS),(nS),(nS),(nS)) [7] gk O Tryz.results37 (RV.cell 6 O O aj) (RV.tmp O) O O O (dy O (dj (by decide) O))
   rcases Bool.eq_false_or_eq_true x1.Gone with h4|h4
   .
    rw [h4]
    refine R.eZ O mixed (by kernel_rfl)<|Q.u 1 O<|Q.q (q.eM O O) O<|Q.u 1 O<|Q.qg O (q.aP O bI O) O<|Q.qg O (q.ld 0 O O bG O) O<|Q.u 2 O<|Q.qg O (q.lS (r:=((k-1:Nat):Int)) O O) O<|Q.qg O (q.idx (i:=(k-1)) (dh 0 O) O O bW O hx2) O<|Q.qg O (q.m9 (j':=0) (dh 0 O) hx2 O bI O) O<|Q.qg O (q.ln (dh 0 O) hx2 O bG O) O<|Q.qg O (q.LY O O h3) O<|Q.u 2 O<|Q.qg O (q.aP O gK O) O<|Q.qg O (q.ld 0 O O ig O) O<|Q.u 6 O<|Q.nil<|R.az O O<|R.reg O<|R.q (q.build dY O O) O<|R.q (q.iface O br) O<|R.s O (s.st 6 _ O O O O (.inl aj) O O O O) fun _=>?_
    refine R.u 1 O<|R.nil<|R.mp (fun _ hw=>hw.bg (α:=ak))<|R.mp (fun _ hw=>hw.bg (α:=aE))<|R.mp (fun _ hw=>hw.bg (α:=Held))<|R.mp (fun _ hw=>hw.bg (α:=Note)) ?_
    have hz:bE l=((⟨[],[],[],[],0,0⟩:aB),4):=by (exact oS HP hx1 (.inr (.inl ‹_›)))
    rw [hz]
    exact R.w2 ((nS),(nS),(nS),(nS)) [7] gk O Tryz.results37 (RV.cell 6 O O aj) (RV.tmp O) O O O (dy O (dj (by decide) O))
   rw [h4]
   rcases Bool.eq_false_or_eq_true (!((rowP z (⟨x1.Key,x1.Val,false⟩:Change)).2)) with h5|h5
   .
    refine R.fJ (fuel:=22) [0,6,7] O O mixed O<|D.q (i:=0) O (aA [0,6,7] [0,1] O) O (q.mv O) O<|D.q (i:=1) O (aA [0,6,7] [0,1] O) O (q.eM O O) O<|D.q (i:=2) O (aA [0,6,7] [0,1] O) O (q.mv O) O<|D.q (i:=3) O (aA [0,6,7] [0,1] O) O (q.aP O bI O) O<|D.q (i:=4) O (aA [0,6,7] [0,1] O) O (q.ld 0 O O bG O) O<|D.q (i:=5) O (aA [0,6,7] [0,1] O) O (q.mv O) O<|D.q (i:=6) O (aA [0,6,7] [0,1] O) O (q.mv O) O<|D.q (i:=7) O (aA [0,6,7] [0,1] O) O (q.lS (r:=((k-1:Nat):Int)) O O) O<|D.q (i:=8) O (aA [0,6,7] [0,1] O) O (q.idx (i:=(k-1)) (dh 0 O) O O bW O hx2) O<|D.q (i:=9) O (aA [0,6,7] [0,1] O) O (q.m9 (j':=0) (dh 0 O) hx2 O bI O) O<|D.q (i:=10) O (aA [0,6,7] [0,1] O) O (q.ln (dh 0 O) hx2 O bG O) O<|D.q (i:=11) O (aA [0,6,7] [0,1] O) O (q.LY O O h3) O<|D.q (i:=12) O (aA [0,6,7] [0,1] O) O (q.NF O O) O<|D.q (i:=13) O (aA [0,6,7] [0,1] O) O (q.mv O) O<|D.q (i:=14) O (aA [0,6,7] [0,1] O) O (q.aP O gK O) O<|D.q (i:=15) O (aA [0,6,7] [0,1] O) O (q.ld 0 O O ig O) O<|D.q (i:=16) O (aA [0,6,7] [0,1] O) O (q.rq O O) O<|D.q (i:=17) O (aA [0,6,7] [0,1] O) O (q.mv O) O<|D.q (i:=18) O (aA [0,6,7] [0,1] O) O (q.cT 0 O O aX) O<|D.one (i:=19) O<|Do.s (s.aT FM [1] _ _ _ O O O F7 O O (fun w own hw H=>vJ b2 qV nZ uj qW z (⟨x1.Key,x1.Val,false⟩:Change) w own H ‹_› (by omega)) O) (fun _=>(aA [5,6,7] [0,1] O)) O ?_
    rintro ⟨z9,mG,l5,z12⟩
    dsimp only
    refine D.q (i:=20) O (aA [5,6,7] [0,1] O) O (q.not O) O<|D.q (i:=21) O (aA [5,6,7] [0,1] O) O (q.rq O O) O<|D.done<|R.cond O O (fun h6=>?_) (fun h6=>?_)
    .
     refine R.reg O<|R.q (q.build dY O O) O<|R.q (q.iface O br) O<|R.s O (s.st 6 _ O O O O (.inl aj) O O O O) fun _=>?_
     refine R.u 1 O<|R.nil<|R.mp (fun _ hw=>hw.bg (α:=ak))<|R.mp (fun _ hw=>hw.bg (α:=aE))<|R.mp (fun _ hw=>hw.bg (α:=Held))<|R.mp (fun _ hw=>hw.bg (α:=Note)) ?_
     have hz:bE l=((⟨[],[],[],[],0,0⟩:aB),4):=by (exact oS HP hx1 (.inr (.inr ⟨by assumption,by exact D3 ‹_›⟩)))
     rw [hz]
     exact R.w2 ((nS),(nS),(nS),(nS)) [7] gk O Tryz.results37 (RV.cell 6 O O aj) (RV.tmp O) O O O (dy O (dj (by decide) O))
    refine R.reg O<|R.q (q.bA (r:=((k+1:Nat):Int)) O O) O<|R.u 1 O<|R.nil<|R.back (k+1,(rowP z (⟨x1.Key,x1.Val,false⟩:Change)).1,z9,mG,l5,z12) O (by ((try dsimp only);have zl:=tv z (⟨x1.Key,x1.Val,false⟩:Change);exact ⟨by omega,vK HP hx1 (by exact D8 (by omega) hx2 ‹_›) ‹_› (by exact D4 ‹_›),by omega,by omega,by omega⟩)) (by dsimp only;omega) (sF O) (aA [4,3,2,1,0,6,7] [0,1] O)
   refine R.fJ (fuel:=22) [0,6,7] O O mixed O<|D.q (i:=0) O (aA [0,6,7] [0,1] O) O (q.mv O) O<|D.q (i:=1) O (aA [0,6,7] [0,1] O) O (q.eM O O) O<|D.q (i:=2) O (aA [0,6,7] [0,1] O) O (q.mv O) O<|D.q (i:=3) O (aA [0,6,7] [0,1] O) O (q.aP O bI O) O<|D.q (i:=4) O (aA [0,6,7] [0,1] O) O (q.ld 0 O O bG O) O<|D.q (i:=5) O (aA [0,6,7] [0,1] O) O (q.mv O) O<|D.q (i:=6) O (aA [0,6,7] [0,1] O) O (q.mv O) O<|D.q (i:=7) O (aA [0,6,7] [0,1] O) O (q.lS (r:=((k-1:Nat):Int)) O O) O<|D.q (i:=8) O (aA [0,6,7] [0,1] O) O (q.idx (i:=(k-1)) (dh 0 O) O O bW O hx2) O<|D.q (i:=9) O (aA [0,6,7] [0,1] O) O (q.m9 (j':=0) (dh 0 O) hx2 O bI O) O<|D.q (i:=10) O (aA [0,6,7] [0,1] O) O (q.ln (dh 0 O) hx2 O bG O) O<|D.q (i:=11) O (aA [0,6,7] [0,1] O) O (q.LY O O h3) O<|D.q (i:=12) O (aA [0,6,7] [0,1] O) O (q.NF O O) O<|D.q (i:=13) O (aA [0,6,7] [0,1] O) O (q.mv O) O<|D.q (i:=14) O (aA [0,6,7] [0,1] O) O (q.aP O gK O) O<|D.q (i:=15) O (aA [0,6,7] [0,1] O) O (q.ld 0 O O ig O) O<|D.q (i:=16) O (aA [0,6,7] [0,1] O) O (q.rq O O) O<|D.q (i:=17) O (aA [0,6,7] [0,1] O) O (q.mv O) O<|D.q (i:=18) O (aA [0,6,7] [0,1] O) O (q.cT 0 O O aX) O<|D.one (i:=19) O<|Do.s (s.aT FM [1] _ _ _ O O O F7 O O (fun w own hw H=>vJ b2 qV nZ uj qW z (⟨x1.Key,x1.Val,false⟩:Change) w own H ‹_› (by omega)) O) (fun _=>(aA [5,6,7] [0,1] O)) O ?_
   rintro ⟨z17,vj,xm,z20⟩
   dsimp only
   refine D.q (i:=20) O (aA [5,6,7] [0,1] O) O (q.not O) O<|D.q (i:=21) O (aA [5,6,7] [0,1] O) O (q.rq O O) O<|D.done<|R.cond O O (fun h7=>?_) (fun h7=>?_)
   .
    refine R.reg O<|R.q (q.build dY O O) O<|R.q (q.iface O br) O<|R.s O (s.st 6 _ O O O O (.inl aj) O O O O) fun _=>?_
    refine R.u 1 O<|R.nil<|R.mp (fun _ hw=>hw.bg (α:=ak))<|R.mp (fun _ hw=>hw.bg (α:=aE))<|R.mp (fun _ hw=>hw.bg (α:=Held))<|R.mp (fun _ hw=>hw.bg (α:=Note)) ?_
    have hz:bE l=((⟨[],[],[],[],0,0⟩:aB),4):=by (exact oS HP hx1 (.inr (.inr ⟨by assumption,by exact D3 ‹_›⟩)))
    rw [hz]
    exact R.w2 ((nS),(nS),(nS),(nS)) [7] gk O Tryz.results37 (RV.cell 6 O O aj) (RV.tmp O) O O O (dy O (dj (by decide) O))
   refine R.reg O<|R.q (q.bA (r:=((k+1:Nat):Int)) O O) O<|R.u 1 O<|R.nil<|R.back (k+1,(rowP z (⟨x1.Key,x1.Val,false⟩:Change)).1,z17,vj,xm,z20) O (by ((try dsimp only);have zl:=tv z (⟨x1.Key,x1.Val,false⟩:Change);exact ⟨by omega,vK HP hx1 (by exact D8 (by omega) hx2 ‹_›) ‹_› (by exact D4 ‹_›),by omega,by omega,by omega⟩)) (by dsimp only;omega) (sF O) (aA [4,3,2,1,0,6,7] [0,1] O)
  rcases Bool.eq_false_or_eq_true x1.Gone with h8|h8
  .
   rw [h8]
   refine R.eZ O mixed (by kernel_rfl)<|Q.u 1 O<|Q.q (q.ey O O) O<|Q.u 12 O<|Q.qg O (q.aP O gK O) O<|Q.qg O (q.ld 0 O O ig O) O<|Q.u 6 O<|Q.nil<|R.az O O<|R.reg O<|R.q (q.build dY O O) O<|R.q (q.iface O br) O<|R.s O (s.st 6 _ O O O O (.inl aj) O O O O) fun _=>?_
   refine R.u 1 O<|R.nil<|R.mp (fun _ hw=>hw.bg (α:=ak))<|R.mp (fun _ hw=>hw.bg (α:=aE))<|R.mp (fun _ hw=>hw.bg (α:=Held))<|R.mp (fun _ hw=>hw.bg (α:=Note)) ?_
   have hz:bE l=((⟨[],[],[],[],0,0⟩:aB),4):=by (exact oS HP hx1 (.inr (.inl ‹_›)))
   rw [hz]
   exact R.w2 ((nS),(nS),(nS),(nS)) [7] gk O Tryz.results37 (RV.cell 6 O O aj) (RV.tmp O) O O O (dy O (dj (by decide) O))
  rw [h8]
  rcases Bool.eq_false_or_eq_true (!((rowP z (⟨x1.Key,x1.Val,false⟩:Change)).2)) with h9|h9
  .
   refine R.fJ (fuel:=22) [0,6,7] O O mixed O<|D.q (i:=0) O (aA [0,6,7] [0,1] O) O (q.mv O) O<|D.q (i:=1) O (aA [0,6,7] [0,1] O) O (q.ey O O) O<|D.q (i:=2) O (aA [0,6,7] [0,1] O) O (q.mv O) O<|D.skip (i:=3) O (aA [0,6,7] [0,1] O) O O<|D.skip (i:=4) O (aA [0,6,7] [0,1] O) O O<|D.skip (i:=5) O (aA [0,6,7] [0,1] O) O O<|D.skip (i:=6) O (aA [0,6,7] [0,1] O) O O<|D.skip (i:=7) O (aA [0,6,7] [0,1] O) O O<|D.skip (i:=8) O (aA [0,6,7] [0,1] O) O O<|D.skip (i:=9) O (aA [0,6,7] [0,1] O) O O<|D.skip (i:=10) O (aA [0,6,7] [0,1] O) O O<|D.skip (i:=11) O (aA [0,6,7] [0,1] O) O O<|D.q (i:=12) O (aA [0,6,7] [0,1] O) O (q.rq O O) O<|D.q (i:=13) O (aA [0,6,7] [0,1] O) O (q.mv O) O<|D.q (i:=14) O (aA [0,6,7] [0,1] O) O (q.aP O gK O) O<|D.q (i:=15) O (aA [0,6,7] [0,1] O) O (q.ld 0 O O ig O) O<|D.q (i:=16) O (aA [0,6,7] [0,1] O) O (q.rq O O) O<|D.q (i:=17) O (aA [0,6,7] [0,1] O) O (q.mv O) O<|D.q (i:=18) O (aA [0,6,7] [0,1] O) O (q.cT 0 O O aX) O<|D.one (i:=19) O<|Do.s (s.aT FM [1] _ _ _ O O O F7 O O (fun w own hw H=>vJ b2 qV nZ uj qW z (⟨x1.Key,x1.Val,false⟩:Change) w own H ‹_› (by omega)) O) (fun _=>(aA [5,6,7] [0,1] O)) O ?_
   rintro ⟨z29,z30,z31,z32⟩
   dsimp only
   refine D.q (i:=20) O (aA [5,6,7] [0,1] O) O (q.not O) O<|D.q (i:=21) O (aA [5,6,7] [0,1] O) O (q.rq O O) O<|D.done<|R.cond O O (fun h10=>?_) (fun h10=>?_)
   .
    refine R.reg O<|R.q (q.build dY O O) O<|R.q (q.iface O br) O<|R.s O (s.st 6 _ O O O O (.inl aj) O O O O) fun _=>?_
    refine R.u 1 O<|R.nil<|R.mp (fun _ hw=>hw.bg (α:=ak))<|R.mp (fun _ hw=>hw.bg (α:=aE))<|R.mp (fun _ hw=>hw.bg (α:=Held))<|R.mp (fun _ hw=>hw.bg (α:=Note)) ?_
    have hz:bE l=((⟨[],[],[],[],0,0⟩:aB),4):=by (exact oS HP hx1 (.inr (.inr ⟨by assumption,by exact D3 ‹_›⟩)))
    rw [hz]
    exact R.w2 ((nS),(nS),(nS),(nS)) [7] gk O Tryz.results37 (RV.cell 6 O O aj) (RV.tmp O) O O O (dy O (dj (by decide) O))
   refine R.reg O<|R.q (q.bA (r:=((k+1:Nat):Int)) O O) O<|R.u 1 O<|R.nil<|R.back (k+1,(rowP z (⟨x1.Key,x1.Val,false⟩:Change)).1,z29,z30,z31,z32) O (by ((try dsimp only);have zl:=tv z (⟨x1.Key,x1.Val,false⟩:Change);exact ⟨by omega,vK HP hx1 (by exact D7 (by omega)) ‹_› (by exact D4 ‹_›),by omega,by omega,by omega⟩)) (by dsimp only;omega) (sF O) (aA [4,3,2,1,0,6,7] [0,1] O)
  refine R.fJ (fuel:=22) [0,6,7] O O mixed O<|D.q (i:=0) O (aA [0,6,7] [0,1] O) O (q.mv O) O<|D.q (i:=1) O (aA [0,6,7] [0,1] O) O (q.ey O O) O<|D.q (i:=2) O (aA [0,6,7] [0,1] O) O (q.mv O) O<|D.skip (i:=3) O (aA [0,6,7] [0,1] O) O O<|D.skip (i:=4) O (aA [0,6,7] [0,1] O) O O<|D.skip (i:=5) O (aA [0,6,7] [0,1] O) O O<|D.skip (i:=6) O (aA [0,6,7] [0,1] O) O O<|D.skip (i:=7) O (aA [0,6,7] [0,1] O) O O<|D.skip (i:=8) O (aA [0,6,7] [0,1] O) O O<|D.skip (i:=9) O (aA [0,6,7] [0,1] O) O O<|D.skip (i:=10) O (aA [0,6,7] [0,1] O) O O<|D.skip (i:=11) O (aA [0,6,7] [0,1] O) O O<|D.q (i:=12) O (aA [0,6,7] [0,1] O) O (q.rq O O) O<|D.q (i:=13) O (aA [0,6,7] [0,1] O) O (q.mv O) O<|D.q (i:=14) O (aA [0,6,7] [0,1] O) O (q.aP O gK O) O<|D.q (i:=15) O (aA [0,6,7] [0,1] O) O (q.ld 0 O O ig O) O<|D.q (i:=16) O (aA [0,6,7] [0,1] O) O (q.rq O O) O<|D.q (i:=17) O (aA [0,6,7] [0,1] O) O (q.mv O) O<|D.q (i:=18) O (aA [0,6,7] [0,1] O) O (q.cT 0 O O aX) O<|D.one (i:=19) O<|Do.s (s.aT FM [1] _ _ _ O O O F7 O O (fun w own hw H=>vJ b2 qV nZ uj qW z (⟨x1.Key,x1.Val,false⟩:Change) w own H ‹_› (by omega)) O) (fun _=>(aA [5,6,7] [0,1] O)) O ?_
  rintro ⟨z37,z38,z39,z40⟩
  dsimp only
  refine D.q (i:=20) O (aA [5,6,7] [0,1] O) O (q.not O) O<|D.q (i:=21) O (aA [5,6,7] [0,1] O) O (q.rq O O) O<|D.done<|R.cond O O (fun h11=>?_) (fun h11=>?_)
  .
   refine R.reg O<|R.q (q.build dY O O) O<|R.q (q.iface O br) O<|R.s O (s.st 6 _ O O O O (.inl aj) O O O O) fun _=>?_
   refine R.u 1 O<|R.nil<|R.mp (fun _ hw=>hw.bg (α:=ak))<|R.mp (fun _ hw=>hw.bg (α:=aE))<|R.mp (fun _ hw=>hw.bg (α:=Held))<|R.mp (fun _ hw=>hw.bg (α:=Note)) ?_
   have hz:bE l=((⟨[],[],[],[],0,0⟩:aB),4):=by (exact oS HP hx1 (.inr (.inr ⟨by assumption,by exact D3 ‹_›⟩)))
   rw [hz]
   exact R.w2 ((nS),(nS),(nS),(nS)) [7] gk O Tryz.results37 (RV.cell 6 O O aj) (RV.tmp O) O O O (dy O (dj (by decide) O))
  refine R.reg O<|R.q (q.bA (r:=((k+1:Nat):Int)) O O) O<|R.u 1 O<|R.nil<|R.back (k+1,(rowP z (⟨x1.Key,x1.Val,false⟩:Change)).1,z37,z38,z39,z40) O (by ((try dsimp only);have zl:=tv z (⟨x1.Key,x1.Val,false⟩:Change);exact ⟨by omega,vK HP hx1 (by exact D7 (by omega)) ‹_› (by exact D4 ‹_›),by omega,by omega,by omega⟩)) (by dsimp only;omega) (sF O) (aA [4,3,2,1,0,6,7] [0,1] O)
 refine R.q (q.cS O O) O<|R.nil<|R.aD O O<|R.reg O<|R.q (q.cT 4 O O aj) O<|R.s O (s.pre (fun _ hw=>hw.cW 3 _ O O) (s.pre (fun _ hw=>hw.cW 2 _ O O) (s.pre (fun _ hw=>hw.cW 1 _ O O) (s.pre (fun _ hw=>hw.cW 0 _ O O) (s.aT [0,1,2] gk _ _ _ O O O Sf O O (fun w own hw H=>Iz qV nZ uj qW z w own H (by omega)) O))))) fun _=>?_
 refine R.q (q.not O) O<|R.nil<|R.cond O O (fun h12=>?_) (fun h12=>?_)
 .
  refine R.reg O<|R.q (q.build dY O O) O<|R.q (q.iface O br) O<|R.s O (s.st 1 _ O O O O (.inl aj) O O O O) fun _=>?_
  refine R.u 1 O<|R.nil<|R.mp (fun _ hw=>hw.bg (α:=ak))<|R.mp (fun _ hw=>hw.bg (α:=aE))<|R.mp (fun _ hw=>hw.bg (α:=Held))<|R.mp (fun _ hw=>hw.bg (α:=Note)) ?_
  have hz:bE l=((⟨[],[],[],[],0,0⟩:aB),4):=by (exact QB HP (by omega) (by exact D3 ‹_›))
  rw [hz]
  exact R.w2 ((nS),(nS),(nS),(nS)) [2] gk O Tryz.results37 (RV.cell 1 O O aj) (RV.tmp O) O O O (dy O (dj (by decide) O))
 refine R.reg O<|R.q (q.cT 0 O O aj) O<|R.s O (s.fP 1 _ O O O (fun _ _=>rfl) (.inl aj) (fun w hw=>(ae (Sl.one (hw.bO 3 O)) (ae (Sl.one (hw.bO 2 O)) (ae (Sl.one (hw.bO 1 O)) (ae (Sl.one (hw.bO 0 O)) (ae O (ae O aO))))))) O O O) fun _=>?_
 refine R.u 1 O<|R.nil ?_
 have hz:bE l=(z,0):=by (exact Tf HP (by omega) (by exact D4 ‹_›))
 rw [hz]
 exact R.w2 (qV,nZ,uj,qW) [2] gk O Tryz.results37 (RV.cell 1 O O aj) (RV.tmp O) O O O (dy O (iJ O))
end
end Go.Proofs.YtkbhcbipadkcaaaGreatDoor
