import Derived.Test.YtnmpibjlnninjaaGreatDoorCT22
namespace Go.Proofs.YtnmpibjlnninjaaGreatDoor
set_option linter.unusedVariables false
set_option linter.unusedSimpArgs false
set_option maxRecDepth 100000
set_option maxHeartbeats 90000000
section
open Go Go.RowKit
attribute [local irreducible] Run Rg Rq Qt Qa Stp Dg Do Dm bQ
theorem MC {s:ByteArray}{m:Nat}(h:fa s m=true):eM s m=some (numsL s m):=by
 unfold fa at h;unfold numsL
 cases hq:eM s m with|none=>rw [hq] at h;cases h|some l=>rfl
theorem sN {s:ByteArray}{m:Nat}(h:fa s m=true):(numsL s m).length=m/\4*m<=s.size:=LK (MC h)
theorem ui {s:ByteArray}{m j:Nat}{x:Int}(h:(numsL s m)[j]? = some x):LN (eM s m) j=x:=by
 show (((numsL s m)[j]?).getD 0)=x;rw [h];rfl
section
variable {r:aB} {c:Change} {y:UInt8}
theorem ni (h:¬ c.Key=⟨#[]⟩):¬ c.Key.size=0:=fun e=>h (N4 e)
theorem p8 {s:ByteArray}{i:Nat}{y:UInt8}(h:s.data[i]? = some y):bC s i=y.toNat:=by unfold bC;rw [h];rfl
theorem Qe (h:c.Key=⟨#[]⟩):rowP r c=(r,false):=by unfold rowP;rw [if_pos (by rw [h];rfl)]
theorem Fb (h0:¬ c.Key=⟨#[]⟩)(hy:c.Key.data[0]? = some y)(e:y.toNat=104)(hb:fa c.Val 1=false∨¬ c.Val.size=4∨¬ c.Key.size=3):rowP r c=(r,false):=by
 unfold rowP;rw [if_neg (ni h0)];dsimp only;rw [if_pos ((p8 hy).trans e),if_pos (show (eM c.Val 1).isSome=false∨c.Val.size≠4∨c.Key.size≠3 from hb)]
theorem SU {a b:UInt8}{n:Int}{v:Bool}(h0:¬ c.Key=⟨#[]⟩)(hy:c.Key.data[0]? = some y)(e:y.toNat=104)(hb:fa c.Val 1=true)(h4:c.Val.size=4)(h3:c.Key.size=3)(ha:c.Key.data[1]? = some a)(hbb:c.Key.data[2]? = some b)
 (hn:(numsL c.Val 1)[0]? = some n) (hv:v=decide (bq ⟨(a.toNat:Int)-48,(b.toNat:Int)-48⟩=0)):rowP r c=(⟨r.aj,r.Things,r.Held++[⟨⟨(a.toNat:Int)-48,(b.toNat:Int)-48⟩,n⟩],r.Notes,r.ah,r.ai⟩,v):=by
 unfold rowP;rw [if_neg (ni h0)];dsimp only
 rw [if_pos ((p8 hy).trans e),if_neg (show ¬ ((eM c.Val 1).isSome=false∨c.Val.size≠4∨c.Key.size≠3) from (by show ¬ (fa c.Val 1=false∨c.Val.size≠4∨c.Key.size≠3);rw [hb,h4,h3];simp)),ui hn,hv]
 unfold LL Yw RZ;rw [p8 ha,p8 hbb]
def Iw (c:Change):Bool:=fa (c.Key.extract 1 c.Key.size) 1&&decide (c.Key.size=5)
theorem W2 (h:fa (c.Key.extract 1 c.Key.size) 1=false):false=Iw c:=by unfold Iw;rw [h];rfl
theorem SX (h:¬ c.Key.size=5):false=Iw c:=by unfold Iw;rw [decide_eq_false h,Bool.and_false]
theorem SY (h:fa (c.Key.extract 1 c.Key.size) 1=true)(h5:c.Key.size=5):true=Iw c:=by unfold Iw;rw [h,decide_eq_true h5];rfl
theorem Qf (h:Iw c=true):(numsL (c.Key.extract 1 c.Key.size) 1).length=1:=by
 unfold Iw at h;rw [Bool.and_eq_true] at h;exact (sN h.1).1
theorem Fc (h0:¬ c.Key=⟨#[]⟩)(hy:c.Key.data[0]? = some y)(e:y.toNat=116)(hb:Iw c=false∨fa c.Val 1=false∨12<c.Val.size):rowP r c=(r,false):=by
 unfold rowP;rw [if_neg (ni h0)];dsimp only
 rw [if_neg (by rw [p8 hy];omega),if_pos ((p8 hy).trans e),if_pos (show ((eM (c.Key.extract 1 c.Key.size) 1).isSome&&decide (c.Key.size=5))=false∨(eM c.Val 1).isSome=false∨12<c.Val.size from hb)]
theorem HZ {k n:Int}{v:Bool}(h0:¬ c.Key=⟨#[]⟩)(hy:c.Key.data[0]? = some y)(e:y.toNat=116)(hk:Iw c=true)(hb:fa c.Val 1=true)(h12:¬ 12<c.Val.size)
 (hi:(numsL (c.Key.extract 1 c.Key.size) 1)[0]? = some k) (hn:(numsL c.Val 1)[0]? = some n) (hv:v=decide (n=1∨n=2/\c.Val.size=4)):rowP r c=(⟨r.aj,r.Things++[⟨k,n,c.Val.extract 4 c.Val.size⟩],r.Held,r.Notes,r.ah,r.ai⟩,v):=by
 unfold rowP;rw [if_neg (ni h0)];dsimp only
 rw [if_neg (by rw [p8 hy];omega),if_pos ((p8 hy).trans e),if_neg (show ¬ (((eM (c.Key.extract 1 c.Key.size) 1).isSome&&decide (c.Key.size=5))=false∨(eM c.Val 1).isSome=false∨12<c.Val.size) from (by
  show ¬ (Iw c=false∨fa c.Val 1=false∨12<c.Val.size)
  rw [hk,hb];simp;omega)),ui hn,ui hi,hv]
 rfl
theorem Fe (h0:¬ c.Key=⟨#[]⟩)(hy:c.Key.data[0]? = some y)(e:y.toNat=119)(hb:Iw c=false∨fa c.Val 4=false∨¬ c.Val.size=16):rowP r c=(r,false):=by
 unfold rowP;rw [if_neg (ni h0)];dsimp only
 rw [if_neg (by rw [p8 hy];omega),if_neg (by rw [p8 hy];omega),if_pos ((p8 hy).trans e),if_pos (show ((eM (c.Key.extract 1 c.Key.size) 1).isSome&&decide (c.Key.size=5))=false∨(eM c.Val 4).isSome=false∨c.Val.size≠16 from hb)]
theorem ZS {k n0 n1 n2 n3:Int}(h0:¬ c.Key=⟨#[]⟩)(hy:c.Key.data[0]? = some y)(e:y.toNat=119)(hk:Iw c=true)(hb:fa c.Val 4=true)(h16:c.Val.size=16)
 (hi:(numsL (c.Key.extract 1 c.Key.size) 1)[0]? = some k) (a0:(numsL c.Val 4)[0]? = some n0) (a1:(numsL c.Val 4)[1]? = some n1) (a2:(numsL c.Val 4)[2]? = some n2) (a3:(numsL c.Val 4)[3]? = some n3):rowP r c=(⟨r.aj++[⟨k,n0,n1,n2,n3⟩],r.Things,r.Held,r.Notes,r.ah,r.ai⟩,true):=by
 unfold rowP;rw [if_neg (ni h0)];dsimp only
 rw [if_neg (by rw [p8 hy];omega),if_neg (by rw [p8 hy];omega),if_pos ((p8 hy).trans e),if_neg (show ¬ (((eM (c.Key.extract 1 c.Key.size) 1).isSome&&decide (c.Key.size=5))=false∨(eM c.Val 4).isSome=false∨c.Val.size≠16) from (by
  show ¬ (Iw c=false∨fa c.Val 4=false∨c.Val.size≠16)
  rw [hk,hb,h16];simp)),ui hi,ui a0,ui a1,ui a2,ui a3]
 rfl
theorem Ff (h0:¬ c.Key=⟨#[]⟩)(hy:c.Key.data[0]? = some y)(e1:¬ y.toNat=104)(e2:¬ y.toNat=116)(e3:¬ y.toNat=119)(hb:¬ c.Key=⟨#[120]⟩∨fa c.Val 2=false∨¬ c.Val.size=8):rowP r c=(r,false):=by
 unfold rowP;rw [if_neg (ni h0)];dsimp only
 rw [if_neg (by rw [p8 hy];omega),if_neg (by rw [p8 hy];omega),if_neg (by rw [p8 hy];omega),if_pos (show c.Key≠kX∨(eM c.Val 2).isSome=false∨c.Val.size≠8 from hb)]
theorem abj {n0 n1:Int}(h0:¬ c.Key=⟨#[]⟩)(hy:c.Key.data[0]? = some y)(e1:¬ y.toNat=104)(e2:¬ y.toNat=116)(e3:¬ y.toNat=119)(hk:c.Key=⟨#[120]⟩)(hb:fa c.Val 2=true)(h8:c.Val.size=8)(a0:(numsL c.Val 2)[0]? = some n0)(a1:(numsL c.Val 2)[1]? = some n1) :
 rowP r c=(⟨r.aj,r.Things,r.Held,r.Notes,n0,n1⟩,true):=by
 unfold rowP;rw [if_neg (ni h0)];dsimp only
 rw [if_neg (by rw [p8 hy];omega),if_neg (by rw [p8 hy];omega),if_neg (by rw [p8 hy];omega),if_neg (show ¬ (c.Key≠kX∨(eM c.Val 2).isSome=false∨c.Val.size≠8) from (by
  show ¬ (c.Key≠⟨#[120]⟩∨fa c.Val 2=false∨c.Val.size≠8)
  rw [hb,h8];simp [hk])),ui a0,ui a1]
 rfl
end
attribute [local irreducible] numsL fa Iw rowP
theorem yZ (Q6:Nat)(cX dq dY cM:Value)(r:aB)(c:Change)(w:World)(own:List Nat)(H:HN w own [ag.box Q6 [cX,dq,dY,cM,iV r.ah,iV r.ai] 48,ag.row 126 cX r.aj,ag.row 103 dq r.Things,ag.row 124 dY r.Held,ag.row 91 cM r.Notes] [bJ])(hc:c.Key.size<=1000/\c.Val.size<=1000)(hr:r.aj.length<=1000/\r.Things.length<=1000/\r.Held.length<=1000):RS Tryz.prog 81 #[pV Q6,.agg #[.string c.Key,.string c.Val,.bool c.Gone]] H (rowP r c) (fun s (_:Value×Value×Value×Value) => .bool s.2) (fun s z=>[ag.box Q6 [z.1,z.2.1,z.2.2.1,z.2.2.2,iV s.1.ah,iV s.1.ai] 48,ag.row 126 z.1 s.1.aj,ag.row 103 z.2.1 s.1.Things,ag.row 124 z.2.2.1 s.1.Held,ag.row 91 z.2.2.2 s.1.Notes]) (fun _ _=>[]):=by
 have XO:=H.cap 1 rfl;have bT:=H.ck 1 rfl
 have W3:=H.cap 2 rfl;have bH:=H.ck 2 rfl
 have ZT:=H.cap 3 rfl;have cr:=H.ck 3 rfl
 have XP:=H.cap 4 rfl;have bU:=H.ck 4 rfl
 refine R.eN H ?_
 refine R.nb fun b1=>?_
 refine C (c.Key=⟨#[]⟩) ?_ ?_ <;> intro h1
 .
  refine R.q (q.dZ O O h1) O<|U ?_
  rw [show rowP r c=_ from Qe af]
  exact R.x1 (cX,dq,dY,cM) m5 []
 refine R.q (q.dQ O O h1) O<|U ?_
 have kp:=ni (c:=c) af
 refine U ?_
 refine R.q (q.Cy (i:=1) O O Tryz.underlying9 O ae) O<|R.s O (s.aH du [0] _ _ _ O O O AP O O (fun w own hw H=>mN (c.Key.extract 1 c.Key.size) 1 w own H (by rw [ByteArray.size_extract];omega)) O) fun z1=>V ?_
 refine R.cut 1 (fun b:Bool=>[(0,pV Q6),(3,pV b1),(5,z1),(6,.bool b)]) (fun b:Bool=>[ag.row 3 z1 (numsL (c.Key.extract 1 c.Key.size) 1),ag.box b1 (Ng c) 115,ag.box Q6 [cX,dq,dY,cM,iV r.ah,iV r.ai] 48,ag.row 126 cX r.aj,ag.row 103 dq r.Things,ag.row 124 dY r.Held,ag.row 91 cM r.Notes,ag.held w own]) (fun b:Bool=>[bJ]) (fun b:Bool=>b=Iw c) O O O ?_ ?_
 .
  refine U ?_
  rcases Bool.eq_false_or_eq_true (fa (c.Key.extract 1 c.Key.size) 1) with h2|h2
  .
   rw [h2]
   refine U ?_
   refine C (c.Key.size=5) ?_ ?_ <;> intro h3
   .exact R.meet true O (by exact SY af ae) (sF O) (dX a8 [0] O)
   exact R.meet false O (by exact SX ae) (sF O) (dX a8 [0] O)
  rw [h2]
  refine U ?_
  exact R.meet false O (by exact W2 af) (sF O) (dX a8 [0] O)
 rintro b hC
 refine U ?_
 obtain ⟨y1,hy1⟩:∃z,c.Key.data[0]? = some z:=⟨_,Array.getElem?_eq_getElem (show 0<c.Key.size from by omega)⟩
 have Wt:=y1.toNat_lt
 refine R.q (q.gN (i:=0) O O Tryz.underlying9 O hy1) O<|U ?_
 refine C (y1.toNat=104) ?_ ?_ <;> intro h4
 .
  refine R.s O (s.aH a8 [0] _ _ _ O O O AP O O (fun w own hw H=>mN c.Val 1 w own H ae) O) fun z2=>U ?_
  refine R.q (q.not O) O<|U ?_
  rcases Bool.eq_false_or_eq_true (fa c.Val 1) with h5|h5
  .
   rw [h5]
   refine U ?_
   refine C (c.Val.size=4) ?_ ?_ <;> intro h6
   .
    refine C (c.Key.size=3) ?_ ?_ <;> intro h7
    .
     obtain ⟨y2,hy2⟩:∃z,c.Key.data[1]? = some z:=⟨_,Array.getElem?_eq_getElem (show 1<c.Key.size from by omega)⟩
     have XK:=y2.toNat_lt
     obtain ⟨y3,hy3⟩:∃z,c.Key.data[2]? = some z:=⟨_,Array.getElem?_eq_getElem (show 2<c.Key.size from by omega)⟩
     have Zi:=y3.toNat_lt
     refine R.cO (fuel:=13) bZ O O mixed O<|D.l uZ bZ [0] O<|U ?_
     refine Dm.yy O O (q.gN (i:=1) O O Tryz.underlying9 O hy2) O<|Dm.yy O O (q.ny (r:=((y2.toNat:Nat):Int)) O (by rw [Tryz.underlying5];rfl) Tryz.underlying3 (wr ae)) O<|Dm.yy O O (q.lG (r:=(y2.toNat:Int)-48) O O) O<|U ?_
     refine Dm.yy O O (q.gN (i:=2) O O Tryz.underlying9 O hy3) O<|Dm.yy O O (q.ny (r:=((y3.toNat:Nat):Int)) O (by rw [Tryz.underlying5];rfl) Tryz.underlying3 (wr ae)) O<|Dm.yy O O (q.lG (r:=(y3.toNat:Int)-48) O O) O<|U ?_
     refine D.p 11 O iF [0] (s.alloc ji O O) fun b2=>?_
     refine D.p 12 O iF [0] (s.st 0 _ O O O O (.inl gY) O O O O) fun _=>?_
     refine D.done ?_
     have ev1:=sN (s:=c.Val) (m:=1) af
     obtain ⟨x1,hx1⟩:=gE (numsL c.Val 1) 0
     refine R.cO (fuel:=15) [0,1,2,3,5,6,8,9] O O mixed O<|D.l [0,1,2,3,5,6,7,8,9] [0,1,2,3,5,6,8,9] [0] O<|U ?_
     refine D.two (i:=4) (j:=10) O O ?_ ?_
     .
      refine Do.k [0,1,2,3,5,6,8,9] [0] (q.ld 4 O O jD O) ?_
      refine D.p 10 O u6 [0] (s.bs (l:=([(⟨(⟨(y2.toNat:Int)-48,(y3.toNat:Int)-48⟩:Place),x1⟩:Held)]:List Held)) cK cR O O O O O O O) fun b3=>?_
      refine D.p 11 O u6 [0] (s.app 8 _ O O O (cI 0 O) o9 aG aG (fun _=>rfl) O) fun v1=>?_
      refine D.l [12,13] u6 [0] O<|U ?_
      refine D.p 14 O u6 [0] (s.lq 5 _ O O O (fun w hw=>Sl.cL (hw.row 8 O)) (.inr ⟨jD,rfl⟩) (fun w hw=>bD (Sl.one (hw.row 8 O)) cd) O O O) fun _=>?_
      refine D.done<|U ?_
      refine R.kc O O (fun w hw=>lz (⟨(y2.toNat:Int)-48,(y3.toNat:Int)-48⟩:Place) w)<|C (bq (⟨(y2.toNat:Int)-48,(y3.toNat:Int)-48⟩:Place)=0) ?_ ?_ <;> intro h8
      .
       rw [show rowP r c=_ from SU af hy1 ae af ae ae hy2 hy3 af (decide_eq_true af).symm]
       exact R.x1 (cX,dq,v1,cM) [5,6,7,8,9,10] []
      rw [show rowP r c=_ from SU af hy1 ae af ae ae hy2 hy3 af (decide_eq_false af).symm]
      exact R.x1 (cX,dq,v1,cM) [5,6,7,8,9,10] []
     refine Do.p u6 [0] (s.bs (l:=([(⟨(⟨(y2.toNat:Int)-48,(y3.toNat:Int)-48⟩:Place),x1⟩:Held)]:List Held)) cK cR O O O O O O O) fun b4=>?_
     refine D.k 4 O u6 [0] (q.ld 5 O O jD O) ?_
     refine D.p 11 O u6 [0] (s.app 8 _ O O O (cI 0 O) o9 aG aG (fun _=>rfl) O) fun v2=>?_
     refine D.l [12,13] u6 [0] O<|U ?_
     refine D.p 14 O u6 [0] (s.lq 5 _ O O O (fun w hw=>Sl.cL (hw.row 8 O)) (.inr ⟨jD,rfl⟩) (fun w hw=>bD (Sl.one (hw.row 8 O)) cd) O O O) fun _=>?_
     refine D.done<|U ?_
     refine R.kc O O (fun w hw=>lz (⟨(y2.toNat:Int)-48,(y3.toNat:Int)-48⟩:Place) w)<|C (bq (⟨(y2.toNat:Int)-48,(y3.toNat:Int)-48⟩:Place)=0) ?_ ?_ <;> intro h9
     .
      rw [show rowP r c=_ from SU af hy1 ae af ae ae hy2 hy3 af (decide_eq_true af).symm]
      exact R.x1 (cX,dq,v2,cM) [5,6,7,8,9,10] []
     rw [show rowP r c=_ from SU af hy1 ae af ae ae hy2 hy3 af (decide_eq_false af).symm]
     exact R.x1 (cX,dq,v2,cM) [5,6,7,8,9,10] []
    rw [show rowP r c=_ from Fb af hy1 ae (.inr (.inr ae))]
    exact R.x1 (cX,dq,dY,cM) oM []
   rw [show rowP r c=_ from Fb af hy1 ae (.inr (.inl ae))]
   exact R.x1 (cX,dq,dY,cM) oM []
  rw [h5]
  refine U ?_
  rw [show rowP r c=_ from Fb af hy1 ae (.inl af)]
  exact R.x1 (cX,dq,dY,cM) oM []
 refine C (y1.toNat=116) ?_ ?_ <;> intro h10
 .
  refine R.s O (s.aH a8 [0] _ _ _ O O O AP O O (fun w own hw H=>mN c.Val 1 w own H ae) O) fun z3=>U ?_
  refine R.q (q.not O) O<|U ?_
  cases b
  .
   refine U ?_
   rw [show rowP r c=_ from Fc af hy1 ae (.inl hC.symm)]
   exact R.x1 (cX,dq,dY,cM) oM []
  refine U ?_
  refine R.qg O (q.not O) O<|U ?_
  rcases Bool.eq_false_or_eq_true (fa c.Val 1) with h11|h11
  .
   rw [h11]
   refine U ?_
   refine C (12<c.Val.size) ?_ ?_ <;> intro h12
   .
    rw [show rowP r c=_ from Fc af hy1 ae (.inr (.inr ae))]
    exact R.x1 (cX,dq,dY,cM) oM []
   have ek:=Qf (c:=c) hC.symm
   have ev1:=sN (s:=c.Val) (m:=1) af
   obtain ⟨x2,hx2⟩:=gE (numsL (c.Key.extract 1 c.Key.size) 1) 0
   obtain ⟨x3,hx3⟩:=gE (numsL c.Val 1) 0
   refine R.cO (fuel:=20) [0,1,2,4,6,7,8] O O mixed O<|D.l [0,1,2,3,5,6,7,8,9,10,11,12,13,14] [0,1,2,4,6,7,8] [0] O<|U ?_
   refine Dm.yy O O (q.Cy (i:=4) O O Tryz.underlying9 O ae) O<|U ?_
   refine D.two (i:=4) (j:=15) O O ?_ ?_
   .
    refine Do.k [0,1,2,4,6,7,8] [0] (q.ld 3 O O me O) ?_
    refine D.p 15 O u7 [0] (s.bs (l:=([(⟨x2,x3,c.Val.extract 4 c.Val.size⟩:aA)]:List aA)) kI jw O O O O O O O) fun b5=>?_
    refine D.p 16 O u7 [0] (s.app 6 _ O O O (cI 0 O) qJ aG aG (fun _=>rfl) O) fun v3=>?_
    refine D.l [17,18] u7 [0] O<|U ?_
    refine D.p 19 O u7 [0] (s.lq 4 _ O O O (fun w hw=>Sl.cL (hw.row 6 O)) (.inr ⟨me,rfl⟩) (fun w hw=>bD (Sl.one (hw.row 6 O)) cd) O O O) fun _=>?_
    refine D.done<|U ?_
    refine C (x3=1) ?_ ?_ <;> intro Pf
    .
     rw [show rowP r c=_ from HZ af hy1 ae hC.symm af ae af af (decide_eq_true ae).symm]
     exact R.x1 (cX,v3,dY,cM) t7 []
    refine C (x3=2) ?_ ?_ <;> intro Si
    .
     refine C (c.Val.size=4) ?_ ?_ <;> intro XJ
     .
      rw [show rowP r c=_ from HZ af hy1 ae hC.symm af ae af af (decide_eq_true ae).symm]
      exact R.x1 (cX,v3,dY,cM) t7 []
     rw [show rowP r c=_ from HZ af hy1 ae hC.symm af ae af af (decide_eq_false ae).symm]
     exact R.x1 (cX,v3,dY,cM) t7 []
    rw [show rowP r c=_ from HZ af hy1 ae hC.symm af ae af af (decide_eq_false ae).symm]
    exact R.x1 (cX,v3,dY,cM) t7 []
   refine Do.p u7 [0] (s.bs (l:=([(⟨x2,x3,c.Val.extract 4 c.Val.size⟩:aA)]:List aA)) kI jw O O O O O O O) fun b6=>?_
   refine D.k 4 O u7 [0] (q.ld 4 O O me O) ?_
   refine D.p 16 O u7 [0] (s.app 6 _ O O O (cI 0 O) qJ aG aG (fun _=>rfl) O) fun v4=>?_
   refine D.l [17,18] u7 [0] O<|U ?_
   refine D.p 19 O u7 [0] (s.lq 4 _ O O O (fun w hw=>Sl.cL (hw.row 6 O)) (.inr ⟨me,rfl⟩) (fun w hw=>bD (Sl.one (hw.row 6 O)) cd) O O O) fun _=>?_
   refine D.done<|U ?_
   refine C (x3=1) ?_ ?_ <;> intro h16
   .
    rw [show rowP r c=_ from HZ af hy1 ae hC.symm af ae af af (decide_eq_true ae).symm]
    exact R.x1 (cX,v4,dY,cM) t7 []
   refine C (x3=2) ?_ ?_ <;> intro Zh
   .
    refine C (c.Val.size=4) ?_ ?_ <;> intro h18
    .
     rw [show rowP r c=_ from HZ af hy1 ae hC.symm af ae af af (decide_eq_true ae).symm]
     exact R.x1 (cX,v4,dY,cM) t7 []
    rw [show rowP r c=_ from HZ af hy1 ae hC.symm af ae af af (decide_eq_false ae).symm]
    exact R.x1 (cX,v4,dY,cM) t7 []
   rw [show rowP r c=_ from HZ af hy1 ae hC.symm af ae af af (decide_eq_false ae).symm]
   exact R.x1 (cX,v4,dY,cM) t7 []
  rw [h11]
  refine U ?_
  rw [show rowP r c=_ from Fc af hy1 ae (.inr (.inl af))]
  exact R.x1 (cX,dq,dY,cM) oM []
 refine C (y1.toNat=119) ?_ ?_ <;> intro h19
 .
  refine R.s O (s.aH a8 [0] _ _ _ O O O AP O O (fun w own hw H=>mN c.Val 4 w own H ae) O) fun z4=>U ?_
  refine R.q (q.not O) O<|U ?_
  cases b
  .
   refine U ?_
   rw [show rowP r c=_ from Fe af hy1 ae (.inl hC.symm)]
   exact R.x1 (cX,dq,dY,cM) oM []
  refine U ?_
  refine R.qg O (q.not O) O<|U ?_
  rcases Bool.eq_false_or_eq_true (fa c.Val 4) with h20|h20
  .
   rw [h20]
   refine U ?_
   refine C (c.Val.size=16) ?_ ?_ <;> intro h21
   .
    have ek:=Qf (c:=c) hC.symm
    have ev4:=sN (s:=c.Val) (m:=4) af
    obtain ⟨x4,hx4⟩:=gE (numsL (c.Key.extract 1 c.Key.size) 1) 0
    obtain ⟨x5,hx5⟩:=gE (numsL c.Val 4) 0
    obtain ⟨x6,hx6⟩:=gE (numsL c.Val 4) 1
    obtain ⟨x7,hx7⟩:=gE (numsL c.Val 4) 2
    obtain ⟨x8,hx8⟩:=gE (numsL c.Val 4) 3
    refine R.cO (fuel:=26) [0,1,2,5,6,7,8] O O mixed O<|D.l [0,1,2,3,5,6,7,8,9,10,11,12,13,14,15,16,17,18,19,20] [0,1,2,5,6,7,8] [0] O<|U ?_
    refine D.two (i:=4) (j:=21) O O ?_ ?_
    .
     refine Do.k [0,1,2,5,6,7,8] [0] (q.ld 3 O O iE O) ?_
     refine D.p 21 O vd [0] (s.bs (l:=([(⟨x4,x5,x6,x7,x8⟩:ak)]:List ak)) gP eG O O O O O O O) fun b7=>?_
     refine D.p 22 O vd [0] (s.app 5 _ O O O (cI 0 O) o8 aG aG (fun _=>rfl) O) fun v5=>?_
     refine D.l [23,24] vd [0] O<|U ?_
     refine D.p 25 O vd [0] (s.lq 4 _ O O O (fun w hw=>Sl.cL (hw.row 5 O)) (.inr ⟨iE,rfl⟩) (fun w hw=>bD (Sl.one (hw.row 5 O)) cd) O O O) fun _=>?_
     refine D.done<|U ?_
     rw [show rowP r c=_ from ZS af hy1 ae hC.symm af ae af af af af af]
     exact R.x1 (v5,dq,dY,cM) t7 []
    refine Do.p vd [0] (s.bs (l:=([(⟨x4,x5,x6,x7,x8⟩:ak)]:List ak)) gP eG O O O O O O O) fun b8=>?_
    refine D.k 4 O vd [0] (q.ld 4 O O iE O) ?_
    refine D.p 22 O vd [0] (s.app 5 _ O O O (cI 0 O) o8 aG aG (fun _=>rfl) O) fun v6=>?_
    refine D.l [23,24] vd [0] O<|U ?_
    refine D.p 25 O vd [0] (s.lq 4 _ O O O (fun w hw=>Sl.cL (hw.row 5 O)) (.inr ⟨iE,rfl⟩) (fun w hw=>bD (Sl.one (hw.row 5 O)) cd) O O O) fun _=>?_
    refine D.done<|U ?_
    rw [show rowP r c=_ from ZS af hy1 ae hC.symm af ae af af af af af]
    exact R.x1 (v6,dq,dY,cM) t7 []
   rw [show rowP r c=_ from Fe af hy1 ae (.inr (.inr ae))]
   exact R.x1 (cX,dq,dY,cM) oM []
  rw [h20]
  refine U ?_
  rw [show rowP r c=_ from Fe af hy1 ae (.inr (.inl af))]
  exact R.x1 (cX,dq,dY,cM) oM []
 refine R.s O (s.aH a8 [0] _ _ _ O O O AP O O (fun w own hw H=>mN c.Val 2 w own H ae) O) fun z5=>U ?_
 refine C (c.Key=⟨#[120]⟩) ?_ ?_ <;> intro h22
 .
  refine R.q (q.oO O O h22) O<|U ?_
  refine R.qg O (q.not O) O<|U ?_
  rcases Bool.eq_false_or_eq_true (fa c.Val 2) with h23|h23
  .
   rw [h23]
   refine U ?_
   refine C (c.Val.size=8) ?_ ?_ <;> intro h24
   .
    have ev2:=sN (s:=c.Val) (m:=2) af
    obtain ⟨x9,hx9⟩:=gE (numsL c.Val 2) 0
    obtain ⟨x10,ZU⟩:=gE (numsL c.Val 2) 1
    refine R.cO (fuel:=14) FB O O mixed O<|D.l jH FB [0] O<|U ?_
    refine D.p 10 O FB [0] (s.st 3 _ O O O O (.inr ⟨eX,rfl⟩) O O O O) fun _=>?_
    refine D.l [11,12] FB [0] O<|U ?_
    refine D.p 13 O FB [0] (s.st 3 _ O O O O (.inr ⟨eX,rfl⟩) O O O O) fun _=>?_
    refine D.done<|U ?_
    rw [show rowP r c=_ from abj af hy1 ae ae ae af af ae af af]
    exact R.x1 (cX,dq,dY,cM) oM []
   rw [show rowP r c=_ from Ff af hy1 ae ae ae (.inr (.inr ae))]
   exact R.x1 (cX,dq,dY,cM) oM []
  rw [h23]
  refine U ?_
  rw [show rowP r c=_ from Ff af hy1 ae ae ae (.inr (.inl af))]
  exact R.x1 (cX,dq,dY,cM) oM []
 refine R.q (q.rh O O h22) O<|U ?_
 rw [show rowP r c=_ from Ff af hy1 ae ae ae (.inl af)]
 exact R.x1 (cX,dq,dY,cM) oM []
end
section
open Go Go.RowKit
attribute [local irreducible] Run Rg Rq Qt Qa Stp Dg Do Dm bQ
theorem H3 {b:Bool}(h:(!b)=true):b=false:=by cases b <;> simp_all
theorem H4 {b:Bool}(h:(!b)=false):b=true:=by cases b <;> simp_all
theorem W4 {α β:Type}{f:α->β}{L:List α}{k:Nat}{x:α}(hx:L[k]? = some x)(hm:f x∈(L.take k).map f):¬ (L.map f).Nodup:=fun hn=>by
 have hk:=(List.getElem?_eq_some_iff.1 hx).1
 rw [<- List.take_append_drop k L,List.map_append] at hn
 have h2:f x∈(L.drop k).map f:=List.mem_map.2 ⟨x,List.mem_of_getElem? (i:=0) (by rw [List.getElem?_drop,Nat.add_zero];exact hx),rfl⟩
 exact (List.nodup_append.1 hn).2.2 _ hm _ h2 rfl
theorem JE {l:List Int}{x:Int}(h:l.Nodup)(hx:¬ x∈l):(l++[x]).Nodup:=by
 rw [List.nodup_append]
 exact ⟨h,(List.nodup_cons.2 ⟨bA,List.nodup_nil⟩),fun a ha b hb e=>hx (by rw [List.mem_singleton.1 hb] at e;rw [<- e];exact ha)⟩
section
variable {r:aB} {k:Nat} {x:Held} {seen ts:List Int}
theorem SZ (hx:r.Held[k]? = some x)(h:cE r.aj x.ak<0):eQ r=false:=gT fun hw=>by
 have:=hw.fh x (List.mem_of_getElem? hx);omega
theorem W5 (hx:r.Held[k]? = some x)(hs:seen=(r.Held.take k).map Held.ak)(h:x.ak∈seen):eQ r=false:=gT fun hw=>W4 hx (hs▸h) hw.once
theorem MD (ht:ts=(r.Things.take k).map aA.ID)(hk:r.Things.length<=k)(h:¬ ts=br r.aj):eQ r=false:=gT fun hw=>h (by rw [ht,List.take_of_length_le hk];exact hw.things)
theorem ZV {x:ak}(hx:r.aj[r.aj.length-1]? = some x)(h:¬ x.ID<r.ah):eQ r=false:=gT fun hw=>h (hw.TX x (by rw [List.getLast?_eq_getElem?];exact hx))
theorem H5 {α β:Type}{f:α->β}{L:List α}{y:β}(h:(L.map f)[(L.map f).length-1]? = some y):∃x,L.getLast? = some x/\f x=y:=by
 rw [List.getElem?_map,List.length_map,<- List.getLast?_eq_getElem?] at h
 obtain ⟨x,h1,h2⟩:=Option.map_eq_some_iff.1 h
 exact ⟨x,h1,h2⟩
theorem UG {y:Int}(ht:ts=(r.Things.take k).map aA.ID)(hk:r.Things.length<=k)(hy:ts[ts.length-1]? = some y)(h:¬ y<r.ai):eQ r=false:=gT fun hw=>by
 subst ht;rw [List.take_of_length_le hk] at hy
 obtain ⟨x,h1,h2⟩:=H5 hy
 exact h (h2▸hw.TY x h1)
theorem Fg (a1:eE r.aj=0)(a2:r.Things.length<=10)(a3:1<=r.ah/\r.ah<=1000)(a5:1<=r.ai/\r.ai<=1000)(a7:r.Held.length=r.aj.length){i:Nat}(hs:seen=(r.Held.take i).map Held.ak)(hi:r.Held.length<=i)
 (hf:∀h∈r.Held.take i,0<=cE r.aj h.ak) (hn:seen.Nodup) (ht:ts=(r.Things.take k).map aA.ID) (hk:r.Things.length<=k) (he:ts=br r.aj) (hw:r.aj.length=0 ∨ ∃x,r.aj[r.aj.length-1]? = some x/\x.ID<r.ah) (hl:ts.length=0 ∨ ∃y,ts[ts.length-1]? = some y/\y<r.ai):eQ r=true:=by
 rw [List.take_of_length_le hi] at hs hf
 rw [List.take_of_length_le hk] at ht
 refine Ai ⟨a1,a2,a3.1,a3.2,a5.1,a5.2,a7,hf,hs▸hn,ht.symm.trans he,fun w hq=>?_,fun t hq=>?_⟩
 .
  rcases hw with hw|⟨x,h1,h2⟩
  .rw [List.eq_nil_of_length_eq_zero hw] at hq;cases hq
  rw [List.getLast?_eq_getElem?,h1] at hq;injection hq with hq;rw [<- hq];exact h2
 rcases hl with hl|⟨y,h1,h2⟩
 .rw [ht,List.length_map] at hl;rw [List.eq_nil_of_length_eq_zero hl] at hq;cases hq
 subst ht
 obtain ⟨x,h3,h4⟩:=H5 h1
 rw [h3] at hq;injection hq with hq;rw [<- hq,h4];exact h2
end
theorem ME (aX aR aS aT:Value)(r:aB)(w:World)(own:List Nat)(H:HN w own [] [ag.ls aX r.aj,ag.ls aR r.Things,ag.ls aS r.Held,ag.ls aT r.Notes])(hr:r.aj.length<=1000/\r.Things.length<=1000/\r.Held.length<=1000):RC Tryz.prog 82 #[.agg #[aX,aR,aS,aT,iV r.ah,iV r.ai]] H (fun _:Unit => .bool (eQ r)) (fun _=>[]) (fun _=>[]):=by
 have bT:=H.aL 0 rfl
 have bH:=H.aL 1 rfl
 have cr:=H.aL 2 rfl
 have bU:=H.aL 3 rfl
 refine R.eN H ?_
 refine R.nb fun b1=>?_
 refine R.kc O O (fun w hw=>Ci _ r.aj w (hw.cy 0 O))<|C (eE r.aj=0) ?_ ?_ <;> intro h1
 .
  refine C (10<r.Things.length) ?_ ?_ <;> intro h2
  .
   rw [show eQ r=_ from by exact gT (fun hw=>by have a1:eE r.aj=0:=hw.tree;have a2:=hw.jG;have a3:=hw.pO;have a4:=hw.rK;have a5:=hw.qw;have a6:=hw.qx;have a7:=hw.hlen;omega)]
   exact R.x1 () [1] []
  refine C (r.ah<1) ?_ ?_ <;> intro h3
  .
   rw [show eQ r=_ from by exact gT (fun hw=>by have a1:eE r.aj=0:=hw.tree;have a2:=hw.jG;have a3:=hw.pO;have a4:=hw.rK;have a5:=hw.qw;have a6:=hw.qx;have a7:=hw.hlen;omega)]
   exact R.x1 () [1] []
  refine C (1000<r.ah) ?_ ?_ <;> intro h4
  .
   rw [show eQ r=_ from by exact gT (fun hw=>by have a1:eE r.aj=0:=hw.tree;have a2:=hw.jG;have a3:=hw.pO;have a4:=hw.rK;have a5:=hw.qw;have a6:=hw.qx;have a7:=hw.hlen;omega)]
   exact R.x1 () [1] []
  refine C (r.ai<1) ?_ ?_ <;> intro h5
  .
   rw [show eQ r=_ from by exact gT (fun hw=>by have a1:eE r.aj=0:=hw.tree;have a2:=hw.jG;have a3:=hw.pO;have a4:=hw.rK;have a5:=hw.qw;have a6:=hw.qx;have a7:=hw.hlen;omega)]
   exact R.x1 () [1] []
  refine C (1000<r.ai) ?_ ?_ <;> intro h6
  .
   rw [show eQ r=_ from by exact gT (fun hw=>by have a1:eE r.aj=0:=hw.tree;have a2:=hw.jG;have a3:=hw.pO;have a4:=hw.rK;have a5:=hw.qw;have a6:=hw.qx;have a7:=hw.hlen;omega)]
   exact R.x1 () [1] []
  refine C (r.Held.length=r.aj.length) ?_ ?_ <;> intro h7
  .
   refine R.row0 (α:=Int) 3<|R.loop (fun g_:Nat×Value×(List Int)=>[(1,pV b1),(3,g_.2.1),(49,aS),(50,iV (r.Held.length:Int)),(51,iV (g_.1:Int))]) (fun g_=>[ag.row 3 g_.2.1 g_.2.2,ag.box b1 [aX,aR,aS,aT,iV r.ah,iV r.ai] 48,ag.held w own]) (fun g_=>[ag.ls aX r.aj,ag.ls aR r.Things,ag.ls aS r.Held,ag.ls aT r.Notes]) (fun g_=>g_.1<=r.Held.length/\g_.2.2=(r.Held.take g_.1).map Held.ak/\(∀h∈r.Held.take g_.1,0<=cE r.aj h.ak)/\g_.2.2.Nodup) (fun g_=>r.Held.length-g_.1) (0,nS,[]) O (by exact ⟨ae,rfl,(by intro h hh;simp at hh),List.nodup_nil⟩) (sF O) (dX [0,1,2] bm O) ?_
   rintro ⟨k,u,seen⟩ ⟨hk,HS,HF,HN⟩
   dsimp only at *
   have ll:seen.length<=1000:=by rw [HS,List.length_map,List.length_take];omega
   refine U ?_
   refine C (k<r.Held.length) ?_ ?_ <;> intro h8
   .
    obtain ⟨x1,hx1⟩:=gE r.Held k
    refine U ?_
    refine R.nb fun b2=>?_
    rcases ea r.aj x1.ak with ⟨fR,E8⟩ | ⟨yh,m6,fR,wF,UF⟩
    .
     refine R.kc O O (fun w hw=>cv (congrArg (Value.int .i64) fR) (jl _ r.aj x1.ak w (hw.cy 0 O)))<|U ?_
     rw [show eQ r=_ from SZ hx1 ae]
     exact R.x1 () [3] []
    refine R.kc O O (fun w hw=>cv (congrArg (Value.int .i64) fR) (jl _ r.aj x1.ak w (hw.cy 0 O)))<|U ?_
    rcases Bool.eq_false_or_eq_true (decide (x1.ak∈seen)) with h9|h9
    .
     refine R.kc O O (fun w hw=>cv (congrArg Value.bool h9) (gx _ seen x1.ak w (hw.row 1 O)))<|U ?_
     rw [show eQ r=_ from W5 hx1 HS (of_decide_eq_true af)]
     exact R.x1 () [3] []
    refine R.kc O O (fun w hw=>cv (congrArg Value.bool h9) (gx _ seen x1.ak w (hw.row 1 O)))<|U ?_
    refine R.s O (s.bs (l:=([x1.ak]:List Int)) kx jW O O O O O O O) fun b3=>?_
    refine R.ap fun v1=>?_
    refine R.back (k+1,v1,(seen++([x1.ak]))) O (by exact ⟨ae,by rw [mO Held.ak hx1,<- HS],(by rw [List.take_add_one,hx1];intro h hh;rcases List.mem_append.1 hh with hh|hh;exact HF h hh;rw [List.mem_singleton.1 hh];omega),JE HN (of_decide_eq_false af)⟩) aJ (sF O) (cw [2,3,4] bm O)
   refine R.row0 (α:=Int) 3<|R.loop (fun g_:Nat×Value×(List Int)=>[(1,pV b1),(6,g_.2.1),(74,aR),(75,iV (r.Things.length:Int)),(76,iV (g_.1:Int))]) (fun g_=>[ag.row 3 g_.2.1 g_.2.2,ag.row 3 u seen,ag.box b1 [aX,aR,aS,aT,iV r.ah,iV r.ai] 48,ag.held w own]) (fun g_=>[ag.ls aX r.aj,ag.ls aR r.Things,ag.ls aS r.Held,ag.ls aT r.Notes]) (fun g_=>g_.1<=r.Things.length/\g_.2.2=(r.Things.take g_.1).map aA.ID) (fun g_=>r.Things.length-g_.1) (0,nS,[]) O (by exact ⟨ae,rfl⟩) (sF O) (dX bm bm O) ?_
   rintro ⟨j,u2,ts⟩ ⟨hj,HT⟩
   dsimp only at *
   have ll2:ts.length<=1000:=by rw [HT,List.length_map,List.length_take];omega
   refine U ?_
   refine C (j<r.Things.length) ?_ ?_ <;> intro h10
   .
    obtain ⟨x2,hx2⟩:=gE r.Things j
    refine U ?_
    refine R.nb fun b4=>?_
    refine R.s O (s.bs (l:=([x2.ID]:List Int)) kx jW O O O O O O O) fun b5=>?_
    refine R.ap fun v2=>?_
    refine R.back (j+1,v2,(ts++([x2.ID]))) O (by exact ⟨ae,by rw [mO aA.ID hx2,<- HT]⟩) aJ (sF O) (cw eO bm O)
   refine R.s O (s.nM OW O O (fun w hw=>yj _ r.aj w (hw.cy 0 O) ae) O) fun v3=>?_
   rcases Bool.eq_false_or_eq_true (decide (ts=(br r.aj))) with h11|h11
   .
    refine R.kc O O (fun w hw=>cv (congrArg Value.bool h11) (BG _ ts _ (br r.aj) w (hw.row 1 O) (hw.row 0 O)))<|U ?_
    refine C (r.aj.length=0) ?_ ?_ <;> intro h12
    .
     refine C (ts.length=0) ?_ ?_ <;> intro Pf
     .
      refine R.c6 O mixed ay<|U ?_
      rw [show eQ r=_ from Fg ae ae ae ae ae HS ae HF HN HT ae (of_decide_eq_true af) (.inl ae) (.inl ae)]
      exact R.x1 () [4] []
     obtain ⟨x3,hx3⟩:=gE ts (ts.length-1)
     refine C (x3<r.ai) ?_ ?_ <;> intro Si
     .
      refine R.c6 O mixed ay<|U ?_
      refine Q.qg O (q.lG (r:=((ts.length-1:Nat):Int)) O O) O<|U ?_
      rw [show eQ r=_ from Fg ae ae ae ae ae HS ae HF HN HT ae (of_decide_eq_true af) (.inl ae) (.inr ⟨_,hx3,af⟩)]
      exact R.x1 () [4] []
     refine R.c6 O mixed ay<|U ?_
     refine Q.qg O (q.lG (r:=((ts.length-1:Nat):Int)) O O) O<|U ?_
     rw [show eQ r=_ from UG HT ae hx3 af]
     exact R.x1 () [4] []
    obtain ⟨x4,hx4⟩:=gE r.aj (r.aj.length-1)
    refine C (x4.ID<r.ah) ?_ ?_ <;> intro XJ
    .
     refine C (ts.length=0) ?_ ?_ <;> intro h16
     .
      refine R.c6 O mixed ay<|U ?_
      refine Q.qg O (q.lG (r:=((r.aj.length-1:Nat):Int)) O O) O<|U ?_
      rw [show eQ r=_ from Fg ae ae ae ae ae HS ae HF HN HT ae (of_decide_eq_true af) (.inr ⟨_,hx4,af⟩) (.inl ae)]
      exact R.x1 () [4] []
     obtain ⟨x5,hx5⟩:=gE ts (ts.length-1)
     refine C (x5<r.ai) ?_ ?_ <;> intro Zh
     .
      refine R.c6 O mixed ay<|U ?_
      refine Q.qg O (q.lG (r:=((r.aj.length-1:Nat):Int)) O O) O<|U ?_
      refine Q.qg O (q.lG (r:=((ts.length-1:Nat):Int)) O O) O<|U ?_
      rw [show eQ r=_ from Fg ae ae ae ae ae HS ae HF HN HT ae (of_decide_eq_true af) (.inr ⟨_,hx4,af⟩) (.inr ⟨_,hx5,af⟩)]
      exact R.x1 () [4] []
     refine R.c6 O mixed ay<|U ?_
     refine Q.qg O (q.lG (r:=((r.aj.length-1:Nat):Int)) O O) O<|U ?_
     refine Q.qg O (q.lG (r:=((ts.length-1:Nat):Int)) O O) O<|U ?_
     rw [show eQ r=_ from UG HT ae hx5 af]
     exact R.x1 () [4] []
    refine R.c6 O mixed ay<|U ?_
    refine Q.qg O (q.lG (r:=((r.aj.length-1:Nat):Int)) O O) O<|U ?_
    rw [show eQ r=_ from ZV hx4 af]
    exact R.x1 () [4] []
   refine R.kc O O (fun w hw=>cv (congrArg Value.bool h11) (BG _ ts _ (br r.aj) w (hw.row 1 O) (hw.row 0 O)))<|U ?_
   rw [show eQ r=_ from MD HT ae (of_decide_eq_false af)]
   exact R.x1 () [4] []
  rw [show eQ r=_ from by exact gT (fun hw=>by have a1:eE r.aj=0:=hw.tree;have a2:=hw.jG;have a3:=hw.pO;have a4:=hw.rK;have a5:=hw.qw;have a6:=hw.qx;have a7:=hw.hlen;omega)]
  exact R.x1 () [1] []
 rw [show eQ r=_ from by exact gT (fun hw=>by have a1:eE r.aj=0:=hw.tree;have a2:=hw.jG;have a3:=hw.pO;have a4:=hw.rK;have a5:=hw.qw;have a6:=hw.qx;have a7:=hw.hlen;omega)]
 exact R.x1 () [1] []
def prevK (l:List Change)(k:Nat):Option ByteArray:=if k=0 then none else (l[k-1]?).map Change.Key
section
variable {l:List Change} {k:Nat} {x y:Change} {z:aB} {Z:Option aB}
theorem H6 (hx:l[k]? = some x):l.drop k=x::l.drop (k+1):=by
 obtain ⟨h,rfl⟩:=List.getElem?_eq_some_iff.1 hx
 exact List.drop_eq_getElem_cons h
theorem H7 (h:¬ 0<k):uL (prevK l k) x=true:=by unfold prevK;rw [if_pos ae];rfl
theorem H8 (h:0<k)(hy:l[k-1]? = some y)(hl:(hY x.Key y.Key||decide (x.Key=y.Key))=false):uL (prevK l k) x=true:=by
 unfold prevK;rw [if_neg ae,hy];exact Wx hl
theorem S0 (h:0<k)(hy:l[k-1]? = some y)(hl:(hY x.Key y.Key||decide (x.Key=y.Key))=true):uL (prevK l k) x=false:=by
 unfold prevK;rw [if_neg ae,hy];exact Sm hl
theorem UH (h:x.Gone=false):(⟨x.Key,x.Val,false⟩:Change)=x:=by rw [<- h]
theorem y6 (h:pgo (l.drop k) (prevK l k) z=Z)(hx:l[k]? = some x)(h1:uL (prevK l k) x=true)(h2:x.Gone=false)(h3:(rowP z ⟨x.Key,x.Val,false⟩).2=true):pgo (l.drop (k+1)) (prevK l (k+1)) (rowP z ⟨x.Key,x.Val,false⟩).1=Z:=by
 rw [UH h2] at h3 ⊢
 rw [H6 hx] at h;simp only [pgo] at h
 rw [if_pos (by rw [h1,h2,h3];rfl)] at h
 unfold prevK;rw [if_neg ae,Nat.add_sub_cancel,hx];exact h
theorem qS (h:pgo (l.drop k) (prevK l k) z=pgo l none r0)(hx:l[k]? = some x)(h1:uL (prevK l k) x=false∨x.Gone=true∨x.Gone=false/\(rowP z ⟨x.Key,x.Val,false⟩).2=false):bY l=(r0,4):=by
 rw [H6 hx] at h;simp only [pgo] at h
 rw [if_neg (by
  rcases h1 with e|e|⟨e1,e⟩
  .rw [e];simp
  .rw [e];simp
  rw [UH e1] at e;rw [e];simp)] at h
 unfold bY;rw [<- h]
theorem Qg (h:pgo (l.drop k) (prevK l k) z=pgo l none r0)(hk:l.length<=k):pgo l none r0=some z:=by
 rw [List.drop_of_length_le hk] at h;exact h.symm
theorem W6 (h:pgo (l.drop k) (prevK l k) z=pgo l none r0)(hk:l.length<=k)(hw:eQ z=false):bY l=(r0,4):=by
 unfold bY;rw [Qg h hk];dsimp only;rw [if_neg (by rw [hw];decide)]
theorem ZW (h:pgo (l.drop k) (prevK l k) z=pgo l none r0)(hk:l.length<=k)(hw:eQ z=true):bY l=(z,0):=by
 unfold bY;rw [Qg h hk];dsimp only;rw [if_pos hw]
theorem wu (z:aB)(x:Change):(rowP z x).1.aj.length<=z.aj.length+1/\(rowP z x).1.Things.length<=z.Things.length+1/\(rowP z x).1.Held.length<=z.Held.length+1:=by
 unfold rowP
 (repeat' split) <;> dsimp only <;> (repeat' split) <;> simp [LL,LM,Gr,R0] <;> omega
end
attribute [local irreducible] rowP pgo bY
theorem MF (bR:Value)(l:List Change)(w:World)(own:List Nat)(H:HN w own [] [ag.ls bR l,bJ])(hl:l.length<=900)(hc:∀c∈l,c.Key.size<=1000/\c.Val.size<=1000):RS Tryz.prog 30 #[bR] H (bY l) (fun s (z:Value×Value×Value×Value) => .tuple #[.agg #[z.1,z.2.1,z.2.2.1,z.2.2.2,iV s.1.ah,iV s.1.ai],bQ s.2]) (fun _ _=>[]) (fun s z=>[ag.ls z.1 s.1.aj,ag.ls z.2.1 s.1.Things,ag.ls z.2.2.1 s.1.Held,ag.ls z.2.2.2 s.1.Notes]):=by
 have BV:=H.aL 0 rfl
 refine R.eN H ?_
 refine R.nb fun b1=>?_
 refine R.nb fun b2=>?_
 refine R.row0 (α:=ak) 126<|R.row0 (α:=aA) 103<|R.row0 (α:=Held) 124<|R.row0 (α:=Note) 91<|R.loop (fun g_:Nat×aB×Value×Value×Value×Value=>[(0,bR),(2,pV b1),(4,pV b2),(7,bR),(8,iV (l.length:Int)),(9,iV (g_.1:Int))]) (fun g_=>[ag.row 91 g_.2.2.2.2.2 g_.2.1.Notes,ag.row 124 g_.2.2.2.2.1 g_.2.1.Held,ag.row 103 g_.2.2.2.1 g_.2.1.Things,ag.row 126 g_.2.2.1 g_.2.1.aj,ag.box b2 [g_.2.2.1,g_.2.2.2.1,g_.2.2.2.2.1,g_.2.2.2.2.2,iV g_.2.1.ah,iV g_.2.1.ai] 48,ag.box b1 vg 48,ag.held w own]) (fun g_=>[ag.ls bR l,bJ]) (fun g_=>g_.1<=l.length/\pgo (l.drop g_.1) (prevK l g_.1) g_.2.1=pgo l none r0/\g_.2.1.aj.length<=g_.1/\g_.2.1.Things.length<=g_.1/\g_.2.1.Held.length<=g_.1) (fun g_=>l.length-g_.1) (0,(⟨[],[],[],[],0,0⟩:aB),nS,nS,nS,nS) O (by (try dsimp only);exact ⟨ae,rfl,Nat.le_refl _,Nat.le_refl _,Nat.le_refl _⟩) (sF O) (dX du [0,1] O) ?_
 rintro ⟨k,z,tE,p9,xu,tF⟩ ⟨hk,HP,z1l,z2l,z3l⟩
 dsimp only at *
 refine U ?_
 refine C (k<l.length) ?_ ?_ <;> intro h1
 .
  obtain ⟨x1,hx1⟩:=gE l k
  have Sk:=hc x1 (List.mem_of_getElem? hx1)
  refine U ?_
  refine R.nb fun b3=>?_
  refine C (0<k) ?_ ?_ <;> intro h2
  .
   obtain ⟨x2,hx2⟩:=gE l (k-1)
   have fx2:=hc x2 (List.mem_of_getElem? hx2)
   rcases Bool.eq_false_or_eq_true (hY x1.Key x2.Key||decide (x1.Key=x2.Key)) with h3|h3
   .
    refine R.c6 O mixed ay<|U ?_
    refine Q.qg O (q.lG (r:=((k-1:Nat):Int)) O O) O<|U ?_
    refine Q.qg O (q.Lr O O h3) O<|U ?_
    refine R.jB ak aA Held Note ?_
    rw [show bY l=_ from qS HP hx1 (.inl (S0 ae hx2 af))]
    exact R.x2 (nS,nS,nS,nS) [7] [3,2,1,0]
   rcases Bool.eq_false_or_eq_true x1.Gone with h4|h4
   .
    rw [h4]
    refine R.c6 O mixed ay<|U ?_
    refine Q.qg O (q.lG (r:=((k-1:Nat):Int)) O O) O<|U ?_
    refine Q.qg O (q.Lr O O h3) O<|U ?_
    refine R.jB ak aA Held Note ?_
    rw [show bY l=_ from qS HP hx1 (.inr (.inl af))]
    exact R.x2 (nS,nS,nS,nS) [7] [3,2,1,0]
   rw [h4]
   rcases Bool.eq_false_or_eq_true (!((rowP z (⟨x1.Key,x1.Val,false⟩:Change)).2)) with h5|h5
   .
    refine R.cO (fuel:=22) [0,6,7] O O mixed O<|D.l Fx [0,6,7] [0,1] O<|U ?_
    refine Dm.yy O O (q.lG (r:=((k-1:Nat):Int)) O O) O<|U ?_
    refine Dm.yy O O (q.Lr O O h3) O<|U ?_
    refine D.p 19 O [5,6,7] [0,1] (s.aH JN [1] _ _ _ O O O KN O O (fun w own hw H=>yZ b2 tE p9 xu tF z (⟨x1.Key,x1.Val,false⟩:Change) w own H af ae) O) ?_
    rintro ⟨z9,kM,lA,z12⟩
    dsimp only
    refine D.l [20,21] [5,6,7] [0,1] O<|Dm.yy O O (q.not O) O<|U ?_
    refine D.done<|R.cond O O (fun h6=>?_) (fun h6=>?_)
    .
     refine U ?_
     refine R.jB ak aA Held Note ?_
     rw [show bY l=_ from qS HP hx1 (.inr (.inr ⟨af,by exact H3 af⟩))]
     exact R.x2 (nS,nS,nS,nS) [7] [3,2,1,0]
    refine U ?_
    refine R.back (k+1,(rowP z (⟨x1.Key,x1.Val,false⟩:Change)).1,z9,kM,lA,z12) O (by ((try dsimp only);have zl:=wu z (⟨x1.Key,x1.Val,false⟩:Change);exact ⟨ae,y6 HP hx1 (by exact H8 ae hx2 af) af (by exact H4 af),ae,ae,ae⟩)) aJ (sF O) (cw [4,3,2,1,0,6,7] [0,1] O)
   refine R.cO (fuel:=22) [0,6,7] O O mixed O<|D.l Fx [0,6,7] [0,1] O<|U ?_
   refine Dm.yy O O (q.lG (r:=((k-1:Nat):Int)) O O) O<|U ?_
   refine Dm.yy O O (q.Lr O O h3) O<|U ?_
   refine D.p 19 O [5,6,7] [0,1] (s.aH JN [1] _ _ _ O O O KN O O (fun w own hw H=>yZ b2 tE p9 xu tF z (⟨x1.Key,x1.Val,false⟩:Change) w own H af ae) O) ?_
   rintro ⟨z17,uX,wH,z20⟩
   dsimp only
   refine D.l [20,21] [5,6,7] [0,1] O<|Dm.yy O O (q.not O) O<|U ?_
   refine D.done<|R.cond O O (fun h7=>?_) (fun h7=>?_)
   .
    refine U ?_
    refine R.jB ak aA Held Note ?_
    rw [show bY l=_ from qS HP hx1 (.inr (.inr ⟨af,by exact H3 af⟩))]
    exact R.x2 (nS,nS,nS,nS) [7] [3,2,1,0]
   refine U ?_
   refine R.back (k+1,(rowP z (⟨x1.Key,x1.Val,false⟩:Change)).1,z17,uX,wH,z20) O (by ((try dsimp only);have zl:=wu z (⟨x1.Key,x1.Val,false⟩:Change);exact ⟨ae,y6 HP hx1 (by exact H8 ae hx2 af) af (by exact H4 af),ae,ae,ae⟩)) aJ (sF O) (cw [4,3,2,1,0,6,7] [0,1] O)
  rcases Bool.eq_false_or_eq_true x1.Gone with h8|h8
  .
   rw [h8]
   refine R.c6 O mixed ay<|U ?_
   refine R.jB ak aA Held Note ?_
   rw [show bY l=_ from qS HP hx1 (.inr (.inl af))]
   exact R.x2 (nS,nS,nS,nS) [7] [3,2,1,0]
  rw [h8]
  rcases Bool.eq_false_or_eq_true (!((rowP z (⟨x1.Key,x1.Val,false⟩:Change)).2)) with h9|h9
  .
   refine R.cO (fuel:=22) [0,6,7] O O mixed O<|D.l Fx [0,6,7] [0,1] O<|U ?_
   refine D.p 19 O [5,6,7] [0,1] (s.aH JN [1] _ _ _ O O O KN O O (fun w own hw H=>yZ b2 tE p9 xu tF z (⟨x1.Key,x1.Val,false⟩:Change) w own H af ae) O) ?_
   rintro ⟨z29,z30,z31,z32⟩
   dsimp only
   refine D.l [20,21] [5,6,7] [0,1] O<|Dm.yy O O (q.not O) O<|U ?_
   refine D.done<|R.cond O O (fun h10=>?_) (fun h10=>?_)
   .
    refine U ?_
    refine R.jB ak aA Held Note ?_
    rw [show bY l=_ from qS HP hx1 (.inr (.inr ⟨af,by exact H3 af⟩))]
    exact R.x2 (nS,nS,nS,nS) [7] [3,2,1,0]
   refine U ?_
   refine R.back (k+1,(rowP z (⟨x1.Key,x1.Val,false⟩:Change)).1,z29,z30,z31,z32) O (by ((try dsimp only);have zl:=wu z (⟨x1.Key,x1.Val,false⟩:Change);exact ⟨ae,y6 HP hx1 (by exact H7 ae) af (by exact H4 af),ae,ae,ae⟩)) aJ (sF O) (cw [4,3,2,1,0,6,7] [0,1] O)
  refine R.cO (fuel:=22) [0,6,7] O O mixed O<|D.l Fx [0,6,7] [0,1] O<|U ?_
  refine D.p 19 O [5,6,7] [0,1] (s.aH JN [1] _ _ _ O O O KN O O (fun w own hw H=>yZ b2 tE p9 xu tF z (⟨x1.Key,x1.Val,false⟩:Change) w own H af ae) O) ?_
  rintro ⟨z37,z38,z39,z40⟩
  dsimp only
  refine D.l [20,21] [5,6,7] [0,1] O<|Dm.yy O O (q.not O) O<|U ?_
  refine D.done<|R.cond O O (fun h11=>?_) (fun h11=>?_)
  .
   refine U ?_
   refine R.jB ak aA Held Note ?_
   rw [show bY l=_ from qS HP hx1 (.inr (.inr ⟨af,by exact H3 af⟩))]
   exact R.x2 (nS,nS,nS,nS) [7] [3,2,1,0]
  refine U ?_
  refine R.back (k+1,(rowP z (⟨x1.Key,x1.Val,false⟩:Change)).1,z37,z38,z39,z40) O (by ((try dsimp only);have zl:=wu z (⟨x1.Key,x1.Val,false⟩:Change);exact ⟨ae,y6 HP hx1 (by exact H7 ae) af (by exact H4 af),ae,ae,ae⟩)) aJ (sF O) (cw [4,3,2,1,0,6,7] [0,1] O)
 refine R.s O (s.pre (fun _ hw=>hw.aO 3 _ O O) (s.pre (fun _ hw=>hw.aO 2 _ O O) (s.pre (fun _ hw=>hw.aO 1 _ O O) (s.pre (fun _ hw=>hw.aO 0 _ O O) (s.aH [0,1,2] [3,2,1,0] _ _ _ O O O Za O O (fun w own hw H=>ME tE p9 xu tF z w own H ae) O))))) fun _=>?_
 refine R.q (q.not O) O<|U ?_
 refine R.cond O O (fun h12=>?_) (fun h12=>?_)
 .
  refine U ?_
  refine R.jB ak aA Held Note ?_
  rw [show bY l=_ from W6 HP ae (by exact H3 af)]
  exact R.x2 (nS,nS,nS,nS) [2] [3,2,1,0]
 refine U ?_
 rw [show bY l=_ from ZW HP ae (by exact H4 af)]
 exact R.x2 (tE,p9,xu,tF) [2] [3,2,1,0]
end
section
open Go Go.RowKit
attribute [local irreducible] Run Rg Rq Qt Qa Stp Dg Do Dm bQ
theorem H9 {α:Type}(f:α->Int)(l:List α):rk f l=false ∨ ∃x,l[kS f l]? = some x/\rk f l=true/\kS f l<l.length:=by
 cases h:rk f l with
 | false=>exact .inl rfl
 | true =>
  have:=AX h
  exact .inr ⟨l[kS f l],List.getElem?_eq_getElem this,rfl,this⟩
def Co (a:List Change)(c:Change):Bool:= !rk (fK c.Key) a || !decide (a[kS (fK c.Key) a]? = some c)
theorem DJ {a b:List Change}{k:Nat}{x:Change}(h:a[k]? = some x):Al (a.take (k+1)) b=Al (a.take k) b++(if rk (fK x.Key) b=false then [ub x.Key] else []):=by
 unfold Al
 rw [List.take_add_one,h,List.filter_append,List.map_append]
 cases hb:rk (fK x.Key) b <;> simp [hb]
theorem xw {a b:List Change}{k:Nat}{x:Change}(h:b[k]? = some x):Gw a (b.take (k+1))=Gw a (b.take k)++(if Co a x=true then [x] else []):=by
 unfold Gw
 rw [List.take_add_one,h,List.filter_append]
 congr 1
 cases hb:Co a x with
 | true=>unfold Co at hb;simp [hb]
 | false=>unfold Co at hb;simp [hb]
theorem S1 {a:List Change}{x:Change}(h:rk (fK x.Key) a=false):Co a x=true:=by unfold Co;rw [h];rfl
theorem S2 {a:List Change}{x y:Change}(h:a[kS (fK x.Key) a]? = some y)(hn:¬ y=x):Co a x=true:=by
 unfold Co;rw [h,decide_eq_false (fun e=>hn (Option.some.inj e))];simp
theorem S3 {a:List Change}{x y:Change}(hb:rk (fK x.Key) a=true)(h:a[kS (fK x.Key) a]? = some y)(hn:y=x):Co a x=false:=by
 unfold Co;rw [hb,h,hn];simp
theorem Ia (a b:List Change):(Al a b).length<=a.length:=by unfold Al;rw [List.length_map];exact List.length_filter_le _ _
theorem Qh (a b:List Change):(Gw a b).length<=b.length:=List.length_filter_le _ _
theorem qT (x:Change)(k:ByteArray)(w:World):Calls Tryz.prog 152 #[.agg #[.string x.Key,.string x.Val,.bool x.Gone],.string k] w fun e w'=>e = .returned (iV (fK k x))/\Ext w w':=by
 refine R.eV ?_
 refine R.nb fun b1=>?_
 refine R.kc O O (fun w hw=>sE x.Key k w)<|U ?_
 refine R.rt ?_
 rfl
theorem Ib (DI:Value)(a:List Change)(Fa:Value)(b:List Change)(w:World)(own:List Nat)(H:HN w own [] [ag.ls DI a,ag.ls Fa b])(hl:a.length<=1000/\b.length<=1000):RC Tryz.prog 96 #[DI,Fa] H (fun z:Value=>z) (fun z=>[ag.row 115 z (lL (vT a b))]) (fun _=>[]):=by
 have m_a:=H.aL 0 rfl
 have m_b:=H.aL 1 rfl
 refine R.eN H ?_
 refine R.row0 (α:=Change) 115<|R.loop (fun g_:Nat×Value×(List Change)=>[(0,DI),(1,Fa),(5,g_.2.1),(6,.func (.func 152) #[] #[]),(15,DI),(16,iV (a.length:Int)),(17,iV (g_.1:Int))]) (fun g_=>[ag.row 115 g_.2.1 g_.2.2,ag.held w own]) (fun g_=>[ag.ls DI a,ag.ls Fa b]) (fun g_=>g_.1<=a.length/\g_.2.2=Al (a.take g_.1) b) (fun g_=>a.length-g_.1) (0,nS,[]) O (by exact ⟨ae,rfl⟩) (sF O) (dX [0,1] [0,1] O) ?_
 rintro ⟨k,u,l⟩ ⟨hk,HL⟩
 dsimp only at *
 have ll:=Ia (a.take k) b;rw [<- HL,List.length_take] at ll
 refine U ?_
 refine C (k<a.length) ?_ ?_ <;> intro h1
 .
  obtain ⟨x1,hx1⟩:=gE a k
  refine U ?_
  refine R.nb fun b1=>?_
  rcases H9 (fun x=>(fun (x:Change) (k:ByteArray)=>fK k x) x x1.Key) b with fR|⟨Jf,m6,fR,E0⟩
  .
   refine R.kc O O (fun w hw=>cv (congrArg (fun W7=>Value.tuple #[iV ((kS (fun x=>(fun (x:Change) (k:ByteArray)=>fK k x) x x1.Key) b:Nat):Int),.bool W7]) fR) (g7 _ b x1.Key (fun (x:Change) (k:ByteArray)=>fK k x) _ _ ET w (hw.cy 1 O) (fun W x k hW=>qT x k W) ae))<|U ?_
   refine R.s O (s.bs (l:=([(⟨x1.Key,⟨#[]⟩,true⟩:Change)]:List Change)) cD ct O O O O O O O) fun b2=>?_
   refine R.ap fun v1=>?_
   refine R.back (k+1,v1,(l++([(⟨x1.Key,⟨#[]⟩,true⟩:Change)]))) O (by exact ⟨ae,by rw [DJ hx1,<- HL];(rw [if_pos (show rk (fK x1.Key) b=false from fR)];rfl)⟩) aJ (sF O) (cw [2,3] [0,1] O)
  refine R.kc O O (fun w hw=>cv (congrArg (fun W7=>Value.tuple #[iV ((kS (fun x=>(fun (x:Change) (k:ByteArray)=>fK k x) x x1.Key) b:Nat):Int),.bool W7]) fR) (g7 _ b x1.Key (fun (x:Change) (k:ByteArray)=>fK k x) _ _ ET w (hw.cy 1 O) (fun W x k hW=>qT x k W) ae))<|U ?_
  refine R.back (k+1,u,l) O (by exact ⟨ae,by rw [DJ hx1,<- HL];(rw [if_neg (by rw [show rk (fK x1.Key) b=true from fR];decide)];exact (List.append_nil _).symm)⟩) aJ (sF O) (cw [1,2] [0,1] O)
 refine R.loop (fun g_:Nat×Value×(List Change)=>[(0,DI),(5,g_.2.1),(6,.func (.func 152) #[] #[]),(38,Fa),(39,iV (b.length:Int)),(40,iV (g_.1:Int))]) (fun g_=>[ag.row 115 g_.2.1 g_.2.2,ag.held w own]) (fun g_=>[ag.ls DI a,ag.ls Fa b]) (fun g_=>g_.1<=b.length/\g_.2.2=Al a b++Gw a (b.take g_.1)) (fun g_=>b.length-g_.1) (0,u,l) O (by exact ⟨ae,by rw [HL,List.take_of_length_le ae];exact (List.append_nil _).symm⟩) (sF O) (dX [0,1] [0,1] O) ?_
 rintro ⟨j,u2,l2⟩ ⟨hj,HL2⟩
 dsimp only at *
 have ll2:l2.length<=a.length+j:=by have q1:=Ia a b;have q2:=Qh a (b.take j);rw [List.length_take] at q2;rw [HL2,List.length_append];omega
 refine U ?_
 refine C (j<b.length) ?_ ?_ <;> intro h2
 .
  obtain ⟨x2,hx2⟩:=gE b j
  refine U ?_
  refine R.nb fun b3=>?_
  rcases H9 (fun x=>(fun (x:Change) (k:ByteArray)=>fK k x) x x2.Key) a with K0|⟨c2x,c2h,K0,c2b⟩
  .
   refine R.kc O O (fun w hw=>cv (congrArg (fun W7=>Value.tuple #[iV ((kS (fun x=>(fun (x:Change) (k:ByteArray)=>fK k x) x x2.Key) a:Nat):Int),.bool W7]) K0) (g7 _ a x2.Key (fun (x:Change) (k:ByteArray)=>fK k x) _ _ ET w (hw.cy 0 O) (fun W x k hW=>qT x k W) ae))<|U ?_
   refine R.c6 O mixed ay<|U ?_
   refine R.s O (s.bs (l:=([x2]:List Change)) cD ct O O O O O O O) fun b4=>?_
   refine R.ap fun v2=>?_
   refine R.back (j+1,v2,(l2++([x2]))) O (by exact ⟨ae,by rw [xw hx2,<- List.append_assoc,<- HL2];(rw [if_pos (S1 K0)];done)⟩) aJ (sF O) (cw [2,3] [0,1] O)
  refine R.kc O O (fun w hw=>cv (congrArg (fun W7=>Value.tuple #[iV ((kS (fun x=>(fun (x:Change) (k:ByteArray)=>fK k x) x x2.Key) a:Nat):Int),.bool W7]) K0) (g7 _ a x2.Key (fun (x:Change) (k:ByteArray)=>fK k x) _ _ ET w (hw.cy 0 O) (fun W x k hW=>qT x k W) ae))<|U ?_
  refine C (c2x=x2) ?_ ?_ <;> intro h3
  .
   refine R.c6 O mixed ay<|U ?_
   refine Q.qg O (q.oP (x:=c2x) (y:=x2) EW O O h3) O<|U ?_
   refine R.back (j+1,u2,l2) O (by exact ⟨ae,by rw [xw hx2,<- List.append_assoc,<- HL2];(rw [if_neg (by rw [S3 K0 c2h af];decide)];exact (List.append_nil _).symm)⟩) aJ (sF O) (cw [1,2] [0,1] O)
  refine R.c6 O mixed ay<|U ?_
  refine Q.qg O (q.oQ (x:=c2x) (y:=x2) EW O O h3) O<|U ?_
  refine R.s O (s.bs (l:=([x2]:List Change)) cD ct O O O O O O O) fun b5=>?_
  refine R.ap fun v3=>?_
  refine R.back (j+1,v3,(l2++([x2]))) O (by exact ⟨ae,by rw [xw hx2,<- List.append_assoc,<- HL2];(rw [if_pos (S2 c2h af)];done)⟩) aJ (sF O) (cw [2,3] [0,1] O)
 refine R.s O (s.Nt [0,1] _ _ O O VN O O (fun w hw H=>L8 u2 l2 w H ae) O) fun u1=>U ?_
 have hz:lL (vT a b)=(lL l2):=by (rw [HL2,List.take_of_length_le ae];rfl)
 rw [hz]
 exact R.x1 u2 [0,1] []
end
section
open Go Go.RowKit
attribute [local irreducible] Run Rg Rq Qt Qa Stp Dg Do Dm bQ
attribute [local irreducible] bL cC bf jE eA dNew dU
theorem MG (b_k:Nat)(dw dx dy dA:Value)(k:fI)(bB:Nat)(aE:Value)(st:fu)(aF:Nat)(au av ao:Value)(dk:cq)(aZ:Nat)(lg:Lg)(w:World)(own:List Nat)(H:HN w own [ag.box b_k [pV bB,dw,dx,dy,dA,iV k.R.ah,iV k.R.ai] 78,ag.box bB [pV aF,iV st.Epoch,iV st.Side,iV st.Size,iV st.First,pV aZ,aE] 132,ag.box aF [au,av,ao,iV dk.Fuse,.bool dk.Down] 120,ag.row 9 au dk.Kept,ag.row 9 av dk.Now,ag.row 196 ao dk.Wait,ag.box aZ [pV aF,iV lg.From,iV lg.Many,iV lg.First,iV lg.Next] 193] [ag.ls dw k.R.aj,ag.ls dx k.R.Things,ag.ls dy k.R.Held,ag.ls dA k.R.Notes,ag.ls aE st.Rows])(hD:gw dk.Now.length 60000 dk/\dk.Now.length<=200/\166<=dk.Now.length)(hS:0<=st.Epoch/\st.Epoch<=1000000000/\0<=st.Side/\st.Side<=1/\0<=lg.Many/\lg.Many<=1000/\1<=lg.First/\lg.First<=1000000000/\0<=lg.From/\lg.From<=1000/\0<=lg.Next/\lg.Next<=1000)(hl:st.Rows.length<=60)(hF:∀c∈st.Rows,iT c=0):RC Tryz.prog 9 #[pV b_k] H (fun _:Value×Value×Value×Value×Value×Value×Value×Value×Nat=>bQ (cC (mkS st lg) dk).2.2) (fun z=>[ag.box b_k [pV bB,z.1,z.2.1,z.2.2.1,z.2.2.2.1,iV k.R.ah,iV k.R.ai] 78,ag.box bB [pV aF,iV (cC (mkS st lg) dk).1.c.Epoch,iV (cC (mkS st lg) dk).1.c.Side,iV (cC (mkS st lg) dk).1.c.Size,iV (cC (mkS st lg) dk).1.c.First,pV z.2.2.2.2.2.2.2.2,z.2.2.2.2.1] 132,ag.box aF [z.2.2.2.2.2.1,z.2.2.2.2.2.2.1,z.2.2.2.2.2.2.2.1,iV (cC (mkS st lg) dk).2.1.Fuse,.bool (cC (mkS st lg) dk).2.1.Down] 120,ag.row 9 z.2.2.2.2.2.1 (cC (mkS st lg) dk).2.1.Kept,ag.row 9 z.2.2.2.2.2.2.1 (cC (mkS st lg) dk).2.1.Now,ag.row 196 z.2.2.2.2.2.2.2.1 (cC (mkS st lg) dk).2.1.Wait,ag.box z.2.2.2.2.2.2.2.2 [pV aF,iV (cC (mkS st lg) dk).1.L.From,iV (cC (mkS st lg) dk).1.L.Many,iV (cC (mkS st lg) dk).1.L.First,iV (cC (mkS st lg) dk).1.L.Next] 193]) (fun z=>[ag.ls z.1 k.R.aj,ag.ls z.2.1 k.R.Things,ag.ls z.2.2.1 k.R.Held,ag.ls z.2.2.2.1 k.R.Notes,ag.ls z.2.2.2.2.1 (cC (mkS st lg) dk).1.c.Rows]):=by
 have dD:=H.cap 3 rfl;have dE:=H.ck 3 rfl
 have ew:=H.cap 4 rfl;have ey:=H.ck 4 rfl
 have dF:=H.cap 5 rfl;have dG:=H.ck 5 rfl
 have hG:=H.aL 0 rfl
 have gi:=H.aL 1 rfl
 have jd:=H.aL 2 rfl
 have hX:=H.aL 3 rfl
 have j1:=H.aL 4 rfl
 have hD2:gw dk.Now.length 70000 dk/\dk.Now.length<=200/\166<=dk.Now.length:=⟨hD.1.up ae,hD.2⟩
 refine R.eN H ?_
 refine R.s O (s.aH [1,2,3,4,5,6,0,7] [4] _ _ _ O O O T7 O O (fun w own hw H=>Ho bB aE st aF au av ao dk aZ lg w own H af ae ae af) O) ?_
 rintro ⟨z1,z2,z3,z4,z5⟩
 dsimp only
 refine U ?_
 have hz:(k,(cC (mkS st lg) dk).1.c,(cC (mkS st lg) dk).2.1,(cC (mkS st lg) dk).1.L,(cC (mkS st lg) dk).2.2)=(k,(cC (mkS st lg) dk).1.c,(cC (mkS st lg) dk).2.1,(cC (mkS st lg) dk).1.L,(cC (mkS st lg) dk).2.2):=by (rfl)
 exact R.x1 (dw,dx,dy,dA,z1,z2,z3,z4,z5) [6,0,1,2,3,4,5,7] [1,2,3,4,0]
theorem uU (b_k:Nat)(dw dx dy dA:Value)(DK:Nat)(k:fI)(w:World)(own:List Nat)(H:HN w own [ag.box b_k [pV DK,dw,dx,dy,dA,iV k.R.ah,iV k.R.ai] 78] [ag.ls dw k.R.aj,ag.ls dx k.R.Things,ag.ls dy k.R.Held,ag.ls dA k.R.Notes])(hk:Ok k.R):RC Tryz.prog 17 #[pV b_k] H (fun z:Value×Value×Value×Value×Value×Value×Value×Value => .agg #[z.2.2.2.2.1,z.2.2.2.2.2.1,z.2.2.2.2.2.2.1,z.2.2.2.2.2.2.2,iV k.R.ah,iV k.R.ai]) (fun z=>[ag.box b_k [pV DK,z.1,z.2.1,z.2.2.1,z.2.2.2.1,iV k.R.ah,iV k.R.ai] 78]) (fun z=>[ag.ls z.1 k.R.aj,ag.ls z.2.1 k.R.Things,ag.ls z.2.2.1 k.R.Held,ag.ls z.2.2.2.1 k.R.Notes,ag.ls z.2.2.2.2.1 k.R.aj,ag.ls z.2.2.2.2.2.1 k.R.Things,ag.ls z.2.2.2.2.2.2.1 k.R.Held,ag.ls z.2.2.2.2.2.2.2 k.R.Notes]):=by
 have hG:=H.aL 0 rfl
 have gi:=H.aL 1 rfl
 have jd:=H.aL 2 rfl
 have hX:=H.aL 3 rfl
 refine R.eN H ?_
 refine R.nb fun b1=>?_
 refine R.s O (s.aH [0,1,2] bm _ _ _ O O O Uc O O (fun w own hw H=>DG dw dx dy dA k.R w own H af) O) ?_
 rintro ⟨z1,z2,z3,z4⟩
 dsimp only
 refine U ?_
 exact R.x1 (dw,dx,dy,dA,z1,z2,z3,z4) [1,2] [4,5,6,7,0,1,2,3]
theorem MH (aF:Nat)(au av ao:Value)(dk:cq)(w:World)(own:List Nat)(H:HN w own [ag.box aF [au,av,ao,iV dk.Fuse,.bool dk.Down] 120,ag.row 9 au dk.Kept,ag.row 9 av dk.Now,ag.row 196 ao dk.Wait] [bJ])(hd:dk.Down=false)(ho:jE dk=0)(hD:gw dk.Now.length 90000 dk/\dk.Now.length<=200)(hp:(bY (bf dk).c.Rows).2=0)(hr:(bf dk).c.Rows.length<=60 /\ ∀c∈(bf dk).c.Rows,c.Key.size<=1000/\c.Val.size<=1000):RC Tryz.prog 10 #[pV aF] H (fun z:Value×Value×Value×Nat×Value×Value×Value×Value×Nat×Value×Nat => .tuple #[pV z.2.2.2.1,.nilIface]) (fun z=>[ag.box aF [z.1,z.2.1,z.2.2.1,iV dk.Fuse,.bool dk.Down] 120,ag.row 9 z.1 dk.Kept,ag.row 9 z.2.1 dk.Now,ag.row 196 z.2.2.1 dk.Wait,ag.box z.2.2.2.1 [pV z.2.2.2.2.2.2.2.2.1,z.2.2.2.2.1,z.2.2.2.2.2.1,z.2.2.2.2.2.2.1,z.2.2.2.2.2.2.2.1,iV (⟨(bY (bf dk).c.Rows).1⟩:fI).R.ah,iV (⟨(bY (bf dk).c.Rows).1⟩:fI).R.ai] 78,ag.box z.2.2.2.2.2.2.2.2.1 [pV aF,iV (bf dk).c.Epoch,iV (bf dk).c.Side,iV (bf dk).c.Size,iV (bf dk).c.First,pV z.2.2.2.2.2.2.2.2.2.2,z.2.2.2.2.2.2.2.2.2.1] 132,ag.box z.2.2.2.2.2.2.2.2.2.2 [pV aF,iV (bf dk).L.From,iV (bf dk).L.Many,iV (bf dk).L.First,iV (bf dk).L.Next] 193]) (fun z=>[ag.ls z.2.2.2.2.1 ((⟨(bY (bf dk).c.Rows).1⟩:fI).R.aj:List ak),ag.ls z.2.2.2.2.2.1 ((⟨(bY (bf dk).c.Rows).1⟩:fI).R.Things:List aA),ag.ls z.2.2.2.2.2.2.1 ((⟨(bY (bf dk).c.Rows).1⟩:fI).R.Held:List Held),ag.ls z.2.2.2.2.2.2.2.1 ((⟨(bY (bf dk).c.Rows).1⟩:fI).R.Notes:List Note),ag.ls z.2.2.2.2.2.2.2.2.2.1 (bf dk).c.Rows]):=by
 have dD:=H.cap 1 rfl;have dE:=H.ck 1 rfl
 have ew:=H.cap 2 rfl;have ey:=H.ck 2 rfl
 have dF:=H.cap 3 rfl;have dG:=H.ck 3 rfl
 obtain ⟨hr1,hr2⟩:=hr
 refine R.wL [(0,pV aF)] Tryz.func10 O O O O H<|R.reg O<|R.ur 2 O O<|R.u 1 O<|R.s O (s.aH bV [] _ _ _ O O O T8 O O (fun w own hw H=>Dv aF au av ao dk w own H af af af) O) ?_
 rintro ⟨z1,z2,z3,z4,z5,z6⟩
 dsimp only
 refine R.ur 5 O O<|R.u 1 O<|R.q (q.Nn O O Tryz.underlying38) O<|R.nB O O O<|R.u 1 O<|R.s O (s.nM YO O O (fun w hw=>Mi z4 z5 aF z6 (bf dk).c w (hw.b 4 O) (hw.cy 0 O) ae) O) fun v1=>?_
 refine R.s O (s.pre (fun _ hw=>hw.aO 0 _ O O) (s.aH du [0,2] _ _ _ O O O YN O O (fun w own hw H=>MF v1 (bf dk).c.Rows w own H ae af) O)) ?_
 rintro ⟨z7,z8,z9,kM⟩
 dsimp only
 refine R.u 3 O<|R.s O (s.alloc OD O O) fun b1=>?_
 refine R.s O (s.lq 0 _ O O O (fun _ _=>rfl) (.inl fN) (fun w hw=>yt (hw.cy 0 O) (hw.cy 1 O) (hw.cy 2 O) (hw.cy 3 O) O O) O O O) fun _=>?_
 refine R.ur 1 O O<|R.u 1 O<|R.q (q.JX O O Tryz.underlying38) O<|R.nB O O O<|R.u 1 O<|R.q (q.X3 0 O O fN) O<|R.q (q.Ea YG O (fun w hw=>l8 O (l8 O D8)) O) O<|R.s O (s.box O O O) fun b2=>?_
 refine R.un 2 O ?_
 have hz:(dk,(⟨(bY (bf dk).c.Rows).1⟩:fI),(bf dk).c,(bf dk).L)=(dk,(⟨(bY (bf dk).c.Rows).1⟩:fI),(bf dk).c,(bf dk).L):=by (rfl)
 have hz0:(bY (bf dk).c.Rows).1=(bY (bf dk).c.Rows).1:=congrArg (fun t_=>t_.2.1.R) hz
 rw [hz0]
 exact R.w2 (z1,z2,z3,b2,z7,z8,z9,kM,z4,z5,z6) [2,3,4,5,0,6,7,8] rL O Tryz.results10 (RV.tmp O) (RV.tmp O) O O O (X5 O O)
theorem Ic (aF:Nat)(au av ao:Value)(dk:cq)(w:World)(own:List Nat)(H:HN w own [ag.box aF [au,av,ao,iV dk.Fuse,.bool dk.Down] 120,ag.row 9 au dk.Kept,ag.row 9 av dk.Now,ag.row 196 ao dk.Wait] [bJ])(h0:dk=dNew 200):RC Tryz.prog 24 #[pV aF] H (fun _:Value×Value×Value=>bQ (tU dk).2.2) (fun z=>[ag.box aF [z.1,z.2.1,z.2.2,iV (tU dk).2.1.Fuse,.bool (tU dk).2.1.Down] 120,ag.row 9 z.1 (tU dk).2.1.Kept,ag.row 9 z.2.1 (tU dk).2.1.Now,ag.row 196 z.2.2 (tU dk).2.1.Wait]) (fun _=>[]):=by
 have dD:=H.cap 1 rfl;have dE:=H.ck 1 rfl
 have ew:=H.cap 2 rfl;have ey:=H.ck 2 rfl
 have dF:=H.cap 3 rfl;have dG:=H.ck 3 rfl
 obtain ⟨f1,f2,f3,f4,f5⟩:=HE h0;have f6:=f4.ok;have f7:=f4.room;have f8:=f4.bnd ae;have f9:=f4.good;obtain ⟨f10,f11,f12⟩:=f9;have f13:=f7.2.2.1;have f14:gw (eA dk).1.Now.length 90000 (eA dk).1/\(eA dk).1.Now.length<=200:=⟨f6.1.up ae,f6.2.1⟩;have p0:gw dk.Now.length 80000 dk/\dk.Now.length<=1000:=(by rw [h0];have:=(EB 200).nl;exact ⟨this.symm▸(EB 200).up ae,ae⟩)
 have n1:=P1;have n2:=j2;have n3:=jt j2
 refine R.eN H ?_
 refine R.s O (s.aH bV [] _ _ _ O O O Y1 O O (fun w own hw H=>Jm aF au av ao dk w own H af) O) ?_
 rintro ⟨z1,z2,z3⟩
 dsimp only
 refine U ?_
 refine R.s O (s.aH bV [] _ _ _ O O O T8 O O (fun w own hw H=>Dv aF z1 z2 z3 (eA dk).1 w own H af af af) O) ?_
 rintro ⟨z4,z5,z6,z7,z8,z9⟩
 dsimp only
 refine U ?_
 refine R.s O (s.aH du [] _ _ _ O O O Y2 O O (fun w own hw H=>P5 w own H) O) ?_
 rintro ⟨kM,lA,z12,mW⟩
 dsimp only
 refine R.s O (s.aH du rL _ _ _ O O O OM O O (fun w own hw H=>BF kM lA z12 mW (⟨[],[],[],[],1,1⟩:aB) w own H af af) O) fun tQ=>?_
 refine R.s O (s.pre (fun _ hw=>hw.aO 0 _ O O) (s.aH [4,0,1,2,3,5,6] [5,0] _ _ _ O O O Ug O O (fun w own hw H=>Bm z7 z8 (bf (eA dk).1).c tQ (aY (⟨[],[],[],[],1,1⟩:aB)) aF z4 z5 z6 (eA dk).1 z9 (bf (eA dk).1).L w own H af af ae af aC) O)) ?_
 rintro ⟨xl,wG,z17,uX,wH⟩
 dsimp only
 refine U ?_
 have hz:((tU dk).2.1,(tU dk).2.2)=(((bL (mkS (bf (eA dk).1).c (bf (eA dk).1).L) (eA dk).1 (aY (⟨[],[],[],[],1,1⟩:aB))).2.1),(bL (mkS (bf (eA dk).1).c (bf (eA dk).1).L) (eA dk).1 (aY (⟨[],[],[],[],1,1⟩:aB))).2.2):=by (rfl)
 have hz0:(tU dk).2.1=(bL (mkS (bf (eA dk).1).c (bf (eA dk).1).L) (eA dk).1 (aY (⟨[],[],[],[],1,1⟩:aB))).2.1:=congrArg (fun t_=>t_.1) hz
 rw [hz0]
 have hz1:(tU dk).2.2=(bL (mkS (bf (eA dk).1).c (bf (eA dk).1).L) (eA dk).1 (aY (⟨[],[],[],[],1,1⟩:aB))).2.2:=congrArg (fun t_=>t_.2) hz
 rw [hz1]
 exact R.x1 (wG,z17,uX) t6 []
end
section
open Go Go.RowKit
attribute [local irreducible] Run Rg Rq Qt Qa Stp Dg Do Dm bQ
section
variable {α:Type} {p:α->Bool} {l:List α} {j:Nat} {x:α}
end
end
end Go.Proofs.YtnmpibjlnninjaaGreatDoor
