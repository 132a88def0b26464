import Derived.Test.YtkbhcbipadkcaaaGreatDoorTO39
namespace Go.Proofs.YtkbhcbipadkcaaaGreatDoor
set_option linter.unusedVariables false
set_option linter.unusedSimpArgs false
section
open Go Go.RowKit
set_option maxRecDepth 100000
set_option maxHeartbeats 1000000
theorem Iv {s:ByteArray}{m:Nat}(h:eD s m=true):dW s m=some (numsL s m):=by
 unfold eD at h;unfold numsL
 cases hq:dW s m with|none=>rw [hq] at h;cases h|some l=>rfl
theorem qu {s:ByteArray}{m:Nat}(h:eD s m=true):(numsL s m).length=m/\4*m<=s.size:=Ik (Iv h)
theorem rM {s:ByteArray}{m j:Nat}{x:Int}(h:(numsL s m)[j]? = some x):Io (dW s m) j=x:=by
 show (((numsL s m)[j]?).getD 0)=x;rw [h];rfl
section
variable {r:aD} {c:Change} {y:UInt8}
theorem l5 (h:¬ c.Key=⟨#[]⟩):¬ c.Key.size=0:=fun e=>h (JQ e)
theorem om {s:ByteArray}{i:Nat}{y:UInt8}(h:s.data[i]? = some y):bf s i=y.toNat:=by unfold bf;rw [h];rfl
theorem Lv (h:c.Key=⟨#[]⟩):rowP r c=(r,false):=by unfold rowP;rw [if_pos (by rw [h];rfl)]
theorem BW (h0:¬ c.Key=⟨#[]⟩)(hy:c.Key.data[0]? = some y)(e:y.toNat=104)(hb:eD c.Val 1=false\/¬ c.Val.size=4\/¬ c.Key.size=3):rowP r c=(r,false):=by
 unfold rowP;rw [if_neg (l5 h0)];dsimp only;rw [if_pos ((om hy).trans e),if_pos (show (dW c.Val 1).isSome=false\/c.Val.size≠4\/c.Key.size≠3 from hb)]
theorem Nf {a b:UInt8}{n:Int}{v:Bool}(h0:¬ c.Key=⟨#[]⟩)(hy:c.Key.data[0]? = some y)(e:y.toNat=104)(hb:eD c.Val 1=true)(h4:c.Val.size=4)(h3:c.Key.size=3)(ha:c.Key.data[1]? = some a)(hbb:c.Key.data[2]? = some b)
 (hn:(numsL c.Val 1)[0]? = some n) (hv:v=decide (aY ⟨(a.toNat:Int)-48,(b.toNat:Int)-48⟩=0)):rowP r c=(⟨r.aj,r.Things,r.Held++[⟨⟨(a.toNat:Int)-48,(b.toNat:Int)-48⟩,n⟩],r.Notes,r.ae,r.ah⟩,v):=by
 unfold rowP;rw [if_neg (l5 h0)];dsimp only
 rw [if_pos ((om hy).trans e),if_neg (show ¬ ((dW c.Val 1).isSome=false\/c.Val.size≠4\/c.Key.size≠3) from (by show ¬ (eD c.Val 1=false\/c.Val.size≠4\/c.Key.size≠3);rw [hb,h4,h3];simp)),rM hn,hv]
 unfold Il S3 M3;rw [om ha,om hbb]
def Eu (c:Change):Bool:=eD (c.Key.extract 1 c.Key.size) 1&&decide (c.Key.size=5)
theorem QB (h:eD (c.Key.extract 1 c.Key.size) 1=false):false=Eu c:=by unfold Eu;rw [h];rfl
theorem Ng (h:¬ c.Key.size=5):false=Eu c:=by unfold Eu;rw [decide_eq_false h,Bool.and_false]
theorem Nh (h:eD (c.Key.extract 1 c.Key.size) 1=true)(h5:c.Key.size=5):true=Eu c:=by unfold Eu;rw [h,decide_eq_true h5];rfl
theorem Lw (h:Eu c=true):(numsL (c.Key.extract 1 c.Key.size) 1).length=1:=by
 unfold Eu at h;rw [Bool.and_eq_true] at h;exact (qu h.1).1
theorem BX (h0:¬ c.Key=⟨#[]⟩)(hy:c.Key.data[0]? = some y)(e:y.toNat=116)(hb:Eu c=false\/eD c.Val 1=false\/12<c.Val.size):rowP r c=(r,false):=by
 unfold rowP;rw [if_neg (l5 h0)];dsimp only
 rw [if_neg (by rw [om hy];omega),if_pos ((om hy).trans e),if_pos (show ((dW (c.Key.extract 1 c.Key.size) 1).isSome&&decide (c.Key.size=5))=false\/(dW c.Val 1).isSome=false\/12<c.Val.size from hb)]
theorem DY {k n:Int}{v:Bool}(h0:¬ c.Key=⟨#[]⟩)(hy:c.Key.data[0]? = some y)(e:y.toNat=116)(hk:Eu c=true)(hb:eD c.Val 1=true)(h12:¬ 12<c.Val.size)
 (hi:(numsL (c.Key.extract 1 c.Key.size) 1)[0]? = some k) (hn:(numsL c.Val 1)[0]? = some n) (hv:v=decide (n=1\/n=2/\c.Val.size=4)):rowP r c=(⟨r.aj,r.Things++[⟨k,n,c.Val.extract 4 c.Val.size⟩],r.Held,r.Notes,r.ae,r.ah⟩,v):=by
 unfold rowP;rw [if_neg (l5 h0)];dsimp only
 rw [if_neg (by rw [om hy];omega),if_pos ((om hy).trans e),if_neg (show ¬ (((dW (c.Key.extract 1 c.Key.size) 1).isSome&&decide (c.Key.size=5))=false\/(dW c.Val 1).isSome=false\/12<c.Val.size) from (by
  show ¬ (Eu c=false\/eD c.Val 1=false\/12<c.Val.size)
  rw [hk,hb];simp;omega)),rM hn,rM hi,hv]
 rfl
theorem BZ (h0:¬ c.Key=⟨#[]⟩)(hy:c.Key.data[0]? = some y)(e:y.toNat=119)(hb:Eu c=false\/eD c.Val 4=false\/¬ c.Val.size=16):rowP r c=(r,false):=by
 unfold rowP;rw [if_neg (l5 h0)];dsimp only
 rw [if_neg (by rw [om hy];omega),if_neg (by rw [om hy];omega),if_pos ((om hy).trans e),if_pos (show ((dW (c.Key.extract 1 c.Key.size) 1).isSome&&decide (c.Key.size=5))=false\/(dW c.Val 4).isSome=false\/c.Val.size≠16 from hb)]
theorem Tb {k n0 n1 n2 n3:Int}(h0:¬ c.Key=⟨#[]⟩)(hy:c.Key.data[0]? = some y)(e:y.toNat=119)(hk:Eu c=true)(hb:eD c.Val 4=true)(h16:c.Val.size=16)
 (hi:(numsL (c.Key.extract 1 c.Key.size) 1)[0]? = some k) (a0:(numsL c.Val 4)[0]? = some n0) (a1:(numsL c.Val 4)[1]? = some n1) (a2:(numsL c.Val 4)[2]? = some n2) (a3:(numsL c.Val 4)[3]? = some n3):rowP r c=(⟨r.aj++[⟨k,n0,n1,n2,n3⟩],r.Things,r.Held,r.Notes,r.ae,r.ah⟩,true):=by
 unfold rowP;rw [if_neg (l5 h0)];dsimp only
 rw [if_neg (by rw [om hy];omega),if_neg (by rw [om hy];omega),if_pos ((om hy).trans e),if_neg (show ¬ (((dW (c.Key.extract 1 c.Key.size) 1).isSome&&decide (c.Key.size=5))=false\/(dW c.Val 4).isSome=false\/c.Val.size≠16) from (by
  show ¬ (Eu c=false\/eD c.Val 4=false\/c.Val.size≠16)
  rw [hk,hb,h16];simp)),rM hi,rM a0,rM a1,rM a2,rM a3]
 rfl
theorem B3 (h0:¬ c.Key=⟨#[]⟩)(hy:c.Key.data[0]? = some y)(e1:¬ y.toNat=104)(e2:¬ y.toNat=116)(e3:¬ y.toNat=119)(hb:¬ c.Key=⟨#[120]⟩\/eD c.Val 2=false\/¬ c.Val.size=8):rowP r c=(r,false):=by
 unfold rowP;rw [if_neg (l5 h0)];dsimp only
 rw [if_neg (by rw [om hy];omega),if_neg (by rw [om hy];omega),if_neg (by rw [om hy];omega),if_pos (show c.Key≠kX\/(dW c.Val 2).isSome=false\/c.Val.size≠8 from hb)]
theorem Uu {n0 n1:Int}(h0:¬ c.Key=⟨#[]⟩)(hy:c.Key.data[0]? = some y)(e1:¬ y.toNat=104)(e2:¬ y.toNat=116)(e3:¬ y.toNat=119)(hk:c.Key=⟨#[120]⟩)(hb:eD c.Val 2=true)(h8:c.Val.size=8)(a0:(numsL c.Val 2)[0]? = some n0)(a1:(numsL c.Val 2)[1]? = some n1) :
 rowP r c=(⟨r.aj,r.Things,r.Held,r.Notes,n0,n1⟩,true):=by
 unfold rowP;rw [if_neg (l5 h0)];dsimp only
 rw [if_neg (by rw [om hy];omega),if_neg (by rw [om hy];omega),if_neg (by rw [om hy];omega),if_neg (show ¬ (c.Key≠kX\/(dW c.Val 2).isSome=false\/c.Val.size≠8) from (by
  show ¬ (c.Key≠⟨#[120]⟩\/eD c.Val 2=false\/c.Val.size≠8)
  rw [hb,h8];simp [hk])),rM a0,rM a1]
 rfl
end
attribute [local irreducible] numsL eD Eu rowP
set_option maxRecDepth 100000 in
set_option maxHeartbeats 3200000 in
theorem vH (Dr:Nat)(bG bE ct bz:Value)(r:aD)(c:Change)(w:World)(own:List Nat)(H:HN w own [af.box Dr [bG,bE,ct,bz,iV r.ae,iV r.ah] 48,af.row 127 bG r.aj,af.row 100 bE r.Things,af.row 124 ct r.Held,af.row 89 bz r.Notes] [dc])(hc:c.Key.size<=1000/\c.Val.size<=1000)(hr:r.aj.length<=1000/\r.Things.length<=1000/\r.Held.length<=1000):RC Tryz.prog 89 #[.pointer (some ⟨Dr,0,none⟩),.agg #[.string c.Key,.string c.Val,.bool c.Gone]] H (fun _:Value×Value×Value×Value => .bool (rowP r c).2) (fun z=>[af.box Dr [z.1,z.2.1,z.2.2.1,z.2.2.2,iV (rowP r c).1.ae,iV (rowP r c).1.ah] 48,af.row 127 z.1 (rowP r c).1.aj,af.row 100 z.2.1 (rowP r c).1.Things,af.row 124 z.2.2.1 (rowP r c).1.Held,af.row 89 z.2.2.2 (rowP r c).1.Notes]) (fun _=>[]):=by
 have Q9:=H.cap 1 rfl;have eJ:=H.cQ 1 rfl
 have QC:=H.cap 2 rfl;have dM:=H.cQ 2 rfl
 have Tc:=H.cap 3 rfl;have fI:=H.cQ 3 rfl
 have Ra:=H.cap 4 rfl;have eK:=H.cQ 4 rfl
 refine R.bF [(0,.pointer (some ⟨Dr,0,none⟩)),(1,.agg #[.string c.Key,.string c.Val,.bool c.Gone])] Tryz.func89 O O O O H<|R.reg O<|R.s O (s.box O O O) fun b1=>R.u 1 O<|R.nil<|R.reg O<|R.q (q.aO O bM O) O<|R.q (q.ld 0 O O bK O) O<|?_
 by_cases h1:c.Key=⟨#[]⟩
 .
  refine R.q (q.pH O O h1) O<|R.nil<|R.ay O O<|R.reg O<|R.u 1 O<|R.nil ?_
  have hz:rowP r c=(r,false):=by (exact Lv ‹_›)
  rw [hz]
  exact R.w1 (bG,bE,ct,bz) [1,2,3,4,5,6] [] O Tryz.results89 (RV.tmp O) O O O O
 refine R.q (q.pI O O h1) O<|R.nil<|R.aB O O ?_
 have kp:=l5 (c:=c) ‹_›
 refine R.reg O<|R.q (q.aO O bM O) O<|R.q (q.ld 0 O O bK O) O<|R.q (q.Cq (i:=1) O O Tryz.underlying9 O (by omega)) O<|R.s O (s.aW ml [0] _ _ _ O O O wD O O (fun w own hw H=>lD (c.Key.extract 1 c.Key.size) 1 w own H (by (rw [ByteArray.size_extract];omega))) O) fun z1=>R.u 5 O<|R.nil<|R.cut 1 (fun b:Bool=>[(0,.pointer (some ⟨Dr,0,none⟩)),(3,.pointer (some ⟨b1,0,none⟩)),(5,z1),(6,.bool b)]) (fun b:Bool=>[af.row 3 z1 (numsL (c.Key.extract 1 c.Key.size) 1),af.box b1 (eR c) 117,af.box Dr [bG,bE,ct,bz,iV r.ae,iV r.ah] 48,af.row 127 bG r.aj,af.row 100 bE r.Things,af.row 124 ct r.Held,af.row 89 bz r.Notes,af.held w own]) (fun b:Bool=>[dc]) (fun b:Bool=>b=Eu c) O O O ?_ ?_
 .
  refine R.reg O<|R.u 2 O<|?_
  rcases Bool.eq_false_or_eq_true (eD (c.Key.extract 1 c.Key.size) 1) with h2|h2
  .
   rw [h2]
   refine R.qg O (q.aO O bM O) O<|R.qg O (q.ld 1 O O bK O) O<|R.qg O (q.iy O Tryz.underlying9) O<|?_
   by_cases h3:c.Key.size=5
   .
    exact R.qg O (q.fQ O O) O<|R.u 2 O<|R.nil<|R.meet true O (by (exact Nh ‹_› (by omega))) (sF O) (fun _=>Wd.pick ft [0] O O O)
   exact R.qg O (q.fa O O) O<|R.u 2 O<|R.nil<|R.meet false O (by (exact Ng (by omega))) (sF O) (fun _=>Wd.pick ft [0] O O O)
  rw [h2]
  exact R.u 6 O<|R.nil<|R.meet false O (by (exact QB ‹_›)) (sF O) (fun _=>Wd.pick ft [0] O O O)
 rintro b hC
 refine R.reg O<|R.q (q.aO O bM O) O<|R.q (q.ld 1 O O bK O) O<|?_
 obtain ⟨y1,hy1⟩:∃z,c.Key.data[0]? = some z:=⟨_,Array.getElem?_eq_getElem (show 0<c.Key.size from by omega)⟩
 have Sg:=y1.toNat_lt
 refine R.q (q.iJ (i:=0) O O Tryz.underlying9 O hy1) O<|R.nil<|R.reg O<|?_
 by_cases h4:y1.toNat=104
 .
  refine R.q (q.fQ O O) O<|R.u 1 O<|R.nil<|R.ay O O<|R.reg O<|R.q (q.aO O cY O) O<|R.q (q.ld 1 O O bK O) O<|R.s O (s.aW ft [0] _ _ _ O O O wD O O (fun w own hw H=>lD c.Val 1 w own H (by omega)) O) fun z2=>R.u 5 O<|R.nil<|R.reg O<|R.u 1 O<|R.q (q.not O) O<|R.u 1 O<|?_
  rcases Bool.eq_false_or_eq_true (eD c.Val 1) with h5|h5
  .
   rw [h5]
   refine R.qg O (q.aO O cY O) O<|R.qg O (q.ld 2 O O bK O) O<|R.qg O (q.iy O Tryz.underlying9) O<|?_
   by_cases h6:c.Val.size=4
   .
    refine R.qg O (q.lH O O) O<|R.u 2 O<|R.qg O (q.aO O bM O) O<|R.qg O (q.ld 2 O O bK O) O<|R.qg O (q.iy O Tryz.underlying9) O<|?_
    by_cases h7:c.Key.size=3
    .
     refine R.qg O (q.lH O O) O<|R.u 1 O<|R.nil<|R.aB O O ?_
     obtain ⟨y2,hy2⟩:∃z,c.Key.data[1]? = some z:=⟨_,Array.getElem?_eq_getElem (show 1<c.Key.size from by omega)⟩
     have Si:=y2.toNat_lt
     obtain ⟨y3,hy3⟩:∃z,c.Key.data[2]? = some z:=⟨_,Array.getElem?_eq_getElem (show 2<c.Key.size from by omega)⟩
     have TB:=y3.toNat_lt
     refine R.fu (fuel:=13) (Wd w (blks [af.box Dr [bG,bE,ct,bz,iV r.ae,iV r.ah] 48,af.row 127 bG r.aj,af.row 100 bE r.Things,af.row 124 ct r.Held,af.row 89 bz r.Notes]++own) [af.row 3 z2 (numsL c.Val 1),af.row 3 z1 (numsL (c.Key.extract 1 c.Key.size) 1),af.box b1 (eR c) 117,af.box Dr [bG,bE,ct,bz,iV r.ae,iV r.ah] 48,af.row 127 bG r.aj,af.row 100 bE r.Things,af.row 124 ct r.Held,af.row 89 bz r.Notes,af.held w own] [dc]) O mixed O<|D.q (i:=0) O (aC bN [0] O O O) O (q.aO O bM O) O<|D.q (i:=1) O (aC bN [0] O O O) O (q.ld 2 O O bK O) O<|D.q (i:=2) O (aC bN [0] O O O) O (q.iJ (i:=1) O O Tryz.underlying9 O hy2) O<|D.q (i:=3) O (aC bN [0] O O O) O (q.nn (r:=((y2.toNat:Nat):Int)) O (by rw [Tryz.underlying5];rfl) Tryz.underlying3 (wr (by omega))) O<|D.q (i:=4) O (aC bN [0] O O O) O (q.lV (r:=(y2.toNat:Int)-48) O O) O<|D.q (i:=5) O (aC bN [0] O O O) O (q.aO O bM O) O<|D.q (i:=6) O (aC bN [0] O O O) O (q.ld 2 O O bK O) O<|D.q (i:=7) O (aC bN [0] O O O) O (q.iJ (i:=2) O O Tryz.underlying9 O hy3) O<|D.q (i:=8) O (aC bN [0] O O O) O (q.nn (r:=((y3.toNat:Nat):Int)) O (by rw [Tryz.underlying5];rfl) Tryz.underlying3 (wr (by omega))) O<|D.q (i:=9) O (aC bN [0] O O O) O (q.lV (r:=(y3.toNat:Int)-48) O O) O<|D.q (i:=10) O (aC bN [0] O O O) O (q.build wn O O) O<|D.one (i:=11) O<|Do.s (s.alloc Ct O O) (fun _=>(aC Ci [0] O O O)) O fun b2=>D.one (i:=12) O<|Do.s (s.st 0 _ O O O O (.inl bP) O O O O) (fun _=>(aC Ci [0] O O O)) O fun _=>D.done<|?_
     have V1:=qu (s:=c.Val) (m:=1) ‹_›
     obtain ⟨x1,hx1⟩:∃z,(numsL c.Val 1)[0]? = some z:=⟨_,List.getElem?_eq_getElem (by omega)⟩
     refine R.fu (fuel:=15) (Wd w (blks [af.box Dr [bG,bE,ct,bz,iV r.ae,iV r.ah] 48,af.row 127 bG r.aj,af.row 100 bE r.Things,af.row 124 ct r.Held,af.row 89 bz r.Notes]++own) [af.box b2 [iV ((y2.toNat:Int)-48),iV ((y3.toNat:Int)-48)] 32,af.row 3 z2 (numsL c.Val 1),af.row 3 z1 (numsL (c.Key.extract 1 c.Key.size) 1),af.box b1 (eR c) 117,af.row 127 bG r.aj,af.row 100 bE r.Things,af.row 89 bz r.Notes,af.held w own] [dc]) O mixed O<|D.q (i:=0) O (aC rA [0] O O O) O (q.mv O) O<|D.q (i:=1) O (aC rA [0] O O O) O (q.mv O) O<|D.q (i:=2) O (aC rA [0] O O O) O (q.cm O) O<|D.q (i:=3) O (aC rA [0] O O O) O (q.aO O cG O) O<|D.q (i:=5) O (aC rA [0] O O O) O (q.dv 0 O O bP) O<|D.q (i:=6) O (aC rA [0] O O O) O (q.mv O) O<|D.q (i:=7) O (aC rA [0] O O O) O (q.idx (i:=0) (ck 1 O) O O da O hx1) O<|D.q (i:=8) O (aC rA [0] O O O) O (q.lr (ck 1 O) hx1 O av O) O<|D.q (i:=9) O (aC rA [0] O O O) O (q.build Ja O O) O<|D.two (i:=4) (j:=10) O O ?_ ?_
     .
      refine Do.s (s.c (Qt.a (q.ld 4 O O dE O)) O) (fun _=>(aC rA [0] O O O)) O fun _=>D.one (i:=10) O<|Do.s (s.bs (l:=([(⟨(⟨((y2.toNat:Int)-48),((y3.toNat:Int)-48)⟩:Place),x1⟩:Held)]:List Held)) cL gZ O O O O O O O) (fun _=>(aC pC [0] O O O)) O fun b3=>D.one (i:=11) O<|Do.s (s.app 8 _ O O O (ck 0 O) oB (by (simp;omega)) (by (simp;omega)) (fun _=>rfl) O) (fun _=>(aC pC [0] O O O)) O fun v1=>D.q (i:=12) O (aC pC [0] O O O) O (q.cm O) O<|D.q (i:=13) O (aC pC [0] O O O) O (q.aO O cG O) O<|D.one (i:=14) O<|Do.s (s.fZ 5 _ O O O (fun w hw=>Sl.cu (hw.row 8 O)) (.inr ⟨dE,rfl⟩) (fun w hw=>(ag (Sl.one (hw.row 8 O)) aP)) O O O) (fun _=>(aC pC [0] O O O)) O fun _=>D.done<|R.reg O<|R.q (q.dv 1 O O bP) O<|R.c (q.call AK O O (fun w hw=>(km (⟨((y2.toNat:Int)-48),((y3.toNat:Int)-48)⟩:Place) w ))) O<|?_
      by_cases h8:aY (⟨((y2.toNat:Int)-48),((y3.toNat:Int)-48)⟩:Place)=0
      .
       refine R.q (q.mB O O Tryz.underlying38) O<|R.u 1 O<|R.nil ?_
       have hz:rowP r c=((⟨r.aj,r.Things,(r.Held++([(⟨(⟨((y2.toNat:Int)-48),((y3.toNat:Int)-48)⟩:Place),x1⟩:Held)])),r.Notes,r.ae,r.ah⟩:aD),true):=by (exact Nf ‹_› hy1 (by omega) ‹_› (by omega) (by omega) hy2 hy3 ‹_› (decide_eq_true ‹_›).symm)
       rw [hz]
       exact R.w1 (bG,bE,v1,bz) [5,6,7,8,9,10] [] O Tryz.results89 (RV.tmp O) O O O O
      refine R.q (q.jF O O Tryz.underlying38) O<|R.u 1 O<|R.nil ?_
      have hz:rowP r c=((⟨r.aj,r.Things,(r.Held++([(⟨(⟨((y2.toNat:Int)-48),((y3.toNat:Int)-48)⟩:Place),x1⟩:Held)])),r.Notes,r.ae,r.ah⟩:aD),false):=by (exact Nf ‹_› hy1 (by omega) ‹_› (by omega) (by omega) hy2 hy3 ‹_› (decide_eq_false ‹_›).symm)
      rw [hz]
      exact R.w1 (bG,bE,v1,bz) [5,6,7,8,9,10] [] O Tryz.results89 (RV.tmp O) O O O O
     refine Do.s (s.bs (l:=([(⟨(⟨((y2.toNat:Int)-48),((y3.toNat:Int)-48)⟩:Place),x1⟩:Held)]:List Held)) cL gZ O O O O O O O) (fun _=>(aC pC [0] O O O)) O fun b4=>D.one (i:=4) O<|Do.s (s.c (Qt.a (q.ld 5 O O dE O)) O) (fun _=>(aC pC [0] O O O)) O fun _=>D.one (i:=11) O<|Do.s (s.app 8 _ O O O (ck 0 O) oB (by (simp;omega)) (by (simp;omega)) (fun _=>rfl) O) (fun _=>(aC pC [0] O O O)) O fun v2=>D.q (i:=12) O (aC pC [0] O O O) O (q.cm O) O<|D.q (i:=13) O (aC pC [0] O O O) O (q.aO O cG O) O<|D.one (i:=14) O<|Do.s (s.fZ 5 _ O O O (fun w hw=>Sl.cu (hw.row 8 O)) (.inr ⟨dE,rfl⟩) (fun w hw=>(ag (Sl.one (hw.row 8 O)) aP)) O O O) (fun _=>(aC pC [0] O O O)) O fun _=>D.done<|R.reg O<|R.q (q.dv 1 O O bP) O<|R.c (q.call AK O O (fun w hw=>(km (⟨((y2.toNat:Int)-48),((y3.toNat:Int)-48)⟩:Place) w ))) O<|?_
     by_cases h9:aY (⟨((y2.toNat:Int)-48),((y3.toNat:Int)-48)⟩:Place)=0
     .
      refine R.q (q.mB O O Tryz.underlying38) O<|R.u 1 O<|R.nil ?_
      have hz:rowP r c=((⟨r.aj,r.Things,(r.Held++([(⟨(⟨((y2.toNat:Int)-48),((y3.toNat:Int)-48)⟩:Place),x1⟩:Held)])),r.Notes,r.ae,r.ah⟩:aD),true):=by (exact Nf ‹_› hy1 (by omega) ‹_› (by omega) (by omega) hy2 hy3 ‹_› (decide_eq_true ‹_›).symm)
      rw [hz]
      exact R.w1 (bG,bE,v2,bz) [5,6,7,8,9,10] [] O Tryz.results89 (RV.tmp O) O O O O
     refine R.q (q.jF O O Tryz.underlying38) O<|R.u 1 O<|R.nil ?_
     have hz:rowP r c=((⟨r.aj,r.Things,(r.Held++([(⟨(⟨((y2.toNat:Int)-48),((y3.toNat:Int)-48)⟩:Place),x1⟩:Held)])),r.Notes,r.ae,r.ah⟩:aD),false):=by (exact Nf ‹_› hy1 (by omega) ‹_› (by omega) (by omega) hy2 hy3 ‹_› (decide_eq_false ‹_›).symm)
     rw [hz]
     exact R.w1 (bG,bE,v2,bz) [5,6,7,8,9,10] [] O Tryz.results89 (RV.tmp O) O O O O
    refine R.qg O (q.lG O O) O<|R.u 1 O<|R.nil<|R.ay O O<|R.reg O<|R.u 1 O<|R.nil ?_
    have hz:rowP r c=(r,false):=by (exact BW ‹_› hy1 (by omega) (.inr (.inr (by omega))))
    rw [hz]
    exact R.w1 (bG,bE,ct,bz) mR [] O Tryz.results89 (RV.tmp O) O O O O
   refine R.qg O (q.lG O O) O<|R.u 7 O<|R.nil<|R.ay O O<|R.reg O<|R.u 1 O<|R.nil ?_
   have hz:rowP r c=(r,false):=by (exact BW ‹_› hy1 (by omega) (.inr (.inl (by omega))))
   rw [hz]
   exact R.w1 (bG,bE,ct,bz) mR [] O Tryz.results89 (RV.tmp O) O O O O
  rw [h5]
  refine R.u 11 O<|R.nil<|R.ay O O<|R.reg O<|R.u 1 O<|R.nil ?_
  have hz:rowP r c=(r,false):=by (exact BW ‹_› hy1 (by omega) (.inl ‹_›))
  rw [hz]
  exact R.w1 (bG,bE,ct,bz) mR [] O Tryz.results89 (RV.tmp O) O O O O
 refine R.q (q.fa O O) O<|R.u 1 O<|R.nil<|R.aB O O<|R.reg O<|?_
 by_cases h10:y1.toNat=116
 .
  refine R.q (q.fQ O O) O<|R.u 1 O<|R.nil<|R.ay O O<|R.reg O<|R.q (q.aO O cY O) O<|R.q (q.ld 1 O O bK O) O<|R.s O (s.aW ft [0] _ _ _ O O O wD O O (fun w own hw H=>lD c.Val 1 w own H (by omega)) O) fun z3=>R.u 5 O<|R.nil<|R.reg O<|R.u 1 O<|R.q (q.not O) O<|R.u 1 O<|?_
  cases b
  .
   refine R.u 9 O<|R.nil<|R.ay O O<|R.reg O<|R.u 1 O<|R.nil ?_
   have hz:rowP r c=(r,false):=by (exact BX ‹_› hy1 (by omega) (.inl hC.symm))
   rw [hz]
   exact R.w1 (bG,bE,ct,bz) mR [] O Tryz.results89 (RV.tmp O) O O O O
  refine R.u 1 O<|R.qg O (q.not O) O<|R.u 2 O<|?_
  rcases Bool.eq_false_or_eq_true (eD c.Val 1) with h11|h11
  .
   rw [h11]
   refine R.qg O (q.aO O cY O) O<|R.qg O (q.ld 2 O O bK O) O<|R.qg O (q.iy O Tryz.underlying9) O<|?_
   by_cases h12:12<c.Val.size
   .
    refine R.qg O (q.eL O O) O<|R.u 1 O<|R.nil<|R.ay O O<|R.reg O<|R.u 1 O<|R.nil ?_
    have hz:rowP r c=(r,false):=by (exact BX ‹_› hy1 (by omega) (.inr (.inr (by omega))))
    rw [hz]
    exact R.w1 (bG,bE,ct,bz) mR [] O Tryz.results89 (RV.tmp O) O O O O
   refine R.qg O (q.eu O O) O<|R.u 1 O<|R.nil<|R.aB O O ?_
   have ek:=Lw (c:=c) hC.symm
   have V1:=qu (s:=c.Val) (m:=1) ‹_›
   obtain ⟨x2,hx2⟩:∃z,(numsL (c.Key.extract 1 c.Key.size) 1)[0]? = some z:=⟨_,List.getElem?_eq_getElem (by omega)⟩
   obtain ⟨x3,hx3⟩:∃z,(numsL c.Val 1)[0]? = some z:=⟨_,List.getElem?_eq_getElem (by omega)⟩
   refine R.fu (fuel:=20) (Wd w (blks [af.box Dr [bG,bE,ct,bz,iV r.ae,iV r.ah] 48,af.row 127 bG r.aj,af.row 100 bE r.Things,af.row 124 ct r.Held,af.row 89 bz r.Notes]++own) [af.row 3 z3 (numsL c.Val 1),af.row 3 z1 (numsL (c.Key.extract 1 c.Key.size) 1),af.box b1 (eR c) 117,af.row 127 bG r.aj,af.row 124 ct r.Held,af.row 89 bz r.Notes,af.held w own] [dc]) O mixed O<|D.q (i:=0) O (aC mo [0] O O O) O (q.mv O) O<|D.q (i:=1) O (aC mo [0] O O O) O (q.mv O) O<|D.q (i:=2) O (aC mo [0] O O O) O (q.cm O) O<|D.q (i:=3) O (aC mo [0] O O O) O (q.aO O cF O) O<|D.q (i:=5) O (aC mo [0] O O O) O (q.mv O) O<|D.q (i:=6) O (aC mo [0] O O O) O (q.idx (i:=0) (ck 1 O) O O da O hx2) O<|D.q (i:=7) O (aC mo [0] O O O) O (q.lr (ck 1 O) hx2 O av O) O<|D.q (i:=8) O (aC mo [0] O O O) O (q.mv O) O<|D.q (i:=9) O (aC mo [0] O O O) O (q.idx (i:=0) (ck 0 O) O O da O hx3) O<|D.q (i:=10) O (aC mo [0] O O O) O (q.lr (ck 0 O) hx3 O av O) O<|D.q (i:=11) O (aC mo [0] O O O) O (q.aO O cY O) O<|D.q (i:=12) O (aC mo [0] O O O) O (q.ld 2 O O bK O) O<|D.q (i:=13) O (aC mo [0] O O O) O (q.Cq (i:=4) O O Tryz.underlying9 O (by omega)) O<|D.q (i:=14) O (aC mo [0] O O O) O (q.build Ex O O) O<|D.two (i:=4) (j:=15) O O ?_ ?_
   .
    refine Do.s (s.c (Qt.a (q.ld 3 O O dD O)) O) (fun _=>(aC mo [0] O O O)) O fun _=>D.one (i:=15) O<|Do.s (s.bs (l:=([(⟨x2,x3,(c.Val.extract 4 c.Val.size)⟩:aE)]:List aE)) iK jt O O O O O O O) (fun _=>(aC pD [0] O O O)) O fun b5=>D.one (i:=16) O<|Do.s (s.app 6 _ O O O (ck 0 O) sS (by (simp;omega)) (by (simp;omega)) (fun _=>rfl) O) (fun _=>(aC pD [0] O O O)) O fun v3=>D.q (i:=17) O (aC pD [0] O O O) O (q.cm O) O<|D.q (i:=18) O (aC pD [0] O O O) O (q.aO O cF O) O<|D.one (i:=19) O<|Do.s (s.fZ 4 _ O O O (fun w hw=>Sl.cu (hw.row 6 O)) (.inr ⟨dD,rfl⟩) (fun w hw=>(ag (Sl.one (hw.row 6 O)) aP)) O O O) (fun _=>(aC pD [0] O O O)) O fun _=>D.done<|R.reg O<|R.u 1 O<|R.q (q.idx (i:=0) (ck 1 O) O O da O hx3) O<|R.q (q.lr (ck 1 O) hx3 O av O) O<|?_
    by_cases UJ:x3=1
    .
     refine R.q (q.fQ O O) O<|R.u 13 O<|R.nil ?_
     have hz:rowP r c=((⟨r.aj,(r.Things++([(⟨x2,x3,(c.Val.extract 4 c.Val.size)⟩:aE)])),r.Held,r.Notes,r.ae,r.ah⟩:aD),true):=by (exact DY ‹_› hy1 (by omega) hC.symm ‹_› (by omega) ‹_› ‹_› (decide_eq_true (by omega)).symm)
     rw [hz]
     exact R.w1 (bG,v3,ct,bz) rC [] O Tryz.results89 (RV.tmp O) O O O O
    refine R.q (q.fa O O) O<|R.u 2 O<|R.qg O (q.idx (i:=0) (ck 1 O) O O da O hx3) O<|R.qg O (q.lr (ck 1 O) hx3 O av O) O<|?_
    by_cases UK:x3=2
    .
     refine R.qg O (q.fQ O O) O<|R.u 1 O<|R.qg O (q.aO O cY O) O<|R.qg O (q.ld 3 O O bK O) O<|R.qg O (q.iy O Tryz.underlying9) O<|?_
     by_cases UL:c.Val.size=4
     .
      refine R.qg O (q.fQ O O) O<|R.u 3 O<|R.nil ?_
      have hz:rowP r c=((⟨r.aj,(r.Things++([(⟨x2,x3,(c.Val.extract 4 c.Val.size)⟩:aE)])),r.Held,r.Notes,r.ae,r.ah⟩:aD),true):=by (exact DY ‹_› hy1 (by omega) hC.symm ‹_› (by omega) ‹_› ‹_› (decide_eq_true (by omega)).symm)
      rw [hz]
      exact R.w1 (bG,v3,ct,bz) rC [] O Tryz.results89 (RV.tmp O) O O O O
     refine R.qg O (q.fa O O) O<|R.u 3 O<|R.nil ?_
     have hz:rowP r c=((⟨r.aj,(r.Things++([(⟨x2,x3,(c.Val.extract 4 c.Val.size)⟩:aE)])),r.Held,r.Notes,r.ae,r.ah⟩:aD),false):=by (exact DY ‹_› hy1 (by omega) hC.symm ‹_› (by omega) ‹_› ‹_› (decide_eq_false (by omega)).symm)
     rw [hz]
     exact R.w1 (bG,v3,ct,bz) rC [] O Tryz.results89 (RV.tmp O) O O O O
    refine R.qg O (q.fa O O) O<|R.u 8 O<|R.nil ?_
    have hz:rowP r c=((⟨r.aj,(r.Things++([(⟨x2,x3,(c.Val.extract 4 c.Val.size)⟩:aE)])),r.Held,r.Notes,r.ae,r.ah⟩:aD),false):=by (exact DY ‹_› hy1 (by omega) hC.symm ‹_› (by omega) ‹_› ‹_› (decide_eq_false (by omega)).symm)
    rw [hz]
    exact R.w1 (bG,v3,ct,bz) rC [] O Tryz.results89 (RV.tmp O) O O O O
   refine Do.s (s.bs (l:=([(⟨x2,x3,(c.Val.extract 4 c.Val.size)⟩:aE)]:List aE)) iK jt O O O O O O O) (fun _=>(aC pD [0] O O O)) O fun b6=>D.one (i:=4) O<|Do.s (s.c (Qt.a (q.ld 4 O O dD O)) O) (fun _=>(aC pD [0] O O O)) O fun _=>D.one (i:=16) O<|Do.s (s.app 6 _ O O O (ck 0 O) sS (by (simp;omega)) (by (simp;omega)) (fun _=>rfl) O) (fun _=>(aC pD [0] O O O)) O fun v4=>D.q (i:=17) O (aC pD [0] O O O) O (q.cm O) O<|D.q (i:=18) O (aC pD [0] O O O) O (q.aO O cF O) O<|D.one (i:=19) O<|Do.s (s.fZ 4 _ O O O (fun w hw=>Sl.cu (hw.row 6 O)) (.inr ⟨dD,rfl⟩) (fun w hw=>(ag (Sl.one (hw.row 6 O)) aP)) O O O) (fun _=>(aC pD [0] O O O)) O fun _=>D.done<|R.reg O<|R.u 1 O<|R.q (q.idx (i:=0) (ck 1 O) O O da O hx3) O<|R.q (q.lr (ck 1 O) hx3 O av O) O<|?_
   by_cases h16:x3=1
   .
    refine R.q (q.fQ O O) O<|R.u 13 O<|R.nil ?_
    have hz:rowP r c=((⟨r.aj,(r.Things++([(⟨x2,x3,(c.Val.extract 4 c.Val.size)⟩:aE)])),r.Held,r.Notes,r.ae,r.ah⟩:aD),true):=by (exact DY ‹_› hy1 (by omega) hC.symm ‹_› (by omega) ‹_› ‹_› (decide_eq_true (by omega)).symm)
    rw [hz]
    exact R.w1 (bG,v4,ct,bz) rC [] O Tryz.results89 (RV.tmp O) O O O O
   refine R.q (q.fa O O) O<|R.u 2 O<|R.qg O (q.idx (i:=0) (ck 1 O) O O da O hx3) O<|R.qg O (q.lr (ck 1 O) hx3 O av O) O<|?_
   by_cases UM:x3=2
   .
    refine R.qg O (q.fQ O O) O<|R.u 1 O<|R.qg O (q.aO O cY O) O<|R.qg O (q.ld 3 O O bK O) O<|R.qg O (q.iy O Tryz.underlying9) O<|?_
    by_cases h18:c.Val.size=4
    .
     refine R.qg O (q.fQ O O) O<|R.u 3 O<|R.nil ?_
     have hz:rowP r c=((⟨r.aj,(r.Things++([(⟨x2,x3,(c.Val.extract 4 c.Val.size)⟩:aE)])),r.Held,r.Notes,r.ae,r.ah⟩:aD),true):=by (exact DY ‹_› hy1 (by omega) hC.symm ‹_› (by omega) ‹_› ‹_› (decide_eq_true (by omega)).symm)
     rw [hz]
     exact R.w1 (bG,v4,ct,bz) rC [] O Tryz.results89 (RV.tmp O) O O O O
    refine R.qg O (q.fa O O) O<|R.u 3 O<|R.nil ?_
    have hz:rowP r c=((⟨r.aj,(r.Things++([(⟨x2,x3,(c.Val.extract 4 c.Val.size)⟩:aE)])),r.Held,r.Notes,r.ae,r.ah⟩:aD),false):=by (exact DY ‹_› hy1 (by omega) hC.symm ‹_› (by omega) ‹_› ‹_› (decide_eq_false (by omega)).symm)
    rw [hz]
    exact R.w1 (bG,v4,ct,bz) rC [] O Tryz.results89 (RV.tmp O) O O O O
   refine R.qg O (q.fa O O) O<|R.u 8 O<|R.nil ?_
   have hz:rowP r c=((⟨r.aj,(r.Things++([(⟨x2,x3,(c.Val.extract 4 c.Val.size)⟩:aE)])),r.Held,r.Notes,r.ae,r.ah⟩:aD),false):=by (exact DY ‹_› hy1 (by omega) hC.symm ‹_› (by omega) ‹_› ‹_› (decide_eq_false (by omega)).symm)
   rw [hz]
   exact R.w1 (bG,v4,ct,bz) rC [] O Tryz.results89 (RV.tmp O) O O O O
  rw [h11]
  refine R.u 5 O<|R.nil<|R.ay O O<|R.reg O<|R.u 1 O<|R.nil ?_
  have hz:rowP r c=(r,false):=by (exact BX ‹_› hy1 (by omega) (.inr (.inl ‹_›)))
  rw [hz]
  exact R.w1 (bG,bE,ct,bz) mR [] O Tryz.results89 (RV.tmp O) O O O O
 refine R.q (q.fa O O) O<|R.u 1 O<|R.nil<|R.aB O O<|R.reg O<|?_
 by_cases h19:y1.toNat=119
 .
  refine R.q (q.fQ O O) O<|R.u 1 O<|R.nil<|R.ay O O<|R.reg O<|R.q (q.aO O cY O) O<|R.q (q.ld 1 O O bK O) O<|R.s O (s.aW ft [0] _ _ _ O O O wD O O (fun w own hw H=>lD c.Val 4 w own H (by omega)) O) fun z4=>R.u 5 O<|R.nil<|R.reg O<|R.u 1 O<|R.q (q.not O) O<|R.u 1 O<|?_
  cases b
  .
   refine R.u 9 O<|R.nil<|R.ay O O<|R.reg O<|R.u 1 O<|R.nil ?_
   have hz:rowP r c=(r,false):=by (exact BZ ‹_› hy1 (by omega) (.inl hC.symm))
   rw [hz]
   exact R.w1 (bG,bE,ct,bz) mR [] O Tryz.results89 (RV.tmp O) O O O O
  refine R.u 1 O<|R.qg O (q.not O) O<|R.u 2 O<|?_
  rcases Bool.eq_false_or_eq_true (eD c.Val 4) with h20|h20
  .
   rw [h20]
   refine R.qg O (q.aO O cY O) O<|R.qg O (q.ld 2 O O bK O) O<|R.qg O (q.iy O Tryz.underlying9) O<|?_
   by_cases h21:c.Val.size=16
   .
    refine R.qg O (q.lH O O) O<|R.u 1 O<|R.nil<|R.aB O O ?_
    have ek:=Lw (c:=c) hC.symm
    have Wr:=qu (s:=c.Val) (m:=4) ‹_›
    obtain ⟨x4,hx4⟩:∃z,(numsL (c.Key.extract 1 c.Key.size) 1)[0]? = some z:=⟨_,List.getElem?_eq_getElem (by omega)⟩
    obtain ⟨x5,hx5⟩:∃z,(numsL c.Val 4)[0]? = some z:=⟨_,List.getElem?_eq_getElem (by omega)⟩
    obtain ⟨x6,hx6⟩:∃z,(numsL c.Val 4)[1]? = some z:=⟨_,List.getElem?_eq_getElem (by omega)⟩
    obtain ⟨x7,hx7⟩:∃z,(numsL c.Val 4)[2]? = some z:=⟨_,List.getElem?_eq_getElem (by omega)⟩
    obtain ⟨x8,U1⟩:∃z,(numsL c.Val 4)[3]? = some z:=⟨_,List.getElem?_eq_getElem (by omega)⟩
    refine R.fu (fuel:=26) (Wd w (blks [af.box Dr [bG,bE,ct,bz,iV r.ae,iV r.ah] 48,af.row 127 bG r.aj,af.row 100 bE r.Things,af.row 124 ct r.Held,af.row 89 bz r.Notes]++own) [af.row 3 z4 (numsL c.Val 4),af.row 3 z1 (numsL (c.Key.extract 1 c.Key.size) 1),af.box b1 (eR c) 117,af.row 100 bE r.Things,af.row 124 ct r.Held,af.row 89 bz r.Notes,af.held w own] [dc]) O mixed O<|D.q (i:=0) O (aC nk [0] O O O) O (q.mv O) O<|D.q (i:=1) O (aC nk [0] O O O) O (q.mv O) O<|D.q (i:=2) O (aC nk [0] O O O) O (q.cm O) O<|D.q (i:=3) O (aC nk [0] O O O) O (q.aO O bg O) O<|D.q (i:=5) O (aC nk [0] O O O) O (q.mv O) O<|D.q (i:=6) O (aC nk [0] O O O) O (q.idx (i:=0) (ck 1 O) O O da O hx4) O<|D.q (i:=7) O (aC nk [0] O O O) O (q.lr (ck 1 O) hx4 O av O) O<|D.q (i:=8) O (aC nk [0] O O O) O (q.mv O) O<|D.q (i:=9) O (aC nk [0] O O O) O (q.idx (i:=0) (ck 0 O) O O da O hx5) O<|D.q (i:=10) O (aC nk [0] O O O) O (q.lr (ck 0 O) hx5 O av O) O<|D.q (i:=11) O (aC nk [0] O O O) O (q.mv O) O<|D.q (i:=12) O (aC nk [0] O O O) O (q.idx (i:=1) (ck 0 O) O O da O hx6) O<|D.q (i:=13) O (aC nk [0] O O O) O (q.lr (ck 0 O) hx6 O av O) O<|D.q (i:=14) O (aC nk [0] O O O) O (q.mv O) O<|D.q (i:=15) O (aC nk [0] O O O) O (q.idx (i:=2) (ck 0 O) O O da O hx7) O<|D.q (i:=16) O (aC nk [0] O O O) O (q.lr (ck 0 O) hx7 O av O) O<|D.q (i:=17) O (aC nk [0] O O O) O (q.mv O) O<|D.q (i:=18) O (aC nk [0] O O O) O (q.idx (i:=3) (ck 0 O) O O da O U1) O<|D.q (i:=19) O (aC nk [0] O O O) O (q.lr (ck 0 O) U1 O av O) O<|D.q (i:=20) O (aC nk [0] O O O) O (q.build iY O O) O<|D.two (i:=4) (j:=21) O O ?_ ?_
    .
     refine Do.s (s.c (Qt.a (q.ld 3 O O bV O)) O) (fun _=>(aC nk [0] O O O)) O fun _=>D.one (i:=21) O<|Do.s (s.bs (l:=([(⟨x4,x5,x6,x7,x8⟩:ap)]:List ap)) dJ bQ O O O O O O O) (fun _=>(aC pE [0] O O O)) O fun b7=>D.one (i:=22) O<|Do.s (s.app 5 _ O O O (ck 0 O) lf (by (simp;omega)) (by (simp;omega)) (fun _=>rfl) O) (fun _=>(aC pE [0] O O O)) O fun v5=>D.q (i:=23) O (aC pE [0] O O O) O (q.cm O) O<|D.q (i:=24) O (aC pE [0] O O O) O (q.aO O bg O) O<|D.one (i:=25) O<|Do.s (s.fZ 4 _ O O O (fun w hw=>Sl.cu (hw.row 5 O)) (.inr ⟨bV,rfl⟩) (fun w hw=>(ag (Sl.one (hw.row 5 O)) aP)) O O O) (fun _=>(aC pE [0] O O O)) O fun _=>D.done<|R.reg O<|R.u 1 O<|R.nil ?_
     have hz:rowP r c=((⟨(r.aj++([(⟨x4,x5,x6,x7,x8⟩:ap)])),r.Things,r.Held,r.Notes,r.ae,r.ah⟩:aD),true):=by (exact Tb ‹_› hy1 (by omega) hC.symm ‹_› (by omega) ‹_› ‹_› ‹_› ‹_› ‹_›)
     rw [hz]
     exact R.w1 (v5,bE,ct,bz) rC [] O Tryz.results89 (RV.tmp O) O O O O
    refine Do.s (s.bs (l:=([(⟨x4,x5,x6,x7,x8⟩:ap)]:List ap)) dJ bQ O O O O O O O) (fun _=>(aC pE [0] O O O)) O fun b8=>D.one (i:=4) O<|Do.s (s.c (Qt.a (q.ld 4 O O bV O)) O) (fun _=>(aC pE [0] O O O)) O fun _=>D.one (i:=22) O<|Do.s (s.app 5 _ O O O (ck 0 O) lf (by (simp;omega)) (by (simp;omega)) (fun _=>rfl) O) (fun _=>(aC pE [0] O O O)) O fun v6=>D.q (i:=23) O (aC pE [0] O O O) O (q.cm O) O<|D.q (i:=24) O (aC pE [0] O O O) O (q.aO O bg O) O<|D.one (i:=25) O<|Do.s (s.fZ 4 _ O O O (fun w hw=>Sl.cu (hw.row 5 O)) (.inr ⟨bV,rfl⟩) (fun w hw=>(ag (Sl.one (hw.row 5 O)) aP)) O O O) (fun _=>(aC pE [0] O O O)) O fun _=>D.done<|R.reg O<|R.u 1 O<|R.nil ?_
    have hz:rowP r c=((⟨(r.aj++([(⟨x4,x5,x6,x7,x8⟩:ap)])),r.Things,r.Held,r.Notes,r.ae,r.ah⟩:aD),true):=by (exact Tb ‹_› hy1 (by omega) hC.symm ‹_› (by omega) ‹_› ‹_› ‹_› ‹_› ‹_›)
    rw [hz]
    exact R.w1 (v6,bE,ct,bz) rC [] O Tryz.results89 (RV.tmp O) O O O O
   refine R.qg O (q.lG O O) O<|R.u 1 O<|R.nil<|R.ay O O<|R.reg O<|R.u 1 O<|R.nil ?_
   have hz:rowP r c=(r,false):=by (exact BZ ‹_› hy1 (by omega) (.inr (.inr (by omega))))
   rw [hz]
   exact R.w1 (bG,bE,ct,bz) mR [] O Tryz.results89 (RV.tmp O) O O O O
  rw [h20]
  refine R.u 5 O<|R.nil<|R.ay O O<|R.reg O<|R.u 1 O<|R.nil ?_
  have hz:rowP r c=(r,false):=by (exact BZ ‹_› hy1 (by omega) (.inr (.inl ‹_›)))
  rw [hz]
  exact R.w1 (bG,bE,ct,bz) mR [] O Tryz.results89 (RV.tmp O) O O O O
 refine R.q (q.fa O O) O<|R.u 1 O<|R.nil<|R.aB O O<|R.reg O<|R.q (q.aO O cY O) O<|R.q (q.ld 1 O O bK O) O<|R.s O (s.aW ft [0] _ _ _ O O O wD O O (fun w own hw H=>lD c.Val 2 w own H (by omega)) O) fun z5=>R.u 5 O<|R.nil<|R.reg O<|R.q (q.aO O bM O) O<|R.q (q.ld 2 O O bK O) O<|?_
 by_cases h22:c.Key=⟨#[120]⟩
 .
  refine R.q (q.uB O O h22) O<|R.u 2 O<|R.qg O (q.not O) O<|R.u 2 O<|?_
  rcases Bool.eq_false_or_eq_true (eD c.Val 2) with h23|h23
  .
   rw [h23]
   refine R.qg O (q.aO O cY O) O<|R.qg O (q.ld 2 O O bK O) O<|R.qg O (q.iy O Tryz.underlying9) O<|?_
   by_cases Ws:c.Val.size=8
   .
    refine R.qg O (q.lH O O) O<|R.u 1 O<|R.nil<|R.aB O O ?_
    have Wt:=qu (s:=c.Val) (m:=2) ‹_›
    obtain ⟨x9,U2⟩:∃z,(numsL c.Val 2)[0]? = some z:=⟨_,List.getElem?_eq_getElem (by omega)⟩
    obtain ⟨x10,Td⟩:∃z,(numsL c.Val 2)[1]? = some z:=⟨_,List.getElem?_eq_getElem (by omega)⟩
    refine R.fu (fuel:=14) (Wd w (blks [af.box Dr [bG,bE,ct,bz,iV r.ae,iV r.ah] 48,af.row 127 bG r.aj,af.row 100 bE r.Things,af.row 124 ct r.Held,af.row 89 bz r.Notes]++own) [af.row 3 z5 (numsL c.Val 2),af.row 3 z1 (numsL (c.Key.extract 1 c.Key.size) 1),af.box b1 (eR c) 117,af.row 127 bG r.aj,af.row 100 bE r.Things,af.row 124 ct r.Held,af.row 89 bz r.Notes,af.held w own] [dc]) O mixed O<|D.q (i:=0) O (aC mS [0] O O O) O (q.mv O) O<|D.q (i:=1) O (aC mS [0] O O O) O (q.mv O) O<|D.q (i:=2) O (aC mS [0] O O O) O (q.mv O) O<|D.q (i:=3) O (aC mS [0] O O O) O (q.idx (i:=0) (ck 0 O) O O da O U2) O<|D.q (i:=4) O (aC mS [0] O O O) O (q.lr (ck 0 O) U2 O av O) O<|D.q (i:=5) O (aC mS [0] O O O) O (q.mv O) O<|D.q (i:=6) O (aC mS [0] O O O) O (q.idx (i:=1) (ck 0 O) O O da O Td) O<|D.q (i:=7) O (aC mS [0] O O O) O (q.lr (ck 0 O) Td O av O) O<|D.q (i:=8) O (aC mS [0] O O O) O (q.cm O) O<|D.q (i:=9) O (aC mS [0] O O O) O (q.aO O cM O) O<|D.one (i:=10) O<|Do.s (s.st 3 _ O O O O (.inr ⟨av,rfl⟩) O O O O) (fun _=>(aC mS [0] O O O)) O fun _=>D.q (i:=11) O (aC mS [0] O O O) O (q.cm O) O<|D.q (i:=12) O (aC mS [0] O O O) O (q.aO O dP O) O<|D.one (i:=13) O<|Do.s (s.st 3 _ O O O O (.inr ⟨av,rfl⟩) O O O O) (fun _=>(aC mS [0] O O O)) O fun _=>D.done<|R.reg O<|R.u 1 O<|R.nil ?_
    have hz:rowP r c=((⟨r.aj,r.Things,r.Held,r.Notes,x9,x10⟩:aD),true):=by (exact Uu ‹_› hy1 (by omega) (by omega) (by omega) ‹_› ‹_› (by omega) ‹_› ‹_›)
    rw [hz]
    exact R.w1 (bG,bE,ct,bz) mR [] O Tryz.results89 (RV.tmp O) O O O O
   refine R.qg O (q.lG O O) O<|R.u 1 O<|R.nil<|R.ay O O<|R.reg O<|R.u 1 O<|R.nil ?_
   have hz:rowP r c=(r,false):=by (exact B3 ‹_› hy1 (by omega) (by omega) (by omega) (.inr (.inr (by omega))))
   rw [hz]
   exact R.w1 (bG,bE,ct,bz) mR [] O Tryz.results89 (RV.tmp O) O O O O
  rw [h23]
  refine R.u 5 O<|R.nil<|R.ay O O<|R.reg O<|R.u 1 O<|R.nil ?_
  have hz:rowP r c=(r,false):=by (exact B3 ‹_› hy1 (by omega) (by omega) (by omega) (.inr (.inl ‹_›)))
  rw [hz]
  exact R.w1 (bG,bE,ct,bz) mR [] O Tryz.results89 (RV.tmp O) O O O O
 refine R.q (q.zd O O h22) O<|R.u 10 O<|R.nil<|R.ay O O<|R.reg O<|R.u 1 O<|R.nil ?_
 have hz:rowP r c=(r,false):=by (exact B3 ‹_› hy1 (by omega) (by omega) (by omega) (.inl ‹_›))
 rw [hz]
 exact R.w1 (bG,bE,ct,bz) mR [] O Tryz.results89 (RV.tmp O) O O O O
end
theorem hk0 (h:Held):∃l,bl (hrow h).Key=104::l:=⟨_,by show bl (kH++gU h.Place.az++gU h.Place.Slot)=_;rw [iL,iL];rfl⟩
def V2 (t:aE):Bool:=decide ((t.Kind=1\/t.Kind=2/\t.Data.size=0)/\t.Data.size<=8)
def xr (a b:Int):Change:=⟨kX,bO a++bO b,false⟩
structure Kinds (l:List Change)(hs:List Held)(ts:List aE)(ws:List ap)(xs:List Change):Prop where
  eq:l=hs.map hrow++ts.map l4++ws.map od++xs
  h:∀x∈hs,aY x.Place=0
  t:∀x∈ts,V2 x=true
  x:(xs=[] /\ ∀r:aD,l.foldl tE r=⟨r.aj++ws,r.Things++ts,r.Held++hs,r.Notes,r.ae,r.ah⟩) \/ ∃a b,xs=[xr a b] /\ ∀r:aD,l.foldl tE r=⟨r.aj++ws,r.Things++ts,r.Held++hs,r.Notes,a,b⟩
theorem yr {z:aD}(h:Inv z)(hn:z.Notes=[]):aR z=z:=by
 obtain ⟨a,b,c,d,e,f⟩:=z
 simp only at hn;subst hn
 exact ye h
end Go.Proofs.YtkbhcbipadkcaaaGreatDoor
