import Derived.Test.YtkbhcbipadkcaaaGreatDoorTW24
namespace Go.Proofs.YtkbhcbipadkcaaaGreatDoor
set_option linter.unusedVariables false
set_option linter.unusedSimpArgs false
set_option maxRecDepth 100000
set_option maxHeartbeats 90000000
section
open Go Go.RowKit
theorem IB {s:ByteArray}{m:Nat}(h:eD s m=true):dW s m=some (numsL s m):=by
 unfold eD at h;unfold numsL
 cases hq:dW s m with|none=>rw [hq] at h;cases h|some l=>rfl
theorem qz {s:ByteArray}{m:Nat}(h:eD s m=true):(numsL s m).length=m/\4*m<=s.size:=Ir (IB h)
theorem rR {s:ByteArray}{m j:Nat}{x:Int}(h:(numsL s m)[j]? = some x):Iw (dW s m) j=x:=by
 show (((numsL s m)[j]?).getD 0)=x;rw [h];rfl
section
variable {r:aC} {c:Change} {y:UInt8}
theorem l6 (h:¬ c.Key=⟨#[]⟩):¬ c.Key.size=0:=fun e=>h (JY e)
theorem ot {s:ByteArray}{i:Nat}{y:UInt8}(h:s.data[i]? = some y):bf s i=y.toNat:=by unfold bf;rw [h];rfl
theorem LD (h:c.Key=⟨#[]⟩):rowP r c=(r,false):=by unfold rowP;rw [if_pos (by rw [h];rfl)]
theorem BX (h0:¬ c.Key=⟨#[]⟩)(hy:c.Key.data[0]? = some y)(e:y.toNat=104)(hb:eD c.Val 1=false∨¬ c.Val.size=4∨¬ c.Key.size=3):rowP r c=(r,false):=by
 unfold rowP;rw [if_neg (l6 h0)];dsimp only;rw [if_pos ((ot hy).trans e),if_pos (show (dW c.Val 1).isSome=false∨c.Val.size≠4∨c.Key.size≠3 from hb)]
theorem Nq {a b:UInt8}{n:Int}{v:Bool}(h0:¬ c.Key=⟨#[]⟩)(hy:c.Key.data[0]? = some y)(e:y.toNat=104)(hb:eD c.Val 1=true)(h4:c.Val.size=4)(h3:c.Key.size=3)(ha:c.Key.data[1]? = some a)(hbb:c.Key.data[2]? = some b)
 (hn:(numsL c.Val 1)[0]? = some n) (hv:v=decide (aZ ⟨(a.toNat:Int)-48,(b.toNat:Int)-48⟩=0)):rowP r c=(⟨r.ao,r.Things,r.Held++[⟨⟨(a.toNat:Int)-48,(b.toNat:Int)-48⟩,n⟩],r.Notes,r.ae,r.ah⟩,v):=by
 unfold rowP;rw [if_neg (l6 h0)];dsimp only
 rw [if_pos ((ot hy).trans e),if_neg (show ¬ ((dW c.Val 1).isSome=false∨c.Val.size≠4∨c.Key.size≠3) from (by show ¬ (eD c.Val 1=false∨c.Val.size≠4∨c.Key.size≠3);rw [hb,h4,h3];simp)),rR hn,hv]
 unfold Iu Tb Nf;rw [ot ha,ot hbb]
def Ev (c:Change):Bool:=eD (c.Key.extract 1 c.Key.size) 1&&decide (c.Key.size=5)
theorem QK (h:eD (c.Key.extract 1 c.Key.size) 1=false):false=Ev c:=by unfold Ev;rw [h];rfl
theorem Nr (h:¬ c.Key.size=5):false=Ev c:=by unfold Ev;rw [decide_eq_false h,Bool.and_false]
theorem Ns (h:eD (c.Key.extract 1 c.Key.size) 1=true)(h5:c.Key.size=5):true=Ev c:=by unfold Ev;rw [h,decide_eq_true h5];rfl
theorem LF (h:Ev c=true):(numsL (c.Key.extract 1 c.Key.size) 1).length=1:=by
 unfold Ev at h;rw [Bool.and_eq_true] at h;exact (qz h.1).1
theorem BZ (h0:¬ c.Key=⟨#[]⟩)(hy:c.Key.data[0]? = some y)(e:y.toNat=116)(hb:Ev c=false∨eD c.Val 1=false∨12<c.Val.size):rowP r c=(r,false):=by
 unfold rowP;rw [if_neg (l6 h0)];dsimp only
 rw [if_neg (by rw [ot hy];omega),if_pos ((ot hy).trans e),if_pos (show ((dW (c.Key.extract 1 c.Key.size) 1).isSome&&decide (c.Key.size=5))=false∨(dW c.Val 1).isSome=false∨12<c.Val.size from hb)]
theorem DZ {k n:Int}{v:Bool}(h0:¬ c.Key=⟨#[]⟩)(hy:c.Key.data[0]? = some y)(e:y.toNat=116)(hk:Ev c=true)(hb:eD c.Val 1=true)(h12:¬ 12<c.Val.size)
 (hi:(numsL (c.Key.extract 1 c.Key.size) 1)[0]? = some k) (hn:(numsL c.Val 1)[0]? = some n) (hv:v=decide (n=1∨n=2/\c.Val.size=4)):rowP r c=(⟨r.ao,r.Things++[⟨k,n,c.Val.extract 4 c.Val.size⟩],r.Held,r.Notes,r.ae,r.ah⟩,v):=by
 unfold rowP;rw [if_neg (l6 h0)];dsimp only
 rw [if_neg (by rw [ot hy];omega),if_pos ((ot hy).trans e),if_neg (show ¬ (((dW (c.Key.extract 1 c.Key.size) 1).isSome&&decide (c.Key.size=5))=false∨(dW c.Val 1).isSome=false∨12<c.Val.size) from (by
  show ¬ (Ev c=false∨eD c.Val 1=false∨12<c.Val.size)
  rw [hk,hb];simp;omega)),rR hn,rR hi,hv]
 rfl
theorem B3 (h0:¬ c.Key=⟨#[]⟩)(hy:c.Key.data[0]? = some y)(e:y.toNat=119)(hb:Ev c=false∨eD c.Val 4=false∨¬ c.Val.size=16):rowP r c=(r,false):=by
 unfold rowP;rw [if_neg (l6 h0)];dsimp only
 rw [if_neg (by rw [ot hy];omega),if_neg (by rw [ot hy];omega),if_pos ((ot hy).trans e),if_pos (show ((dW (c.Key.extract 1 c.Key.size) 1).isSome&&decide (c.Key.size=5))=false∨(dW c.Val 4).isSome=false∨c.Val.size≠16 from hb)]
theorem Tk {k n0 n1 n2 n3:Int}(h0:¬ c.Key=⟨#[]⟩)(hy:c.Key.data[0]? = some y)(e:y.toNat=119)(hk:Ev c=true)(hb:eD c.Val 4=true)(h16:c.Val.size=16)
 (hi:(numsL (c.Key.extract 1 c.Key.size) 1)[0]? = some k) (a0:(numsL c.Val 4)[0]? = some n0) (a1:(numsL c.Val 4)[1]? = some n1) (a2:(numsL c.Val 4)[2]? = some n2) (a3:(numsL c.Val 4)[3]? = some n3):rowP r c=(⟨r.ao++[⟨k,n0,n1,n2,n3⟩],r.Things,r.Held,r.Notes,r.ae,r.ah⟩,true):=by
 unfold rowP;rw [if_neg (l6 h0)];dsimp only
 rw [if_neg (by rw [ot hy];omega),if_neg (by rw [ot hy];omega),if_pos ((ot hy).trans e),if_neg (show ¬ (((dW (c.Key.extract 1 c.Key.size) 1).isSome&&decide (c.Key.size=5))=false∨(dW c.Val 4).isSome=false∨c.Val.size≠16) from (by
  show ¬ (Ev c=false∨eD c.Val 4=false∨c.Val.size≠16)
  rw [hk,hb,h16];simp)),rR hi,rR a0,rR a1,rR a2,rR a3]
 rfl
theorem B5 (h0:¬ c.Key=⟨#[]⟩)(hy:c.Key.data[0]? = some y)(e1:¬ y.toNat=104)(e2:¬ y.toNat=116)(e3:¬ y.toNat=119)(hb:¬ c.Key=⟨#[120]⟩∨eD c.Val 2=false∨¬ c.Val.size=8):rowP r c=(r,false):=by
 unfold rowP;rw [if_neg (l6 h0)];dsimp only
 rw [if_neg (by rw [ot hy];omega),if_neg (by rw [ot hy];omega),if_neg (by rw [ot hy];omega),if_pos (show c.Key≠kX∨(dW c.Val 2).isSome=false∨c.Val.size≠8 from hb)]
theorem UE {n0 n1:Int}(h0:¬ c.Key=⟨#[]⟩)(hy:c.Key.data[0]? = some y)(e1:¬ y.toNat=104)(e2:¬ y.toNat=116)(e3:¬ y.toNat=119)(hk:c.Key=⟨#[120]⟩)(hb:eD c.Val 2=true)(h8:c.Val.size=8)(a0:(numsL c.Val 2)[0]? = some n0)(a1:(numsL c.Val 2)[1]? = some n1) :
 rowP r c=(⟨r.ao,r.Things,r.Held,r.Notes,n0,n1⟩,true):=by
 unfold rowP;rw [if_neg (l6 h0)];dsimp only
 rw [if_neg (by rw [ot hy];omega),if_neg (by rw [ot hy];omega),if_neg (by rw [ot hy];omega),if_neg (show ¬ (c.Key≠kX∨(dW c.Val 2).isSome=false∨c.Val.size≠8) from (by
  show ¬ (c.Key≠⟨#[120]⟩∨eD c.Val 2=false∨c.Val.size≠8)
  rw [hb,h8];simp [hk])),rR a0,rR a1]
 rfl
end
attribute [local irreducible] numsL eD Ev rowP
theorem vO (KU:Nat)(cQ cT dH cG:Value)(r:aC)(c:Change)(w:World)(own:List Nat)(H:HN w own [ag.box KU [cQ,cT,dH,cG,iV r.ae,iV r.ah] 48,ag.row 127 cQ r.ao,ag.row 100 cT r.Things,ag.row 124 dH r.Held,ag.row 89 cG r.Notes] [eC])(hc:c.Key.size<=1000/\c.Val.size<=1000)(hr:r.ao.length<=1000/\r.Things.length<=1000/\r.Held.length<=1000):RC Tryz.prog 89 #[.pointer (some ⟨KU,0,none⟩),.agg #[.string c.Key,.string c.Val,.bool c.Gone]] H (fun _:Value×Value×Value×Value => .bool (rowP r c).2) (fun z=>[ag.box KU [z.1,z.2.1,z.2.2.1,z.2.2.2,iV (rowP r c).1.ae,iV (rowP r c).1.ah] 48,ag.row 127 z.1 (rowP r c).1.ao,ag.row 100 z.2.1 (rowP r c).1.Things,ag.row 124 z.2.2.1 (rowP r c).1.Held,ag.row 89 z.2.2.2 (rowP r c).1.Notes]) (fun _=>[]):=by
 have Rl:=H.cap 1 rfl;have eJ:=H.cO 1 rfl
 have QL:=H.cap 2 rfl;have dN:=H.cO 2 rfl
 have Tl:=H.cap 3 rfl;have fH:=H.cO 3 rfl
 have Rm:=H.cap 4 rfl;have eK:=H.cO 4 rfl
 refine R.bD [(0,.pointer (some ⟨KU,0,none⟩)),(1,.agg #[.string c.Key,.string c.Val,.bool c.Gone])] Tryz.func89 O O O O H<|R.reg O<|R.s O (s.box O O O) fun b1=>?_
 refine R.u 1 O<|R.nil<|R.reg O<|R.q (q.aO O bI O) O<|R.q (q.ld 0 O O bF O) O<|?_
 by_cases h1:c.Key=⟨#[]⟩
 .
  refine R.q (q.pQ O O h1) O<|R.nil<|R.av O O<|R.reg O<|R.u 1 O<|R.nil ?_
  have hz:rowP r c=(r,false):=by (exact LD ‹_›)
  rw [hz]
  exact R.w1 (cQ,cT,dH,cG) [1,2,3,4,5,6] [] O Tryz.results89 (RV.tmp O) O O O O
 refine R.q (q.pR O O h1) O<|R.nil<|R.aB O O ?_
 have kp:=l6 (c:=c) ‹_›
 refine R.reg O<|R.q (q.aO O bI O) O<|R.q (q.ld 0 O O bF O) O<|R.q (q.Ct (i:=1) O O Tryz.underlying9 O (by omega)) O<|R.s O (s.aW mK [0] _ _ _ O O O wI O O (fun w own hw H=>lH (c.Key.extract 1 c.Key.size) 1 w own H (by (rw [ByteArray.size_extract];omega))) O) fun z1=>?_
 refine R.u 5 O<|R.nil<|R.cut 1 (fun b:Bool=>[(0,.pointer (some ⟨KU,0,none⟩)),(3,.pointer (some ⟨b1,0,none⟩)),(5,z1),(6,.bool b)]) (fun b:Bool=>[ag.row 3 z1 (numsL (c.Key.extract 1 c.Key.size) 1),ag.box b1 (iz c) 117,ag.box KU [cQ,cT,dH,cG,iV r.ae,iV r.ah] 48,ag.row 127 cQ r.ao,ag.row 100 cT r.Things,ag.row 124 dH r.Held,ag.row 89 cG r.Notes,ag.held w own]) (fun b:Bool=>[eC]) (fun b:Bool=>b=Ev c) O O O ?_ ?_
 .
  refine R.reg O<|R.u 2 O<|?_
  rcases Bool.eq_false_or_eq_true (eD (c.Key.extract 1 c.Key.size) 1) with h2|h2
  .
   rw [h2]
   refine R.qg O (q.aO O bI O) O<|R.qg O (q.ld 1 O O bF O) O<|R.qg O (q.iA O Tryz.underlying9) O<|?_
   by_cases h3:c.Key.size=5
   .
    exact R.qg O (q.fI O O) O<|R.u 2 O<|R.nil<|R.meet true O (by (exact Ns ‹_› (by omega))) (sF O) (ic fh [0] O)
   exact R.qg O (q.e9 O O) O<|R.u 2 O<|R.nil<|R.meet false O (by (exact Nr (by omega))) (sF O) (ic fh [0] O)
  rw [h2]
  exact R.u 6 O<|R.nil<|R.meet false O (by (exact QK ‹_›)) (sF O) (ic fh [0] O)
 rintro b hC
 refine R.reg O<|R.q (q.aO O bI O) O<|R.q (q.ld 1 O O bF O) O<|?_
 obtain ⟨y1,hy1⟩:∃z,c.Key.data[0]? = some z:=⟨_,Array.getElem?_eq_getElem (show 0<c.Key.size from by omega)⟩
 have Sr:=y1.toNat_lt
 refine R.q (q.iL (i:=0) O O Tryz.underlying9 O hy1) O<|R.nil<|R.reg O<|?_
 by_cases h4:y1.toNat=104
 .
  refine R.q (q.fI O O) O<|R.u 1 O<|R.nil<|R.av O O<|R.reg O<|R.q (q.aO O cY O) O<|R.q (q.ld 1 O O bF O) O<|R.s O (s.aW fh [0] _ _ _ O O O wI O O (fun w own hw H=>lH c.Val 1 w own H (by omega)) O) fun z2=>?_
  refine R.u 5 O<|R.nil<|R.reg O<|R.u 1 O<|R.q (q.not O) O<|R.u 1 O<|?_
  rcases Bool.eq_false_or_eq_true (eD c.Val 1) with h5|h5
  .
   rw [h5]
   refine R.qg O (q.aO O cY O) O<|R.qg O (q.ld 2 O O bF O) O<|R.qg O (q.iA O Tryz.underlying9) O<|?_
   by_cases h6:c.Val.size=4
   .
    refine R.qg O (q.lL O O) O<|R.u 2 O<|R.qg O (q.aO O bI O) O<|R.qg O (q.ld 2 O O bF O) O<|R.qg O (q.iA O Tryz.underlying9) O<|?_
    by_cases h7:c.Key.size=3
    .
     refine R.qg O (q.lL O O) O<|R.u 1 O<|R.nil<|R.aB O O ?_
     obtain ⟨y2,hy2⟩:∃z,c.Key.data[1]? = some z:=⟨_,Array.getElem?_eq_getElem (show 1<c.Key.size from by omega)⟩
     have Ss:=y2.toNat_lt
     obtain ⟨y3,hy3⟩:∃z,c.Key.data[2]? = some z:=⟨_,Array.getElem?_eq_getElem (show 2<c.Key.size from by omega)⟩
     have TK:=y3.toNat_lt
     refine R.fP (fuel:=13) bZ O O mixed O<|D.q (i:=0) O (aD bZ [0] O) O (q.aO O bI O) O<|D.q (i:=1) O (aD bZ [0] O) O (q.ld 2 O O bF O) O<|D.q (i:=2) O (aD bZ [0] O) O (q.iL (i:=1) O O Tryz.underlying9 O hy2) O<|D.q (i:=3) O (aD bZ [0] O) O (q.nq (r:=((y2.toNat:Nat):Int)) O (by rw [Tryz.underlying5];rfl) Tryz.underlying3 (wr (by omega))) O<|D.q (i:=4) O (aD bZ [0] O) O (q.lV (r:=(y2.toNat:Int)-48) O O) O<|D.q (i:=5) O (aD bZ [0] O) O (q.aO O bI O) O<|D.q (i:=6) O (aD bZ [0] O) O (q.ld 2 O O bF O) O<|D.q (i:=7) O (aD bZ [0] O) O (q.iL (i:=2) O O Tryz.underlying9 O hy3) O<|D.q (i:=8) O (aD bZ [0] O) O (q.nq (r:=((y3.toNat:Nat):Int)) O (by rw [Tryz.underlying5];rfl) Tryz.underlying3 (wr (by omega))) O<|D.q (i:=9) O (aD bZ [0] O) O (q.lV (r:=(y3.toNat:Int)-48) O O) O<|D.q (i:=10) O (aD bZ [0] O) O (q.build wA O O) O<|D.one (i:=11) O<|Do.s (s.alloc Cx O O) (fun _=>(aD Ck [0] O)) O fun b2=>?_
     refine D.one (i:=12) O<|Do.s (s.st 0 _ O O O O (.inl bO) O O O O) (fun _=>(aD Ck [0] O)) O fun _=>?_
     refine D.done<|?_
     have Wg:=qz (s:=c.Val) (m:=1) ‹_›
     obtain ⟨x1,hx1⟩:∃z,(numsL c.Val 1)[0]? = some z:=⟨_,List.getElem?_eq_getElem (by omega)⟩
     refine R.fP (fuel:=15) pJ O O mixed O<|D.q (i:=0) O (aD pJ [0] O) O (q.mv O) O<|D.q (i:=1) O (aD pJ [0] O) O (q.mv O) O<|D.q (i:=2) O (aD pJ [0] O) O (q.cb O) O<|D.q (i:=3) O (aD pJ [0] O) O (q.aO O cB O) O<|D.q (i:=5) O (aD pJ [0] O) O (q.dh 0 O O bO) O<|D.q (i:=6) O (aD pJ [0] O) O (q.mv O) O<|D.q (i:=7) O (aD pJ [0] O) O (q.idx (i:=0) (bC 1 O) O O df O hx1) O<|D.q (i:=8) O (aD pJ [0] O) O (q.lw (bC 1 O) hx1 O au O) O<|D.q (i:=9) O (aD pJ [0] O) O (q.build Jg O O) O<|D.two (i:=4) (j:=10) O O ?_ ?_
     .
      refine Do.s (s.c (Qt.a (q.ld 4 O O dE O)) O) (fun _=>(aD pJ [0] O)) O fun _=>?_
      refine D.one (i:=10) O<|Do.s (s.bs (l:=([(⟨(⟨((y2.toNat:Int)-48),((y3.toNat:Int)-48)⟩:Place),x1⟩:Held)]:List Held)) cK gY O O O O O O O) (fun _=>(aD pK [0] O)) O fun b3=>?_
      refine D.one (i:=11) O<|Do.s (s.app 8 _ O O O (bC 0 O) oG (by (simp;omega)) (by (simp;omega)) (fun _=>rfl) O) (fun _=>(aD pK [0] O)) O fun v1=>?_
      refine D.q (i:=12) O (aD pK [0] O) O (q.cb O) O<|D.q (i:=13) O (aD pK [0] O) O (q.aO O cB O) O<|D.one (i:=14) O<|Do.s (s.fS 5 _ O O O (fun w hw=>Sl.cm (hw.row 8 O)) (.inr ⟨dE,rfl⟩) (fun w hw=>(af (Sl.one (hw.row 8 O)) aP)) O O O) (fun _=>(aD pK [0] O)) O fun _=>?_
      refine D.done<|R.reg O<|R.q (q.dh 1 O O bO) O<|R.c (q.call AK O O (fun w hw=>(ko (⟨((y2.toNat:Int)-48),((y3.toNat:Int)-48)⟩:Place) w ))) O<|?_
      by_cases h8:aZ (⟨((y2.toNat:Int)-48),((y3.toNat:Int)-48)⟩:Place)=0
      .
       refine R.q (q.lx O O Tryz.underlying38) O<|R.u 1 O<|R.nil ?_
       have hz:rowP r c=((⟨r.ao,r.Things,(r.Held++([(⟨(⟨((y2.toNat:Int)-48),((y3.toNat:Int)-48)⟩:Place),x1⟩:Held)])),r.Notes,r.ae,r.ah⟩:aC),true):=by (exact Nq ‹_› hy1 (by omega) ‹_› (by omega) (by omega) hy2 hy3 ‹_› (decide_eq_true ‹_›).symm)
       rw [hz]
       exact R.w1 (cQ,cT,v1,cG) [5,6,7,8,9,10] [] O Tryz.results89 (RV.tmp O) O O O O
      refine R.q (q.jA O O Tryz.underlying38) O<|R.u 1 O<|R.nil ?_
      have hz:rowP r c=((⟨r.ao,r.Things,(r.Held++([(⟨(⟨((y2.toNat:Int)-48),((y3.toNat:Int)-48)⟩:Place),x1⟩:Held)])),r.Notes,r.ae,r.ah⟩:aC),false):=by (exact Nq ‹_› hy1 (by omega) ‹_› (by omega) (by omega) hy2 hy3 ‹_› (decide_eq_false ‹_›).symm)
      rw [hz]
      exact R.w1 (cQ,cT,v1,cG) [5,6,7,8,9,10] [] O Tryz.results89 (RV.tmp O) O O O O
     refine Do.s (s.bs (l:=([(⟨(⟨((y2.toNat:Int)-48),((y3.toNat:Int)-48)⟩:Place),x1⟩:Held)]:List Held)) cK gY O O O O O O O) (fun _=>(aD pK [0] O)) O fun b4=>?_
     refine D.one (i:=4) O<|Do.s (s.c (Qt.a (q.ld 5 O O dE O)) O) (fun _=>(aD pK [0] O)) O fun _=>?_
     refine D.one (i:=11) O<|Do.s (s.app 8 _ O O O (bC 0 O) oG (by (simp;omega)) (by (simp;omega)) (fun _=>rfl) O) (fun _=>(aD pK [0] O)) O fun v2=>?_
     refine D.q (i:=12) O (aD pK [0] O) O (q.cb O) O<|D.q (i:=13) O (aD pK [0] O) O (q.aO O cB O) O<|D.one (i:=14) O<|Do.s (s.fS 5 _ O O O (fun w hw=>Sl.cm (hw.row 8 O)) (.inr ⟨dE,rfl⟩) (fun w hw=>(af (Sl.one (hw.row 8 O)) aP)) O O O) (fun _=>(aD pK [0] O)) O fun _=>?_
     refine D.done<|R.reg O<|R.q (q.dh 1 O O bO) O<|R.c (q.call AK O O (fun w hw=>(ko (⟨((y2.toNat:Int)-48),((y3.toNat:Int)-48)⟩:Place) w ))) O<|?_
     by_cases h9:aZ (⟨((y2.toNat:Int)-48),((y3.toNat:Int)-48)⟩:Place)=0
     .
      refine R.q (q.lx O O Tryz.underlying38) O<|R.u 1 O<|R.nil ?_
      have hz:rowP r c=((⟨r.ao,r.Things,(r.Held++([(⟨(⟨((y2.toNat:Int)-48),((y3.toNat:Int)-48)⟩:Place),x1⟩:Held)])),r.Notes,r.ae,r.ah⟩:aC),true):=by (exact Nq ‹_› hy1 (by omega) ‹_› (by omega) (by omega) hy2 hy3 ‹_› (decide_eq_true ‹_›).symm)
      rw [hz]
      exact R.w1 (cQ,cT,v2,cG) [5,6,7,8,9,10] [] O Tryz.results89 (RV.tmp O) O O O O
     refine R.q (q.jA O O Tryz.underlying38) O<|R.u 1 O<|R.nil ?_
     have hz:rowP r c=((⟨r.ao,r.Things,(r.Held++([(⟨(⟨((y2.toNat:Int)-48),((y3.toNat:Int)-48)⟩:Place),x1⟩:Held)])),r.Notes,r.ae,r.ah⟩:aC),false):=by (exact Nq ‹_› hy1 (by omega) ‹_› (by omega) (by omega) hy2 hy3 ‹_› (decide_eq_false ‹_›).symm)
     rw [hz]
     exact R.w1 (cQ,cT,v2,cG) [5,6,7,8,9,10] [] O Tryz.results89 (RV.tmp O) O O O O
    refine R.qg O (q.lK O O) O<|R.u 1 O<|R.nil<|R.av O O<|R.reg O<|R.u 1 O<|R.nil ?_
    have hz:rowP r c=(r,false):=by (exact BX ‹_› hy1 (by omega) (.inr (.inr (by omega))))
    rw [hz]
    exact R.w1 (cQ,cT,dH,cG) mT [] O Tryz.results89 (RV.tmp O) O O O O
   refine R.qg O (q.lK O O) O<|R.u 7 O<|R.nil<|R.av O O<|R.reg O<|R.u 1 O<|R.nil ?_
   have hz:rowP r c=(r,false):=by (exact BX ‹_› hy1 (by omega) (.inr (.inl (by omega))))
   rw [hz]
   exact R.w1 (cQ,cT,dH,cG) mT [] O Tryz.results89 (RV.tmp O) O O O O
  rw [h5]
  refine R.u 11 O<|R.nil<|R.av O O<|R.reg O<|R.u 1 O<|R.nil ?_
  have hz:rowP r c=(r,false):=by (exact BX ‹_› hy1 (by omega) (.inl ‹_›))
  rw [hz]
  exact R.w1 (cQ,cT,dH,cG) mT [] O Tryz.results89 (RV.tmp O) O O O O
 refine R.q (q.e9 O O) O<|R.u 1 O<|R.nil<|R.aB O O<|R.reg O<|?_
 by_cases h10:y1.toNat=116
 .
  refine R.q (q.fI O O) O<|R.u 1 O<|R.nil<|R.av O O<|R.reg O<|R.q (q.aO O cY O) O<|R.q (q.ld 1 O O bF O) O<|R.s O (s.aW fh [0] _ _ _ O O O wI O O (fun w own hw H=>lH c.Val 1 w own H (by omega)) O) fun z3=>?_
  refine R.u 5 O<|R.nil<|R.reg O<|R.u 1 O<|R.q (q.not O) O<|R.u 1 O<|?_
  cases b
  .
   refine R.u 9 O<|R.nil<|R.av O O<|R.reg O<|R.u 1 O<|R.nil ?_
   have hz:rowP r c=(r,false):=by (exact BZ ‹_› hy1 (by omega) (.inl hC.symm))
   rw [hz]
   exact R.w1 (cQ,cT,dH,cG) mT [] O Tryz.results89 (RV.tmp O) O O O O
  refine R.u 1 O<|R.qg O (q.not O) O<|R.u 2 O<|?_
  rcases Bool.eq_false_or_eq_true (eD c.Val 1) with h11|h11
  .
   rw [h11]
   refine R.qg O (q.aO O cY O) O<|R.qg O (q.ld 2 O O bF O) O<|R.qg O (q.iA O Tryz.underlying9) O<|?_
   by_cases h12:12<c.Val.size
   .
    refine R.qg O (q.eL O O) O<|R.u 1 O<|R.nil<|R.av O O<|R.reg O<|R.u 1 O<|R.nil ?_
    have hz:rowP r c=(r,false):=by (exact BZ ‹_› hy1 (by omega) (.inr (.inr (by omega))))
    rw [hz]
    exact R.w1 (cQ,cT,dH,cG) mT [] O Tryz.results89 (RV.tmp O) O O O O
   refine R.qg O (q.eo O O) O<|R.u 1 O<|R.nil<|R.aB O O ?_
   have ek:=LF (c:=c) hC.symm
   have Wg:=qz (s:=c.Val) (m:=1) ‹_›
   obtain ⟨x2,hx2⟩:∃z,(numsL (c.Key.extract 1 c.Key.size) 1)[0]? = some z:=⟨_,List.getElem?_eq_getElem (by omega)⟩
   obtain ⟨x3,hx3⟩:∃z,(numsL c.Val 1)[0]? = some z:=⟨_,List.getElem?_eq_getElem (by omega)⟩
   refine R.fP (fuel:=20) lR O O mixed O<|D.q (i:=0) O (aD lR [0] O) O (q.mv O) O<|D.q (i:=1) O (aD lR [0] O) O (q.mv O) O<|D.q (i:=2) O (aD lR [0] O) O (q.cb O) O<|D.q (i:=3) O (aD lR [0] O) O (q.aO O cz O) O<|D.q (i:=5) O (aD lR [0] O) O (q.mv O) O<|D.q (i:=6) O (aD lR [0] O) O (q.idx (i:=0) (bC 1 O) O O df O hx2) O<|D.q (i:=7) O (aD lR [0] O) O (q.lw (bC 1 O) hx2 O au O) O<|D.q (i:=8) O (aD lR [0] O) O (q.mv O) O<|D.q (i:=9) O (aD lR [0] O) O (q.idx (i:=0) (bC 0 O) O O df O hx3) O<|D.q (i:=10) O (aD lR [0] O) O (q.lw (bC 0 O) hx3 O au O) O<|D.q (i:=11) O (aD lR [0] O) O (q.aO O cY O) O<|D.q (i:=12) O (aD lR [0] O) O (q.ld 2 O O bF O) O<|D.q (i:=13) O (aD lR [0] O) O (q.Ct (i:=4) O O Tryz.underlying9 O (by omega)) O<|D.q (i:=14) O (aD lR [0] O) O (q.build EA O O) O<|D.two (i:=4) (j:=15) O O ?_ ?_
   .
    refine Do.s (s.c (Qt.a (q.ld 3 O O dD O)) O) (fun _=>(aD lR [0] O)) O fun _=>?_
    refine D.one (i:=15) O<|Do.s (s.bs (l:=([(⟨x2,x3,(c.Val.extract 4 c.Val.size)⟩:aE)]:List aE)) iM ju O O O O O O O) (fun _=>(aD pL [0] O)) O fun b5=>?_
    refine D.one (i:=16) O<|Do.s (s.app 6 _ O O O (bC 0 O) sX (by (simp;omega)) (by (simp;omega)) (fun _=>rfl) O) (fun _=>(aD pL [0] O)) O fun v3=>?_
    refine D.q (i:=17) O (aD pL [0] O) O (q.cb O) O<|D.q (i:=18) O (aD pL [0] O) O (q.aO O cz O) O<|D.one (i:=19) O<|Do.s (s.fS 4 _ O O O (fun w hw=>Sl.cm (hw.row 6 O)) (.inr ⟨dD,rfl⟩) (fun w hw=>(af (Sl.one (hw.row 6 O)) aP)) O O O) (fun _=>(aD pL [0] O)) O fun _=>?_
    refine D.done<|R.reg O<|R.u 1 O<|R.q (q.idx (i:=0) (bC 1 O) O O df O hx3) O<|R.q (q.lw (bC 1 O) hx3 O au O) O<|?_
    by_cases UV:x3=1
    .
     refine R.q (q.fI O O) O<|R.u 13 O<|R.nil ?_
     have hz:rowP r c=((⟨r.ao,(r.Things++([(⟨x2,x3,(c.Val.extract 4 c.Val.size)⟩:aE)])),r.Held,r.Notes,r.ae,r.ah⟩:aC),true):=by (exact DZ ‹_› hy1 (by omega) hC.symm ‹_› (by omega) ‹_› ‹_› (decide_eq_true (by omega)).symm)
     rw [hz]
     exact R.w1 (cQ,v3,dH,cG) rH [] O Tryz.results89 (RV.tmp O) O O O O
    refine R.q (q.e9 O O) O<|R.u 2 O<|R.qg O (q.idx (i:=0) (bC 1 O) O O df O hx3) O<|R.qg O (q.lw (bC 1 O) hx3 O au O) O<|?_
    by_cases UW:x3=2
    .
     refine R.qg O (q.fI O O) O<|R.u 1 O<|R.qg O (q.aO O cY O) O<|R.qg O (q.ld 3 O O bF O) O<|R.qg O (q.iA O Tryz.underlying9) O<|?_
     by_cases UX:c.Val.size=4
     .
      refine R.qg O (q.fI O O) O<|R.u 3 O<|R.nil ?_
      have hz:rowP r c=((⟨r.ao,(r.Things++([(⟨x2,x3,(c.Val.extract 4 c.Val.size)⟩:aE)])),r.Held,r.Notes,r.ae,r.ah⟩:aC),true):=by (exact DZ ‹_› hy1 (by omega) hC.symm ‹_› (by omega) ‹_› ‹_› (decide_eq_true (by omega)).symm)
      rw [hz]
      exact R.w1 (cQ,v3,dH,cG) rH [] O Tryz.results89 (RV.tmp O) O O O O
     refine R.qg O (q.e9 O O) O<|R.u 3 O<|R.nil ?_
     have hz:rowP r c=((⟨r.ao,(r.Things++([(⟨x2,x3,(c.Val.extract 4 c.Val.size)⟩:aE)])),r.Held,r.Notes,r.ae,r.ah⟩:aC),false):=by (exact DZ ‹_› hy1 (by omega) hC.symm ‹_› (by omega) ‹_› ‹_› (decide_eq_false (by omega)).symm)
     rw [hz]
     exact R.w1 (cQ,v3,dH,cG) rH [] O Tryz.results89 (RV.tmp O) O O O O
    refine R.qg O (q.e9 O O) O<|R.u 8 O<|R.nil ?_
    have hz:rowP r c=((⟨r.ao,(r.Things++([(⟨x2,x3,(c.Val.extract 4 c.Val.size)⟩:aE)])),r.Held,r.Notes,r.ae,r.ah⟩:aC),false):=by (exact DZ ‹_› hy1 (by omega) hC.symm ‹_› (by omega) ‹_› ‹_› (decide_eq_false (by omega)).symm)
    rw [hz]
    exact R.w1 (cQ,v3,dH,cG) rH [] O Tryz.results89 (RV.tmp O) O O O O
   refine Do.s (s.bs (l:=([(⟨x2,x3,(c.Val.extract 4 c.Val.size)⟩:aE)]:List aE)) iM ju O O O O O O O) (fun _=>(aD pL [0] O)) O fun b6=>?_
   refine D.one (i:=4) O<|Do.s (s.c (Qt.a (q.ld 4 O O dD O)) O) (fun _=>(aD pL [0] O)) O fun _=>?_
   refine D.one (i:=16) O<|Do.s (s.app 6 _ O O O (bC 0 O) sX (by (simp;omega)) (by (simp;omega)) (fun _=>rfl) O) (fun _=>(aD pL [0] O)) O fun v4=>?_
   refine D.q (i:=17) O (aD pL [0] O) O (q.cb O) O<|D.q (i:=18) O (aD pL [0] O) O (q.aO O cz O) O<|D.one (i:=19) O<|Do.s (s.fS 4 _ O O O (fun w hw=>Sl.cm (hw.row 6 O)) (.inr ⟨dD,rfl⟩) (fun w hw=>(af (Sl.one (hw.row 6 O)) aP)) O O O) (fun _=>(aD pL [0] O)) O fun _=>?_
   refine D.done<|R.reg O<|R.u 1 O<|R.q (q.idx (i:=0) (bC 1 O) O O df O hx3) O<|R.q (q.lw (bC 1 O) hx3 O au O) O<|?_
   by_cases h16:x3=1
   .
    refine R.q (q.fI O O) O<|R.u 13 O<|R.nil ?_
    have hz:rowP r c=((⟨r.ao,(r.Things++([(⟨x2,x3,(c.Val.extract 4 c.Val.size)⟩:aE)])),r.Held,r.Notes,r.ae,r.ah⟩:aC),true):=by (exact DZ ‹_› hy1 (by omega) hC.symm ‹_› (by omega) ‹_› ‹_› (decide_eq_true (by omega)).symm)
    rw [hz]
    exact R.w1 (cQ,v4,dH,cG) rH [] O Tryz.results89 (RV.tmp O) O O O O
   refine R.q (q.e9 O O) O<|R.u 2 O<|R.qg O (q.idx (i:=0) (bC 1 O) O O df O hx3) O<|R.qg O (q.lw (bC 1 O) hx3 O au O) O<|?_
   by_cases UY:x3=2
   .
    refine R.qg O (q.fI O O) O<|R.u 1 O<|R.qg O (q.aO O cY O) O<|R.qg O (q.ld 3 O O bF O) O<|R.qg O (q.iA O Tryz.underlying9) O<|?_
    by_cases h18:c.Val.size=4
    .
     refine R.qg O (q.fI O O) O<|R.u 3 O<|R.nil ?_
     have hz:rowP r c=((⟨r.ao,(r.Things++([(⟨x2,x3,(c.Val.extract 4 c.Val.size)⟩:aE)])),r.Held,r.Notes,r.ae,r.ah⟩:aC),true):=by (exact DZ ‹_› hy1 (by omega) hC.symm ‹_› (by omega) ‹_› ‹_› (decide_eq_true (by omega)).symm)
     rw [hz]
     exact R.w1 (cQ,v4,dH,cG) rH [] O Tryz.results89 (RV.tmp O) O O O O
    refine R.qg O (q.e9 O O) O<|R.u 3 O<|R.nil ?_
    have hz:rowP r c=((⟨r.ao,(r.Things++([(⟨x2,x3,(c.Val.extract 4 c.Val.size)⟩:aE)])),r.Held,r.Notes,r.ae,r.ah⟩:aC),false):=by (exact DZ ‹_› hy1 (by omega) hC.symm ‹_› (by omega) ‹_› ‹_› (decide_eq_false (by omega)).symm)
    rw [hz]
    exact R.w1 (cQ,v4,dH,cG) rH [] O Tryz.results89 (RV.tmp O) O O O O
   refine R.qg O (q.e9 O O) O<|R.u 8 O<|R.nil ?_
   have hz:rowP r c=((⟨r.ao,(r.Things++([(⟨x2,x3,(c.Val.extract 4 c.Val.size)⟩:aE)])),r.Held,r.Notes,r.ae,r.ah⟩:aC),false):=by (exact DZ ‹_› hy1 (by omega) hC.symm ‹_› (by omega) ‹_› ‹_› (decide_eq_false (by omega)).symm)
   rw [hz]
   exact R.w1 (cQ,v4,dH,cG) rH [] O Tryz.results89 (RV.tmp O) O O O O
  rw [h11]
  refine R.u 5 O<|R.nil<|R.av O O<|R.reg O<|R.u 1 O<|R.nil ?_
  have hz:rowP r c=(r,false):=by (exact BZ ‹_› hy1 (by omega) (.inr (.inl ‹_›)))
  rw [hz]
  exact R.w1 (cQ,cT,dH,cG) mT [] O Tryz.results89 (RV.tmp O) O O O O
 refine R.q (q.e9 O O) O<|R.u 1 O<|R.nil<|R.aB O O<|R.reg O<|?_
 by_cases h19:y1.toNat=119
 .
  refine R.q (q.fI O O) O<|R.u 1 O<|R.nil<|R.av O O<|R.reg O<|R.q (q.aO O cY O) O<|R.q (q.ld 1 O O bF O) O<|R.s O (s.aW fh [0] _ _ _ O O O wI O O (fun w own hw H=>lH c.Val 4 w own H (by omega)) O) fun z4=>?_
  refine R.u 5 O<|R.nil<|R.reg O<|R.u 1 O<|R.q (q.not O) O<|R.u 1 O<|?_
  cases b
  .
   refine R.u 9 O<|R.nil<|R.av O O<|R.reg O<|R.u 1 O<|R.nil ?_
   have hz:rowP r c=(r,false):=by (exact B3 ‹_› hy1 (by omega) (.inl hC.symm))
   rw [hz]
   exact R.w1 (cQ,cT,dH,cG) mT [] O Tryz.results89 (RV.tmp O) O O O O
  refine R.u 1 O<|R.qg O (q.not O) O<|R.u 2 O<|?_
  rcases Bool.eq_false_or_eq_true (eD c.Val 4) with h20|h20
  .
   rw [h20]
   refine R.qg O (q.aO O cY O) O<|R.qg O (q.ld 2 O O bF O) O<|R.qg O (q.iA O Tryz.underlying9) O<|?_
   by_cases h21:c.Val.size=16
   .
    refine R.qg O (q.lL O O) O<|R.u 1 O<|R.nil<|R.aB O O ?_
    have ek:=LF (c:=c) hC.symm
    have WB:=qz (s:=c.Val) (m:=4) ‹_›
    obtain ⟨x4,hx4⟩:∃z,(numsL (c.Key.extract 1 c.Key.size) 1)[0]? = some z:=⟨_,List.getElem?_eq_getElem (by omega)⟩
    obtain ⟨x5,hx5⟩:∃z,(numsL c.Val 4)[0]? = some z:=⟨_,List.getElem?_eq_getElem (by omega)⟩
    obtain ⟨x6,hx6⟩:∃z,(numsL c.Val 4)[1]? = some z:=⟨_,List.getElem?_eq_getElem (by omega)⟩
    obtain ⟨x7,hx7⟩:∃z,(numsL c.Val 4)[2]? = some z:=⟨_,List.getElem?_eq_getElem (by omega)⟩
    obtain ⟨x8,Vd⟩:∃z,(numsL c.Val 4)[3]? = some z:=⟨_,List.getElem?_eq_getElem (by omega)⟩
    refine R.fP (fuel:=26) mL O O mixed O<|D.q (i:=0) O (aD mL [0] O) O (q.mv O) O<|D.q (i:=1) O (aD mL [0] O) O (q.mv O) O<|D.q (i:=2) O (aD mL [0] O) O (q.cb O) O<|D.q (i:=3) O (aD mL [0] O) O (q.aO O bg O) O<|D.q (i:=5) O (aD mL [0] O) O (q.mv O) O<|D.q (i:=6) O (aD mL [0] O) O (q.idx (i:=0) (bC 1 O) O O df O hx4) O<|D.q (i:=7) O (aD mL [0] O) O (q.lw (bC 1 O) hx4 O au O) O<|D.q (i:=8) O (aD mL [0] O) O (q.mv O) O<|D.q (i:=9) O (aD mL [0] O) O (q.idx (i:=0) (bC 0 O) O O df O hx5) O<|D.q (i:=10) O (aD mL [0] O) O (q.lw (bC 0 O) hx5 O au O) O<|D.q (i:=11) O (aD mL [0] O) O (q.mv O) O<|D.q (i:=12) O (aD mL [0] O) O (q.idx (i:=1) (bC 0 O) O O df O hx6) O<|D.q (i:=13) O (aD mL [0] O) O (q.lw (bC 0 O) hx6 O au O) O<|D.q (i:=14) O (aD mL [0] O) O (q.mv O) O<|D.q (i:=15) O (aD mL [0] O) O (q.idx (i:=2) (bC 0 O) O O df O hx7) O<|D.q (i:=16) O (aD mL [0] O) O (q.lw (bC 0 O) hx7 O au O) O<|D.q (i:=17) O (aD mL [0] O) O (q.mv O) O<|D.q (i:=18) O (aD mL [0] O) O (q.idx (i:=3) (bC 0 O) O O df O Vd) O<|D.q (i:=19) O (aD mL [0] O) O (q.lw (bC 0 O) Vd O au O) O<|D.q (i:=20) O (aD mL [0] O) O (q.build iY O O) O<|D.two (i:=4) (j:=21) O O ?_ ?_
    .
     refine Do.s (s.c (Qt.a (q.ld 3 O O bT O)) O) (fun _=>(aD mL [0] O)) O fun _=>?_
     refine D.one (i:=21) O<|Do.s (s.bs (l:=([(⟨x4,x5,x6,x7,x8⟩:ak)]:List ak)) dK bQ O O O O O O O) (fun _=>(aD pN [0] O)) O fun b7=>?_
     refine D.one (i:=22) O<|Do.s (s.app 5 _ O O O (bC 0 O) ln (by (simp;omega)) (by (simp;omega)) (fun _=>rfl) O) (fun _=>(aD pN [0] O)) O fun v5=>?_
     refine D.q (i:=23) O (aD pN [0] O) O (q.cb O) O<|D.q (i:=24) O (aD pN [0] O) O (q.aO O bg O) O<|D.one (i:=25) O<|Do.s (s.fS 4 _ O O O (fun w hw=>Sl.cm (hw.row 5 O)) (.inr ⟨bT,rfl⟩) (fun w hw=>(af (Sl.one (hw.row 5 O)) aP)) O O O) (fun _=>(aD pN [0] O)) O fun _=>?_
     refine D.done<|R.reg O<|R.u 1 O<|R.nil ?_
     have hz:rowP r c=((⟨(r.ao++([(⟨x4,x5,x6,x7,x8⟩:ak)])),r.Things,r.Held,r.Notes,r.ae,r.ah⟩:aC),true):=by (exact Tk ‹_› hy1 (by omega) hC.symm ‹_› (by omega) ‹_› ‹_› ‹_› ‹_› ‹_›)
     rw [hz]
     exact R.w1 (v5,cT,dH,cG) rH [] O Tryz.results89 (RV.tmp O) O O O O
    refine Do.s (s.bs (l:=([(⟨x4,x5,x6,x7,x8⟩:ak)]:List ak)) dK bQ O O O O O O O) (fun _=>(aD pN [0] O)) O fun b8=>?_
    refine D.one (i:=4) O<|Do.s (s.c (Qt.a (q.ld 4 O O bT O)) O) (fun _=>(aD pN [0] O)) O fun _=>?_
    refine D.one (i:=22) O<|Do.s (s.app 5 _ O O O (bC 0 O) ln (by (simp;omega)) (by (simp;omega)) (fun _=>rfl) O) (fun _=>(aD pN [0] O)) O fun v6=>?_
    refine D.q (i:=23) O (aD pN [0] O) O (q.cb O) O<|D.q (i:=24) O (aD pN [0] O) O (q.aO O bg O) O<|D.one (i:=25) O<|Do.s (s.fS 4 _ O O O (fun w hw=>Sl.cm (hw.row 5 O)) (.inr ⟨bT,rfl⟩) (fun w hw=>(af (Sl.one (hw.row 5 O)) aP)) O O O) (fun _=>(aD pN [0] O)) O fun _=>?_
    refine D.done<|R.reg O<|R.u 1 O<|R.nil ?_
    have hz:rowP r c=((⟨(r.ao++([(⟨x4,x5,x6,x7,x8⟩:ak)])),r.Things,r.Held,r.Notes,r.ae,r.ah⟩:aC),true):=by (exact Tk ‹_› hy1 (by omega) hC.symm ‹_› (by omega) ‹_› ‹_› ‹_› ‹_› ‹_›)
    rw [hz]
    exact R.w1 (v6,cT,dH,cG) rH [] O Tryz.results89 (RV.tmp O) O O O O
   refine R.qg O (q.lK O O) O<|R.u 1 O<|R.nil<|R.av O O<|R.reg O<|R.u 1 O<|R.nil ?_
   have hz:rowP r c=(r,false):=by (exact B3 ‹_› hy1 (by omega) (.inr (.inr (by omega))))
   rw [hz]
   exact R.w1 (cQ,cT,dH,cG) mT [] O Tryz.results89 (RV.tmp O) O O O O
  rw [h20]
  refine R.u 5 O<|R.nil<|R.av O O<|R.reg O<|R.u 1 O<|R.nil ?_
  have hz:rowP r c=(r,false):=by (exact B3 ‹_› hy1 (by omega) (.inr (.inl ‹_›)))
  rw [hz]
  exact R.w1 (cQ,cT,dH,cG) mT [] O Tryz.results89 (RV.tmp O) O O O O
 refine R.q (q.e9 O O) O<|R.u 1 O<|R.nil<|R.aB O O<|R.reg O<|R.q (q.aO O cY O) O<|R.q (q.ld 1 O O bF O) O<|R.s O (s.aW fh [0] _ _ _ O O O wI O O (fun w own hw H=>lH c.Val 2 w own H (by omega)) O) fun z5=>?_
 refine R.u 5 O<|R.nil<|R.reg O<|R.q (q.aO O bI O) O<|R.q (q.ld 2 O O bF O) O<|?_
 by_cases h22:c.Key=⟨#[120]⟩
 .
  refine R.q (q.uG O O h22) O<|R.u 2 O<|R.qg O (q.not O) O<|R.u 2 O<|?_
  rcases Bool.eq_false_or_eq_true (eD c.Val 2) with h23|h23
  .
   rw [h23]
   refine R.qg O (q.aO O cY O) O<|R.qg O (q.ld 2 O O bF O) O<|R.qg O (q.iA O Tryz.underlying9) O<|?_
   by_cases WC:c.Val.size=8
   .
    refine R.qg O (q.lL O O) O<|R.u 1 O<|R.nil<|R.aB O O ?_
    have WE:=qz (s:=c.Val) (m:=2) ‹_›
    obtain ⟨x9,Ve⟩:∃z,(numsL c.Val 2)[0]? = some z:=⟨_,List.getElem?_eq_getElem (by omega)⟩
    obtain ⟨x10,Tm⟩:∃z,(numsL c.Val 2)[1]? = some z:=⟨_,List.getElem?_eq_getElem (by omega)⟩
    refine R.fP (fuel:=14) mj O O mixed O<|D.q (i:=0) O (aD mj [0] O) O (q.mv O) O<|D.q (i:=1) O (aD mj [0] O) O (q.mv O) O<|D.q (i:=2) O (aD mj [0] O) O (q.mv O) O<|D.q (i:=3) O (aD mj [0] O) O (q.idx (i:=0) (bC 0 O) O O df O Ve) O<|D.q (i:=4) O (aD mj [0] O) O (q.lw (bC 0 O) Ve O au O) O<|D.q (i:=5) O (aD mj [0] O) O (q.mv O) O<|D.q (i:=6) O (aD mj [0] O) O (q.idx (i:=1) (bC 0 O) O O df O Tm) O<|D.q (i:=7) O (aD mj [0] O) O (q.lw (bC 0 O) Tm O au O) O<|D.q (i:=8) O (aD mj [0] O) O (q.cb O) O<|D.q (i:=9) O (aD mj [0] O) O (q.aO O cL O) O<|D.one (i:=10) O<|Do.s (s.st 3 _ O O O O (.inr ⟨au,rfl⟩) O O O O) (fun _=>(aD mj [0] O)) O fun _=>?_
    refine D.q (i:=11) O (aD mj [0] O) O (q.cb O) O<|D.q (i:=12) O (aD mj [0] O) O (q.aO O dP O) O<|D.one (i:=13) O<|Do.s (s.st 3 _ O O O O (.inr ⟨au,rfl⟩) O O O O) (fun _=>(aD mj [0] O)) O fun _=>?_
    refine D.done<|R.reg O<|R.u 1 O<|R.nil ?_
    have hz:rowP r c=((⟨r.ao,r.Things,r.Held,r.Notes,x9,x10⟩:aC),true):=by (exact UE ‹_› hy1 (by omega) (by omega) (by omega) ‹_› ‹_› (by omega) ‹_› ‹_›)
    rw [hz]
    exact R.w1 (cQ,cT,dH,cG) mT [] O Tryz.results89 (RV.tmp O) O O O O
   refine R.qg O (q.lK O O) O<|R.u 1 O<|R.nil<|R.av O O<|R.reg O<|R.u 1 O<|R.nil ?_
   have hz:rowP r c=(r,false):=by (exact B5 ‹_› hy1 (by omega) (by omega) (by omega) (.inr (.inr (by omega))))
   rw [hz]
   exact R.w1 (cQ,cT,dH,cG) mT [] O Tryz.results89 (RV.tmp O) O O O O
  rw [h23]
  refine R.u 5 O<|R.nil<|R.av O O<|R.reg O<|R.u 1 O<|R.nil ?_
  have hz:rowP r c=(r,false):=by (exact B5 ‹_› hy1 (by omega) (by omega) (by omega) (.inr (.inl ‹_›)))
  rw [hz]
  exact R.w1 (cQ,cT,dH,cG) mT [] O Tryz.results89 (RV.tmp O) O O O O
 refine R.q (q.zd O O h22) O<|R.u 10 O<|R.nil<|R.av O O<|R.reg O<|R.u 1 O<|R.nil ?_
 have hz:rowP r c=(r,false):=by (exact B5 ‹_› hy1 (by omega) (by omega) (by omega) (.inl ‹_›))
 rw [hz]
 exact R.w1 (cQ,cT,dH,cG) mT [] O Tryz.results89 (RV.tmp O) O O O O
end
theorem hk0 (h:Held):∃l,bl (hrow h).Key=104::l:=⟨_,by show bl (kH++gS h.Place.aA++gS h.Place.Slot)=_;rw [iN,iN];rfl⟩
def Wh (t:aE):Bool:=decide ((t.Kind=1∨t.Kind=2/\t.Data.size=0)/\t.Data.size<=8)
def xr (a b:Int):Change:=⟨kX,bN a++bN b,false⟩
structure Kinds (l:List Change)(hs:List Held)(ts:List aE)(ws:List ak)(xs:List Change):Prop where
  eq:l=hs.map hrow++ts.map l5++ws.map oo++xs
  h:∀x∈hs,aZ x.Place=0
  t:∀x∈ts,Wh x=true
  x:(xs=[] /\ ∀r:aC,l.foldl tJ r=⟨r.ao++ws,r.Things++ts,r.Held++hs,r.Notes,r.ae,r.ah⟩) ∨ ∃a b,xs=[xr a b] /\ ∀r:aC,l.foldl tJ r=⟨r.ao++ws,r.Things++ts,r.Held++hs,r.Notes,a,b⟩
theorem yu {z:aC}(h:Inv z)(hn:z.Notes=[]):bj z=z:=by
 obtain ⟨a,b,c,d,e,f⟩:=z
 simp only at hn;subst hn
 exact yi h
end Go.Proofs.YtkbhcbipadkcaaaGreatDoor
