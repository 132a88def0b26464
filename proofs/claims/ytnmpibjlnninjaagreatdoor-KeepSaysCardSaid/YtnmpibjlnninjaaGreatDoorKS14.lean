import Derived.Test.YtnmpibjlnninjaaGreatDoorKS13
namespace Go.Proofs.YtnmpibjlnninjaaGreatDoor
set_option linter.unusedVariables false
set_option linter.unusedSimpArgs false
set_option maxRecDepth 100000
set_option maxHeartbeats 90000000
open Go Go.RowKit
attribute [local irreducible] Run Rg Rq Qt Qa Stp Dg Do Dm cD
theorem oF (bL:Value)(l:List Held)(w:World)(own:List Nat)(H:HN w own [] [aj.ls bL l])(hl:l.length<=1000000):RC Tryz.prog 107 #[bL] H (fun z:Value=>z) (fun z=>[aj.row 124 z l]) (fun _=>[]):=by
 have AP:=H.bD 0 rfl
 refine R.bE [(0,bL)] Tryz.func107 O O O O H<|U ?_
 rcases Bool.eq_false_or_eq_true (qK bL) with h1|h1
 .
  refine R.q (q.Kv (congrArg Value.bool h1) (q.qm (cb 0 O) O O Tryz.underlying45)) O<|U ?_
  refine R.row0 (α:=Held) 124 ?_
  have hz:l=[]:=by (exact Sl.qK (H.bz 0 rfl) af)
  rw [hz]
  exact R.w1 (nS) [0,1] [] O Tryz.results107 (RV.tmp O) O O O O
 refine R.q (q.Kv (congrArg Value.bool h1) (q.qm (cb 0 O) O O Tryz.underlying45)) O<|U ?_
 refine R.s O (s.bs (l:=([]:List Held)) bJ cK O O O O O O O) fun b1=>U ?_
 refine R.s O (s.app 0 _ O O O (cb 0 O) eH az az (fun _=>rfl) O) fun v1=>U ?_
 have hz:l=(([])++l):=by (rfl)
 rw [hz]
 exact R.w1 v1 [0,1] [] O Tryz.results107 (RV.tmp O) O O O O
theorem zQ (bL:Value)(l:List Held)(i:Nat)(j:Nat)(w:World)(own:List Nat)(H:HN w own [aj.row 124 bL l] [])(hij:i<=j/\j<=l.length):RC Tryz.prog 209 #[bL,iV (i:Int),iV (j:Int)] H (fun z:Value=>z) (fun z=>[aj.row 124 z (l.take i++l.drop j)]) (fun _=>[]):=by
 have Li:=H.cap 0 rfl;have AP:=H.dr 0 rfl
 refine R.bE [(0,bL),(1,iV (i:Int)),(2,iV (j:Int))] Tryz.func209 O O O O H<|U ?_
 refine R.q (q.G8 (i:=i) (j:=j) (q':=l.length) (bH 0 O) O O O O bJ O O O ae ae ae) O<|U ?_
 by_cases h1:i=j
 .
  refine U ?_
  have hz:l.take i++l.drop j=l:=by (exact yx ae)
  rw [hz]
  exact R.w1 bL [0,1] [] O Tryz.results209 (RV.tmp O) O O O O
 refine U ?_
 refine R.eA (fuel:=8) [1] O O mixed O<|D.l [0,1,3,4] [1] [] O<|U ?_
 refine D.two (i:=2) (j:=5) O O ?_ ?_
 .
  refine Do.s (s.c (Qt.a (q.ku (i:=i) (bH 0 O) O O Tryz.underlying45 xW O ae)) O) (fun _=>(aN [1] [] O)) O fun _=>?_
  refine D.one (i:=5) O<|Do.s (s.c (Qt.a (q.dL (i:=j) (bH 0 O) O O bJ O ae)) O) (fun _=>(aN [1] [] O)) O fun _=>?_
  refine D.one (i:=6) O<|Do.s (s.vo (a:=i) 0 _ O O O (fun w hw=>Sl.from (hw.row 0 O) ae) eH ae az O O) (fun _=>(aN [1] [] O)) O fun _=>?_
  refine D.l [7] [1] [] O<|U ?_
  refine D.done<|U ?_
  refine R.q (q.sl2 (i:=(l.take i++(l.drop j)).length) (j:=l.length) (bH 0 O) O O O bJ O O az (by (simp [iC];omega))) O<|R.s O (s.BG (lo:=(l.take i++(l.drop j)).length) (hi:=l.length) (z0:=(⟨(⟨0,0⟩:Place),0⟩:Held)) 0 O O bJ cK O ae az (by (simp [iC];omega))) fun _=>U ?_
  have hz:l.take i++l.drop j=(l.take i++(l.drop j)):=by (rfl)
  rw [hz]
  exact R.w1 (ku bL (i+(l.drop j).length)) [0,1] [] O Tryz.results209 (RV.tmp O) O O O O
 refine Do.s (s.c (Qt.a (q.dL (i:=j) (bH 0 O) O O bJ O ae)) O) (fun _=>(aN [1] [] O)) O fun _=>?_
 refine D.one (i:=2) O<|Do.s (s.c (Qt.a (q.ku (i:=i) (bH 0 O) O O Tryz.underlying45 xW O ae)) O) (fun _=>(aN [1] [] O)) O fun _=>?_
 refine D.one (i:=6) O<|Do.s (s.vo (a:=i) 0 _ O O O (fun w hw=>Sl.from (hw.row 0 O) ae) eH ae az O O) (fun _=>(aN [1] [] O)) O fun _=>?_
 refine D.l [7] [1] [] O<|U ?_
 refine D.done<|U ?_
 refine R.q (q.sl2 (i:=(l.take i++(l.drop j)).length) (j:=l.length) (bH 0 O) O O O bJ O O az (by (simp [iC];omega))) O<|R.s O (s.BG (lo:=(l.take i++(l.drop j)).length) (hi:=l.length) (z0:=(⟨(⟨0,0⟩:Place),0⟩:Held)) 0 O O bJ cK O ae az (by (simp [iC];omega))) fun _=>U ?_
 have hz:l.take i++l.drop j=(l.take i++(l.drop j)):=by (rfl)
 rw [hz]
 exact R.w1 (ku bL (i+(l.drop j).length)) [0,1] [] O Tryz.results209 (RV.tmp O) O O O O
theorem zR (bL:Value)(l:List Held)(i:Nat)(UF:Value)(u:List Held)(w:World)(own:List Nat)(H:HN w own [aj.row 124 bL l,aj.row 124 UF u] [])(hi:i<=l.length)(hu:u.length=1)(hl:l.length<=1000000):RC Tryz.prog 210 #[bL,iV (i:Int),UF] H (fun z:Value=>z) (fun z=>[aj.row 124 z (l.take i++u++l.drop i)]) (fun _=>[]):=by
 have Li:=H.cap 0 rfl;have AP:=H.dr 0 rfl
 have c_u:=H.cap 1 rfl;have m_u:=H.dr 1 rfl
 refine R.bE [(0,bL),(1,iV (i:Int)),(2,UF)] Tryz.func210 O O O O H<|U ?_
 refine R.q (q.dL (i:=i) (bH 0 O) O O bJ O ae) O<|U ?_
 by_cases h1:i=l.length
 .
  refine U ?_
  refine R.s O (s.app 0 _ O O O (bH 1 O) eH ae ae (fun _=>rfl) O) fun v1=>U ?_
  have hz:l.take i++u++l.drop i=(l++u):=by (exact Jl ae)
  rw [hz]
  exact R.w1 v1 [0,2] [] O Tryz.results210 (RV.tmp O) O O O O
 refine U ?_
 refine R.q (q.aL (r:=((l.length+u.length:Nat):Int)) O O) O<|U ?_
 refine R.q (q.cap (bH 0 O) O Tryz.underlying45) O ?_
 by_cases h2:(mT bL)<(l.length+u.length)
 .
  refine U ?_
  refine R.q (q.ku (i:=i) (bH 0 O) O O Tryz.underlying45 xW O ae) O<|U ?_
  refine R.q (q.aL (r:=((l.length+u.length:Nat):Int)) O O) O<|U ?_
  refine R.q (q.kL (r:=(((l.length+u.length)-i:Nat):Int)) O O) O<|R.s O (s.Jj (o:=i) (m:=((l.length+u.length)-i)) (z0:=(⟨(⟨0,0⟩:Place),0⟩:Held)) 0 O O O O eH Tryz.underlying3 cK O ae ae ae ae ae O) fun v2=>U ?_
  refine R.q (q.dL (i:=i) (bH 0 O) O O bJ O az) O<|U ?_
  refine R.s O (s.wR (o:=i) 0 _ O (bH 2 O) O O bJ az O O) fun _=>U ?_
  refine R.eA (fuel:=9) [1,2,3] O O mixed O<|D.l [0,1,2,3,5,6,7] [1,2,3] [] O<|U ?_
  refine Dm.yy O O (q.aL (r:=((i+u.length:Nat):Int)) O O) O<|U ?_
  refine Dm.yy O O (q.dL (i:=i) (bH 0 O) O O bJ O ae) O<|U ?_
  refine D.one (i:=4) O<|Do.s (s.c (Qt.a (q.dL (i:=(i+u.length)) (bH 0 O) O O bJ O az)) O) (fun _=>(aN [1,2,3] [] O)) O fun _=>?_
  refine D.one (i:=8) O<|Do.s (s.wR (o:=(i+u.length)) 0 _ O (fun w hw=>Sl.from (hw.row 1 O) ae) O O bJ az O O) (fun _=>(aN [1,2,3] [] O)) O fun _=>?_
  refine D.done<|U ?_
  have hz:l.take i++u++l.drop i=(((l.take i++List.replicate ((l.length+u.length)-i) (⟨(⟨0,0⟩:Place),0⟩:Held)).take i++u++(l.take i++List.replicate ((l.length+u.length)-i) (⟨(⟨0,0⟩:Place),0⟩:Held)).drop (i+u.length)).take (i+u.length)++(l.drop i)++((l.take i++List.replicate ((l.length+u.length)-i) (⟨(⟨0,0⟩:Place),0⟩:Held)).take i++u++(l.take i++List.replicate ((l.length+u.length)-i) (⟨(⟨0,0⟩:Place),0⟩:Held)).drop (i+u.length)).drop ((i+u.length)+(l.drop i).length)):=by (exact ER hu ae rfl)
  rw [hz]
  exact R.w1 v2 [0,3] [] O Tryz.results210 (RV.tmp O) O O O O
 refine U ?_
 refine R.q (q.aL (r:=((l.length+u.length:Nat):Int)) O O) O<|R.q (q.Wb (i:=(l.length+u.length)) (bH 0 O) O O bJ O ae) O<|U ?_
 refine R.q (q.aL (r:=((i+u.length:Nat):Int)) O O) O<|R.q (q.oD (i:=(i+u.length)) (bH 0 O) O O bJ O ae ae) O<|R.q (q.ZQ (i:=1) (j:=0) (tR:=4) Tryz.func253 O O ai ai bJ O O aD ae ae O O O O) O<|U ?_
 refine R.eA (fuel:=9) [1,2] O O mixed O<|D.l [0,1,2,3,5,6] [1,2] [] O<|U ?_
 refine Dm.yy O O (q.aL (r:=((i+u.length:Nat):Int)) O O) O<|U ?_
 refine D.two (i:=4) (j:=7) O O ?_ ?_
 .
  refine Do.s (s.c (Qt.a (q.oD (i:=(i+u.length)) (bH 0 O) O O bJ O ae ae)) O) (fun _=>(aN [1,2] [] O)) O fun _=>?_
  refine D.one (i:=7) O<|Do.s (s.c (Qt.a (q.oD (i:=i) (bH 0 O) O O bJ O ae ae)) O) (fun _=>(aN [1,2] [] O)) O fun _=>?_
  refine D.one (i:=8) O<|Do.s (s.CS (o:=i) 0 _ O ae ae ae ae O O bJ O O) (fun _=>(aN [1,2] [] O)) O fun _=>?_
  refine D.done<|U ?_
  refine R.q (q.dL (i:=i) (bH 0 O) O O bJ O az) O<|U ?_
  refine R.s O (s.wR (o:=i) 0 _ O (bH 1 O) O O bJ az O O) fun _=>U ?_
  have hz:l.take i++u++l.drop i=((l.take (i+1)++l.drop i).take i++u++(l.take (i+1)++l.drop i).drop (i+u.length)):=by (exact CY hu ae)
  rw [hz]
  exact R.w1 (ku bL (l.length+u.length)) [0,2] [] O Tryz.results210 (RV.tmp O) O O O O
 refine Do.s (s.c (Qt.a (q.oD (i:=i) (bH 0 O) O O bJ O ae ae)) O) (fun _=>(aN [1,2] [] O)) O fun _=>?_
 refine D.one (i:=4) O<|Do.s (s.c (Qt.a (q.oD (i:=(i+u.length)) (bH 0 O) O O bJ O ae ae)) O) (fun _=>(aN [1,2] [] O)) O fun _=>?_
 refine D.one (i:=8) O<|Do.s (s.CS (o:=i) 0 _ O ae ae ae ae O O bJ O O) (fun _=>(aN [1,2] [] O)) O fun _=>?_
 refine D.done<|U ?_
 refine R.q (q.dL (i:=i) (bH 0 O) O O bJ O az) O<|U ?_
 refine R.s O (s.wR (o:=i) 0 _ O (bH 1 O) O O bJ az O O) fun _=>U ?_
 have hz:l.take i++u++l.drop i=((l.take (i+1)++l.drop i).take i++u++(l.take (i+1)++l.drop i).drop (i+u.length)):=by (exact CY hu ae)
 rw [hz]
 exact R.w1 (ku bL (l.length+u.length)) [0,2] [] O Tryz.results210 (RV.tmp O) O O O O
theorem Ct (x:Int)(w:World):Calls Tryz.prog 306 #[iV x] w fun e w'=>e = .returned (.bool false)/\Ext w w':=by
 refine R.enter [] [(0,iV x)] Tryz.func306 O O O O<|U ?_
 exact R.rv O Tryz.results306 O (rB ck)
theorem xg (x:Int)(y:Int)(w:World):Calls Tryz.prog 288 #[iV x,iV y] w fun e w'=>e = .returned (iV (sD x y))/\Ext w w':=by
 refine R.enter [] [(0,iV x),(1,iV y)] Tryz.func288 O O O O<|U ?_
 refine R.c (q.call N7 O O (fun w hw=>(Ct x w ))) O<|U ?_
 refine R.c (q.call N7 O O (fun w hw=>(Ct y w ))) O<|U ?_
 by_cases h1:x<y
 .
  refine U ?_
  exact R.rv O Tryz.results288 O (rI (by (unfold sD;rw [if_pos ae])))
 refine U ?_
 by_cases h2:y<x
 .
  refine U ?_
  exact R.rv O Tryz.results288 O (rI (by (unfold sD;rw [if_neg ae,if_pos ae])))
 refine U ?_
 exact R.rv O Tryz.results288 O (rI (by (unfold sD;rw [if_neg ae,if_neg ae])))
theorem Lj (bL:Value)(l:List Int)(w:World)(dK:Sl w bL l):Calls Tryz.prog 287 #[bL] w fun e w'=>e = .returned (iV (Mw l))/\Ext w w':=by
 have wk:=dK.eV
 refine R.enter [] [(0,bL)] Tryz.func287 O O O O<|U ?_
 refine R.loop (fun k:Nat=>[(3,iV 0),(6,bL),(7,iV (l.length:Int)),(8,iV (k:Int))]) (fun k:Nat=>[]) (fun k:Nat=>[]) (fun k:Nat=>Mw l=Mw (l.drop k)) (fun k:Nat=>l.length-k) 0 O ck (sF O) (eI [] [] O) ?_
 rintro k HA
 refine U ?_
 by_cases h1:k<l.length
 .
  refine U ?_
  obtain ⟨x1,hx1⟩:=gE l k
  refine R.q (q.idx (i:=k) (fun _=>Wd.old dK) O O dD O hx1) O<|R.q (q.gh (fun _=>Wd.old dK) hx1 O bg O) O<|U ?_
  by_cases h2:x1=0
  .
   refine U ?_
   refine R.q (q.aL (r:=((k+1:Nat):Int)) O O) O<|U ?_
   refine R.back (k+1) O (by (rw [HA];exact Mx hx1 ae)) ae (sF O) (eI [] [] O)
  refine U ?_
  exact R.rv O Tryz.results287 O (rI (by (rw [HA];exact (P7 hx1 ae).symm)))
 refine U ?_
 exact R.rv O Tryz.results287 O (rI (by (rw [HA,List.drop_of_length_le ae];rfl)))
theorem D4 (a:Place)(b:Place)(w:World):Calls Tryz.prog 252 #[.agg #[iV a.ay,iV a.Slot],.agg #[iV b.ay,iV b.Slot]] w fun e w'=>e = .returned (iV (sE a b))/\Ext w w':=by
 refine R.enter [] [(0,.agg #[iV a.ay,iV a.Slot]),(1,.agg #[iV b.ay,iV b.Slot])] Tryz.func252 O O O O<|U ?_
 refine R.s O (s.box O O O) fun b1=>?_
 refine R.s O (s.box O O O) fun b2=>U ?_
 refine R.eA (fuel:=13) [0,1] O O mixed O<|D.l [0,1,2,3,5,6,7,8] [0,1] [] O<|U ?_
 refine D.one (i:=4) O<|Do.s (s.c (q.call N6 O O (fun w hw=>(xg a.ay b.ay w ))) O) (fun _=>(aN [0,1] [] O)) O fun _=>?_
 refine D.one (i:=9) O<|Do.s (s.c (q.call N6 O O (fun w hw=>(xg a.Slot b.Slot w ))) O) (fun _=>(aN [0,1] [] O)) O fun _=>?_
 refine D.one (i:=10) O<|Do.s (s.bs (l:=([sD a.ay b.ay,sD a.Slot b.Slot]:List Int)) dD kC O O O O O O O) (fun _=>(aN [1,2] [] O)) O fun b3=>?_
 refine D.one (i:=11) O<|Do.s (s.c (q.call UD O O (fun w hw=>(Lj _ ([sD a.ay b.ay,sD a.Slot b.Slot]) w (hw.row 0 O) ))) O) (fun _=>(aN [1,2] [] O)) O fun _=>?_
 refine D.l [12] [1,2] [] O<|U ?_
 exact D.done<|R.rv O Tryz.results252 O (rI (by (exact P8 a b)))
theorem D5 (h:Held)(pl:Place)(w:World):Calls Tryz.prog 251 #[.agg #[iV h.Place.ay,iV h.Place.Slot,iV h.ap],.agg #[iV pl.ay,iV pl.Slot]] w fun e w'=>e = .returned (iV (sE h.Place pl))/\Ext w w':=by
 refine R.enter [] [(0,.agg #[iV h.Place.ay,iV h.Place.Slot,iV h.ap]),(1,.agg #[iV pl.ay,iV pl.Slot])] Tryz.func251 O O O O<|U ?_
 refine R.s O (s.box O O O) fun b1=>?_
 refine R.s O (s.box O O O) fun b2=>U ?_
 refine R.c (q.call UC O O (fun w hw=>(D4 h.Place pl w ))) O<|U ?_
 exact R.rv O Tryz.results251 O (rI ck)
theorem xA (bL:Value)(l:List Held)(t:Place)(c:Held->Place->Int)(Oe:Nat)(QL:List Value)(IA:dw Oe)(w:World)(dK:Sl w bL l)(UG:∀W (x1:Held) (x2:Place),Ext w W->Calls Tryz.prog Oe ([x1.val,x2.val]++QL).toArray W fun e w'=>e = .returned (iV (c x1 x2))/\Ext W w')(hl:l.length<=1000000):Calls Tryz.prog 250 #[bL,.agg #[iV t.ay,iV t.Slot],.func (.func Oe) #[] QL.toArray] w fun e w'=>e = .returned (.tuple #[iV (jF (fun x=>c x t) l:Int),.bool (qn (fun x=>c x t) l)])/\Ext w w':=by
 have wk:=dK.eV
 refine R.enter [] [(0,bL),(1,.agg #[iV t.ay,iV t.Slot]),(2,.func (.func Oe) #[] QL.toArray)] Tryz.func250 O O O O<|U ?_
 refine R.s O (s.box O O O) fun b1=>U ?_
 refine R.loop (fun g_:Nat×Nat=>[(0,bL),(2,.func (.func Oe) #[] QL.toArray),(4,.pointer (some ⟨b1,0,none⟩)),(8,iV (l.length:Int)),(9,iV (g_.1:Int)),(10,iV (g_.2:Int))]) (fun g_=>[aj.box b1 (jO t) 32]) (fun g_=>[]) (fun g_=>g_.1<=g_.2/\g_.2<=l.length/\bsGo (fun x=>c x t) l g_.1 g_.2=jF (fun x=>c x t) l) (fun g_=>g_.2-g_.1) (0,l.length) O (by exact ⟨Nat.zero_le _,Nat.le_refl _,rfl⟩) (sF O) (eI [0] [] O) ?_
 rintro ⟨lo,hi⟩ ⟨UH,h2_,HA⟩
 dsimp only at *
 refine U ?_
 by_cases h1:lo<hi
 .
  refine U ?_
  refine R.q (q.aL (r:=((lo+hi:Nat):Int)) O O) O<|R.q (q.nG (r:=(((lo+hi):Nat):Int)) O (by rw [Tryz.underlying3];rfl) Tryz.underlying183 (CU ae)) O<|R.q (q.shr (r:=((((lo+hi) / 2):Nat):Int)) O O aD (P1 aD)) O<|R.q (q.nG (r:=((((lo+hi) / 2):Nat):Int)) O (by rw [Tryz.underlying183];rfl) Tryz.underlying3 (wr ae)) O<|U ?_
  obtain ⟨x1,hx1⟩:=gE l ((lo+hi) / 2)
  by_cases h2:(c x1 t)<0
  .
   refine R.dA O mixed ai<|U ?_
   refine Q.q (q.idx (i:=((lo+hi) / 2)) (fun _=>Wd.old dK) O O bJ O hx1) O<|Q.q (q.dj (ds:=fZ x1) (fun _=>Wd.old dK) hx1 O du O) O<|U ?_
   refine Q.c (q.call IA O O (fun w hw=>UG w x1 t hw.ext)) O<|U ?_
   refine R.q (q.aL (r:=((((lo+hi) / 2)+1:Nat):Int)) O O) O<|U ?_
   refine R.back ((((lo+hi) / 2)+1),hi) O (by (exact ⟨ae,ae,(CZ ae hx1 ae).symm.trans HA⟩)) aO (sF O) (eI [0] [] O)
  refine R.dA O mixed ai<|U ?_
  refine Q.q (q.idx (i:=((lo+hi) / 2)) (fun _=>Wd.old dK) O O bJ O hx1) O<|Q.q (q.dj (ds:=fZ x1) (fun _=>Wd.old dK) hx1 O du O) O<|U ?_
  refine Q.c (q.call IA O O (fun w hw=>UG w x1 t hw.ext)) O<|U ?_
  refine R.back (lo,((lo+hi) / 2)) O (by (exact ⟨ae,ae,(C0 ae hx1 ae).symm.trans HA⟩)) aO (sF O) (eI [0] [] O)
 refine U ?_
 by_cases h3:lo<l.length
 .
  obtain ⟨x2,hx2⟩:=gE l lo
  by_cases h4:(c x2 t)=0
  .
   refine R.dA O mixed ai<|U ?_
   refine Q.qg O (q.idx (i:=lo) (fun _=>Wd.old dK) O O bJ O hx2) O<|Q.qg O (q.dj (ds:=fZ x2) (fun _=>Wd.old dK) hx2 O du O) O<|U ?_
   refine Q.cg O (q.call IA O O (fun w hw=>UG w x2 t hw.ext)) O<|U ?_
   exact R.Jg O Tryz.results250 O O (rI (by (exact congrArg (fun n:Nat=>(n:Int)) ((hX ae).symm.trans HA)))) (rB (by (have e:=(hX ae).symm.trans HA;unfold qn;rw [<- e];(rw [hx2];exact (decide_eq_true af).symm))))
  refine R.dA O mixed ai<|U ?_
  refine Q.qg O (q.idx (i:=lo) (fun _=>Wd.old dK) O O bJ O hx2) O<|Q.qg O (q.dj (ds:=fZ x2) (fun _=>Wd.old dK) hx2 O du O) O<|U ?_
  refine Q.cg O (q.call IA O O (fun w hw=>UG w x2 t hw.ext)) O<|U ?_
  exact R.Jg O Tryz.results250 O O (rI (by (exact congrArg (fun n:Nat=>(n:Int)) ((hX ae).symm.trans HA)))) (rB (by (have e:=(hX ae).symm.trans HA;unfold qn;rw [<- e];(rw [hx2];exact (decide_eq_false af).symm))))
 refine R.dA O mixed ai<|U ?_
 exact R.Jg O Tryz.results250 O O (rI (by (exact congrArg (fun n:Nat=>(n:Int)) ((hX ae).symm.trans HA)))) (rB (by (have e:=(hX ae).symm.trans HA;unfold qn;rw [<- e];(rw [List.getElem?_eq_none ae]))))
theorem lJ (bL:Value)(l:List Held)(pl:Place)(w:World)(dK:Sl w bL l)(hl:l.length<=1000000):Calls Tryz.prog 208 #[bL,.agg #[iV pl.ay,iV pl.Slot]] w fun e w'=>e = .returned (.tuple #[iV (gR l pl:Int),.bool (KB l pl)])/\Ext w w':=by
 have wk:=dK.eV
 refine R.enter [] [(0,bL),(1,.agg #[iV pl.ay,iV pl.Slot])] Tryz.func208 O O O O<|U ?_
 refine R.s O (s.box O O O) fun b1=>U ?_
 refine R.c (q.call UA O O (fun w hw=>(xA _ l pl (fun (h:Held) (pl:Place)=>sE h.Place pl) _ _ UB w ((fun _=>Wd.old dK) w hw) (fun W h pl hW=>D5 h pl W ) ae))) O<|U ?_
 exact R.Jg O Tryz.results208 O O (rI ck) (rB ck)
theorem kE (p:Place)(w:World):Calls Tryz.prog 141 #[.agg #[iV p.ay,iV p.Slot]] w fun e w'=>e = .returned (cD (bB p))/\Ext w w':=by
 refine R.enter [] [(0,.agg #[iV p.ay,iV p.Slot])] Tryz.func141 O O O O<|U ?_
 refine R.s O (s.box O O O) fun b1=>U ?_
 by_cases h1:p.ay<1
 .
  refine U ?_
  exact R.rv O Tryz.results141 O (dU aD (by (exact fG ae)))
 refine U ?_
 by_cases h2:4<p.ay
 .
  refine U ?_
  exact R.rv O Tryz.results141 O (dU aD (by (exact fG ae)))
 refine U ?_
 by_cases h3:p.Slot<0
 .
  refine U ?_
  exact R.rv O Tryz.results141 O (dU aD (by (exact fG ae)))
 refine U ?_
 by_cases h4:5<p.Slot
 .
  refine U ?_
  exact R.rv O Tryz.results141 O (dU aD (by (exact fG ae)))
 refine U ?_
 exact R.rv O Tryz.results141 O (iT (by (exact sM ae)))
theorem ov (p:Place)(w:World):Calls Tryz.prog 149 #[.agg #[iV p.ay,iV p.Slot]] w fun e w'=>e = .returned (iV (bB p))/\Ext w w':=by
 refine R.enter [] [(0,.agg #[iV p.ay,iV p.Slot])] Tryz.func149 O O O O<|U ?_
 refine R.s O (s.box O O O) fun b1=>U ?_
 by_cases h1:p.ay<1
 .
  refine U ?_
  exact R.rv O Tryz.results149 O (rI (by (exact (fG ae).symm)))
 refine U ?_
 by_cases h2:4<p.ay
 .
  refine U ?_
  exact R.rv O Tryz.results149 O (rI (by (exact (fG ae).symm)))
 refine U ?_
 by_cases h3:p.Slot<0
 .
  refine U ?_
  exact R.rv O Tryz.results149 O (rI (by (exact (fG ae).symm)))
 refine U ?_
 by_cases h4:5<p.Slot
 .
  refine U ?_
  exact R.rv O Tryz.results149 O (rI (by (exact (fG ae).symm)))
 refine U ?_
 exact R.rv O Tryz.results149 O (rI (by (exact (sM ae).symm)))
theorem ow (bL:Value)(l:List Held)(p:Place)(w:World)(dK:Sl w bL l)(hl:l.length<=1000000):Calls Tryz.prog 206 #[bL,.agg #[iV p.ay,iV p.Slot]] w fun e w'=>e = .returned (iV (mG l p))/\Ext w w':=by
 have wk:=dK.eV
 refine R.enter [] [(0,bL),(1,.agg #[iV p.ay,iV p.Slot])] Tryz.func206 O O O O<|U ?_
 refine R.s O (s.box O O O) fun b1=>U ?_
 have c1L:=xI l p
 rcases vq l p with fS|⟨Ha,kv,fS,vj,D6⟩
 .
  refine R.c (q.call DW O O (fun w hw=>(cv (congrArg (fun b=>Value.tuple #[iV ((gR l p:Nat):Int),.bool b]) fS) (lJ _ l p w ((fun _=>Wd.old dK) w hw) ae)))) O<|U ?_
  exact R.rv O Tryz.results206 O (rI (by (exact (My fS).symm)))
 refine R.c (q.call DW O O (fun w hw=>(cv (congrArg (fun b=>Value.tuple #[iV ((gR l p:Nat):Int),.bool b]) fS) (lJ _ l p w ((fun _=>Wd.old dK) w hw) ae)))) O<|U ?_
 refine R.q (q.idx (i:=(gR l p)) (fun _=>Wd.old dK) O O bJ O kv) O<|R.q (q.ew (j':=2) (fun _=>Wd.old dK) kv O lw O) O<|R.q (q.gh (fun _=>Wd.old dK) kv O bg O) O<|U ?_
 exact R.rv O Tryz.results206 O (rI (by (exact (Jm fS kv).symm)))
theorem sf (bL:Value)(l:List Held)(p:Place)(id:Int)(w:World)(own:List Nat)(H:HN w own [] [aj.ls bL l])(hl:l.length<=100000):RC Tryz.prog 160 #[bL,.agg #[iV p.ay,iV p.Slot],iV id] H (fun z:Value=>z) (fun z=>[aj.row 124 z (eW l p id)]) (fun _=>[]):=by
 have AP:=H.bD 0 rfl
 refine R.bE [(0,bL),(1,.agg #[iV p.ay,iV p.Slot]),(2,iV id)] Tryz.func160 O O O O H<|U ?_
 refine R.s O (s.box O O O) fun b1=>U ?_
 refine R.s O (s.aT [0,1] [0] _ _ _ O O O Io O O (fun w own hw H=>oF bL l w own H ae) O) fun z1=>U ?_
 have c1L:=xI l p
 rcases vq l p with fS|⟨Ha,kv,fS,vj,D6⟩
 .
  refine R.c (q.call DW O O (fun w hw=>(cv (congrArg (fun b=>Value.tuple #[iV ((gR l p:Nat):Int),.bool b]) fS) (lJ _ l p w (hw.row 0 O) ae)))) O<|U ?_
  by_cases h1:id=0
  .
   refine U ?_
   have hz:eW l p id=l:=by (unfold eW;(rw [if_neg (by rw [fS];simp),if_pos af];done))
   rw [hz]
   exact R.w1 z1 [0,2] [] O Tryz.results160 (RV.tmp O) O O O O
  refine U ?_
  refine R.s O (s.bs (l:=([(⟨p,id⟩:Held)]:List Held)) bJ cK O O O O O O O) fun b2=>?_
  refine R.s O (s.aT [1,0,2,3] [] _ _ _ O O O Ut O O (fun w own hw H=>zR z1 l (gR l p) (.slice (some ⟨b2,0,none⟩) 1 1) ([(⟨p,id⟩:Held)]) w own H af rfl ae) O) fun z2=>U ?_
  have hz:eW l p id=l.take (gR l p)++([(⟨p,id⟩:Held)])++l.drop (gR l p):=by (unfold eW;(rw [if_neg (by rw [fS];simp),if_neg af];done))
  rw [hz]
  exact R.w1 z2 [0,2] [] O Tryz.results160 (RV.tmp O) O O O O
 refine R.c (q.call DW O O (fun w hw=>(cv (congrArg (fun b=>Value.tuple #[iV ((gR l p:Nat):Int),.bool b]) fS) (lJ _ l p w (hw.row 0 O) ae)))) O<|U ?_
 by_cases h2:id=0
 .
  refine U ?_
  refine R.q (q.aL (r:=(((gR l p)+1:Nat):Int)) O O) O<|R.s O (s.aT [0,1,2] [] _ _ _ O O O Us O O (fun w own hw H=>zQ z1 l (gR l p) ((gR l p)+1) w own H ae) O) fun z3=>U ?_
  have hz:eW l p id=l.take (gR l p)++l.drop ((gR l p)+1):=by (unfold eW;(rw [if_pos fS,if_pos af];done))
  rw [hz]
  exact R.w1 z3 [0,2] [] O Tryz.results160 (RV.tmp O) O O O O
 refine U ?_
 refine R.q (q.idx (i:=(gR l p)) (bH 0 O) O O bJ O kv) O<|R.q (q.ew (j':=2) (bH 0 O) kv O lw O) O<|R.s O (s.stP (o:=2) (z:=(⟨Ha.Place,id⟩:Held)) 0 _ O kv O O O O O (by simp [Value.oneCell']) (.inr ⟨bg,rfl⟩) O) fun _=>U ?_
 have hz:eW l p id=(l.set (gR l p) (⟨Ha.Place,id⟩:Held)):=by (unfold eW;(rw [if_pos fS,if_neg af,vj];done))
 rw [hz]
 exact R.w1 z1 [0,2] [] O Tryz.results160 (RV.tmp O) O O O O
theorem Og (bL:Value)(l:List Held)(h:Int)(w:World)(dK:Sl w bL l)(hl:l.length<=1000000):Calls Tryz.prog 169 #[bL,iV h] w fun e w'=>e = .returned (iV (gq l h))/\Ext w w':=by
 have wk:=dK.eV
 refine R.enter [] [(0,bL),(1,iV h)] Tryz.func169 O O O O<|U ?_
 refine R.loop (fun i:Nat=>[(0,bL),(1,iV h),(6,iV (i:Int))]) (fun i:Nat=>[]) (fun i:Nat=>[]) (fun i:Nat=>i<=6/\kV l h (6-i) i=gq l h) (fun i:Nat=>6-i) 0 O (by exact ⟨ae,rfl⟩) (sF O) (eI [] [] O) ?_
 rintro i ⟨hs,HA⟩
 refine U ?_
 by_cases h1:i<6
 .
  refine U ?_
  refine R.c (q.call DV O O (fun w hw=>(ow _ l (⟨h,(i:Int)⟩:Place) w ((fun _=>Wd.old dK) w hw) ae))) O ?_
  by_cases h2:mG l (⟨h,(i:Int)⟩:Place)=0
  .
   refine U ?_
   exact R.rv O Tryz.results169 O (rI (by (rw [<- HA];exact (Hm af ae).symm)))
  refine U ?_
  refine R.q (q.aL (r:=((i+1:Nat):Int)) O O) O<|U ?_
  refine R.back (i+1) O (by (exact ⟨ae,(EU af ae).symm.trans HA⟩)) ae (sF O) (eI [] [] O)
 refine U ?_
 exact R.rv O Tryz.results169 O (rI (by (rw [<- HA];have:i=6:=ae;subst this;rfl)))
theorem Cv (bL:Value)(l:List Held)(p:Place)(w:World)(dK:Sl w bL l):Calls Tryz.prog 150 #[bL,.agg #[iV p.ay,iV p.Slot]] w fun e w'=>e = .returned (iV (lP l p))/\Ext w w':=by
 have wk:=dK.eV
 refine R.enter [] [(0,bL),(1,.agg #[iV p.ay,iV p.Slot])] Tryz.func150 O O O O<|U ?_
 refine R.s O (s.box O O O) fun b1=>U ?_
 refine R.loop (fun k:Nat=>[(0,bL),(3,.pointer (some ⟨b1,0,none⟩)),(5,iV (k:Int))]) (fun k:Nat=>[aj.box b1 (jO p) 32]) (fun k:Nat=>[]) (fun k:Nat=>k<=l.length /\ ∀ (j:Nat) y,j<k->l[j]? = some y->¬ y.Place=p) (fun k:Nat=>l.length-k) 0 O (by exact ⟨ae,fun j x hj=>absurd hj (Nat.not_lt_zero _)⟩) (sF O) (eI [0] [] O) ?_
 rintro k ⟨hk,HA⟩
 refine U ?_
 by_cases h1:k<l.length
 .
  refine U ?_
  obtain ⟨x1,hx1⟩:=gE l k
  by_cases h2:x1.Place=p
  .
   refine R.dA O mixed ai<|U ?_
   refine Q.q (q.idx (i:=k) (fun _=>Wd.old dK) O O bJ O hx1) O<|Q.q (q.ew (j':=0) (fun _=>Wd.old dK) hx1 O m6 O) O<|Q.q (q.dj (ds:=jO x1.Place) (fun _=>Wd.old dK) hx1 O lG O) O<|U ?_
   refine Q.q (q.V2 (x:=x1.Place) (y:=p) jE O O h2) O<|U ?_
   refine R.q (q.idx (i:=k) (fun _=>Wd.old dK) O O bJ O hx1) O<|R.q (q.ew (j':=2) (fun _=>Wd.old dK) hx1 O lw O) O<|R.q (q.gh (fun _=>Wd.old dK) hx1 O bg O) O<|U ?_
   exact R.rv O Tryz.results150 O (rI (by (exact (KC hx1 af HA).symm)))
  refine R.dA O mixed ai<|U ?_
  refine Q.q (q.idx (i:=k) (fun _=>Wd.old dK) O O bJ O hx1) O<|Q.q (q.ew (j':=0) (fun _=>Wd.old dK) hx1 O m6 O) O<|Q.q (q.dj (ds:=jO x1.Place) (fun _=>Wd.old dK) hx1 O lG O) O<|U ?_
  refine Q.q (q.V4 (x:=x1.Place) (y:=p) jE O O h2) O<|U ?_
  refine R.q (q.aL (r:=((k+1:Nat):Int)) O O) O<|U ?_
  refine R.back (k+1) O (by (exact ⟨ae,fun j x hj hx=>if e:j=k then by subst e;rw [hx1] at hx;injection hx with hx;subst hx;assumption else HA j x ae hx⟩)) ae (sF O) (eI [0] [] O)
 refine U ?_
 exact R.rv O Tryz.results150 O (rI (by (exact (Hn (fun j y hj=>HA j y ae)).symm)))
theorem Gb (bL:Value)(l:List Held)(h:Int)(w:World)(dK:Sl w bL l):Calls Tryz.prog 95 #[bL,iV h] w fun e w'=>e = .returned (iV (C2 l h))/\Ext w w':=by
 have wk:=dK.eV
 refine R.enter [] [(0,bL),(1,iV h)] Tryz.func95 O O O O<|U ?_
 refine R.loop (fun i:Nat=>[(0,bL),(1,iV h),(5,iV (i:Int))]) (fun i:Nat=>[]) (fun i:Nat=>[]) (fun i:Nat=>i<=6/\lC l h (6-i) i=C2 l h) (fun i:Nat=>6-i) 0 O (by exact ⟨ae,rfl⟩) (sF O) (eI [] [] O) ?_
 rintro i ⟨hs,HA⟩
 refine U ?_
 by_cases h1:i<6
 .
  refine U ?_
  refine R.c (q.call DN O O (fun w hw=>(Cv _ l (⟨h,(i:Int)⟩:Place) w ((fun _=>Wd.old dK) w hw) ))) O ?_
  by_cases h2:lP l (⟨h,(i:Int)⟩:Place)=0
  .
   refine U ?_
   exact R.rv O Tryz.results95 O (rI (by (rw [<- HA];exact (EW af ae).symm)))
  refine U ?_
  refine R.q (q.aL (r:=((i+1:Nat):Int)) O O) O<|U ?_
  refine R.back (i+1) O (by (exact ⟨ae,(C4 af ae).symm.trans HA⟩)) ae (sF O) (eI [] [] O)
 refine U ?_
 exact R.rv O Tryz.results95 O (rI (by (rw [<- HA];have:i=6:=ae;subst this;rfl)))
theorem IB (bL:Value)(l:List Held)(p:Place)(id:Int)(w:World)(own:List Nat)(H:HN w own [] [aj.ls bL l])(hl:l.length<=100000):RC Tryz.prog 88 #[bL,.agg #[iV p.ay,iV p.Slot],iV id] H (fun z:Value=>z) (fun z=>[aj.row 124 z (l8 l p id)]) (fun _=>[]):=by
 have AP:=H.bD 0 rfl
 refine R.bE [(0,bL),(1,.agg #[iV p.ay,iV p.Slot]),(2,iV id)] Tryz.func88 O O O O H<|U ?_
 refine R.s O (s.box O O O) fun b1=>U ?_
 by_cases h1:id=0
 .
  refine U ?_
  refine R.row0 (α:=Held) 124<|R.loop (fun g_:Nat×Bool×Value×(List Held)=>[(0,bL),(2,iV id),(4,.pointer (some ⟨b1,0,none⟩)),(7,g_.2.2.1),(8,.bool g_.2.1),(9,iV (g_.1:Int))]) (fun g_=>[aj.row 124 g_.2.2.1 g_.2.2.2,aj.box b1 (jO p) 32,aj.held w own]) (fun g_=>[aj.ls bL l]) (fun g_=>g_.1<=l.length/\(g_.2.2.2,g_.2.1)=nX (l.take g_.1) p id) (fun g_=>l.length-g_.1) (0,true,nS,[]) O (by exact ⟨ae,by simp [nX, *]⟩) (sF O) (eI [0,1,2] [0] O) ?_
  rintro ⟨k,laid,v,acc⟩ ⟨hk,HA⟩
  dsimp only at *
  have hal:acc.length<=2*k:=by have:=BJ (l.take k) p id;rw [<- HA] at this;simp at this;omega
  refine U ?_
  by_cases h2:k<l.length
  .
   refine U ?_
   obtain ⟨x1,hx1⟩:=gE l k
   refine R.q (q.idx (i:=k) (cb 0 O) O O bJ O hx1) O<|R.q (q.ew (j':=0) (cb 0 O) hx1 O m6 O) O<|R.q (q.dj (ds:=jO x1.Place) (cb 0 O) hx1 O lG O) O<|R.s O (s.alloc rj O O) fun b2=>?_
   refine R.s O (s.st 0 _ O O O O (.inl lG) O O O O) fun _=>U ?_
   refine R.q (q.not O) O<|U ?_
   cases laid
   .
    refine U ?_
    by_cases h3:p.ay<x1.Place.ay
    .
     refine U ?_
     refine R.s O (s.bs (l:=([(⟨p,id⟩:Held)]:List Held)) bJ cK O O O O O O O) fun b3=>?_
     refine R.s O (s.app 2 _ O O O (bH 0 O) eH az az (fun _=>rfl) O) fun v1=>U ?_
     by_cases h4:x1.Place=p
     .
      refine R.q (q.kQ (x:=x1.Place) (y:=p) jE O O h4) O<|U ?_
      refine R.q (q.aL (r:=((k+1:Nat):Int)) O O) O<|U ?_
      refine R.back (k+1,true,v1,(acc++([(⟨p,id⟩:Held)]))) O (by (exact ⟨ae,by rw [dM l p id k _ hx1,<- HA];(rw [gS ae];(rw [if_pos af];done))⟩)) aO (sF O) (aN [2,3,4] [0] O)
     refine R.q (q.kR (x:=x1.Place) (y:=p) jE O O h4) O<|U ?_
     refine R.q (q.idx (i:=k) (cb 0 O) O O bJ O hx1) O<|R.q (q.dj (ds:=fZ x1) (cb 0 O) hx1 O du O) O<|R.s O (s.bs (l:=([x1]:List Held)) bJ cK O O O O O O O) fun b4=>?_
     refine R.s O (s.app 3 _ O O O (bH 0 O) eH az az (fun _=>rfl) O) fun v2=>U ?_
     refine R.q (q.aL (r:=((k+1:Nat):Int)) O O) O<|U ?_
     refine R.back (k+1,true,v2,((acc++([(⟨p,id⟩:Held)]))++([x1]))) O (by (exact ⟨ae,by rw [dM l p id k _ hx1,<- HA];(rw [gS ae];(rw [if_neg af];done))⟩)) aO (sF O) (aN [3,4,5] [0] O)
    refine U ?_
    by_cases h5:p.ay=x1.Place.ay
    .
     refine U ?_
     by_cases h6:x1.Place.Slot<p.Slot
     .
      refine U ?_
      by_cases h7:x1.Place=p
      .
       refine R.q (q.kQ (x:=x1.Place) (y:=p) jE O O h7) O<|U ?_
       refine R.q (q.aL (r:=((k+1:Nat):Int)) O O) O<|U ?_
       refine R.back (k+1,false,v,acc) O (by (exact ⟨ae,by rw [dM l p id k _ hx1,<- HA];(rw [ef (by exact .inr ae)];(rw [if_pos af];done))⟩)) aO (sF O) (aN [1,2,3] [0] O)
      refine R.q (q.kR (x:=x1.Place) (y:=p) jE O O h7) O<|U ?_
      refine R.q (q.idx (i:=k) (cb 0 O) O O bJ O hx1) O<|R.q (q.dj (ds:=fZ x1) (cb 0 O) hx1 O du O) O<|R.s O (s.bs (l:=([x1]:List Held)) bJ cK O O O O O O O) fun b5=>?_
      refine R.s O (s.app 2 _ O O O (bH 0 O) eH az az (fun _=>rfl) O) fun v3=>U ?_
      refine R.q (q.aL (r:=((k+1:Nat):Int)) O O) O<|U ?_
      refine R.back (k+1,false,v3,(acc++([x1]))) O (by (exact ⟨ae,by rw [dM l p id k _ hx1,<- HA];(rw [ef (by exact .inr ae)];(rw [if_neg af];done))⟩)) aO (sF O) (aN [2,3,4] [0] O)
     refine U ?_
     refine R.s O (s.bs (l:=([(⟨p,id⟩:Held)]:List Held)) bJ cK O O O O O O O) fun b6=>?_
     refine R.s O (s.app 2 _ O O O (bH 0 O) eH az az (fun _=>rfl) O) fun v4=>U ?_
     by_cases h8:x1.Place=p
     .
      refine R.q (q.kQ (x:=x1.Place) (y:=p) jE O O h8) O<|U ?_
      refine R.q (q.aL (r:=((k+1:Nat):Int)) O O) O<|U ?_
      refine R.back (k+1,true,v4,(acc++([(⟨p,id⟩:Held)]))) O (by (exact ⟨ae,by rw [dM l p id k _ hx1,<- HA];(rw [gS ae];(rw [if_pos af];done))⟩)) aO (sF O) (aN [2,3,4] [0] O)
     refine R.q (q.kR (x:=x1.Place) (y:=p) jE O O h8) O<|U ?_
     refine R.q (q.idx (i:=k) (cb 0 O) O O bJ O hx1) O<|R.q (q.dj (ds:=fZ x1) (cb 0 O) hx1 O du O) O<|R.s O (s.bs (l:=([x1]:List Held)) bJ cK O O O O O O O) fun b7=>?_
     refine R.s O (s.app 3 _ O O O (bH 0 O) eH az az (fun _=>rfl) O) fun v5=>U ?_
     refine R.q (q.aL (r:=((k+1:Nat):Int)) O O) O<|U ?_
     refine R.back (k+1,true,v5,((acc++([(⟨p,id⟩:Held)]))++([x1]))) O (by (exact ⟨ae,by rw [dM l p id k _ hx1,<- HA];(rw [gS ae];(rw [if_neg af];done))⟩)) aO (sF O) (aN [3,4,5] [0] O)
    refine U ?_
    by_cases h9:x1.Place=p
    .
     refine R.q (q.kQ (x:=x1.Place) (y:=p) jE O O h9) O<|U ?_
     refine R.q (q.aL (r:=((k+1:Nat):Int)) O O) O<|U ?_
     refine R.back (k+1,false,v,acc) O (by (exact ⟨ae,by rw [dM l p id k _ hx1,<- HA];(rw [ef (by exact .inr ae)];(rw [if_pos af];done))⟩)) aO (sF O) (aN [1,2,3] [0] O)
    refine R.q (q.kR (x:=x1.Place) (y:=p) jE O O h9) O<|U ?_
    refine R.q (q.idx (i:=k) (cb 0 O) O O bJ O hx1) O<|R.q (q.dj (ds:=fZ x1) (cb 0 O) hx1 O du O) O<|R.s O (s.bs (l:=([x1]:List Held)) bJ cK O O O O O O O) fun b8=>?_
    refine R.s O (s.app 2 _ O O O (bH 0 O) eH az az (fun _=>rfl) O) fun v6=>U ?_
    refine R.q (q.aL (r:=((k+1:Nat):Int)) O O) O<|U ?_
    refine R.back (k+1,false,v6,(acc++([x1]))) O (by (exact ⟨ae,by rw [dM l p id k _ hx1,<- HA];(rw [ef (by exact .inr ae)];(rw [if_neg af];done))⟩)) aO (sF O) (aN [2,3,4] [0] O)
   refine U ?_
   by_cases h10:x1.Place=p
   .
    refine R.q (q.kQ (x:=x1.Place) (y:=p) jE O O h10) O<|U ?_
    refine R.q (q.aL (r:=((k+1:Nat):Int)) O O) O<|U ?_
    refine R.back (k+1,true,v,acc) O (by (exact ⟨ae,by rw [dM l p id k _ hx1,<- HA];(rw [ef (by exact .inl O)];(rw [if_pos af];done))⟩)) aO (sF O) (aN [1,2,3] [0] O)
   refine R.q (q.kR (x:=x1.Place) (y:=p) jE O O h10) O<|U ?_
   refine R.q (q.idx (i:=k) (cb 0 O) O O bJ O hx1) O<|R.q (q.dj (ds:=fZ x1) (cb 0 O) hx1 O du O) O<|R.s O (s.bs (l:=([x1]:List Held)) bJ cK O O O O O O O) fun b9=>?_
   refine R.s O (s.app 2 _ O O O (bH 0 O) eH az az (fun _=>rfl) O) fun v7=>U ?_
   refine R.q (q.aL (r:=((k+1:Nat):Int)) O O) O<|U ?_
   refine R.back (k+1,true,v7,(acc++([x1]))) O (by (exact ⟨ae,by rw [dM l p id k _ hx1,<- HA];(rw [ef (by exact .inl O)];(rw [if_neg af];done))⟩)) aO (sF O) (aN [2,3,4] [0] O)
  refine U ?_
  refine R.q (q.not O) O<|U ?_
  cases laid
  .
   refine U ?_
   refine R.s O (s.bs (l:=([(⟨p,id⟩:Held)]:List Held)) bJ cK O O O O O O O) fun b10=>?_
   refine R.s O (s.app 1 _ O O O (bH 0 O) eH az az (fun _=>rfl) O) fun v8=>U ?_
   have hz:l8 l p id=(acc++([(⟨p,id⟩:Held)])):=by (unfold l8;rw [List.take_of_length_le ae] at HA;rw [<- HA];dsimp only;exact if_neg Bool.false_ne_true)
   rw [hz]
   exact R.w1 v8 [1,3] [] O Tryz.results88 (RV.tmp O) O O O O
  refine U ?_
  have hz:l8 l p id=acc:=by (unfold l8;rw [List.take_of_length_le ae] at HA;rw [<- HA];dsimp only;exact if_pos rfl)
  rw [hz]
  exact R.w1 v [0,2] [] O Tryz.results88 (RV.tmp O) O O O O
 refine U ?_
 refine R.row0 (α:=Held) 124<|R.loop (fun g_:Nat×Bool×Value×(List Held)=>[(0,bL),(2,iV id),(4,.pointer (some ⟨b1,0,none⟩)),(7,g_.2.2.1),(8,.bool g_.2.1),(9,iV (g_.1:Int))]) (fun g_=>[aj.row 124 g_.2.2.1 g_.2.2.2,aj.box b1 (jO p) 32,aj.held w own]) (fun g_=>[aj.ls bL l]) (fun g_=>g_.1<=l.length/\(g_.2.2.2,g_.2.1)=nX (l.take g_.1) p id) (fun g_=>l.length-g_.1) (0,false,nS,[]) O (by exact ⟨ae,by simp [nX, *]⟩) (sF O) (eI [0,1,2] [0] O) ?_
 rintro ⟨k,laid,v,acc⟩ ⟨hk,HA⟩
 dsimp only at *
 have hal:acc.length<=2*k:=by have:=BJ (l.take k) p id;rw [<- HA] at this;simp at this;omega
 refine U ?_
 by_cases h11:k<l.length
 .
  refine U ?_
  obtain ⟨x2,hx2⟩:=gE l k
  refine R.q (q.idx (i:=k) (cb 0 O) O O bJ O hx2) O<|R.q (q.ew (j':=0) (cb 0 O) hx2 O m6 O) O<|R.q (q.dj (ds:=jO x2.Place) (cb 0 O) hx2 O lG O) O<|R.s O (s.alloc rj O O) fun b11=>?_
  refine R.s O (s.st 0 _ O O O O (.inl lG) O O O O) fun _=>U ?_
  refine R.q (q.not O) O<|U ?_
  cases laid
  .
   refine U ?_
   by_cases h12:p.ay<x2.Place.ay
   .
    refine U ?_
    refine R.s O (s.bs (l:=([(⟨p,id⟩:Held)]:List Held)) bJ cK O O O O O O O) fun b12=>?_
    refine R.s O (s.app 2 _ O O O (bH 0 O) eH az az (fun _=>rfl) O) fun v9=>U ?_
    by_cases VG:x2.Place=p
    .
     refine R.q (q.kQ (x:=x2.Place) (y:=p) jE O O VG) O<|U ?_
     refine R.q (q.aL (r:=((k+1:Nat):Int)) O O) O<|U ?_
     refine R.back (k+1,true,v9,(acc++([(⟨p,id⟩:Held)]))) O (by (exact ⟨ae,by rw [dM l p id k _ hx2,<- HA];(rw [gS ae];(rw [if_pos af];done))⟩)) aO (sF O) (aN [2,3,4] [0] O)
    refine R.q (q.kR (x:=x2.Place) (y:=p) jE O O VG) O<|U ?_
    refine R.q (q.idx (i:=k) (cb 0 O) O O bJ O hx2) O<|R.q (q.dj (ds:=fZ x2) (cb 0 O) hx2 O du O) O<|R.s O (s.bs (l:=([x2]:List Held)) bJ cK O O O O O O O) fun b13=>?_
    refine R.s O (s.app 3 _ O O O (bH 0 O) eH az az (fun _=>rfl) O) fun v10=>U ?_
    refine R.q (q.aL (r:=((k+1:Nat):Int)) O O) O<|U ?_
    refine R.back (k+1,true,v10,((acc++([(⟨p,id⟩:Held)]))++([x2]))) O (by (exact ⟨ae,by rw [dM l p id k _ hx2,<- HA];(rw [gS ae];(rw [if_neg af];done))⟩)) aO (sF O) (aN [3,4,5] [0] O)
   refine U ?_
   by_cases Yt:p.ay=x2.Place.ay
   .
    refine U ?_
    by_cases Zb:x2.Place.Slot<p.Slot
    .
     refine U ?_
     by_cases h16:x2.Place=p
     .
      refine R.q (q.kQ (x:=x2.Place) (y:=p) jE O O h16) O<|U ?_
      refine R.q (q.aL (r:=((k+1:Nat):Int)) O O) O<|U ?_
      refine R.back (k+1,false,v,acc) O (by (exact ⟨ae,by rw [dM l p id k _ hx2,<- HA];(rw [ef (by exact .inr ae)];(rw [if_pos af];done))⟩)) aO (sF O) (aN [1,2,3] [0] O)
     refine R.q (q.kR (x:=x2.Place) (y:=p) jE O O h16) O<|U ?_
     refine R.q (q.idx (i:=k) (cb 0 O) O O bJ O hx2) O<|R.q (q.dj (ds:=fZ x2) (cb 0 O) hx2 O du O) O<|R.s O (s.bs (l:=([x2]:List Held)) bJ cK O O O O O O O) fun b14=>?_
     refine R.s O (s.app 2 _ O O O (bH 0 O) eH az az (fun _=>rfl) O) fun v11=>U ?_
     refine R.q (q.aL (r:=((k+1:Nat):Int)) O O) O<|U ?_
     refine R.back (k+1,false,v11,(acc++([x2]))) O (by (exact ⟨ae,by rw [dM l p id k _ hx2,<- HA];(rw [ef (by exact .inr ae)];(rw [if_neg af];done))⟩)) aO (sF O) (aN [2,3,4] [0] O)
    refine U ?_
    refine R.s O (s.bs (l:=([(⟨p,id⟩:Held)]:List Held)) bJ cK O O O O O O O) fun b15=>?_
    refine R.s O (s.app 2 _ O O O (bH 0 O) eH az az (fun _=>rfl) O) fun v12=>U ?_
    by_cases Xr:x2.Place=p
    .
     refine R.q (q.kQ (x:=x2.Place) (y:=p) jE O O Xr) O<|U ?_
     refine R.q (q.aL (r:=((k+1:Nat):Int)) O O) O<|U ?_
     refine R.back (k+1,true,v12,(acc++([(⟨p,id⟩:Held)]))) O (by (exact ⟨ae,by rw [dM l p id k _ hx2,<- HA];(rw [gS ae];(rw [if_pos af];done))⟩)) aO (sF O) (aN [2,3,4] [0] O)
    refine R.q (q.kR (x:=x2.Place) (y:=p) jE O O Xr) O<|U ?_
    refine R.q (q.idx (i:=k) (cb 0 O) O O bJ O hx2) O<|R.q (q.dj (ds:=fZ x2) (cb 0 O) hx2 O du O) O<|R.s O (s.bs (l:=([x2]:List Held)) bJ cK O O O O O O O) fun b16=>?_
    refine R.s O (s.app 3 _ O O O (bH 0 O) eH az az (fun _=>rfl) O) fun v13=>U ?_
    refine R.q (q.aL (r:=((k+1:Nat):Int)) O O) O<|U ?_
    refine R.back (k+1,true,v13,((acc++([(⟨p,id⟩:Held)]))++([x2]))) O (by (exact ⟨ae,by rw [dM l p id k _ hx2,<- HA];(rw [gS ae];(rw [if_neg af];done))⟩)) aO (sF O) (aN [3,4,5] [0] O)
   refine U ?_
   by_cases h18:x2.Place=p
   .
    refine R.q (q.kQ (x:=x2.Place) (y:=p) jE O O h18) O<|U ?_
    refine R.q (q.aL (r:=((k+1:Nat):Int)) O O) O<|U ?_
    refine R.back (k+1,false,v,acc) O (by (exact ⟨ae,by rw [dM l p id k _ hx2,<- HA];(rw [ef (by exact .inr ae)];(rw [if_pos af];done))⟩)) aO (sF O) (aN [1,2,3] [0] O)
   refine R.q (q.kR (x:=x2.Place) (y:=p) jE O O h18) O<|U ?_
   refine R.q (q.idx (i:=k) (cb 0 O) O O bJ O hx2) O<|R.q (q.dj (ds:=fZ x2) (cb 0 O) hx2 O du O) O<|R.s O (s.bs (l:=([x2]:List Held)) bJ cK O O O O O O O) fun b17=>?_
   refine R.s O (s.app 2 _ O O O (bH 0 O) eH az az (fun _=>rfl) O) fun v14=>U ?_
   refine R.q (q.aL (r:=((k+1:Nat):Int)) O O) O<|U ?_
   refine R.back (k+1,false,v14,(acc++([x2]))) O (by (exact ⟨ae,by rw [dM l p id k _ hx2,<- HA];(rw [ef (by exact .inr ae)];(rw [if_neg af];done))⟩)) aO (sF O) (aN [2,3,4] [0] O)
  refine U ?_
  by_cases h19:x2.Place=p
  .
   refine R.q (q.kQ (x:=x2.Place) (y:=p) jE O O h19) O<|U ?_
   refine R.q (q.aL (r:=((k+1:Nat):Int)) O O) O<|U ?_
   refine R.back (k+1,true,v,acc) O (by (exact ⟨ae,by rw [dM l p id k _ hx2,<- HA];(rw [ef (by exact .inl O)];(rw [if_pos af];done))⟩)) aO (sF O) (aN [1,2,3] [0] O)
  refine R.q (q.kR (x:=x2.Place) (y:=p) jE O O h19) O<|U ?_
  refine R.q (q.idx (i:=k) (cb 0 O) O O bJ O hx2) O<|R.q (q.dj (ds:=fZ x2) (cb 0 O) hx2 O du O) O<|R.s O (s.bs (l:=([x2]:List Held)) bJ cK O O O O O O O) fun b18=>?_
  refine R.s O (s.app 2 _ O O O (bH 0 O) eH az az (fun _=>rfl) O) fun v15=>U ?_
  refine R.q (q.aL (r:=((k+1:Nat):Int)) O O) O<|U ?_
  refine R.back (k+1,true,v15,(acc++([x2]))) O (by (exact ⟨ae,by rw [dM l p id k _ hx2,<- HA];(rw [ef (by exact .inl O)];(rw [if_neg af];done))⟩)) aO (sF O) (aN [2,3,4] [0] O)
 refine U ?_
 refine R.q (q.not O) O<|U ?_
 cases laid
 .
  refine U ?_
  refine R.s O (s.bs (l:=([(⟨p,id⟩:Held)]:List Held)) bJ cK O O O O O O O) fun b19=>?_
  refine R.s O (s.app 1 _ O O O (bH 0 O) eH az az (fun _=>rfl) O) fun v16=>U ?_
  have hz:l8 l p id=(acc++([(⟨p,id⟩:Held)])):=by (unfold l8;rw [List.take_of_length_le ae] at HA;rw [<- HA];dsimp only;exact if_neg Bool.false_ne_true)
  rw [hz]
  exact R.w1 v16 [1,3] [] O Tryz.results88 (RV.tmp O) O O O O
 refine U ?_
 have hz:l8 l p id=acc:=by (unfold l8;rw [List.take_of_length_le ae] at HA;rw [<- HA];dsimp only;exact if_pos rfl)
 rw [hz]
 exact R.w1 v [0,2] [] O Tryz.results88 (RV.tmp O) O O O O
end Go.Proofs.YtnmpibjlnninjaaGreatDoor
