import Derived.Test.YtnmpibjlnninjaaGreatDoorKS14
namespace Go.Proofs.YtnmpibjlnninjaaGreatDoor
set_option linter.unusedVariables false
set_option linter.unusedSimpArgs false
set_option maxRecDepth 100000
set_option maxHeartbeats 90000000
open Go Go.RowKit
attribute [local irreducible] Run Rg Rq Qt Qa Stp Dg Do Dm cD
theorem qu (bL:Value)(l:List Change)(w:World)(own:List Nat)(H:HN w own [] [aj.ls bL l])(hl:l.length<=1000000):RC Tryz.prog 83 #[bL] H (fun z:Value=>z) (fun z=>[aj.row 115 z l]) (fun _=>[]):=by
 have AP:=H.bD 0 rfl
 refine R.bE [(0,bL)] Tryz.func83 O O O O H<|U ?_
 rcases Bool.eq_false_or_eq_true (qK bL) with h1|h1
 .
  refine R.q (q.Kv (congrArg Value.bool h1) (q.qm (cb 0 O) O O Tryz.underlying34)) O<|U ?_
  refine R.row0 (α:=Change) 115 ?_
  have hz:l=[]:=by (exact Sl.qK (H.bz 0 rfl) af)
  rw [hz]
  exact R.w1 (nS) [0,1] [] O Tryz.results83 (RV.tmp O) O O O O
 refine R.q (q.Kv (congrArg Value.bool h1) (q.qm (cb 0 O) O O Tryz.underlying34)) O<|U ?_
 refine R.s O (s.bs (l:=([]:List Change)) bj bR O O O O O O O) fun b1=>U ?_
 refine R.s O (s.app 0 _ O O O (cb 0 O) d9 az az (fun _=>rfl) O) fun v1=>U ?_
 have hz:l=(([])++l):=by (rfl)
 rw [hz]
 exact R.w1 v1 [0,1] [] O Tryz.results83 (RV.tmp O) O O O O
theorem wn (bL:Value)(l:List Change)(i:Nat)(j:Nat)(w:World)(own:List Nat)(H:HN w own [aj.row 115 bL l] [])(hij:i<=j/\j<=l.length):RC Tryz.prog 138 #[bL,iV (i:Int),iV (j:Int)] H (fun z:Value=>z) (fun z=>[aj.row 115 z (l.take i++l.drop j)]) (fun _=>[]):=by
 have Li:=H.cap 0 rfl;have AP:=H.dr 0 rfl
 refine R.bE [(0,bL),(1,iV (i:Int)),(2,iV (j:Int))] Tryz.func138 O O O O H<|U ?_
 refine R.q (q.G8 (i:=i) (j:=j) (q':=l.length) (bH 0 O) O O O O bj O O O ae ae ae) O<|U ?_
 by_cases h1:i=j
 .
  refine U ?_
  have hz:l.take i++l.drop j=l:=by (exact yx ae)
  rw [hz]
  exact R.w1 bL [0,1] [] O Tryz.results138 (RV.tmp O) O O O O
 refine U ?_
 refine R.eA (fuel:=8) [1] O O mixed O<|D.l [0,1,3,4] [1] [] O<|U ?_
 refine D.two (i:=2) (j:=5) O O ?_ ?_
 .
  refine Do.s (s.c (Qt.a (q.ku (i:=i) (bH 0 O) O O Tryz.underlying34 DI O ae)) O) (fun _=>(aN [1] [] O)) O fun _=>?_
  refine D.one (i:=5) O<|Do.s (s.c (Qt.a (q.dL (i:=j) (bH 0 O) O O bj O ae)) O) (fun _=>(aN [1] [] O)) O fun _=>?_
  refine D.one (i:=6) O<|Do.s (s.vo (a:=i) 0 _ O O O (fun w hw=>Sl.from (hw.row 0 O) ae) d9 ae az O O) (fun _=>(aN [1] [] O)) O fun _=>?_
  refine D.l [7] [1] [] O<|U ?_
  refine D.done<|U ?_
  refine R.q (q.sl2 (i:=(l.take i++(l.drop j)).length) (j:=l.length) (bH 0 O) O O O bj O O az (by (simp [iC];omega))) O<|R.s O (s.BG (lo:=(l.take i++(l.drop j)).length) (hi:=l.length) (z0:=(⟨⟨#[]⟩,⟨#[]⟩,false⟩:Change)) 0 O O bj bR O ae az (by (simp [iC];omega))) fun _=>U ?_
  have hz:l.take i++l.drop j=(l.take i++(l.drop j)):=by (rfl)
  rw [hz]
  exact R.w1 (ku bL (i+(l.drop j).length)) [0,1] [] O Tryz.results138 (RV.tmp O) O O O O
 refine Do.s (s.c (Qt.a (q.dL (i:=j) (bH 0 O) O O bj O ae)) O) (fun _=>(aN [1] [] O)) O fun _=>?_
 refine D.one (i:=2) O<|Do.s (s.c (Qt.a (q.ku (i:=i) (bH 0 O) O O Tryz.underlying34 DI O ae)) O) (fun _=>(aN [1] [] O)) O fun _=>?_
 refine D.one (i:=6) O<|Do.s (s.vo (a:=i) 0 _ O O O (fun w hw=>Sl.from (hw.row 0 O) ae) d9 ae az O O) (fun _=>(aN [1] [] O)) O fun _=>?_
 refine D.l [7] [1] [] O<|U ?_
 refine D.done<|U ?_
 refine R.q (q.sl2 (i:=(l.take i++(l.drop j)).length) (j:=l.length) (bH 0 O) O O O bj O O az (by (simp [iC];omega))) O<|R.s O (s.BG (lo:=(l.take i++(l.drop j)).length) (hi:=l.length) (z0:=(⟨⟨#[]⟩,⟨#[]⟩,false⟩:Change)) 0 O O bj bR O ae az (by (simp [iC];omega))) fun _=>U ?_
 have hz:l.take i++l.drop j=(l.take i++(l.drop j)):=by (rfl)
 rw [hz]
 exact R.w1 (ku bL (i+(l.drop j).length)) [0,1] [] O Tryz.results138 (RV.tmp O) O O O O
theorem wq (bL:Value)(l:List Change)(i:Nat)(UF:Value)(u:List Change)(w:World)(own:List Nat)(H:HN w own [aj.row 115 bL l,aj.row 115 UF u] [])(hi:i<=l.length)(hu:u.length=1)(hl:l.length<=1000000):RC Tryz.prog 139 #[bL,iV (i:Int),UF] H (fun z:Value=>z) (fun z=>[aj.row 115 z (l.take i++u++l.drop i)]) (fun _=>[]):=by
 have Li:=H.cap 0 rfl;have AP:=H.dr 0 rfl
 have c_u:=H.cap 1 rfl;have m_u:=H.dr 1 rfl
 refine R.bE [(0,bL),(1,iV (i:Int)),(2,UF)] Tryz.func139 O O O O H<|U ?_
 refine R.q (q.dL (i:=i) (bH 0 O) O O bj O ae) O<|U ?_
 by_cases h1:i=l.length
 .
  refine U ?_
  refine R.s O (s.app 0 _ O O O (bH 1 O) d9 ae ae (fun _=>rfl) O) fun v1=>U ?_
  have hz:l.take i++u++l.drop i=(l++u):=by (exact Jl ae)
  rw [hz]
  exact R.w1 v1 [0,2] [] O Tryz.results139 (RV.tmp O) O O O O
 refine U ?_
 refine R.q (q.aL (r:=((l.length+u.length:Nat):Int)) O O) O<|U ?_
 refine R.q (q.cap (bH 0 O) O Tryz.underlying34) O ?_
 by_cases h2:(mT bL)<(l.length+u.length)
 .
  refine U ?_
  refine R.q (q.ku (i:=i) (bH 0 O) O O Tryz.underlying34 DI O ae) O<|U ?_
  refine R.q (q.aL (r:=((l.length+u.length:Nat):Int)) O O) O<|U ?_
  refine R.q (q.kL (r:=(((l.length+u.length)-i:Nat):Int)) O O) O<|R.s O (s.Jj (o:=i) (m:=((l.length+u.length)-i)) (z0:=(⟨⟨#[]⟩,⟨#[]⟩,false⟩:Change)) 0 O O O O d9 Tryz.underlying3 bR O ae ae ae ae ae O) fun v2=>U ?_
  refine R.q (q.dL (i:=i) (bH 0 O) O O bj O az) O<|U ?_
  refine R.s O (s.wR (o:=i) 0 _ O (bH 2 O) O O bj az O O) fun _=>U ?_
  refine R.eA (fuel:=9) [1,2,3] O O mixed O<|D.l [0,1,2,3,5,6,7] [1,2,3] [] O<|U ?_
  refine Dm.yy O O (q.aL (r:=((i+u.length:Nat):Int)) O O) O<|U ?_
  refine Dm.yy O O (q.dL (i:=i) (bH 0 O) O O bj O ae) O<|U ?_
  refine D.one (i:=4) O<|Do.s (s.c (Qt.a (q.dL (i:=(i+u.length)) (bH 0 O) O O bj O az)) O) (fun _=>(aN [1,2,3] [] O)) O fun _=>?_
  refine D.one (i:=8) O<|Do.s (s.wR (o:=(i+u.length)) 0 _ O (fun w hw=>Sl.from (hw.row 1 O) ae) O O bj az O O) (fun _=>(aN [1,2,3] [] O)) O fun _=>?_
  refine D.done<|U ?_
  have hz:l.take i++u++l.drop i=(((l.take i++List.replicate ((l.length+u.length)-i) (⟨⟨#[]⟩,⟨#[]⟩,false⟩:Change)).take i++u++(l.take i++List.replicate ((l.length+u.length)-i) (⟨⟨#[]⟩,⟨#[]⟩,false⟩:Change)).drop (i+u.length)).take (i+u.length)++(l.drop i)++((l.take i++List.replicate ((l.length+u.length)-i) (⟨⟨#[]⟩,⟨#[]⟩,false⟩:Change)).take i++u++(l.take i++List.replicate ((l.length+u.length)-i) (⟨⟨#[]⟩,⟨#[]⟩,false⟩:Change)).drop (i+u.length)).drop ((i+u.length)+(l.drop i).length)):=by (exact ER hu ae rfl)
  rw [hz]
  exact R.w1 v2 [0,3] [] O Tryz.results139 (RV.tmp O) O O O O
 refine U ?_
 refine R.q (q.aL (r:=((l.length+u.length:Nat):Int)) O O) O<|R.q (q.Wb (i:=(l.length+u.length)) (bH 0 O) O O bj O ae) O<|U ?_
 refine R.q (q.aL (r:=((i+u.length:Nat):Int)) O O) O<|R.q (q.oD (i:=(i+u.length)) (bH 0 O) O O bj O ae ae) O<|R.q (q.ZQ (i:=1) (j:=0) (tR:=4) Tryz.func195 O O ai ai bj O O aD ae ae O O O O) O<|U ?_
 refine R.eA (fuel:=9) [1,2] O O mixed O<|D.l [0,1,2,3,5,6] [1,2] [] O<|U ?_
 refine Dm.yy O O (q.aL (r:=((i+u.length:Nat):Int)) O O) O<|U ?_
 refine D.two (i:=4) (j:=7) O O ?_ ?_
 .
  refine Do.s (s.c (Qt.a (q.oD (i:=(i+u.length)) (bH 0 O) O O bj O ae ae)) O) (fun _=>(aN [1,2] [] O)) O fun _=>?_
  refine D.one (i:=7) O<|Do.s (s.c (Qt.a (q.oD (i:=i) (bH 0 O) O O bj O ae ae)) O) (fun _=>(aN [1,2] [] O)) O fun _=>?_
  refine D.one (i:=8) O<|Do.s (s.CS (o:=i) 0 _ O ae ae ae ae O O bj O O) (fun _=>(aN [1,2] [] O)) O fun _=>?_
  refine D.done<|U ?_
  refine R.q (q.dL (i:=i) (bH 0 O) O O bj O az) O<|U ?_
  refine R.s O (s.wR (o:=i) 0 _ O (bH 1 O) O O bj az O O) fun _=>U ?_
  have hz:l.take i++u++l.drop i=((l.take (i+1)++l.drop i).take i++u++(l.take (i+1)++l.drop i).drop (i+u.length)):=by (exact CY hu ae)
  rw [hz]
  exact R.w1 (ku bL (l.length+u.length)) [0,2] [] O Tryz.results139 (RV.tmp O) O O O O
 refine Do.s (s.c (Qt.a (q.oD (i:=i) (bH 0 O) O O bj O ae ae)) O) (fun _=>(aN [1,2] [] O)) O fun _=>?_
 refine D.one (i:=4) O<|Do.s (s.c (Qt.a (q.oD (i:=(i+u.length)) (bH 0 O) O O bj O ae ae)) O) (fun _=>(aN [1,2] [] O)) O fun _=>?_
 refine D.one (i:=8) O<|Do.s (s.CS (o:=i) 0 _ O ae ae ae ae O O bj O O) (fun _=>(aN [1,2] [] O)) O fun _=>?_
 refine D.done<|U ?_
 refine R.q (q.dL (i:=i) (bH 0 O) O O bj O az) O<|U ?_
 refine R.s O (s.wR (o:=i) 0 _ O (bH 1 O) O O bj az O O) fun _=>U ?_
 have hz:l.take i++u++l.drop i=((l.take (i+1)++l.drop i).take i++u++(l.take (i+1)++l.drop i).drop (i+u.length)):=by (exact CY hu ae)
 rw [hz]
 exact R.w1 (ku bL (l.length+u.length)) [0,2] [] O Tryz.results139 (RV.tmp O) O O O O
theorem rx (a b:ByteArray)(w:World):Calls Tryz.prog 137 #[.string a,.string b] w fun e w'=>e = .returned (.int .i64 (De a b))/\Ext w w' :=
 (Tryz.strings_Compare a b w).mono fun e w' ⟨h1,h2⟩=>⟨by rw [h1,<- pI,<- pI,Jy],by rw [h2];exact Ext.refl _⟩
theorem D7 (x:Change)(k:ByteArray)(w:World):Calls Tryz.prog 136 #[.agg #[.string x.Key,.string x.Val,.bool x.Gone],.string k] w fun e w'=>e = .returned (iV (fK k x))/\Ext w w':=by
 refine R.enter [] [(0,.agg #[.string x.Key,.string x.Val,.bool x.Gone]),(1,.string k)] Tryz.func136 O O O O<|U ?_
 refine R.s O (s.box O O O) fun b1=>U ?_
 refine R.c (q.call NS O O (fun w hw=>(rx x.Key k w ))) O<|U ?_
 exact R.rv O Tryz.results136 O (rI ck)
theorem gN (bL:Value)(l:List Change)(t:ByteArray)(c:Change->ByteArray->Int)(Oe:Nat)(QL:List Value)(IA:dw Oe)(w:World)(dK:Sl w bL l)(UG:∀W (x1:Change) (x2:ByteArray),Ext w W->Calls Tryz.prog Oe ([x1.val,.string x2]++QL).toArray W fun e w'=>e = .returned (iV (c x1 x2))/\Ext W w')(hl:l.length<=1000000):Calls Tryz.prog 135 #[bL,.string t,.func (.func Oe) #[] QL.toArray] w fun e w'=>e = .returned (.tuple #[iV (jF (fun x=>c x t) l:Int),.bool (qn (fun x=>c x t) l)])/\Ext w w':=by
 have wk:=dK.eV
 refine R.enter [] [(0,bL),(1,.string t),(2,.func (.func Oe) #[] QL.toArray)] Tryz.func135 O O O O<|U ?_
 refine R.loop (fun g_:Nat×Nat=>[(0,bL),(1,.string t),(2,.func (.func Oe) #[] QL.toArray),(8,iV (l.length:Int)),(9,iV (g_.1:Int)),(10,iV (g_.2:Int))]) (fun g_=>[]) (fun g_=>[]) (fun g_=>g_.1<=g_.2/\g_.2<=l.length/\bsGo (fun x=>c x t) l g_.1 g_.2=jF (fun x=>c x t) l) (fun g_=>g_.2-g_.1) (0,l.length) O (by exact ⟨Nat.zero_le _,Nat.le_refl _,rfl⟩) (sF O) (eI [] [] O) ?_
 rintro ⟨lo,hi⟩ ⟨UH,h2_,HA⟩
 dsimp only at *
 refine U ?_
 by_cases h1:lo<hi
 .
  refine U ?_
  refine R.q (q.aL (r:=((lo+hi:Nat):Int)) O O) O<|R.q (q.nG (r:=(((lo+hi):Nat):Int)) O (by rw [Tryz.underlying3];rfl) Tryz.underlying183 (CU ae)) O<|R.q (q.shr (r:=((((lo+hi) / 2):Nat):Int)) O O aD (P1 aD)) O<|R.q (q.nG (r:=((((lo+hi) / 2):Nat):Int)) O (by rw [Tryz.underlying183];rfl) Tryz.underlying3 (wr ae)) O<|U ?_
  obtain ⟨x1,hx1⟩:=gE l ((lo+hi) / 2)
  refine R.q (q.idx (i:=((lo+hi) / 2)) (fun _=>Wd.old dK) O O bj O hx1) O<|R.q (q.dj (ds:=dS x1) (fun _=>Wd.old dK) hx1 O bK O) O<|U ?_
  refine R.c (q.call IA O O (fun w hw=>UG w x1 t hw.ext)) O ?_
  by_cases h2:(c x1 t)<0
  .
   refine U ?_
   refine R.q (q.aL (r:=((((lo+hi) / 2)+1:Nat):Int)) O O) O<|U ?_
   refine R.back ((((lo+hi) / 2)+1),hi) O (by (exact ⟨ae,ae,(CZ ae hx1 ae).symm.trans HA⟩)) aO (sF O) (eI [] [] O)
  refine U ?_
  refine R.back (lo,((lo+hi) / 2)) O (by (exact ⟨ae,ae,(C0 ae hx1 ae).symm.trans HA⟩)) aO (sF O) (eI [] [] O)
 refine U ?_
 by_cases h3:lo<l.length
 .
  refine U ?_
  obtain ⟨x2,hx2⟩:=gE l lo
  refine R.qg O (q.idx (i:=lo) (fun _=>Wd.old dK) O O bj O hx2) O<|R.qg O (q.dj (ds:=dS x2) (fun _=>Wd.old dK) hx2 O bK O) O<|U ?_
  refine R.cg O (q.call IA O O (fun w hw=>UG w x2 t hw.ext)) O ?_
  by_cases h4:(c x2 t)=0
  .
   refine U ?_
   exact R.Jg O Tryz.results135 O O (rI (by (exact congrArg (fun n:Nat=>(n:Int)) ((hX ae).symm.trans HA)))) (rB (by (have e:=(hX ae).symm.trans HA;unfold qn;rw [<- e];(rw [hx2];exact (decide_eq_true af).symm))))
  refine U ?_
  exact R.Jg O Tryz.results135 O O (rI (by (exact congrArg (fun n:Nat=>(n:Int)) ((hX ae).symm.trans HA)))) (rB (by (have e:=(hX ae).symm.trans HA;unfold qn;rw [<- e];(rw [hx2];exact (decide_eq_false af).symm))))
 refine U ?_
 exact R.Jg O Tryz.results135 O O (rI (by (exact congrArg (fun n:Nat=>(n:Int)) ((hX ae).symm.trans HA)))) (rB (by (have e:=(hX ae).symm.trans HA;unfold qn;rw [<- e];(rw [List.getElem?_eq_none ae]))))
theorem jx (c:Change)(w:World):Calls Tryz.prog 120 #[.agg #[.string c.Key,.string c.Val,.bool c.Gone]] w fun e w'=>e = .returned (cD (gY c))/\Ext w w':=by
 refine R.enter [] [(0,.agg #[.string c.Key,.string c.Val,.bool c.Gone])] Tryz.func120 O O O O<|U ?_
 refine R.s O (s.box O O O) fun b1=>U ?_
 by_cases h1:c.Key=⟨#[]⟩
 .
  refine R.q (q.jG O O h1) O<|U ?_
  exact R.rv O Tryz.results120 O (dU aD (by (unfold gY;(rw [if_pos (by exact .inl af)]))))
 refine R.q (q.jH O O h1) O<|U ?_
 rcases Bool.eq_false_or_eq_true c.Gone with h2|h2
 .
  rw [h2]
  refine U ?_
  by_cases h3:c.Val=⟨#[]⟩
  .
   refine R.qg O (q.ql O O h3) O<|U ?_
   by_cases h4:8<c.Key.size
   .
    refine U ?_
    exact R.rv O Tryz.results120 O (dU aD (by (unfold gY;(rw [if_neg (by rintro (hh|⟨hh,hk⟩) <;> contradiction),if_pos ae]))))
   refine U ?_
   by_cases h5:24<c.Val.size
   .
    refine U ?_
    exact R.rv O Tryz.results120 O (dU aD (by (unfold gY;(rw [if_neg (by rintro (hh|⟨hh,hk⟩) <;> contradiction),if_pos ae]))))
   refine U ?_
   exact R.rv O Tryz.results120 O (iT (by (unfold gY;(rw [if_neg (by rintro (hh|⟨hh,hk⟩) <;> contradiction),if_neg ae]))))
  refine R.qg O (q.sL O O h3) O<|U ?_
  exact R.rv O Tryz.results120 O (dU aD (by (unfold gY;(rw [if_pos (by exact .inr ⟨af,af⟩)]))))
 rw [h2]
 refine U ?_
 by_cases h6:8<c.Key.size
 .
  refine U ?_
  exact R.rv O Tryz.results120 O (dU aD (by (unfold gY;(rw [if_neg (by rintro (hh|⟨hh,hk⟩) <;> first|contradiction|(simp_all;done)),if_pos ae]))))
 refine U ?_
 by_cases h7:24<c.Val.size
 .
  refine U ?_
  exact R.rv O Tryz.results120 O (dU aD (by (unfold gY;(rw [if_neg (by rintro (hh|⟨hh,hk⟩) <;> first|contradiction|(simp_all;done)),if_pos ae]))))
 refine U ?_
 exact R.rv O Tryz.results120 O (iT (by (unfold gY;(rw [if_neg (by rintro (hh|⟨hh,hk⟩) <;> first|contradiction|(simp_all;done)),if_neg ae]))))
theorem xB (c:Change)(w:World):Calls Tryz.prog 65 #[.agg #[.string c.Key,.string c.Val,.bool c.Gone]] w fun e w'=>e = .returned (iV (gY c))/\Ext w w':=by
 refine R.enter [] [(0,.agg #[.string c.Key,.string c.Val,.bool c.Gone])] Tryz.func65 O O O O<|U ?_
 refine R.s O (s.box O O O) fun b1=>U ?_
 by_cases h1:c.Key=⟨#[]⟩
 .
  refine R.q (q.jG O O h1) O<|U ?_
  exact R.rv O Tryz.results65 O (rI (by (unfold gY;(rw [if_pos (by exact .inl af)]))))
 refine R.q (q.jH O O h1) O<|U ?_
 rcases Bool.eq_false_or_eq_true c.Gone with h2|h2
 .
  rw [h2]
  refine U ?_
  by_cases h3:c.Val=⟨#[]⟩
  .
   refine R.qg O (q.ql O O h3) O<|U ?_
   by_cases h4:8<c.Key.size
   .
    refine U ?_
    exact R.rv O Tryz.results65 O (rI (by (unfold gY;(rw [if_neg (by rintro (hh|⟨hh,hk⟩) <;> contradiction),if_pos ae]))))
   refine U ?_
   by_cases h5:24<c.Val.size
   .
    refine U ?_
    exact R.rv O Tryz.results65 O (rI (by (unfold gY;(rw [if_neg (by rintro (hh|⟨hh,hk⟩) <;> contradiction),if_pos ae]))))
   refine U ?_
   exact R.rv O Tryz.results65 O (rI (by (unfold gY;(rw [if_neg (by rintro (hh|⟨hh,hk⟩) <;> contradiction),if_neg ae]))))
  refine R.qg O (q.sL O O h3) O<|U ?_
  exact R.rv O Tryz.results65 O (rI (by (unfold gY;(rw [if_pos (by exact .inr ⟨af,af⟩)]))))
 rw [h2]
 refine U ?_
 by_cases h6:8<c.Key.size
 .
  refine U ?_
  exact R.rv O Tryz.results65 O (rI (by (unfold gY;(rw [if_neg (by rintro (hh|⟨hh,hk⟩) <;> first|contradiction|(simp_all;done)),if_pos ae]))))
 refine U ?_
 by_cases h7:24<c.Val.size
 .
  refine U ?_
  exact R.rv O Tryz.results65 O (rI (by (unfold gY;(rw [if_neg (by rintro (hh|⟨hh,hk⟩) <;> first|contradiction|(simp_all;done)),if_pos ae]))))
 refine U ?_
 exact R.rv O Tryz.results65 O (rI (by (unfold gY;(rw [if_neg (by rintro (hh|⟨hh,hk⟩) <;> first|contradiction|(simp_all;done)),if_neg ae]))))
theorem D8 (c:Change)(w:World):Calls Tryz.prog 229 #[.agg #[.string c.Key,.string c.Val,.bool c.Gone]] w fun e w'=>e = .returned (.tuple #[.string (kM c).1,cD (kM c).2])/\Ext w w':=by
 have f0:=jP c
 refine R.enter [] [(0,.agg #[.string c.Key,.string c.Val,.bool c.Gone])] Tryz.func229 O O O O<|U ?_
 refine R.s O (s.box O O O) fun b1=>U ?_
 refine R.c (q.call vV O O (fun w hw=>(jx c w ))) O<|U ?_
 by_cases h1:gY c=0
 .
  obtain ⟨z1,z2,z3,z4⟩:=ig h1
  refine U ?_
  refine R.cond O O (fun h2=>?_) (fun h2=>?_)
  .
   refine U ?_
   refine R.q (q.nG (r:=((c.Key.size:Nat):Int)) O (by rw [Tryz.underlying3];rfl) Tryz.underlying5 (uk ae)) O<|R.s O (s.bs (l:=([(1:UInt8),UInt8.ofNat c.Key.size]:List UInt8)) bf eE O O O O O (cy O (cy (eu ae) fI)) O) fun b2=>?_
   refine R.q (q.jR (bH 0 O) O bf Tryz.underlying5 Tryz.underlying9) O<|U ?_
   refine R.q (q.cat O O (by (simp only [ByteArray.size_append,dW,List.length_cons,List.length_nil];omega))) O<|U ?_
   refine R.q (q.cat O O (by (simp only [ByteArray.size_append,dW,List.length_cons,List.length_nil];omega))) O<|U ?_
   exact R.Jg O Tryz.results229 O O (rS (by (unfold kM;(rw [if_pos ae,show c.Gone=true from by assumption];rfl)))) (iT (by (unfold kM;(rw [if_pos ae];done))))
  refine U ?_
  refine R.q (q.nG (r:=((c.Key.size:Nat):Int)) O (by rw [Tryz.underlying3];rfl) Tryz.underlying5 (uk ae)) O<|R.s O (s.bs (l:=([(0:UInt8),UInt8.ofNat c.Key.size]:List UInt8)) bf eE O O O O O (cy O (cy (eu ae) fI)) O) fun b3=>?_
  refine R.q (q.jR (bH 0 O) O bf Tryz.underlying5 Tryz.underlying9) O<|U ?_
  refine R.q (q.cat O O (by (simp only [ByteArray.size_append,dW,List.length_cons,List.length_nil];omega))) O<|U ?_
  refine R.q (q.cat O O (by (simp only [ByteArray.size_append,dW,List.length_cons,List.length_nil];omega))) O<|U ?_
  exact R.Jg O Tryz.results229 O O (rS (by (unfold kM;(rw [if_pos ae,show c.Gone=false from by assumption];rfl)))) (iT (by (unfold kM;(rw [if_pos ae];done))))
 refine U ?_
 exact R.Jg O Tryz.results229 O O (rS (by (unfold kM;(rw [if_neg ae];done)))) (rE (by (unfold kM;(rw [if_neg ae];done))))
theorem Gc {s:ByteArray}(h:s.size<2):tA s=(c0,4):=by unfold tA;rw [if_pos (.inl h)]
theorem Gd {s:ByteArray}{y:UInt8}(hy:s.data[0]? = some y)(h:1<y.toNat):tA s=(c0,4):=by unfold tA;rw [if_pos (.inr (.inl (by rw [aQ hy];exact h)))]
theorem Ge {s:ByteArray}{y:UInt8}(hy:s.data[1]? = some y)(h:s.size<2+y.toNat):tA s=(c0,4):=by unfold tA;rw [if_pos (.inr (.inr (by rw [aQ hy];exact h)))]
theorem ry {s:ByteArray}{y z:UInt8}{b:Bool}(hy:s.data[0]? = some y)(hz:s.data[1]? = some z)(h1:¬ s.size<2)(h2:¬ 1<y.toNat)(h3:¬ s.size<2+z.toNat)(hb:b=decide (y.toNat=1)) :
 tA s=if gY ⟨s.extract 2 (2+z.toNat),s.extract (2+z.toNat) s.size,b⟩=0 then (⟨s.extract 2 (2+z.toNat),s.extract (2+z.toNat) s.size,b⟩,0) else (c0,4):=by
 have e1:=aQ hy;have e2:=aQ hz
 unfold tA;rw [if_neg (by rw [e1,e2];omega)];unfold MZ;rw [e1,e2,hb]
theorem D9 (sb:ByteArray)(w:World)(hs:sb.size<=1000000):Calls Tryz.prog 133 #[.string sb] w fun e w'=>e = .returned (.tuple #[Change.val (tA sb).1,cD (tA sb).2])/\Ext w w':=by
 refine R.enter [] [(0,.string sb)] Tryz.func133 O O O O<|U ?_
 refine R.s O (s.alloc bR O O) fun b1=>U ?_
 by_cases h1:sb.size<2
 .
  refine U ?_
  refine R.s O (s.st 0 _ O O O O (.inl bK) O O O O) fun _=>U ?_
  exact R.s7 O Tryz.results133 (RV.cell 0 O O bK) (RV.tmp O) (congrArg Change.val (show (⟨⟨#[]⟩,⟨#[]⟩,false⟩:Change)=(tA sb).1 from by (rw [Gc ae];rfl))) (dU aD (by (rw [Gc ae];done)))
 refine U ?_
 obtain ⟨y1,hy1⟩:∃z,sb.data[0]? = some z:=⟨_,Array.getElem?_eq_getElem (show 0<sb.size from by omega)⟩
 have Xs:=y1.toNat_lt
 refine R.qg O (q.iU (i:=0) O O Tryz.underlying9 O hy1) O ?_
 by_cases h2:1<y1.toNat
 .
  refine U ?_
  refine R.s O (s.st 0 _ O O O O (.inl bK) O O O O) fun _=>U ?_
  exact R.s7 O Tryz.results133 (RV.cell 0 O O bK) (RV.tmp O) (congrArg Change.val (show (⟨⟨#[]⟩,⟨#[]⟩,false⟩:Change)=(tA sb).1 from by (rw [Gd hy1 ae];rfl))) (dU aD (by (rw [Gd hy1 ae];done)))
 refine U ?_
 obtain ⟨y2,hy2⟩:∃z,sb.data[1]? = some z:=⟨_,Array.getElem?_eq_getElem (show 1<sb.size from by omega)⟩
 have Xt:=y2.toNat_lt
 refine R.qg O (q.iU (i:=1) O O Tryz.underlying9 O hy2) O<|R.qg O (q.nG (r:=((y2.toNat:Nat):Int)) O (by rw [Tryz.underlying5];rfl) Tryz.underlying3 (wr ae)) O<|R.qg O (q.aL (r:=((2+y2.toNat:Nat):Int)) O O) O<|U ?_
 by_cases h3:sb.size<(2+y2.toNat)
 .
  refine U ?_
  refine R.s O (s.st 0 _ O O O O (.inl bK) O O O O) fun _=>U ?_
  exact R.s7 O Tryz.results133 (RV.cell 0 O O bK) (RV.tmp O) (congrArg Change.val (show (⟨⟨#[]⟩,⟨#[]⟩,false⟩:Change)=(tA sb).1 from by (rw [Ge hy2 ae];rfl))) (dU aD (by (rw [Ge hy2 ae];done)))
 refine U ?_
 refine R.q (q.iU (i:=1) O O Tryz.underlying9 O hy2) O<|R.q (q.nG (r:=((y2.toNat:Nat):Int)) O (by rw [Tryz.underlying5];rfl) Tryz.underlying3 (wr ae)) O<|R.q (q.aL (r:=((2+y2.toNat:Nat):Int)) O O) O<|U ?_
 by_cases h4:y1.toNat=1
 .
  refine R.eA (fuel:=12) [0] O O mixed O<|D.l nD [0] [] O<|U ?_
  refine Dm.yy O O (q.EO (i:=2) (j:=(2+y2.toNat)) O O O Tryz.underlying9 O O ae ae) O<|U ?_
  refine Dm.yy O O (q.EP (i:=(2+y2.toNat)) O O Tryz.underlying9 O ae) O<|U ?_
  refine Dm.yy O O (q.iU (i:=0) O O Tryz.underlying9 O hy1) O<|U ?_
  refine D.one (i:=10) O<|Do.s (s.alloc bR O O) (fun _=>(aN [1] [] O)) O fun b2=>?_
  refine D.one (i:=11) O<|Do.s (s.st 0 _ O O O O (.inl bK) O O O O) (fun _=>(aN [1] [] O)) O fun _=>?_
  refine D.done<|U ?_
  refine R.c (q.call vV O O (fun w hw=>(jx (⟨sb.extract 2 (2+y2.toNat),sb.extract (2+y2.toNat) sb.size,true⟩:Change) w ))) O ?_
  by_cases h5:gY (⟨sb.extract 2 (2+y2.toNat),sb.extract (2+y2.toNat) sb.size,true⟩:Change)=0
  .
   refine U ?_
   refine R.s O (s.st 1 _ O O O O (.inl bK) O O O O) fun _=>U ?_
   exact R.s7 O Tryz.results133 (RV.cell 1 O O bK) (RV.tmp O) (congrArg Change.val (show (⟨sb.extract 2 (2+y2.toNat),sb.extract (2+y2.toNat) sb.size,true⟩:Change)=(tA sb).1 from by (have f1:=jP (⟨sb.extract 2 (2+y2.toNat),sb.extract (2+y2.toNat) sb.size,true⟩:Change);rw [ry (b:=true) hy1 hy2 ae ae ae (decide_eq_true ae).symm,if_pos ae];done))) (iT (by (have f1:=jP (⟨sb.extract 2 (2+y2.toNat),sb.extract (2+y2.toNat) sb.size,true⟩:Change);rw [ry (b:=true) hy1 hy2 ae ae ae (decide_eq_true ae).symm,if_pos ae];done)))
  refine U ?_
  refine R.s O (s.st 1 _ O O O O (.inl bK) O O O O) fun _=>U ?_
  exact R.s7 O Tryz.results133 (RV.cell 1 O O bK) (RV.tmp O) (congrArg Change.val (show (⟨⟨#[]⟩,⟨#[]⟩,false⟩:Change)=(tA sb).1 from by (have f1:=jP (⟨sb.extract 2 (2+y2.toNat),sb.extract (2+y2.toNat) sb.size,true⟩:Change);rw [ry (b:=true) hy1 hy2 ae ae ae (decide_eq_true ae).symm,if_neg ae];rfl))) (dU aD (by (have f1:=jP (⟨sb.extract 2 (2+y2.toNat),sb.extract (2+y2.toNat) sb.size,true⟩:Change);rw [ry (b:=true) hy1 hy2 ae ae ae (decide_eq_true ae).symm,if_neg ae];done)))
 refine R.eA (fuel:=12) [0] O O mixed O<|D.l nD [0] [] O<|U ?_
 refine Dm.yy O O (q.EO (i:=2) (j:=(2+y2.toNat)) O O O Tryz.underlying9 O O ae ae) O<|U ?_
 refine Dm.yy O O (q.EP (i:=(2+y2.toNat)) O O Tryz.underlying9 O ae) O<|U ?_
 refine Dm.yy O O (q.iU (i:=0) O O Tryz.underlying9 O hy1) O<|U ?_
 refine D.one (i:=10) O<|Do.s (s.alloc bR O O) (fun _=>(aN [1] [] O)) O fun b3=>?_
 refine D.one (i:=11) O<|Do.s (s.st 0 _ O O O O (.inl bK) O O O O) (fun _=>(aN [1] [] O)) O fun _=>?_
 refine D.done<|U ?_
 refine R.c (q.call vV O O (fun w hw=>(jx (⟨sb.extract 2 (2+y2.toNat),sb.extract (2+y2.toNat) sb.size,false⟩:Change) w ))) O ?_
 by_cases h6:gY (⟨sb.extract 2 (2+y2.toNat),sb.extract (2+y2.toNat) sb.size,false⟩:Change)=0
 .
  refine U ?_
  refine R.s O (s.st 1 _ O O O O (.inl bK) O O O O) fun _=>U ?_
  exact R.s7 O Tryz.results133 (RV.cell 1 O O bK) (RV.tmp O) (congrArg Change.val (show (⟨sb.extract 2 (2+y2.toNat),sb.extract (2+y2.toNat) sb.size,false⟩:Change)=(tA sb).1 from by (have f1:=jP (⟨sb.extract 2 (2+y2.toNat),sb.extract (2+y2.toNat) sb.size,false⟩:Change);rw [ry (b:=false) hy1 hy2 ae ae ae (decide_eq_false ae).symm,if_pos ae];done))) (iT (by (have f1:=jP (⟨sb.extract 2 (2+y2.toNat),sb.extract (2+y2.toNat) sb.size,false⟩:Change);rw [ry (b:=false) hy1 hy2 ae ae ae (decide_eq_false ae).symm,if_pos ae];done)))
 refine U ?_
 refine R.s O (s.st 1 _ O O O O (.inl bK) O O O O) fun _=>U ?_
 exact R.s7 O Tryz.results133 (RV.cell 1 O O bK) (RV.tmp O) (congrArg Change.val (show (⟨⟨#[]⟩,⟨#[]⟩,false⟩:Change)=(tA sb).1 from by (have f1:=jP (⟨sb.extract 2 (2+y2.toNat),sb.extract (2+y2.toNat) sb.size,false⟩:Change);rw [ry (b:=false) hy1 hy2 ae ae ae (decide_eq_false ae).symm,if_neg ae];rfl))) (dU aD (by (have f1:=jP (⟨sb.extract 2 (2+y2.toNat),sb.extract (2+y2.toNat) sb.size,false⟩:Change);rw [ry (b:=false) hy1 hy2 ae ae ae (decide_eq_false ae).symm,if_neg ae];done)))
theorem zS {α:Type}{f:α->Int}{l:List α}(h:qn f l=true):jF f l<l.length:=by
 obtain ⟨x,hx,_⟩:=ES h
 exact (List.getElem?_eq_some_iff.1 hx).1
theorem pZ (nf:Value)(rows:List Change)(bL:Value)(l:List Change)(w:World)(own:List Nat)(H:HN w own [] [aj.ls nf rows,aj.ls bL l])(hl:rows.length+l.length<=100000):RC Tryz.prog 80 #[nf,bL] H (fun z:Value=>z) (fun z=>[aj.row 115 z (cm rows l)]) (fun _=>[]):=by
 have UI:=H.bD 0 rfl
 have AP:=H.bD 1 rfl
 refine R.bE [(0,nf),(1,bL)] Tryz.func80 O O O O H<|U ?_
 refine R.s O (s.aT [0] [0] _ _ _ O O O SD O O (fun w own hw H=>qu nf rows w own H ae) O) fun z1=>U ?_
 refine R.loop (fun g_:Nat×Value×(List Change)=>[(0,g_.2.1),(11,bL),(12,iV (l.length:Int)),(13,iV (g_.1:Int))]) (fun g_=>[aj.row 115 g_.2.1 g_.2.2,aj.held w own]) (fun g_=>[aj.ls nf rows,aj.ls bL l]) (fun g_=>g_.1<=l.length/\g_.2.2=cm rows (l.take g_.1)) (fun g_=>l.length-g_.1) (0,z1,rows) O (by exact ⟨ae,rfl⟩) (sF O) (eI [0,1] [0,1] O) ?_
 rintro ⟨k,u,rs⟩ ⟨hk,HR⟩
 dsimp only at *
 have hrl:=lr (l.take k) rows;rw [<- HR,List.length_take] at hrl
 refine U ?_
 by_cases h1:k<l.length
 .
  refine U ?_
  obtain ⟨x1,hx1⟩:=gE l k
  refine R.q (q.idx (i:=k) (cb 1 O) O O bj O hx1) O<|R.q (q.dj (ds:=dS x1) (cb 1 O) hx1 O bK O) O<|R.s O (s.alloc bR O O) fun b1=>?_
  refine R.s O (s.st 0 _ O O O O (.inl bK) O O O O) fun _=>U ?_
  refine R.c (q.call zH O O (fun w hw=>(gN _ rs x1.Key (fun (x:Change) (k:ByteArray)=>fK k x) _ _ T8 w (hw.row 1 O) (fun W x k hW=>D7 x k W ) ae))) O<|U ?_
  rcases Bool.eq_false_or_eq_true (qn (fun x=>(fun (x:Change) (k:ByteArray)=>fK k x) x x1.Key) rs) with h2|h2
  .
   rw [h2]
   refine U ?_
   refine R.cond O O (fun h3=>?_) (fun h3=>?_)
   .
    have hb0:jF (fun x=>(fun (x:Change) (k:ByteArray)=>fK k x) x x1.Key) rs<=rs.length:=qM;have hb1:jF (fun x=>fK x1.Key x) rs<=rs.length:=qM;have ZV:jF (fun x=>fK x1.Key x) rs=jF (fun x=>(fun (x:Change) (k:ByteArray)=>fK k x) x x1.Key) rs:=rfl
    have hb7:jF (fun x=>(fun (x:Change) (k:ByteArray)=>fK k x) x x1.Key) rs<rs.length:=zS af;have hb8:jF (fun x=>fK x1.Key x) rs<rs.length:=zS af
    refine U ?_
    refine R.q (q.aL (r:=((jF (fun x=>(fun (x:Change) (k:ByteArray)=>fK k x) x x1.Key) rs+1:Nat):Int)) O O) O<|R.s O (s.aT [1,0,2] [] _ _ _ O O O T9 O O (fun w own hw H=>by have UH:=wn u rs (jF (fun x=>(fun (x:Change) (k:ByteArray)=>fK k x) x x1.Key) rs) (jF (fun x=>(fun (x:Change) (k:ByteArray)=>fK k x) x x1.Key) rs+1) w own H ae;exact UH) O) fun z2=>U ?_
    refine R.q (q.aL (r:=((k+1:Nat):Int)) O O) O<|U ?_
    refine R.back (k+1,z2,rs.take (jF (fun x=>(fun (x:Change) (k:ByteArray)=>fK k x) x x1.Key) rs)++rs.drop (jF (fun x=>(fun (x:Change) (k:ByteArray)=>fK k x) x x1.Key) rs+1)) O (by (exact ⟨ae,by rw [pK hx1,<- HR];unfold AO;(rw [if_pos (show qn (fK x1.Key) rs=true from by assumption),if_pos af];done)⟩)) aO (sF O) (aN [0,2] [0,1] O)
   refine U ?_
   have hb0:jF (fun x=>(fun (x:Change) (k:ByteArray)=>fK k x) x x1.Key) rs<=rs.length:=qM;have hb1:jF (fun x=>fK x1.Key x) rs<=rs.length:=qM;have ZV:jF (fun x=>fK x1.Key x) rs=jF (fun x=>(fun (x:Change) (k:ByteArray)=>fK k x) x x1.Key) rs:=rfl
   have hb7:jF (fun x=>(fun (x:Change) (k:ByteArray)=>fK k x) x x1.Key) rs<rs.length:=zS af;have hb8:jF (fun x=>fK x1.Key x) rs<rs.length:=zS af
   refine U ?_
   obtain ⟨x2,hx2⟩:=gE rs (jF (fun x=>(fun (x:Change) (k:ByteArray)=>fK k x) x x1.Key) rs)
   refine R.q (q.idx (i:=jF (fun x=>(fun (x:Change) (k:ByteArray)=>fK k x) x x1.Key) rs) (bH 1 O) O O bj O hx2) O<|R.s O (s.Vx (z:=x1) 1 _ O hx2 O O O O (.inl bK) O) fun _=>U ?_
   refine R.q (q.aL (r:=((k+1:Nat):Int)) O O) O<|U ?_
   refine R.back (k+1,u,(rs.set (jF (fun x=>(fun (x:Change) (k:ByteArray)=>fK k x) x x1.Key) rs) x1)) O (by (exact ⟨ae,by rw [pK hx1,<- HR];unfold AO;(rw [if_pos (show qn (fK x1.Key) rs=true from by assumption),if_neg (by rw [show x1.Gone=false from by assumption];decide)];done)⟩)) aO (sF O) (aN [1,2] [0,1] O)
  rw [h2]
  refine U ?_
  refine R.q (q.not O) O<|U ?_
  refine R.cond O O (fun h4=>?_) (fun h4=>?_)
  .
   have hb0:jF (fun x=>(fun (x:Change) (k:ByteArray)=>fK k x) x x1.Key) rs<=rs.length:=qM;have hb1:jF (fun x=>fK x1.Key x) rs<=rs.length:=qM;have ZV:jF (fun x=>fK x1.Key x) rs=jF (fun x=>(fun (x:Change) (k:ByteArray)=>fK k x) x x1.Key) rs:=rfl
   refine U ?_
   refine R.s O (s.bs (l:=([x1]:List Change)) bj bR O O O O O O O) fun b2=>?_
   refine R.s O (s.aT [2,0,1,3] [] _ _ _ O O O Ua O O (fun w own hw H=>by have UH:=wq u rs (jF (fun x=>(fun (x:Change) (k:ByteArray)=>fK k x) x x1.Key) rs) (.slice (some ⟨b2,0,none⟩) 1 1) ([x1]) w own H af rfl ae;exact UH) O) fun z3=>U ?_
   refine R.q (q.aL (r:=((k+1:Nat):Int)) O O) O<|U ?_
   refine R.back (k+1,z3,rs.take (jF (fun x=>(fun (x:Change) (k:ByteArray)=>fK k x) x x1.Key) rs)++([x1])++rs.drop (jF (fun x=>(fun (x:Change) (k:ByteArray)=>fK k x) x x1.Key) rs)) O (by (exact ⟨ae,by rw [pK hx1,<- HR];unfold AO;(rw [if_neg (by rw [show qn (fK x1.Key) rs=false from by assumption];decide),if_neg (by rw [show x1.Gone=false from by (simpa using ‹(!x1.Gone)=true›)];decide)];done)⟩)) aO (sF O) (aN [0,2] [0,1] O)
  refine U ?_
  refine R.q (q.aL (r:=((k+1:Nat):Int)) O O) O<|U ?_
  refine R.back (k+1,u,rs) O (by (exact ⟨ae,by rw [pK hx1,<- HR];unfold AO;(rw [if_neg (by rw [show qn (fK x1.Key) rs=false from by assumption];decide),if_pos (by (simpa using ‹(!x1.Gone)=false›))];done)⟩)) aO (sF O) (aN [1,2] [0,1] O)
 refine U ?_
 have hz:cm rows l=rs:=by (rw [HR,List.take_of_length_le ae])
 rw [hz]
 exact R.w1 u [0,1] [] O Tryz.results80 (RV.tmp O) O O O O
theorem Gf (nf:Value)(rows:List Change)(bL:Value)(l:List Change)(w:World)(own:List Nat)(H:HN w own [] [aj.ls nf rows,aj.ls bL l])(hl:rows.length+l.length<=100000):RC Tryz.prog 66 #[nf,bL] H (fun z:Value=>z) (fun z=>[aj.row 115 z (ej rows l)]) (fun _=>[]):=by
 have UI:=H.bD 0 rfl
 have AP:=H.bD 1 rfl
 refine R.bE [(0,nf),(1,bL)] Tryz.func66 O O O O H<|U ?_
 refine R.s O (s.app0 O O (cb 0 O) d9 ae ae O) fun v1=>U ?_
 refine R.loop (fun g_:Nat×Value×(List Change)=>[(1,bL),(5,g_.2.1),(6,iV (g_.1:Int))]) (fun g_=>[aj.row 115 g_.2.1 g_.2.2,aj.held w own]) (fun g_=>[aj.ls nf rows,aj.ls bL l]) (fun g_=>g_.1<=l.length/\g_.2.2=ej rows (l.take g_.1)) (fun g_=>l.length-g_.1) (0,v1,rows) O (by exact ⟨ae,ck⟩) (sF O) (eI [0,1] [0,1] O) ?_
 rintro ⟨k,u,rs⟩ ⟨hk,HR⟩
 dsimp only at *
 have hrl:=pL (l.take k) rows;rw [<- HR,List.length_take] at hrl
 refine U ?_
 by_cases h1:k<l.length
 .
  refine U ?_
  obtain ⟨x1,hx1⟩:=gE l k
  refine R.q (q.idx (i:=k) (cb 1 O) O O bj O hx1) O<|R.q (q.ew (j':=2) (cb 1 O) hx1 O zB O) O<|R.q (q.gh (cb 1 O) hx1 O zy O) O<|U ?_
  refine R.row0 (α:=Change) 115<|R.loop (fun g_:Nat×Bool×Value×(List Change)=>[(1,bL),(5,u),(6,iV (k:Int)),(7,g_.2.2.1),(8,.bool g_.2.1),(9,iV (g_.1:Int))]) (fun g_=>[aj.row 115 g_.2.2.1 g_.2.2.2,aj.row 115 u rs,aj.held w own]) (fun g_=>[aj.ls nf rows,aj.ls bL l]) (fun g_=>g_.1<=rs.length/\(g_.2.2.2,g_.2.1)=AR (rs.take g_.1) x1) (fun g_=>rs.length-g_.1) (0,x1.Gone,nS,[]) O (by exact ⟨ae,rfl⟩) (sF O) (eI [0,1,2] [0,1] O) ?_
  rintro ⟨m,b,u2,os⟩ ⟨hm,HO⟩
  dsimp only at *
  have hol:=y9 x1 (rs.take m) ([],x1.Gone);rw [show (rs.take m).foldl (eU x1) ([],x1.Gone)=(os,b) from HO.symm,List.length_take] at hol;have aal:os.length<=m+1:=(by have q1:(if b=true then 0 else 1)+os.length=os.length+(if b=true then 0 else 1):=Nat.add_comm _ _;dsimp only at hol;have q2:(if x1.Gone=true then 0 else 1)<=1:=(by split <;> omega);simp only [List.length_nil] at hol;omega)
  refine U ?_
  by_cases h2:m<rs.length
  .
   refine U ?_
   cases b
   .
    obtain ⟨x2,hx2⟩:=gE rs m
    rcases Bool.eq_false_or_eq_true (gQ x1.Key x2.Key||decide (x1.Key=x2.Key)) with h3|h3
    .
     refine R.dA O mixed ai<|U ?_
     refine Q.qg O (q.idx (i:=k) (cb 1 O) O O bj O hx1) O<|Q.qg O (q.ew (j':=0) (cb 1 O) hx1 O bZ O) O<|Q.qg O (q.gh (cb 1 O) hx1 O dC O) O<|U ?_
     refine Q.qg O (q.idx (i:=m) (bH 1 O) O O bj O hx2) O<|Q.qg O (q.ew (j':=0) (bH 1 O) hx2 O bZ O) O<|Q.qg O (q.gh (bH 1 O) hx2 O dC O) O<|Q.qg O (q.Kw O O h3) O<|U ?_
     refine R.q (q.idx (i:=k) (cb 1 O) O O bj O hx1) O<|R.q (q.dj (ds:=dS x1) (cb 1 O) hx1 O bK O) O<|R.s O (s.bs (l:=([x1]:List Change)) bj bR O O O O O O O) fun b1=>?_
     refine R.s O (s.app 1 _ O O O (bH 0 O) d9 az az (fun _=>rfl) O) fun v2=>U ?_
     by_cases h4:x2.Key=x1.Key
     .
      refine R.dA O mixed ai<|U ?_
      refine Q.q (q.idx (i:=m) (bH 2 O) O O bj O hx2) O<|Q.q (q.ew (j':=0) (bH 2 O) hx2 O bZ O) O<|Q.q (q.gh (bH 2 O) hx2 O dC O) O<|U ?_
      refine Q.q (q.idx (i:=k) (cb 1 O) O O bj O hx1) O<|Q.q (q.ew (j':=0) (cb 1 O) hx1 O bZ O) O<|Q.q (q.gh (cb 1 O) hx1 O dC O) O<|Q.q (q.ql O O h4) O<|U ?_
      refine R.q (q.aL (r:=((m+1:Nat):Int)) O O) O<|U ?_
      refine R.back ((m+1),true,v2,(os++([x1]))) O (by (exact ⟨ae,by rw [mK hx2,<- HO];unfold eU;dsimp only;(repeat' split) <;> first|rfl|(exfalso;simp_all;done)|(simp_all;done)⟩)) aO (sF O) (aN [1,2,3] [0,1] O)
     refine R.dA O mixed ai<|U ?_
     refine Q.q (q.idx (i:=m) (bH 2 O) O O bj O hx2) O<|Q.q (q.ew (j':=0) (bH 2 O) hx2 O bZ O) O<|Q.q (q.gh (bH 2 O) hx2 O dC O) O<|U ?_
     refine Q.q (q.idx (i:=k) (cb 1 O) O O bj O hx1) O<|Q.q (q.ew (j':=0) (cb 1 O) hx1 O bZ O) O<|Q.q (q.gh (cb 1 O) hx1 O dC O) O<|Q.q (q.sL O O h4) O<|U ?_
     refine R.q (q.idx (i:=m) (bH 2 O) O O bj O hx2) O<|R.q (q.dj (ds:=dS x2) (bH 2 O) hx2 O bK O) O<|R.s O (s.bs (l:=([x2]:List Change)) bj bR O O O O O O O) fun b2=>?_
     refine R.s O (s.app 2 _ O O O (bH 0 O) d9 az az (fun _=>rfl) O) fun v3=>U ?_
     refine R.q (q.aL (r:=((m+1:Nat):Int)) O O) O<|U ?_
     refine R.back ((m+1),true,v3,((os++([x1]))++([x2]))) O (by (exact ⟨ae,by rw [mK hx2,<- HO];unfold eU;dsimp only;(repeat' split) <;> first|rfl|(exfalso;simp_all;done)|(simp_all;done)⟩)) aO (sF O) (aN [2,3,4] [0,1] O)
    refine R.dA O mixed ai<|U ?_
    refine Q.qg O (q.idx (i:=k) (cb 1 O) O O bj O hx1) O<|Q.qg O (q.ew (j':=0) (cb 1 O) hx1 O bZ O) O<|Q.qg O (q.gh (cb 1 O) hx1 O dC O) O<|U ?_
    refine Q.qg O (q.idx (i:=m) (bH 1 O) O O bj O hx2) O<|Q.qg O (q.ew (j':=0) (bH 1 O) hx2 O bZ O) O<|Q.qg O (q.gh (bH 1 O) hx2 O dC O) O<|Q.qg O (q.Kw O O h3) O<|U ?_
    by_cases h5:x2.Key=x1.Key
    .
     refine R.dA O mixed ai<|U ?_
     refine Q.q (q.idx (i:=m) (bH 1 O) O O bj O hx2) O<|Q.q (q.ew (j':=0) (bH 1 O) hx2 O bZ O) O<|Q.q (q.gh (bH 1 O) hx2 O dC O) O<|U ?_
     refine Q.q (q.idx (i:=k) (cb 1 O) O O bj O hx1) O<|Q.q (q.ew (j':=0) (cb 1 O) hx1 O bZ O) O<|Q.q (q.gh (cb 1 O) hx1 O dC O) O<|Q.q (q.ql O O h5) O<|U ?_
     refine R.q (q.aL (r:=((m+1:Nat):Int)) O O) O<|U ?_
     refine R.back ((m+1),false,u2,os) O (by (exact ⟨ae,by rw [mK hx2,<- HO];unfold eU;dsimp only;(repeat' split) <;> first|rfl|(exfalso;simp_all;done)|(simp_all;done)⟩)) aO (sF O) (aN [0,1,2] [0,1] O)
    refine R.dA O mixed ai<|U ?_
    refine Q.q (q.idx (i:=m) (bH 1 O) O O bj O hx2) O<|Q.q (q.ew (j':=0) (bH 1 O) hx2 O bZ O) O<|Q.q (q.gh (bH 1 O) hx2 O dC O) O<|U ?_
    refine Q.q (q.idx (i:=k) (cb 1 O) O O bj O hx1) O<|Q.q (q.ew (j':=0) (cb 1 O) hx1 O bZ O) O<|Q.q (q.gh (cb 1 O) hx1 O dC O) O<|Q.q (q.sL O O h5) O<|U ?_
    refine R.q (q.idx (i:=m) (bH 1 O) O O bj O hx2) O<|R.q (q.dj (ds:=dS x2) (bH 1 O) hx2 O bK O) O<|R.s O (s.bs (l:=([x2]:List Change)) bj bR O O O O O O O) fun b3=>?_
    refine R.s O (s.app 1 _ O O O (bH 0 O) d9 az az (fun _=>rfl) O) fun v4=>U ?_
    refine R.q (q.aL (r:=((m+1:Nat):Int)) O O) O<|U ?_
    refine R.back ((m+1),false,v4,(os++([x2]))) O (by (exact ⟨ae,by rw [mK hx2,<- HO];unfold eU;dsimp only;(repeat' split) <;> first|rfl|(exfalso;simp_all;done)|(simp_all;done)⟩)) aO (sF O) (aN [1,2,3] [0,1] O)
   refine R.dA O mixed ai<|U ?_
   obtain ⟨x3,hx3⟩:=gE rs m
   by_cases h6:x3.Key=x1.Key
   .
    refine R.dA O mixed ai<|U ?_
    refine Q.q (q.idx (i:=m) (bH 1 O) O O bj O hx3) O<|Q.q (q.ew (j':=0) (bH 1 O) hx3 O bZ O) O<|Q.q (q.gh (bH 1 O) hx3 O dC O) O<|U ?_
    refine Q.q (q.idx (i:=k) (cb 1 O) O O bj O hx1) O<|Q.q (q.ew (j':=0) (cb 1 O) hx1 O bZ O) O<|Q.q (q.gh (cb 1 O) hx1 O dC O) O<|Q.q (q.ql O O h6) O<|U ?_
    refine R.q (q.aL (r:=((m+1:Nat):Int)) O O) O<|U ?_
    refine R.back ((m+1),true,u2,os) O (by (exact ⟨ae,by rw [mK hx3,<- HO];unfold eU;dsimp only;(repeat' split) <;> first|rfl|(exfalso;simp_all;done)|(simp_all;done)⟩)) aO (sF O) (aN [0,1,2] [0,1] O)
   refine R.dA O mixed ai<|U ?_
   refine Q.q (q.idx (i:=m) (bH 1 O) O O bj O hx3) O<|Q.q (q.ew (j':=0) (bH 1 O) hx3 O bZ O) O<|Q.q (q.gh (bH 1 O) hx3 O dC O) O<|U ?_
   refine Q.q (q.idx (i:=k) (cb 1 O) O O bj O hx1) O<|Q.q (q.ew (j':=0) (cb 1 O) hx1 O bZ O) O<|Q.q (q.gh (cb 1 O) hx1 O dC O) O<|Q.q (q.sL O O h6) O<|U ?_
   refine R.q (q.idx (i:=m) (bH 1 O) O O bj O hx3) O<|R.q (q.dj (ds:=dS x3) (bH 1 O) hx3 O bK O) O<|R.s O (s.bs (l:=([x3]:List Change)) bj bR O O O O O O O) fun b4=>?_
   refine R.s O (s.app 1 _ O O O (bH 0 O) d9 az az (fun _=>rfl) O) fun v5=>U ?_
   refine R.q (q.aL (r:=((m+1:Nat):Int)) O O) O<|U ?_
   refine R.back ((m+1),true,v5,(os++([x3]))) O (by (exact ⟨ae,by rw [mK hx3,<- HO];unfold eU;dsimp only;(repeat' split) <;> first|rfl|(exfalso;simp_all;done)|(simp_all;done)⟩)) aO (sF O) (aN [1,2,3] [0,1] O)
  refine U ?_
  refine R.q (q.not O) O<|U ?_
  cases b
  .
   refine U ?_
   refine R.q (q.idx (i:=k) (cb 1 O) O O bj O hx1) O<|R.q (q.dj (ds:=dS x1) (cb 1 O) hx1 O bK O) O<|R.s O (s.bs (l:=([x1]:List Change)) bj bR O O O O O O O) fun b5=>?_
   refine R.s O (s.app 1 _ O O O (bH 0 O) d9 az az (fun _=>rfl) O) fun v6=>U ?_
   refine R.q (q.aL (r:=((k+1:Nat):Int)) O O) O<|U ?_
   refine R.back (k+1,v6,(os++([x1]))) O (by (exact ⟨ae,by rw [List.take_of_length_le ae] at HO;rw [uC hx1,<- HR];unfold JA;rw [<- HO];rfl⟩)) aO (sF O) (aN [1,3] [0,1] O)
  refine U ?_
  refine R.q (q.aL (r:=((k+1:Nat):Int)) O O) O<|U ?_
  refine R.back (k+1,u2,os) O (by (exact ⟨ae,by rw [List.take_of_length_le ae] at HO;rw [uC hx1,<- HR];unfold JA;rw [<- HO];rfl⟩)) aO (sF O) (aN [0,2] [0,1] O)
 refine U ?_
 have hz:ej rows l=rs:=by (rw [HR,List.take_of_length_le ae])
 rw [hz]
 exact R.w1 u [0,1] [] O Tryz.results66 (RV.tmp O) O O O O
end Go.Proofs.YtnmpibjlnninjaaGreatDoor
