import Derived.Test.YtkbhcbipadkcaaaGreatDoorTO12
namespace Go.Proofs.YtkbhcbipadkcaaaGreatDoor
set_option linter.unusedVariables false
set_option linter.unusedSimpArgs false
open Go Go.RowKit
set_option maxRecDepth 100000
set_option maxHeartbeats 90000000
theorem nu (bN:Value)(l:List Held)(w:World)(own:List Nat)(H:HN w own [] [ag.ls bN l])(hl:l.length<=1000000):RC Tryz.prog 107 #[bN] H (fun z:Value=>z) (fun z=>[ag.row 124 z l]) (fun _=>[]):=by
 have yz:=H.cq 0 rfl
 refine R.bC [(0,bN)] Tryz.func107 O O O O H<|R.reg O<|R.u 1 O<|R.nil<|R.reg O<|R.u 1 O<|?_
 rcases Bool.eq_false_or_eq_true (px bN) with h1|h1
 .
  refine R.q (q.G4 (congrArg Value.bool h1) (q.pd (dw 0 O) O O Tryz.underlying45)) O<|R.nil<|R.av O O<|R.reg O<|R.u 1 O<|R.nil<|R.row0 (α:=Held) 124 ?_
  have hz:l=[]:=by (exact Sl.px (H.bP 0 rfl) ‹_›)
  rw [hz]
  exact R.w1 (nS) [0,1] [] O Tryz.results107 (RV.tmp O) O O O O
 refine R.q (q.G4 (congrArg Value.bool h1) (q.pd (dw 0 O) O O Tryz.underlying45)) O<|R.nil<|R.aA O O<|R.reg O<|R.s O (s.bs (l:=([]:List Held)) cI gY O O O O O O O) fun b1=>?_
 refine R.u 1 O<|R.s O (s.app 0 _ O O O (dw 0 O) oD (by simp;omega) (by simp;omega) (fun _=>rfl) O) fun v1=>?_
 refine R.u 1 O<|R.nil ?_
 have hz:l=(([])++l):=by (rfl)
 rw [hz]
 exact R.w1 v1 [0,1] [] O Tryz.results107 (RV.tmp O) O O O O
theorem wQ (bN:Value)(l:List Held)(i:Nat)(j:Nat)(w:World)(own:List Nat)(H:HN w own [ag.row 124 bN l] [])(hij:i<=j/\j<=l.length):RC Tryz.prog 172 #[bN,iV (i:Int),iV (j:Int)] H (fun z:Value=>z) (fun z=>[ag.row 124 z (l.take i++l.drop j)]) (fun _=>[]):=by
 have Hj:=H.cap 0 rfl;have yz:=H.cL 0 rfl
 refine R.bC [(0,bN),(1,iV (i:Int)),(2,iV (j:Int))] Tryz.func172 O O O O H<|R.reg O<|R.u 1 O<|R.nil<|R.reg O<|R.u 4 O<|R.q (q.len' (bB 0 O) O Tryz.underlying45) O<|R.q (q.El (i:=i) (j:=j) (q':=l.length) (bB 0 O) O O O O cI O O O (by omega) (by omega) (by omega)) O<|R.nil<|R.reg O<|R.u 2 O<|?_
 by_cases h1:i=j
 .
  refine R.q (q.fN O O) O<|R.nil<|R.av O O<|R.reg O<|R.u 2 O<|R.nil ?_
  have hz:l.take i++l.drop j=l:=by (exact pV (by omega))
  rw [hz]
  exact R.w1 bN [0,1] [] O Tryz.results172 (RV.tmp O) O O O O
 refine R.q (q.e8 O O) O<|R.nil<|R.aA O O<|R.reg O<|R.u 1 O<|R.q (q.len' (bB 0 O) O Tryz.underlying45) O<|R.u 1 O<|R.nil<|R.fY (fuel:=8) [1] O O mixed O<|D.q (i:=0) O (aD [1] [] O) O (q.mv O) O<|D.q (i:=1) O (aD [1] [] O) O (q.mv O) O<|D.q (i:=3) O (aD [1] [] O) O (q.mv O) O<|D.q (i:=4) O (aD [1] [] O) O (q.mv O) O<|D.two (i:=2) (j:=5) O O ?_ ?_
 .
  refine Do.s (s.c (Qt.a (q.kI (i:=i) (bB 0 O) O O Tryz.underlying45 vv O (by omega))) O) (fun _=>(aD [1] [] O)) O fun _=>?_
  refine D.one (i:=5) O<|Do.s (s.c (Qt.a (q.dA (i:=j) (bB 0 O) O O cI O (by omega))) O) (fun _=>(aD [1] [] O)) O fun _=>?_
  refine D.one (i:=6) O<|Do.s (s.tH (a:=i) 0 _ O O O (fun w hw=>Sl.from (hw.row 0 O) (by omega)) oD (by omega) (by simp;omega) O O) (fun _=>(aD [1] [] O)) O fun _=>?_
  refine D.q (i:=7) O (aD [1] [] O) O (q.as O) O<|D.done<|R.reg O<|R.u 2 O<|R.q (q.len' (bB 0 O) O Tryz.underlying45) O<|R.u 1 O<|R.q (q.sl2 (i:=(l.take i++(l.drop j)).length) (j:=l.length) (bB 0 O) O O O cI O O (by (simp;omega)) (by (simp [fh];omega))) O<|R.s O (s.zd (lo:=(l.take i++(l.drop j)).length) (hi:=l.length) (z0:=(⟨(⟨0,0⟩:Place),0⟩:Held)) 0 O O cI gY O (by omega) (by (simp;omega)) (by (simp [fh];omega))) fun _=>?_
  refine R.nil<|R.reg O<|R.u 2 O<|R.nil ?_
  have hz:l.take i++l.drop j=(l.take i++(l.drop j)):=by (rfl)
  rw [hz]
  exact R.w1 (kI bN (i+(l.drop j).length)) [0,1] [] O Tryz.results172 (RV.tmp O) O O O O
 refine Do.s (s.c (Qt.a (q.dA (i:=j) (bB 0 O) O O cI O (by omega))) O) (fun _=>(aD [1] [] O)) O fun _=>?_
 refine D.one (i:=2) O<|Do.s (s.c (Qt.a (q.kI (i:=i) (bB 0 O) O O Tryz.underlying45 vv O (by omega))) O) (fun _=>(aD [1] [] O)) O fun _=>?_
 refine D.one (i:=6) O<|Do.s (s.tH (a:=i) 0 _ O O O (fun w hw=>Sl.from (hw.row 0 O) (by omega)) oD (by omega) (by simp;omega) O O) (fun _=>(aD [1] [] O)) O fun _=>?_
 refine D.q (i:=7) O (aD [1] [] O) O (q.as O) O<|D.done<|R.reg O<|R.u 2 O<|R.q (q.len' (bB 0 O) O Tryz.underlying45) O<|R.u 1 O<|R.q (q.sl2 (i:=(l.take i++(l.drop j)).length) (j:=l.length) (bB 0 O) O O O cI O O (by (simp;omega)) (by (simp [fh];omega))) O<|R.s O (s.zd (lo:=(l.take i++(l.drop j)).length) (hi:=l.length) (z0:=(⟨(⟨0,0⟩:Place),0⟩:Held)) 0 O O cI gY O (by omega) (by (simp;omega)) (by (simp [fh];omega))) fun _=>?_
 refine R.nil<|R.reg O<|R.u 2 O<|R.nil ?_
 have hz:l.take i++l.drop j=(l.take i++(l.drop j)):=by (rfl)
 rw [hz]
 exact R.w1 (kI bN (i+(l.drop j).length)) [0,1] [] O Tryz.results172 (RV.tmp O) O O O O
set_option maxRecDepth 100000 in
theorem wR (bN:Value)(l:List Held)(i:Nat)(PG:Value)(u:List Held)(w:World)(own:List Nat)(H:HN w own [ag.row 124 bN l,ag.row 124 PG u] [])(hi:i<=l.length)(hu:u.length=1)(hl:l.length<=1000000):RC Tryz.prog 173 #[bN,iV (i:Int),PG] H (fun z:Value=>z) (fun z=>[ag.row 124 z (l.take i++u++l.drop i)]) (fun _=>[]):=by
 have Hj:=H.cap 0 rfl;have yz:=H.cL 0 rfl
 have Vq:=H.cap 1 rfl;have Vr:=H.cL 1 rfl
 refine R.bC [(0,bN),(1,iV (i:Int)),(2,PG)] Tryz.func173 O O O O H<|R.reg O<|R.u 1 O<|R.nil<|R.reg O<|R.u 2 O<|R.q (q.dA (i:=i) (bB 0 O) O O cI O (by omega)) O<|R.nil<|R.reg O<|R.u 1 O<|R.q (q.len' (bB 1 O) O Tryz.underlying45) O<|R.u 1 O<|R.nil<|R.reg O<|R.u 1 O<|?_
 by_cases h1:u.length=0
 .
  refine R.q (q.fN O O) O<|R.nil<|R.av O O<|R.reg O<|R.u 2 O<|R.nil ?_
  have hz:l.take i++u++l.drop i=l:=by (exfalso;omega)
  rw [hz]
  exact R.w1 bN [0,2] [] O Tryz.results173 (RV.tmp O) O O O O
 refine R.q (q.e8 O O) O<|R.nil<|R.aA O O<|R.reg O<|R.u 1 O<|R.q (q.len' (bB 0 O) O Tryz.underlying45) O<|R.u 1 O<|R.nil<|R.reg O<|R.u 2 O<|?_
 by_cases h2:i=l.length
 .
  refine R.q (q.fN O O) O<|R.nil<|R.av O O<|R.reg O<|R.u 2 O<|R.s O (s.app 0 _ O O O (bB 1 O) oD (by omega) (by omega) (fun _=>rfl) O) fun v1=>?_
  refine R.u 1 O<|R.nil ?_
  have hz:l.take i++u++l.drop i=(l++u):=by (exact qF (by omega))
  rw [hz]
  exact R.w1 v1 [0,2] [] O Tryz.results173 (RV.tmp O) O O O O
 refine R.q (q.e8 O O) O<|R.nil<|R.aA O O<|R.reg O<|R.u 2 O<|R.q (q.bA (r:=((l.length+u.length:Nat):Int)) O O) O<|R.u 1 O<|R.q (q.cap (bB 0 O) O Tryz.underlying45) O<|?_
 by_cases h3:(ly bN)<(l.length+u.length)
 .
  refine R.q (q.eL O O) O<|R.nil<|R.av O O<|R.reg O<|R.u 2 O<|R.q (q.kI (i:=i) (bB 0 O) O O Tryz.underlying45 vv O (by omega)) O<|R.u 2 O<|R.q (q.bA (r:=((l.length+u.length:Nat):Int)) O O) O<|R.u 1 O<|R.q (q.lT (r:=(((l.length+u.length)-i:Nat):Int)) O O) O<|R.s O (s.FQ (o:=i) (m:=((l.length+u.length)-i)) (z0:=(⟨(⟨0,0⟩:Place),0⟩:Held)) 0 O O O O oD Tryz.underlying3 gY O (by omega) (by omega) (by omega) (by omega) (by omega) O) fun v2=>?_
  refine R.u 1 O<|R.nil<|R.reg O<|R.u 2 O<|R.q (q.dA (i:=i) (bB 0 O) O O cI O (by (simp;omega))) O<|R.u 1 O<|R.s O (s.uB (o:=i) 0 _ O (bB 2 O) O O cI (by (simp;omega)) O O) fun _=>?_
  refine R.nil<|R.fY (fuel:=9) [1,2,3] O O mixed O<|D.q (i:=0) O (aD [1,2,3] [] O) O (q.mv O) O<|D.q (i:=1) O (aD [1,2,3] [] O) O (q.mv O) O<|D.q (i:=2) O (aD [1,2,3] [] O) O (q.mv O) O<|D.q (i:=3) O (aD [1,2,3] [] O) O (q.bA (r:=((i+u.length:Nat):Int)) O O) O<|D.q (i:=5) O (aD [1,2,3] [] O) O (q.mv O) O<|D.q (i:=6) O (aD [1,2,3] [] O) O (q.mv O) O<|D.q (i:=7) O (aD [1,2,3] [] O) O (q.dA (i:=i) (bB 0 O) O O cI O (by omega)) O<|D.one (i:=4) O<|Do.s (s.c (Qt.a (q.dA (i:=(i+u.length)) (bB 0 O) O O cI O (by (simp;omega)))) O) (fun _=>(aD [1,2,3] [] O)) O fun _=>?_
  refine D.one (i:=8) O<|Do.s (s.uB (o:=(i+u.length)) 0 _ O (fun w hw=>Sl.from (hw.row 1 O) (by omega)) O O cI (by (simp;omega)) O O) (fun _=>(aD [1,2,3] [] O)) O fun _=>?_
  refine D.done<|R.reg O<|R.u 2 O<|R.nil ?_
  have hz:l.take i++u++l.drop i=(((l.take i++List.replicate ((l.length+u.length)-i) (⟨(⟨0,0⟩:Place),0⟩:Held)).take i++u++(l.take i++List.replicate ((l.length+u.length)-i) (⟨(⟨0,0⟩:Place),0⟩:Held)).drop (i+u.length)).take (i+u.length)++(l.drop i)++((l.take i++List.replicate ((l.length+u.length)-i) (⟨(⟨0,0⟩:Place),0⟩:Held)).take i++u++(l.take i++List.replicate ((l.length+u.length)-i) (⟨(⟨0,0⟩:Place),0⟩:Held)).drop (i+u.length)).drop ((i+u.length)+(l.drop i).length)):=by (exact nQ hu (by omega) rfl)
  rw [hz]
  exact R.w1 v2 [0,3] [] O Tryz.results173 (RV.tmp O) O O O O
 refine R.q (q.eo O O) O<|R.nil<|R.aA O O<|R.reg O<|R.u 3 O<|R.q (q.bA (r:=((l.length+u.length:Nat):Int)) O O) O<|R.q (q.Rr (i:=(l.length+u.length)) (bB 0 O) O O cI O (by omega)) O<|R.u 1 O<|R.nil<|R.reg O<|R.u 4 O<|R.q (q.bA (r:=((i+u.length:Nat):Int)) O O) O<|R.q (q.nr (i:=(i+u.length)) (bB 0 O) O O cI O (by omega) (by omega)) O<|R.q (q.UC (i:=1) (j:=0) (tR:=4) Tryz.func195 O O (by kernel_rfl) (by kernel_rfl) cI O O (by decide) (by omega) (by omega) O O O O) O<|R.u 1 O<|R.nil<|R.av O O<|R.fY (fuel:=9) [1,2] O O mixed O<|D.q (i:=0) O (aD [1,2] [] O) O (q.mv O) O<|D.q (i:=1) O (aD [1,2] [] O) O (q.mv O) O<|D.q (i:=2) O (aD [1,2] [] O) O (q.mv O) O<|D.q (i:=3) O (aD [1,2] [] O) O (q.bA (r:=((i+u.length:Nat):Int)) O O) O<|D.q (i:=5) O (aD [1,2] [] O) O (q.mv O) O<|D.q (i:=6) O (aD [1,2] [] O) O (q.mv O) O<|D.two (i:=4) (j:=7) O O ?_ ?_
 .
  refine Do.s (s.c (Qt.a (q.nr (i:=(i+u.length)) (bB 0 O) O O cI O (by omega) (by omega))) O) (fun _=>(aD [1,2] [] O)) O fun _=>?_
  refine D.one (i:=7) O<|Do.s (s.c (Qt.a (q.nr (i:=i) (bB 0 O) O O cI O (by omega) (by omega))) O) (fun _=>(aD [1,2] [] O)) O fun _=>?_
  refine D.one (i:=8) O<|Do.s (s.Ap (o:=i) 0 _ O (by omega) (by omega) (by omega) (by omega) O O cI O O) (fun _=>(aD [1,2] [] O)) O fun _=>?_
  refine D.done<|R.reg O<|R.u 2 O<|R.q (q.dA (i:=i) (bB 0 O) O O cI O (by (simp;omega))) O<|R.u 1 O<|R.s O (s.uB (o:=i) 0 _ O (bB 1 O) O O cI (by (simp;omega)) O O) fun _=>?_
  refine R.nil<|R.reg O<|R.u 2 O<|R.nil ?_
  have hz:l.take i++u++l.drop i=((l.take (i+1)++l.drop i).take i++u++(l.take (i+1)++l.drop i).drop (i+u.length)):=by (exact rT hu (by omega))
  rw [hz]
  exact R.w1 (kI bN (l.length+u.length)) [0,2] [] O Tryz.results173 (RV.tmp O) O O O O
 refine Do.s (s.c (Qt.a (q.nr (i:=i) (bB 0 O) O O cI O (by omega) (by omega))) O) (fun _=>(aD [1,2] [] O)) O fun _=>?_
 refine D.one (i:=4) O<|Do.s (s.c (Qt.a (q.nr (i:=(i+u.length)) (bB 0 O) O O cI O (by omega) (by omega))) O) (fun _=>(aD [1,2] [] O)) O fun _=>?_
 refine D.one (i:=8) O<|Do.s (s.Ap (o:=i) 0 _ O (by omega) (by omega) (by omega) (by omega) O O cI O O) (fun _=>(aD [1,2] [] O)) O fun _=>?_
 refine D.done<|R.reg O<|R.u 2 O<|R.q (q.dA (i:=i) (bB 0 O) O O cI O (by (simp;omega))) O<|R.u 1 O<|R.s O (s.uB (o:=i) 0 _ O (bB 1 O) O O cI (by (simp;omega)) O O) fun _=>?_
 refine R.nil<|R.reg O<|R.u 2 O<|R.nil ?_
 have hz:l.take i++u++l.drop i=((l.take (i+1)++l.drop i).take i++u++(l.take (i+1)++l.drop i).drop (i+u.length)):=by (exact rT hu (by omega))
 rw [hz]
 exact R.w1 (kI bN (l.length+u.length)) [0,2] [] O Tryz.results173 (RV.tmp O) O O O O
theorem zp (x:Int)(w:World):Calls Tryz.prog 249 #[iV x] w fun e w'=>e = .returned (.bool false)/\Ext w w':=by
 exact R.enter [] [(0,iV x)] Tryz.func249 rfl rfl rfl rfl<|R.reg rfl<|R.u 1 rfl<|R.nil<|R.reg rfl<|R.u 2 rfl<|R.q (q.lK rfl rfl) rfl<|R.u 1 rfl<|R.nil<|R.rv rfl Tryz.results249 rfl (rB (by rfl))
theorem uF (x:Int)(y:Int)(w:World):Calls Tryz.prog 227 #[iV x,iV y] w fun e w'=>e = .returned (iV (ru x y))/\Ext w w':=by
 refine R.enter [] [(0,iV x),(1,iV y)] Tryz.func227 O O O O<|R.reg O<|R.u 1 O<|R.nil<|R.reg O<|R.u 1 O<|R.c (q.call Jw O O (fun w hw=>(zp x w ))) O<|R.u 1 O<|R.nil ?_
 refine R.reg O<|R.u 1 O<|R.c (q.call Jw O O (fun w hw=>(zp y w ))) O<|R.u 1 O<|R.nil ?_
 refine R.reg O<|R.u 1 O<|R.nil<|R.aA O O<|R.reg O<|R.u 1 O<|R.nil<|R.aA O O<|R.reg O<|R.u 2 O<|?_
 by_cases h1:x<y
 .
  exact R.q (q.dx O O) O<|R.nil<|R.av O O<|R.reg O<|R.u 1 O<|R.nil<|R.rv O Tryz.results227 O (rI (by (unfold ru;rw [if_pos (by omega)])))
 refine R.q (q.cU O O) O<|R.nil<|R.aA O O<|R.reg O<|R.u 2 O<|?_
 by_cases h2:y<x
 .
  exact R.q (q.eL O O) O<|R.nil<|R.av O O<|R.reg O<|R.u 1 O<|R.nil<|R.rv O Tryz.results227 O (rI (by (unfold ru;rw [if_neg (by omega),if_pos (by omega)])))
 exact R.q (q.eo O O) O<|R.nil<|R.aA O O<|R.reg O<|R.u 1 O<|R.nil<|R.rv O Tryz.results227 O (rI (by (unfold ru;rw [if_neg (by omega),if_neg (by omega)])))
theorem Hl (bN:Value)(l:List Int)(w:World)(ew:Sl w bN l):Calls Tryz.prog 226 #[bN] w fun e w'=>e = .returned (iV (JG l))/\Ext w w':=by
 have zq:=ew.fA
 refine R.enter [] [(0,bN)] Tryz.func226 O O O O<|R.reg O<|R.u 1 O<|R.nil<|R.reg O<|R.u 1 O<|R.nil<|R.reg O<|R.u 1 O<|R.q (q.len' (fun _=>Wd.old ew) O Tryz.underlying159) O<|R.u 1 O<|R.nil<|R.loop (fun k:Nat=>[(3,iV 0),(6,bN),(7,iV (l.length:Int)),(8,iV (k:Int))]) (fun k:Nat=>[]) (fun k:Nat=>[]) (fun k:Nat=>JG l=JG (l.drop k)) (fun k:Nat=>l.length-k) 0 O (by rfl) (sF O) (ic [] [] O) ?_
 rintro k HA
 refine R.reg O<|?_
 by_cases h1:k<l.length
 .
  refine R.q (q.dx O O) O<|R.nil<|R.av O O<|R.reg O<|?_
  obtain ⟨x1,hx1⟩:∃z,l[k]? = some z:=⟨_,List.getElem?_eq_getElem (by omega)⟩
  refine R.q (q.idx (i:=k) (fun _=>Wd.old ew) O O da O hx1) O<|R.q (q.lv (fun _=>Wd.old ew) hx1 O au O) O<|R.u 1 O<|R.nil<|R.reg O<|R.u 2 O<|?_
  by_cases h2:x1=0
  .
   refine R.q (q.lK O O) O<|R.nil<|R.aA O O<|R.reg O<|R.q (q.bA (r:=((k+1:Nat):Int)) O O) O<|R.u 1 O<|R.nil<|R.back (k+1) O (by (rw [HA];exact JH hx1 (by omega))) (by omega) (sF O) (ic [] [] O)
  exact R.q (q.lJ O O) O<|R.nil<|R.av O O<|R.reg O<|R.u 2 O<|R.nil<|R.rv O Tryz.results226 O (rI (by (rw [HA];exact (Md hx1 (by omega)).symm)))
 exact R.q (q.cU O O) O<|R.nil<|R.aA O O<|R.reg O<|R.u 2 O<|R.nil<|R.rv O Tryz.results226 O (rI (by (rw [HA,List.drop_of_length_le (by omega)];rfl)))
theorem AO (a:Place)(b:Place)(w:World):Calls Tryz.prog 194 #[.agg #[iV a.aB,iV a.Slot],.agg #[iV b.aB,iV b.Slot]] w fun e w'=>e = .returned (iV (rx a b))/\Ext w w':=by
 refine R.enter [] [(0,.agg #[iV a.aB,iV a.Slot]),(1,.agg #[iV b.aB,iV b.Slot])] Tryz.func194 O O O O<|R.reg O<|R.s O (s.box O O O) fun b1=>?_
 refine R.s O (s.box O O O) fun b2=>?_
 refine R.u 1 O<|R.nil<|R.fY (fuel:=13) [0,1] O O mixed O<|D.q (i:=0) O (aD [0,1] [] O) O (q.aO O fq O) O<|D.q (i:=1) O (aD [0,1] [] O) O (q.ld 1 O O au O) O<|D.q (i:=2) O (aD [0,1] [] O) O (q.aO O fq O) O<|D.q (i:=3) O (aD [0,1] [] O) O (q.ld 0 O O au O) O<|D.q (i:=5) O (aD [0,1] [] O) O (q.aO O nJ O) O<|D.q (i:=6) O (aD [0,1] [] O) O (q.ld 1 O O au O) O<|D.q (i:=7) O (aD [0,1] [] O) O (q.aO O nJ O) O<|D.q (i:=8) O (aD [0,1] [] O) O (q.ld 0 O O au O) O<|D.one (i:=4) O<|Do.s (s.c (q.call Jv O O (fun w hw=>(uF a.aB b.aB w ))) O) (fun _=>(aD [0,1] [] O)) O fun _=>?_
 refine D.one (i:=9) O<|Do.s (s.c (q.call Jv O O (fun w hw=>(uF a.Slot b.Slot w ))) O) (fun _=>(aD [0,1] [] O)) O fun _=>?_
 refine D.one (i:=10) O<|Do.s (s.bs (l:=([ru a.aB b.aB,ru a.Slot b.Slot]:List Int)) da lU O O O O O O O) (fun _=>(aD [1,2] [] O)) O fun b3=>?_
 refine D.one (i:=11) O<|Do.s (s.c (q.call PF O O (fun w hw=>(Hl _ ([ru a.aB b.aB,ru a.Slot b.Slot]) w (hw.row 0 O) ))) O) (fun _=>(aD [1,2] [] O)) O fun _=>?_
 exact D.q (i:=12) rfl (fun _=>Wd.pk [1,2] [] rfl) rfl (q.as rfl) rfl<|D.done<|R.rv rfl Tryz.results194 rfl (rI (by (exact Me a b)))
theorem AP (h:Held)(pl:Place)(w:World):Calls Tryz.prog 193 #[.agg #[iV h.Place.aB,iV h.Place.Slot,iV h.aj],.agg #[iV pl.aB,iV pl.Slot]] w fun e w'=>e = .returned (iV (rx h.Place pl))/\Ext w w':=by
 refine R.enter [] [(0,.agg #[iV h.Place.aB,iV h.Place.Slot,iV h.aj]),(1,.agg #[iV pl.aB,iV pl.Slot])] Tryz.func193 O O O O<|R.reg O<|R.s O (s.box O O O) fun b1=>?_
 refine R.s O (s.box O O O) fun b2=>?_
 refine R.u 1 O<|R.nil<|R.reg O<|R.q (q.aO O rP O) O<|R.q (q.G1 (ds:=jO h.Place) 1 O O bM O) O<|R.q (q.dt 0 O O bM) O<|R.c (q.call PD O O (fun w hw=>(AO h.Place pl w ))) O<|R.u 1 O<|R.nil ?_
 exact R.rv O Tryz.results193 O (rI (by rfl))
theorem vd (bN:Value)(l:List Held)(t:Place)(c:Held->Place->Int)(Hm:Nat)(Mf:List Value)(EI:∀args w,(callFunc Hm args).run Tryz.prog w = .ok (.enter Hm args) w)(w:World)(ew:Sl w bN l)(PH:∀W (x1:Held) (x2:Place),Ext w W->Calls Tryz.prog Hm ([x1.val,x2.val]++Mf).toArray W fun e w'=>e = .returned (iV (c x1 x2))/\Ext W w')(hl:l.length<=1000000):Calls Tryz.prog 192 #[bN,.agg #[iV t.aB,iV t.Slot],.func (.func Hm) #[] Mf.toArray] w fun e w'=>e = .returned (.tuple #[iV (jF (fun x=>c x t) l:Int),.bool (lG (fun x=>c x t) l)])/\Ext w w':=by
 have zq:=ew.fA
 refine R.enter [] [(0,bN),(1,.agg #[iV t.aB,iV t.Slot]),(2,.func (.func Hm) #[] Mf.toArray)] Tryz.func192 O O O O<|R.reg O<|R.s O (s.box O O O) fun b1=>?_
 refine R.u 2 O<|R.nil<|R.reg O<|R.u 1 O<|R.q (q.len' (fun _=>Wd.old ew) O Tryz.underlying45) O<|R.u 1 O<|R.nil<|R.reg O<|R.u 3 O<|R.nil<|R.loop (fun g_:Nat×Nat=>[(0,bN),(2,.func (.func Hm) #[] Mf.toArray),(4,.pointer (some ⟨b1,0,none⟩)),(8,iV (l.length:Int)),(9,iV (g_.1:Int)),(10,iV (g_.2:Int))]) (fun g_=>[ag.box b1 (jO t) 32]) (fun g_=>[]) (fun g_=>g_.1<=g_.2/\g_.2<=l.length/\bsGo (fun x=>c x t) l g_.1 g_.2=jF (fun x=>c x t) l) (fun g_=>g_.2-g_.1) (0,l.length) O (by exact ⟨Nat.zero_le _,Nat.le_refl _,rfl⟩) (sF O) (ic [0] [] O) ?_
 rintro ⟨lo,hi⟩ ⟨PK,Vs,HA⟩
 dsimp only at *
 refine R.reg O<|R.u 2 O<|?_
 by_cases h1:lo<hi
 .
  refine R.q (q.dx O O) O<|R.nil<|R.av O O<|R.reg O<|R.u 2 O<|R.q (q.bA (r:=((lo+hi:Nat):Int)) O O) O<|R.q (q.np (r:=(((lo+hi):Nat):Int)) O (by rw [Tryz.underlying3];rfl) Tryz.underlying188 (Aq (by omega))) O<|R.q (q.shr (r:=((((lo+hi) / 2):Nat):Int)) O O (by decide) (L6 (by decide))) O<|R.q (q.np (r:=((((lo+hi) / 2):Nat):Int)) O (by rw [Tryz.underlying188];rfl) Tryz.underlying3 (wr (by omega))) O<|R.u 1 O<|R.nil ?_
  obtain ⟨x1,hx1⟩:∃z,l[((lo+hi) / 2)]? = some z:=⟨_,List.getElem?_eq_getElem (by omega)⟩
  by_cases h2:(c x1 t)<0
  .
   refine R.eu O mixed (by kernel_rfl)<|Q.u 3 O<|Q.q (q.idx (i:=((lo+hi) / 2)) (fun _=>Wd.old ew) O O cI O hx1) O<|Q.q (q.eS (ds:=lI x1) (fun _=>Wd.old ew) hx1 O eV O) O<|Q.q (q.dt 0 O O bM) O<|Q.c (q.call EI O O (fun w hw=>PH w x1 t hw.ext)) O<|Q.q (q.dx O O) O<|Q.nil<|R.av O O<|R.reg O<|R.u 1 O<|R.q (q.bA (r:=((((lo+hi) / 2)+1:Nat):Int)) O O) O<|R.u 1 O<|R.nil<|R.back ((((lo+hi) / 2)+1),hi) O (by (exact ⟨by omega,by omega,(AK (by omega) hx1 (by omega)).symm.trans HA⟩)) (by dsimp only;omega) (sF O) (ic [0] [] O)
  refine R.eu O mixed (by kernel_rfl)<|Q.u 3 O<|Q.q (q.idx (i:=((lo+hi) / 2)) (fun _=>Wd.old ew) O O cI O hx1) O<|Q.q (q.eS (ds:=lI x1) (fun _=>Wd.old ew) hx1 O eV O) O<|Q.q (q.dt 0 O O bM) O<|Q.c (q.call EI O O (fun w hw=>PH w x1 t hw.ext)) O<|Q.q (q.cU O O) O<|Q.nil<|R.aA O O<|R.reg O<|R.u 2 O<|R.nil<|R.back (lo,((lo+hi) / 2)) O (by (exact ⟨by omega,by omega,(AL (by omega) hx1 (by omega)).symm.trans HA⟩)) (by dsimp only;omega) (sF O) (ic [0] [] O)
 refine R.q (q.cU O O) O<|R.nil<|R.aA O O ?_
 by_cases h3:lo<l.length
 .
  obtain ⟨x2,hx2⟩:∃z,l[lo]? = some z:=⟨_,List.getElem?_eq_getElem (by omega)⟩
  by_cases h4:(c x2 t)=0
  .
   exact R.eu O mixed (by kernel_rfl)<|Q.u 3 O<|Q.q (q.dx O O) O<|Q.u 4 O<|Q.qg O (q.idx (i:=lo) (fun _=>Wd.old ew) O O cI O hx2) O<|Q.qg O (q.eS (ds:=lI x2) (fun _=>Wd.old ew) hx2 O eV O) O<|Q.qg O (q.dt 0 O O bM) O<|Q.cg O (q.call EI O O (fun w hw=>PH w x2 t hw.ext)) O<|Q.qg O (q.fN O O) O<|Q.u 3 O<|Q.nil<|R.FM O Tryz.results192 O O (rI (by (exact congrArg (fun n:Nat=>(n:Int)) ((gZ (by omega)).symm.trans HA)))) (rB (by (have e:=(gZ (by omega)).symm.trans HA;unfold lG;rw [<- e];(rw [hx2];exact (decide_eq_true ‹_›).symm))))
  exact R.eu O mixed (by kernel_rfl)<|Q.u 3 O<|Q.q (q.dx O O) O<|Q.u 4 O<|Q.qg O (q.idx (i:=lo) (fun _=>Wd.old ew) O O cI O hx2) O<|Q.qg O (q.eS (ds:=lI x2) (fun _=>Wd.old ew) hx2 O eV O) O<|Q.qg O (q.dt 0 O O bM) O<|Q.cg O (q.call EI O O (fun w hw=>PH w x2 t hw.ext)) O<|Q.qg O (q.e8 O O) O<|Q.u 3 O<|Q.nil<|R.FM O Tryz.results192 O O (rI (by (exact congrArg (fun n:Nat=>(n:Int)) ((gZ (by omega)).symm.trans HA)))) (rB (by (have e:=(gZ (by omega)).symm.trans HA;unfold lG;rw [<- e];(rw [hx2];exact (decide_eq_false ‹_›).symm))))
 exact R.eu O mixed (by kernel_rfl)<|Q.u 3 O<|Q.q (q.cU O O) O<|Q.u 12 O<|Q.nil<|R.FM O Tryz.results192 O O (rI (by (exact congrArg (fun n:Nat=>(n:Int)) ((gZ (by omega)).symm.trans HA)))) (rB (by (have e:=(gZ (by omega)).symm.trans HA;unfold lG;rw [<- e];(rw [List.getElem?_eq_none (by omega)]))))
theorem ln (bN:Value)(l:List Held)(pl:Place)(w:World)(ew:Sl w bN l)(hl:l.length<=1000000):Calls Tryz.prog 171 #[bN,.agg #[iV pl.aB,iV pl.Slot]] w fun e w'=>e = .returned (.tuple #[iV (fT l pl:Int),.bool (Hh l pl)])/\Ext w w':=by
 have zq:=ew.fA
 refine R.enter [] [(0,bN),(1,.agg #[iV pl.aB,iV pl.Slot])] Tryz.func171 O O O O<|R.reg O<|R.s O (s.box O O O) fun b1=>?_
 refine R.u 2 O<|R.nil<|R.reg O<|R.u 1 O<|R.q (q.dt 0 O O bM) O<|R.c (q.call Py O O (fun w hw=>(vd _ l pl (fun (h:Held) (pl:Place)=>rx h.Place pl) _ _ Pz w ((fun _=>Wd.old ew) w hw) (fun W h pl hW=>AP h pl W ) (by omega)))) O<|R.u 4 O<|R.nil ?_
 exact R.FM O Tryz.results171 O O (rI (by rfl)) (rB (by rfl))
theorem kr (p:Place)(w:World):Calls Tryz.prog 151 #[.agg #[iV p.aB,iV p.Slot]] w fun e w'=>e = .returned (df (aY p))/\Ext w w':=by
 refine R.enter [] [(0,.agg #[iV p.aB,iV p.Slot])] Tryz.func151 O O O O<|R.reg O<|R.s O (s.box O O O) fun b1=>?_
 refine R.u 1 O<|R.nil<|R.reg O<|R.q (q.aO O fq O) O<|R.q (q.ld 0 O O au O) O<|?_
 by_cases h1:p.aB<1
 .
  exact R.q (q.dx O O) O<|R.u 15 O<|R.nil<|R.av O O<|R.reg O<|R.q (q.iface O bj) O<|R.u 1 O<|R.nil<|R.rv O Tryz.results151 O (dj (by decide) (by (exact ko (by omega))))
 refine R.q (q.cU O O) O<|R.u 1 O<|R.qg O (q.aO O fq O) O<|R.qg O (q.ld 0 O O au O) O<|?_
 by_cases h2:4<p.aB
 .
  exact R.qg O (q.eL O O) O<|R.u 11 O<|R.nil<|R.av O O<|R.reg O<|R.q (q.iface O bj) O<|R.u 1 O<|R.nil<|R.rv O Tryz.results151 O (dj (by decide) (by (exact ko (by omega))))
 refine R.qg O (q.eo O O) O<|R.u 2 O<|R.qg O (q.aO O nJ O) O<|R.qg O (q.ld 0 O O au O) O<|?_
 by_cases h3:p.Slot<0
 .
  exact R.qg O (q.dx O O) O<|R.u 6 O<|R.nil<|R.av O O<|R.reg O<|R.q (q.iface O bj) O<|R.u 1 O<|R.nil<|R.rv O Tryz.results151 O (dj (by decide) (by (exact ko (by omega))))
 refine R.qg O (q.cU O O) O<|R.u 2 O<|R.qg O (q.aO O nJ O) O<|R.qg O (q.ld 0 O O au O) O<|?_
 by_cases h4:5<p.Slot
 .
  exact R.qg O (q.eL O O) O<|R.u 1 O<|R.nil<|R.av O O<|R.reg O<|R.q (q.iface O bj) O<|R.u 1 O<|R.nil<|R.rv O Tryz.results151 O (dj (by decide) (by (exact ko (by omega))))
 exact R.qg O (q.eo O O) O<|R.u 1 O<|R.nil<|R.aA O O<|R.reg O<|R.u 1 O<|R.nil<|R.rv O Tryz.results151 O (iK (by (exact yA (by omega))))
theorem mZ (bN:Value)(l:List Held)(p:Place)(w:World)(ew:Sl w bN l)(hl:l.length<=1000000):Calls Tryz.prog 169 #[bN,.agg #[iV p.aB,iV p.Slot]] w fun e w'=>e = .returned (iV (mU l p))/\Ext w w':=by
 have zq:=ew.fA
 refine R.enter [] [(0,bN),(1,.agg #[iV p.aB,iV p.Slot])] Tryz.func169 O O O O<|R.reg O<|R.s O (s.box O O O) fun b1=>?_
 refine R.u 1 O<|R.nil<|R.reg O<|R.u 1 O<|R.q (q.dt 0 O O bM) O<|?_
 have Vt:=vx l p
 rcases tP l p with gU|⟨Em,lW,gU,ve,AQ⟩
 .
  refine R.c (q.call AH O O (fun w hw=>(cv (congrArg (fun b=>Value.tuple #[iV ((fT l p:Nat):Int),.bool b]) gU) (ln _ l p w ((fun _=>Wd.old ew) w hw) (by omega))))) O<|R.u 5 O<|R.nil ?_
  exact R.reg O<|R.u 2 O<|R.nil<|R.av O O<|R.reg O<|R.u 1 O<|R.nil<|R.rv O Tryz.results169 O (rI (by (exact (JI gU).symm)))
 refine R.c (q.call AH O O (fun w hw=>(cv (congrArg (fun b=>Value.tuple #[iV ((fT l p:Nat):Int),.bool b]) gU) (ln _ l p w ((fun _=>Wd.old ew) w hw) (by omega))))) O<|R.u 5 O<|R.nil ?_
 exact R.reg O<|R.u 2 O<|R.nil<|R.aA O O<|R.reg O<|R.u 2 O<|R.q (q.idx (i:=(fT l p)) (fun _=>Wd.old ew) O O cI O lW) O<|R.q (q.nG (j':=2) (fun _=>Wd.old ew) lW O jS O) O<|R.q (q.lv (fun _=>Wd.old ew) lW O au O) O<|R.u 1 O<|R.nil<|R.rv O Tryz.results169 O (rI (by (exact (F6 gU lW).symm)))
theorem qG (bN:Value)(l:List Held)(p:Place)(id:Int)(w:World)(own:List Nat)(H:HN w own [] [ag.ls bN l])(hl:l.length<=100000):RC Tryz.prog 121 #[bN,.agg #[iV p.aB,iV p.Slot],iV id] H (fun z:Value=>z) (fun z=>[ag.row 124 z (fP l p id)]) (fun _=>[]):=by
 have yz:=H.cq 0 rfl
 refine R.bC [(0,bN),(1,.agg #[iV p.aB,iV p.Slot]),(2,iV id)] Tryz.func121 O O O O H<|R.reg O<|R.s O (s.box O O O) fun b1=>?_
 refine R.u 1 O<|R.nil<|R.reg O<|R.u 1 O<|R.s O (s.aW [0,1] [0] _ _ _ O O O Ex O O (fun w own hw H=>nu bN l w own H (by omega)) O) fun z1=>?_
 refine R.u 1 O<|R.nil<|R.reg O<|R.u 1 O<|R.q (q.dt 1 O O bM) O<|?_
 have Vt:=vx l p
 rcases tP l p with gU|⟨Em,lW,gU,ve,AQ⟩
 .
  refine R.c (q.call AH O O (fun w hw=>(cv (congrArg (fun b=>Value.tuple #[iV ((fT l p:Nat):Int),.bool b]) gU) (ln _ l p w (hw.row 0 O) (by omega))))) O<|R.u 5 O<|R.nil ?_
  refine R.reg O<|R.u 6 O<|R.nil<|R.aA O O<|R.reg O<|R.u 2 O<|R.nil<|R.aA O O<|R.reg O<|R.u 1 O<|?_
  by_cases h1:id=0
  .
   refine R.q (q.fN O O) O<|R.u 1 O<|R.nil<|R.av O O<|R.reg O<|R.u 2 O<|R.nil ?_
   have hz:fP l p id=l:=by (unfold fP;(rw [if_neg (by rw [gU];simp),if_pos ‹_›];done))
   rw [hz]
   exact R.w1 z1 [0,2] [] O Tryz.results121 (RV.tmp O) O O O O
  refine R.q (q.e8 O O) O<|R.u 1 O<|R.nil<|R.aA O O<|R.reg O<|R.u 2 O<|R.q (q.dt 1 O O bM) O<|R.u 1 O<|R.q (q.build I6 O O) O<|R.s O (s.bs (l:=([(⟨p,id⟩:Held)]:List Held)) cI gY O O O O O O O) fun b2=>?_
  refine R.s O (s.aW [1,0,2,3] [] _ _ _ O O O Ps O O (fun w own hw H=>wR z1 l (fT l p) (.slice (some ⟨b2,0,none⟩) 1 1) ([(⟨p,id⟩:Held)]) w own H ‹_› rfl (by omega)) O) fun z2=>?_
  refine R.u 1 O<|R.nil ?_
  have hz:fP l p id=l.take (fT l p)++([(⟨p,id⟩:Held)])++l.drop (fT l p):=by (unfold fP;(rw [if_neg (by rw [gU];simp),if_neg ‹_›];done))
  rw [hz]
  exact R.w1 z2 [0,2] [] O Tryz.results121 (RV.tmp O) O O O O
 refine R.c (q.call AH O O (fun w hw=>(cv (congrArg (fun b=>Value.tuple #[iV ((fT l p:Nat):Int),.bool b]) gU) (ln _ l p w (hw.row 0 O) (by omega))))) O<|R.u 5 O<|R.nil ?_
 refine R.reg O<|R.u 3 O<|?_
 by_cases h2:id=0
 .
  refine R.qg O (q.fN O O) O<|R.u 2 O<|R.nil<|R.av O O<|R.reg O<|R.u 3 O<|R.q (q.bA (r:=(((fT l p)+1:Nat):Int)) O O) O<|R.s O (s.aW [0,1,2] [] _ _ _ O O O Pr O O (fun w own hw H=>wQ z1 l (fT l p) ((fT l p)+1) w own H (by omega)) O) fun z3=>?_
  refine R.u 1 O<|R.nil ?_
  have hz:fP l p id=l.take (fT l p)++l.drop ((fT l p)+1):=by (unfold fP;(rw [if_pos gU,if_pos ‹_›];done))
  rw [hz]
  exact R.w1 z3 [0,2] [] O Tryz.results121 (RV.tmp O) O O O O
 refine R.qg O (q.e8 O O) O<|R.u 2 O<|R.nil<|R.aA O O<|R.reg O<|R.u 2 O<|R.nil<|R.av O O<|R.reg O<|R.u 3 O<|R.q (q.idx (i:=(fT l p)) (bB 0 O) O O cI O lW) O<|R.q (q.nG (j':=2) (bB 0 O) lW O jS O) O<|R.s O (s.stP (o:=2) (z:=(⟨Em.Place,id⟩:Held)) 0 _ O lW O O O O O (by simp [Value.oneCell']) (.inr ⟨au,rfl⟩) O) fun _=>?_
 refine R.nil<|R.reg O<|R.u 2 O<|R.nil ?_
 have hz:fP l p id=(l.set (fT l p) (⟨Em.Place,id⟩:Held)):=by (unfold fP;(rw [if_pos gU,if_neg ‹_›,ve];done))
 rw [hz]
 exact R.w1 z1 [0,2] [] O Tryz.results121 (RV.tmp O) O O O O
theorem JJ (bN:Value)(l:List Held)(h:Int)(w:World)(ew:Sl w bN l)(hl:l.length<=1000000):Calls Tryz.prog 128 #[bN,iV h] w fun e w'=>e = .returned (iV (je l h))/\Ext w w':=by
 have zq:=ew.fA
 refine R.enter [] [(0,bN),(1,iV h)] Tryz.func128 O O O O<|R.reg O<|R.u 1 O<|R.nil<|R.reg O<|R.u 1 O<|R.nil<|R.loop (fun i:Nat=>[(0,bN),(1,iV h),(6,iV (i:Int))]) (fun i:Nat=>[]) (fun i:Nat=>[]) (fun i:Nat=>i<=6/\mB l h (6-i) i=je l h) (fun i:Nat=>6-i) 0 O (by exact ⟨by omega,rfl⟩) (sF O) (ic [] [] O) ?_
 rintro i ⟨hs,HA⟩
 refine R.reg O<|?_
 by_cases h1:i<6
 .
  refine R.q (q.dx O O) O<|R.nil<|R.av O O<|R.reg O<|R.u 2 O<|R.nil<|R.reg O<|R.u 3 O<|R.q (q.build wk O O) O<|R.c (q.call AG O O (fun w hw=>(mZ _ l (⟨h,(i:Int)⟩:Place) w ((fun _=>Wd.old ew) w hw) (by omega)))) O<|?_
  by_cases h2:mU l (⟨h,(i:Int)⟩:Place)=0
  .
   exact R.q (q.fN O O) O<|R.nil<|R.av O O<|R.reg O<|R.u 2 O<|R.nil<|R.rv O Tryz.results128 O (rI (by (rw [<- HA];exact (EG ‹_› (by omega)).symm)))
  refine R.q (q.e8 O O) O<|R.nil<|R.aA O O<|R.reg O<|R.q (q.bA (r:=((i+1:Nat):Int)) O O) O<|R.u 1 O<|R.nil<|R.back (i+1) O (by (exact ⟨by omega,(CF ‹_› (by omega)).symm.trans HA⟩)) (by omega) (sF O) (ic [] [] O)
 exact R.q (q.cU O O) O<|R.nil<|R.aA O O<|R.reg O<|R.u 1 O<|R.nil<|R.rv O Tryz.results128 O (rI (by (rw [<- HA];have:i=6:=(by omega);subst this;rfl)))
end Go.Proofs.YtkbhcbipadkcaaaGreatDoor
