import Derived.Test.YtkbhcbipadkcaaaGreatDoorTO12
namespace Go.Proofs.YtkbhcbipadkcaaaGreatDoor
set_option linter.unusedVariables false
set_option linter.unusedSimpArgs false
open Go Go.RowKit
set_option maxRecDepth 100000
set_option maxHeartbeats 1000000
theorem nr (bJ:Value)(l:List Held)(w:World)(own:List Nat)(H:HN w own [] [af.ls bJ l])(hl:l.length<=1000000):RC Tryz.prog 107 #[bJ] H (fun z:Value=>z) (fun z=>[af.row 124 z l]) (fun _=>[]):=by
 have yD:=H.cx 0 rfl
 refine R.bF [(0,bJ)] Tryz.func107 O O O O H<|R.reg O<|R.u 1 O<|R.nil<|R.reg O<|R.u 1 O<|?_
 rcases Bool.eq_false_or_eq_true (pq bJ) with h1|h1
 .
  refine R.q (q.G6 (congrArg Value.bool h1) (q.pb (dr 0 O) O O Tryz.underlying45)) O<|R.nil<|R.ay O O<|R.reg O<|R.u 1 O<|R.nil<|R.row0 (α:=Held) 124 ?_
  have hz:l=[]:=by (exact Sl.pq (H.bT 0 rfl) ‹_›)
  rw [hz]
  exact R.w1 (nS) [0,1] [] O Tryz.results107 (RV.tmp O) O O O O
 refine R.q (q.G6 (congrArg Value.bool h1) (q.pb (dr 0 O) O O Tryz.underlying45)) O<|R.nil<|R.aB O O<|R.reg O<|R.s O (s.bs (l:=([]:List Held)) cL gZ O O O O O O O) fun b1=>R.u 1 O<|R.s O (s.app 0 _ O O O (dr 0 O) oB (by simp;omega) (by simp;omega) (fun _=>rfl) O) fun v1=>R.u 1 O<|R.nil ?_
 have hz:l=(([])++l):=by (rfl)
 rw [hz]
 exact R.w1 v1 [0,1] [] O Tryz.results107 (RV.tmp O) O O O O
theorem wS (bJ:Value)(l:List Held)(i:Nat)(j:Nat)(w:World)(own:List Nat)(H:HN w own [af.row 124 bJ l] [])(hij:i<=j/\j<=l.length):RC Tryz.prog 172 #[bJ,iV (i:Int),iV (j:Int)] H (fun z:Value=>z) (fun z=>[af.row 124 z (l.take i++l.drop j)]) (fun _=>[]):=by
 have Hm:=H.cap 0 rfl;have yD:=H.cQ 0 rfl
 refine R.bF [(0,bJ),(1,iV (i:Int)),(2,iV (j:Int))] Tryz.func172 O O O O H<|R.reg O<|R.u 1 O<|R.nil<|R.reg O<|R.u 4 O<|R.q (q.len' (ck 0 O) O Tryz.underlying45) O<|R.q (q.Er (i:=i) (j:=j) (q':=l.length) (ck 0 O) O O O O cL O O O (by omega) (by omega) (by omega)) O<|R.nil<|R.reg O<|R.u 2 O<|?_
 by_cases h1:i=j
 .
  refine R.q (q.fQ O O) O<|R.nil<|R.ay O O<|R.reg O<|R.u 2 O<|R.nil ?_
  have hz:l.take i++l.drop j=l:=by (exact pU (by omega))
  rw [hz]
  exact R.w1 bJ [0,1] [] O Tryz.results172 (RV.tmp O) O O O O
 refine R.q (q.fa O O) O<|R.nil<|R.aB O O<|R.reg O<|R.u 1 O<|R.q (q.len' (ck 0 O) O Tryz.underlying45) O<|R.u 1 O<|R.nil<|R.fu (fuel:=8) (Wd w (blks [af.row 124 bJ l]++own) [af.held w own] []) O mixed O<|D.q (i:=0) O (aC [1] [] O O O) O (q.mv O) O<|D.q (i:=1) O (aC [1] [] O O O) O (q.mv O) O<|D.q (i:=3) O (aC [1] [] O O O) O (q.mv O) O<|D.q (i:=4) O (aC [1] [] O O O) O (q.mv O) O<|D.two (i:=2) (j:=5) O O ?_ ?_
 .
  refine Do.s (s.c (Qt.a (q.kD (i:=i) (ck 0 O) O O Tryz.underlying45 vv O (by omega))) O) (fun _=>(aC [1] [] O O O)) O fun _=>D.one (i:=5) O<|Do.s (s.c (Qt.a (q.dB (i:=j) (ck 0 O) O O cL O (by omega))) O) (fun _=>(aC [1] [] O O O)) O fun _=>D.one (i:=6) O<|Do.s (s.tJ (a:=i) 0 _ O O O (fun w hw=>Sl.from (hw.row 0 O) (by omega)) oB (by omega) (by simp;omega) O O) (fun _=>(aC [1] [] O O O)) O fun _=>D.q (i:=7) O (aC [1] [] O O O) O (q.as O) O<|D.done<|R.reg O<|R.u 2 O<|R.q (q.len' (ck 0 O) O Tryz.underlying45) O<|R.u 1 O<|R.q (q.sl2 (i:=(l.take i++(l.drop j)).length) (j:=l.length) (ck 0 O) O O O cL O O (by (simp;omega)) (by (simp [fj];omega))) O<|R.s O (s.zh (lo:=(l.take i++(l.drop j)).length) (hi:=l.length) (z0:=(⟨(⟨0,0⟩:Place),0⟩:Held)) 0 O O cL gZ O (by omega) (by (simp;omega)) (by (simp [fj];omega))) fun _=>R.nil<|R.reg O<|R.u 2 O<|R.nil ?_
  have hz:l.take i++l.drop j=(l.take i++(l.drop j)):=by (rfl)
  rw [hz]
  exact R.w1 (kD bJ (i+(l.drop j).length)) [0,1] [] O Tryz.results172 (RV.tmp O) O O O O
 refine Do.s (s.c (Qt.a (q.dB (i:=j) (ck 0 O) O O cL O (by omega))) O) (fun _=>(aC [1] [] O O O)) O fun _=>D.one (i:=2) O<|Do.s (s.c (Qt.a (q.kD (i:=i) (ck 0 O) O O Tryz.underlying45 vv O (by omega))) O) (fun _=>(aC [1] [] O O O)) O fun _=>D.one (i:=6) O<|Do.s (s.tJ (a:=i) 0 _ O O O (fun w hw=>Sl.from (hw.row 0 O) (by omega)) oB (by omega) (by simp;omega) O O) (fun _=>(aC [1] [] O O O)) O fun _=>D.q (i:=7) O (aC [1] [] O O O) O (q.as O) O<|D.done<|R.reg O<|R.u 2 O<|R.q (q.len' (ck 0 O) O Tryz.underlying45) O<|R.u 1 O<|R.q (q.sl2 (i:=(l.take i++(l.drop j)).length) (j:=l.length) (ck 0 O) O O O cL O O (by (simp;omega)) (by (simp [fj];omega))) O<|R.s O (s.zh (lo:=(l.take i++(l.drop j)).length) (hi:=l.length) (z0:=(⟨(⟨0,0⟩:Place),0⟩:Held)) 0 O O cL gZ O (by omega) (by (simp;omega)) (by (simp [fj];omega))) fun _=>R.nil<|R.reg O<|R.u 2 O<|R.nil ?_
 have hz:l.take i++l.drop j=(l.take i++(l.drop j)):=by (rfl)
 rw [hz]
 exact R.w1 (kD bJ (i+(l.drop j).length)) [0,1] [] O Tryz.results172 (RV.tmp O) O O O O
set_option maxRecDepth 100000 in
theorem wT (bJ:Value)(l:List Held)(i:Nat)(EK:Value)(u:List Held)(w:World)(own:List Nat)(H:HN w own [af.row 124 bJ l,af.row 124 EK u] [])(hi:i<=l.length)(hu:u.length=1)(hl:l.length<=1000000):RC Tryz.prog 173 #[bJ,iV (i:Int),EK] H (fun z:Value=>z) (fun z=>[af.row 124 z (l.take i++u++l.drop i)]) (fun _=>[]):=by
 have Hm:=H.cap 0 rfl;have yD:=H.cQ 0 rfl
 have Vq:=H.cap 1 rfl;have Vr:=H.cQ 1 rfl
 refine R.bF [(0,bJ),(1,iV (i:Int)),(2,EK)] Tryz.func173 O O O O H<|R.reg O<|R.u 1 O<|R.nil<|R.reg O<|R.u 2 O<|R.q (q.dB (i:=i) (ck 0 O) O O cL O (by omega)) O<|R.nil<|R.reg O<|R.u 1 O<|R.q (q.len' (ck 1 O) O Tryz.underlying45) O<|R.u 1 O<|R.nil<|R.reg O<|R.u 1 O<|?_
 by_cases h1:u.length=0
 .
  refine R.q (q.fQ O O) O<|R.nil<|R.ay O O<|R.reg O<|R.u 2 O<|R.nil ?_
  have hz:l.take i++u++l.drop i=l:=by (exfalso;omega)
  rw [hz]
  exact R.w1 bJ [0,2] [] O Tryz.results173 (RV.tmp O) O O O O
 refine R.q (q.fa O O) O<|R.nil<|R.aB O O<|R.reg O<|R.u 1 O<|R.q (q.len' (ck 0 O) O Tryz.underlying45) O<|R.u 1 O<|R.nil<|R.reg O<|R.u 2 O<|?_
 by_cases h2:i=l.length
 .
  refine R.q (q.fQ O O) O<|R.nil<|R.ay O O<|R.reg O<|R.u 2 O<|R.s O (s.app 0 _ O O O (ck 1 O) oB (by omega) (by omega) (fun _=>rfl) O) fun v1=>R.u 1 O<|R.nil ?_
  have hz:l.take i++u++l.drop i=(l++u):=by (exact qF (by omega))
  rw [hz]
  exact R.w1 v1 [0,2] [] O Tryz.results173 (RV.tmp O) O O O O
 refine R.q (q.fa O O) O<|R.nil<|R.aB O O<|R.reg O<|R.u 2 O<|R.q (q.bA (r:=((l.length+u.length:Nat):Int)) O O) O<|R.u 1 O<|R.q (q.cap (ck 0 O) O Tryz.underlying45) O<|?_
 by_cases h3:(lw bJ)<(l.length+u.length)
 .
  refine R.q (q.eL O O) O<|R.nil<|R.ay O O<|R.reg O<|R.u 2 O<|R.q (q.kD (i:=i) (ck 0 O) O O Tryz.underlying45 vv O (by omega)) O<|R.u 2 O<|R.q (q.bA (r:=((l.length+u.length:Nat):Int)) O O) O<|R.u 1 O<|R.q (q.lV (r:=(((l.length+u.length)-i:Nat):Int)) O O) O<|R.s O (s.FV (o:=i) (m:=((l.length+u.length)-i)) (z0:=(⟨(⟨0,0⟩:Place),0⟩:Held)) 0 O O O O oB Tryz.underlying3 gZ O (by omega) (by omega) (by omega) (by omega) (by omega) O) fun v2=>R.u 1 O<|R.nil<|R.reg O<|R.u 2 O<|R.q (q.dB (i:=i) (ck 0 O) O O cL O (by (simp;omega))) O<|R.u 1 O<|R.s O (s.uC (o:=i) 0 _ O (ck 2 O) O O cL (by (simp;omega)) O O) fun _=>R.nil<|R.fu (fuel:=9) (Wd w (blks [af.row 124 bJ l,af.row 124 EK u]++own) [af.row 124 bJ l,af.row 124 EK u,af.held w own] []) O mixed O<|D.q (i:=0) O (aC [1,2,3] [] O O O) O (q.mv O) O<|D.q (i:=1) O (aC [1,2,3] [] O O O) O (q.mv O) O<|D.q (i:=2) O (aC [1,2,3] [] O O O) O (q.mv O) O<|D.q (i:=3) O (aC [1,2,3] [] O O O) O (q.bA (r:=((i+u.length:Nat):Int)) O O) O<|D.q (i:=5) O (aC [1,2,3] [] O O O) O (q.mv O) O<|D.q (i:=6) O (aC [1,2,3] [] O O O) O (q.mv O) O<|D.q (i:=7) O (aC [1,2,3] [] O O O) O (q.dB (i:=i) (ck 0 O) O O cL O (by omega)) O<|D.one (i:=4) O<|Do.s (s.c (Qt.a (q.dB (i:=(i+u.length)) (ck 0 O) O O cL O (by (simp;omega)))) O) (fun _=>(aC [1,2,3] [] O O O)) O fun _=>D.one (i:=8) O<|Do.s (s.uC (o:=(i+u.length)) 0 _ O (fun w hw=>Sl.from (hw.row 1 O) (by omega)) O O cL (by (simp;omega)) O O) (fun _=>(aC [1,2,3] [] O O O)) O fun _=>D.done<|R.reg O<|R.u 2 O<|R.nil ?_
  have hz:l.take i++u++l.drop i=(((l.take i++List.replicate ((l.length+u.length)-i) (⟨(⟨0,0⟩:Place),0⟩:Held)).take i++u++(l.take i++List.replicate ((l.length+u.length)-i) (⟨(⟨0,0⟩:Place),0⟩:Held)).drop (i+u.length)).take (i+u.length)++(l.drop i)++((l.take i++List.replicate ((l.length+u.length)-i) (⟨(⟨0,0⟩:Place),0⟩:Held)).take i++u++(l.take i++List.replicate ((l.length+u.length)-i) (⟨(⟨0,0⟩:Place),0⟩:Held)).drop (i+u.length)).drop ((i+u.length)+(l.drop i).length)):=by (exact nP hu (by omega) rfl)
  rw [hz]
  exact R.w1 v2 [0,3] [] O Tryz.results173 (RV.tmp O) O O O O
 refine R.q (q.eu O O) O<|R.nil<|R.aB O O<|R.reg O<|R.u 3 O<|R.q (q.bA (r:=((l.length+u.length:Nat):Int)) O O) O<|R.q (q.Rs (i:=(l.length+u.length)) (ck 0 O) O O cL O (by omega)) O<|R.u 1 O<|R.nil<|R.reg O<|R.u 4 O<|R.q (q.bA (r:=((i+u.length:Nat):Int)) O O) O<|R.q (q.nq (i:=(i+u.length)) (ck 0 O) O O cL O (by omega) (by omega)) O<|R.q (q.UC (i:=1) (j:=0) (tR:=4) Tryz.func195 O O (by kernel_rfl) (by kernel_rfl) cL O O (by decide) (by omega) (by omega) O O O O) O<|R.u 1 O<|R.nil<|R.ay O O<|R.fu (fuel:=9) (Wd w (blks [af.row 124 bJ l,af.row 124 EK u]++own) [af.row 124 EK u,af.held w own] []) O mixed O<|D.q (i:=0) O (aC [1,2] [] O O O) O (q.mv O) O<|D.q (i:=1) O (aC [1,2] [] O O O) O (q.mv O) O<|D.q (i:=2) O (aC [1,2] [] O O O) O (q.mv O) O<|D.q (i:=3) O (aC [1,2] [] O O O) O (q.bA (r:=((i+u.length:Nat):Int)) O O) O<|D.q (i:=5) O (aC [1,2] [] O O O) O (q.mv O) O<|D.q (i:=6) O (aC [1,2] [] O O O) O (q.mv O) O<|D.two (i:=4) (j:=7) O O ?_ ?_
 .
  refine Do.s (s.c (Qt.a (q.nq (i:=(i+u.length)) (ck 0 O) O O cL O (by omega) (by omega))) O) (fun _=>(aC [1,2] [] O O O)) O fun _=>D.one (i:=7) O<|Do.s (s.c (Qt.a (q.nq (i:=i) (ck 0 O) O O cL O (by omega) (by omega))) O) (fun _=>(aC [1,2] [] O O O)) O fun _=>D.one (i:=8) O<|Do.s (s.Aw (o:=i) 0 _ O (by omega) (by omega) (by omega) (by omega) O O cL O O) (fun _=>(aC [1,2] [] O O O)) O fun _=>D.done<|R.reg O<|R.u 2 O<|R.q (q.dB (i:=i) (ck 0 O) O O cL O (by (simp;omega))) O<|R.u 1 O<|R.s O (s.uC (o:=i) 0 _ O (ck 1 O) O O cL (by (simp;omega)) O O) fun _=>R.nil<|R.reg O<|R.u 2 O<|R.nil ?_
  have hz:l.take i++u++l.drop i=((l.take (i+1)++l.drop i).take i++u++(l.take (i+1)++l.drop i).drop (i+u.length)):=by (exact rV hu (by omega))
  rw [hz]
  exact R.w1 (kD bJ (l.length+u.length)) [0,2] [] O Tryz.results173 (RV.tmp O) O O O O
 refine Do.s (s.c (Qt.a (q.nq (i:=i) (ck 0 O) O O cL O (by omega) (by omega))) O) (fun _=>(aC [1,2] [] O O O)) O fun _=>D.one (i:=4) O<|Do.s (s.c (Qt.a (q.nq (i:=(i+u.length)) (ck 0 O) O O cL O (by omega) (by omega))) O) (fun _=>(aC [1,2] [] O O O)) O fun _=>D.one (i:=8) O<|Do.s (s.Aw (o:=i) 0 _ O (by omega) (by omega) (by omega) (by omega) O O cL O O) (fun _=>(aC [1,2] [] O O O)) O fun _=>D.done<|R.reg O<|R.u 2 O<|R.q (q.dB (i:=i) (ck 0 O) O O cL O (by (simp;omega))) O<|R.u 1 O<|R.s O (s.uC (o:=i) 0 _ O (ck 1 O) O O cL (by (simp;omega)) O O) fun _=>R.nil<|R.reg O<|R.u 2 O<|R.nil ?_
 have hz:l.take i++u++l.drop i=((l.take (i+1)++l.drop i).take i++u++(l.take (i+1)++l.drop i).drop (i+u.length)):=by (exact rV hu (by omega))
 rw [hz]
 exact R.w1 (kD bJ (l.length+u.length)) [0,2] [] O Tryz.results173 (RV.tmp O) O O O O
theorem zu (x:Int)(w:World):Calls Tryz.prog 249 #[iV x] w fun e w'=>e = .returned (.bool false)/\Ext w w':=by
 exact R.enter [] [(0,iV x)] Tryz.func249 rfl rfl rfl rfl<|R.reg rfl<|R.u 1 rfl<|R.nil<|R.reg rfl<|R.u 2 rfl<|R.q (q.lH rfl rfl) rfl<|R.u 1 rfl<|R.nil<|R.rv rfl Tryz.results249 rfl (rB (by rfl))
theorem uG (x:Int)(y:Int)(w:World):Calls Tryz.prog 227 #[iV x,iV y] w fun e w'=>e = .returned (iV (rm x y))/\Ext w w':=by
 refine R.enter [] [(0,iV x),(1,iV y)] Tryz.func227 O O O O<|R.reg O<|R.u 1 O<|R.nil<|R.reg O<|R.u 1 O<|R.c (q.call JA O O (fun w hw=>(zu x w ))) O<|R.u 1 O<|R.nil<|R.reg O<|R.u 1 O<|R.c (q.call JA O O (fun w hw=>(zu y w ))) O<|R.u 1 O<|R.nil<|R.reg O<|R.u 1 O<|R.nil<|R.aB O O<|R.reg O<|R.u 1 O<|R.nil<|R.aB O O<|R.reg O<|R.u 2 O<|?_
 by_cases h1:x<y
 .
  exact R.q (q.dy O O) O<|R.nil<|R.ay O O<|R.reg O<|R.u 1 O<|R.nil<|R.rv O Tryz.results227 O (rI (by (unfold rm;rw [if_pos (by omega)])))
 refine R.q (q.cW O O) O<|R.nil<|R.aB O O<|R.reg O<|R.u 2 O<|?_
 by_cases h2:y<x
 .
  exact R.q (q.eL O O) O<|R.nil<|R.ay O O<|R.reg O<|R.u 1 O<|R.nil<|R.rv O Tryz.results227 O (rI (by (unfold rm;rw [if_neg (by omega),if_pos (by omega)])))
 exact R.q (q.eu O O) O<|R.nil<|R.aB O O<|R.reg O<|R.u 1 O<|R.nil<|R.rv O Tryz.results227 O (rI (by (unfold rm;rw [if_neg (by omega),if_neg (by omega)])))
theorem Hn (bJ:Value)(l:List Int)(w:World)(ey:Sl w bJ l):Calls Tryz.prog 226 #[bJ] w fun e w'=>e = .returned (iV (JJ l))/\Ext w w':=by
 have zw:=ey.fC
 refine R.enter [] [(0,bJ)] Tryz.func226 O O O O<|R.reg O<|R.u 1 O<|R.nil<|R.reg O<|R.u 1 O<|R.nil<|R.reg O<|R.u 1 O<|R.q (q.len' (fun _=>Wd.old ey) O Tryz.underlying159) O<|R.u 1 O<|R.nil<|R.loop (fun k:Nat=>[(3,iV 0),(6,bJ),(7,iV (l.length:Int)),(8,iV (k:Int))]) (fun k:Nat=>[]) (fun k:Nat=>[]) (fun k:Nat=>JJ l=JJ (l.drop k)) (fun k:Nat=>l.length-k) 0 O (by rfl) (sF O) (fun _=>Wd.pick [] [] O O O) ?_
 rintro k HA
 refine R.reg O<|?_
 by_cases h1:k<l.length
 .
  refine R.q (q.dy O O) O<|R.nil<|R.ay O O<|R.reg O<|?_
  obtain ⟨x1,hx1⟩:∃z,l[k]? = some z:=⟨_,List.getElem?_eq_getElem (by omega)⟩
  refine R.q (q.idx (i:=k) (fun _=>Wd.old ey) O O da O hx1) O<|R.q (q.lr (fun _=>Wd.old ey) hx1 O av O) O<|R.u 1 O<|R.nil<|R.reg O<|R.u 2 O<|?_
  by_cases h2:x1=0
  .
   refine R.q (q.lH O O) O<|R.nil<|R.aB O O<|R.reg O<|R.q (q.bA (r:=((k+1:Nat):Int)) O O) O<|R.u 1 O<|R.nil<|R.back (k+1) O (by (rw [HA];exact JK hx1 (by omega))) (by omega) (sF O) (fun _=>Wd.pick [] [] O O O)
  exact R.q (q.lG O O) O<|R.nil<|R.ay O O<|R.reg O<|R.u 2 O<|R.nil<|R.rv O Tryz.results226 O (rI (by (rw [HA];exact (Mf hx1 (by omega)).symm)))
 exact R.q (q.cW O O) O<|R.nil<|R.aB O O<|R.reg O<|R.u 2 O<|R.nil<|R.rv O Tryz.results226 O (rI (by (rw [HA,List.drop_of_length_le (by omega)];rfl)))
theorem AW (a:Place)(b:Place)(w:World):Calls Tryz.prog 194 #[.agg #[iV a.az,iV a.Slot],.agg #[iV b.az,iV b.Slot]] w fun e w'=>e = .returned (iV (rq a b))/\Ext w w':=by
 exact R.enter [] [(0,.agg #[iV a.az,iV a.Slot]),(1,.agg #[iV b.az,iV b.Slot])] Tryz.func194 rfl rfl rfl rfl<|R.reg rfl<|R.s rfl (s.box rfl rfl rfl) fun b1=>R.s rfl (s.box rfl rfl rfl) fun b2=>R.u 1 rfl<|R.nil<|R.fu (fuel:=13) (Wd w [] [af.box b2 (fw b) 32,af.box b1 (fw a) 32] []) rfl mixed rfl<|D.q (i:=0) rfl (fun _=>Wd.cj [0,1] [] rfl rfl rfl) rfl (q.aO rfl fx rfl) rfl<|D.q (i:=1) rfl (fun _=>Wd.cj [0,1] [] rfl rfl rfl) rfl (q.ld 1 rfl rfl av rfl) rfl<|D.q (i:=2) rfl (fun _=>Wd.cj [0,1] [] rfl rfl rfl) rfl (q.aO rfl fx rfl) rfl<|D.q (i:=3) rfl (fun _=>Wd.cj [0,1] [] rfl rfl rfl) rfl (q.ld 0 rfl rfl av rfl) rfl<|D.q (i:=5) rfl (fun _=>Wd.cj [0,1] [] rfl rfl rfl) rfl (q.aO rfl nI rfl) rfl<|D.q (i:=6) rfl (fun _=>Wd.cj [0,1] [] rfl rfl rfl) rfl (q.ld 1 rfl rfl av rfl) rfl<|D.q (i:=7) rfl (fun _=>Wd.cj [0,1] [] rfl rfl rfl) rfl (q.aO rfl nI rfl) rfl<|D.q (i:=8) rfl (fun _=>Wd.cj [0,1] [] rfl rfl rfl) rfl (q.ld 0 rfl rfl av rfl) rfl<|D.one (i:=4) rfl<|Do.s (s.c (q.call Jz rfl rfl (fun w hw=>(uG a.az b.az w ))) rfl) (fun _=>(fun _=>Wd.cj [0,1] [] rfl rfl rfl)) rfl fun _=>D.one (i:=9) rfl<|Do.s (s.c (q.call Jz rfl rfl (fun w hw=>(uG a.Slot b.Slot w ))) rfl) (fun _=>(fun _=>Wd.cj [0,1] [] rfl rfl rfl)) rfl fun _=>D.one (i:=10) rfl<|Do.s (s.bs (l:=([rm a.az b.az,rm a.Slot b.Slot]:List Int)) da lW rfl rfl rfl rfl rfl rfl rfl) (fun _=>(fun _=>Wd.cj [1,2] [] rfl rfl rfl)) rfl fun b3=>D.one (i:=11) rfl<|Do.s (s.c (q.call PH rfl rfl (fun w hw=>(Hn _ ([rm a.az b.az,rm a.Slot b.Slot]) w (hw.row 0 rfl) ))) rfl) (fun _=>(fun _=>Wd.cj [1,2] [] rfl rfl rfl)) rfl fun _=>D.q (i:=12) rfl (fun _=>Wd.cj [1,2] [] rfl rfl rfl) rfl (q.as rfl) rfl<|D.done<|R.rv rfl Tryz.results194 rfl (rI (by (exact Mg a b)))
theorem AX (h:Held)(pl:Place)(w:World):Calls Tryz.prog 193 #[.agg #[iV h.Place.az,iV h.Place.Slot,iV h.ap],.agg #[iV pl.az,iV pl.Slot]] w fun e w'=>e = .returned (iV (rq h.Place pl))/\Ext w w':=by
 exact R.enter [] [(0,.agg #[iV h.Place.az,iV h.Place.Slot,iV h.ap]),(1,.agg #[iV pl.az,iV pl.Slot])] Tryz.func193 rfl rfl rfl rfl<|R.reg rfl<|R.s rfl (s.box rfl rfl rfl) fun b1=>R.s rfl (s.box rfl rfl rfl) fun b2=>R.u 1 rfl<|R.nil<|R.reg rfl<|R.q (q.aO rfl rR rfl) rfl<|R.q (q.G3 (ds:=fw h.Place) 1 rfl rfl bP rfl) rfl<|R.q (q.dv 0 rfl rfl bP) rfl<|R.c (q.call PF rfl rfl (fun w hw=>(AW h.Place pl w ))) rfl<|R.u 1 rfl<|R.nil<|R.rv rfl Tryz.results193 rfl (rI (by rfl))
theorem vd (bJ:Value)(l:List Held)(t:Place)(c:Held->Place->Int)(Ho:Nat)(Mh:List Value)(EL:∀args w,(callFunc Ho args).run Tryz.prog w = .ok (.enter Ho args) w)(w:World)(ey:Sl w bJ l)(PK:∀W (x1:Held) (x2:Place),Ext w W->Calls Tryz.prog Ho ([x1.val,x2.val]++Mh).toArray W fun e w'=>e = .returned (iV (c x1 x2))/\Ext W w')(hl:l.length<=1000000):Calls Tryz.prog 192 #[bJ,.agg #[iV t.az,iV t.Slot],.func (.func Ho) #[] Mh.toArray] w fun e w'=>e = .returned (.tuple #[iV (jE (fun x=>c x t) l:Int),.bool (lE (fun x=>c x t) l)])/\Ext w w':=by
 have zw:=ey.fC
 refine R.enter [] [(0,bJ),(1,.agg #[iV t.az,iV t.Slot]),(2,.func (.func Ho) #[] Mh.toArray)] Tryz.func192 O O O O<|R.reg O<|R.s O (s.box O O O) fun b1=>R.u 2 O<|R.nil<|R.reg O<|R.u 1 O<|R.q (q.len' (fun _=>Wd.old ey) O Tryz.underlying45) O<|R.u 1 O<|R.nil<|R.reg O<|R.u 3 O<|R.nil<|R.loop (fun g_:Nat×Nat=>[(0,bJ),(2,.func (.func Ho) #[] Mh.toArray),(4,.pointer (some ⟨b1,0,none⟩)),(8,iV (l.length:Int)),(9,iV (g_.1:Int)),(10,iV (g_.2:Int))]) (fun g_=>[af.box b1 (fw t) 32]) (fun g_=>[]) (fun g_=>g_.1<=g_.2/\g_.2<=l.length/\bsGo (fun x=>c x t) l g_.1 g_.2=jE (fun x=>c x t) l) (fun g_=>g_.2-g_.1) (0,l.length) O (by exact ⟨Nat.zero_le _,Nat.le_refl _,rfl⟩) (sF O) (fun _=>Wd.pick [0] [] O O O) ?_
 rintro ⟨lo,hi⟩ ⟨PL,Vs,HA⟩
 dsimp only at *
 refine R.reg O<|R.u 2 O<|?_
 by_cases h1:lo<hi
 .
  refine R.q (q.dy O O) O<|R.nil<|R.ay O O<|R.reg O<|R.u 2 O<|R.q (q.bA (r:=((lo+hi:Nat):Int)) O O) O<|R.q (q.nn (r:=(((lo+hi):Nat):Int)) O (by rw [Tryz.underlying3];rfl) Tryz.underlying188 (Ax (by omega))) O<|R.q (q.shr (r:=((((lo+hi) / 2):Nat):Int)) O O (by decide) (L9 (by decide))) O<|R.q (q.nn (r:=((((lo+hi) / 2):Nat):Int)) O (by rw [Tryz.underlying188];rfl) Tryz.underlying3 (wr (by omega))) O<|R.u 1 O<|R.nil ?_
  obtain ⟨x1,hx1⟩:∃z,l[((lo+hi) / 2)]? = some z:=⟨_,List.getElem?_eq_getElem (by omega)⟩
  by_cases h2:(c x1 t)<0
  .
   refine R.ew O mixed (by kernel_rfl)<|Q.u 3 O<|Q.q (q.idx (i:=((lo+hi) / 2)) (fun _=>Wd.old ey) O O cL O hx1) O<|Q.q (q.eV (ds:=kG x1) (fun _=>Wd.old ey) hx1 O eX O) O<|Q.q (q.dv 0 O O bP) O<|Q.c (q.call EL O O (fun w hw=>PK w x1 t hw.ext)) O<|Q.q (q.dy O O) O<|Q.nil<|R.ay O O<|R.reg O<|R.u 1 O<|R.q (q.bA (r:=((((lo+hi) / 2)+1:Nat):Int)) O O) O<|R.u 1 O<|R.nil<|R.back ((((lo+hi) / 2)+1),hi) O (by (exact ⟨by omega,by omega,(AU (by omega) hx1 (by omega)).symm.trans HA⟩)) (by dsimp only;omega) (sF O) (fun _=>Wd.pick [0] [] O O O)
  refine R.ew O mixed (by kernel_rfl)<|Q.u 3 O<|Q.q (q.idx (i:=((lo+hi) / 2)) (fun _=>Wd.old ey) O O cL O hx1) O<|Q.q (q.eV (ds:=kG x1) (fun _=>Wd.old ey) hx1 O eX O) O<|Q.q (q.dv 0 O O bP) O<|Q.c (q.call EL O O (fun w hw=>PK w x1 t hw.ext)) O<|Q.q (q.cW O O) O<|Q.nil<|R.aB O O<|R.reg O<|R.u 2 O<|R.nil<|R.back (lo,((lo+hi) / 2)) O (by (exact ⟨by omega,by omega,(AV (by omega) hx1 (by omega)).symm.trans HA⟩)) (by dsimp only;omega) (sF O) (fun _=>Wd.pick [0] [] O O O)
 refine R.q (q.cW O O) O<|R.nil<|R.aB O O ?_
 by_cases h3:lo<l.length
 .
  obtain ⟨x2,hx2⟩:∃z,l[lo]? = some z:=⟨_,List.getElem?_eq_getElem (by omega)⟩
  by_cases h4:(c x2 t)=0
  .
   exact R.ew O mixed (by kernel_rfl)<|Q.u 3 O<|Q.q (q.dy O O) O<|Q.u 4 O<|Q.qg O (q.idx (i:=lo) (fun _=>Wd.old ey) O O cL O hx2) O<|Q.qg O (q.eV (ds:=kG x2) (fun _=>Wd.old ey) hx2 O eX O) O<|Q.qg O (q.dv 0 O O bP) O<|Q.cg O (q.call EL O O (fun w hw=>PK w x2 t hw.ext)) O<|Q.qg O (q.fQ O O) O<|Q.u 3 O<|Q.nil<|R.FR O Tryz.results192 O O (rI (by (exact congrArg (fun n:Nat=>(n:Int)) ((g9 (by omega)).symm.trans HA)))) (rB (by (have e:=(g9 (by omega)).symm.trans HA;unfold lE;rw [<- e];(rw [hx2];exact (decide_eq_true ‹_›).symm))))
  exact R.ew O mixed (by kernel_rfl)<|Q.u 3 O<|Q.q (q.dy O O) O<|Q.u 4 O<|Q.qg O (q.idx (i:=lo) (fun _=>Wd.old ey) O O cL O hx2) O<|Q.qg O (q.eV (ds:=kG x2) (fun _=>Wd.old ey) hx2 O eX O) O<|Q.qg O (q.dv 0 O O bP) O<|Q.cg O (q.call EL O O (fun w hw=>PK w x2 t hw.ext)) O<|Q.qg O (q.fa O O) O<|Q.u 3 O<|Q.nil<|R.FR O Tryz.results192 O O (rI (by (exact congrArg (fun n:Nat=>(n:Int)) ((g9 (by omega)).symm.trans HA)))) (rB (by (have e:=(g9 (by omega)).symm.trans HA;unfold lE;rw [<- e];(rw [hx2];exact (decide_eq_false ‹_›).symm))))
 exact R.ew O mixed (by kernel_rfl)<|Q.u 3 O<|Q.q (q.cW O O) O<|Q.u 12 O<|Q.nil<|R.FR O Tryz.results192 O O (rI (by (exact congrArg (fun n:Nat=>(n:Int)) ((g9 (by omega)).symm.trans HA)))) (rB (by (have e:=(g9 (by omega)).symm.trans HA;unfold lE;rw [<- e];(rw [List.getElem?_eq_none (by omega)]))))
theorem lh (bJ:Value)(l:List Held)(pl:Place)(w:World)(ey:Sl w bJ l)(hl:l.length<=1000000):Calls Tryz.prog 171 #[bJ,.agg #[iV pl.az,iV pl.Slot]] w fun e w'=>e = .returned (.tuple #[iV (fV l pl:Int),.bool (Hl l pl)])/\Ext w w':=by
 have zw:=ey.fC
 exact R.enter [] [(0,bJ),(1,.agg #[iV pl.az,iV pl.Slot])] Tryz.func171 rfl rfl rfl rfl<|R.reg rfl<|R.s rfl (s.box rfl rfl rfl) fun b1=>R.u 2 rfl<|R.nil<|R.reg rfl<|R.u 1 rfl<|R.q (q.dv 0 rfl rfl bP) rfl<|R.c (q.call PD rfl rfl (fun w hw=>(vd _ l pl (fun (h:Held) (pl:Place)=>rq h.Place pl) _ _ PE w ((fun _=>Wd.old ey) w hw) (fun W h pl hW=>AX h pl W ) (by omega)))) rfl<|R.u 4 rfl<|R.nil<|R.FR rfl Tryz.results171 rfl rfl (rI (by rfl)) (rB (by rfl))
theorem km (p:Place)(w:World):Calls Tryz.prog 151 #[.agg #[iV p.az,iV p.Slot]] w fun e w'=>e = .returned (dh (aY p))/\Ext w w':=by
 refine R.enter [] [(0,.agg #[iV p.az,iV p.Slot])] Tryz.func151 O O O O<|R.reg O<|R.s O (s.box O O O) fun b1=>R.u 1 O<|R.nil<|R.reg O<|R.q (q.aO O fx O) O<|R.q (q.ld 0 O O av O) O<|?_
 by_cases h1:p.az<1
 .
  exact R.q (q.dy O O) O<|R.u 15 O<|R.nil<|R.ay O O<|R.reg O<|R.q (q.iface O bm) O<|R.u 1 O<|R.nil<|R.rv O Tryz.results151 O (dq (by decide) (by (exact kj (by omega))))
 refine R.q (q.cW O O) O<|R.u 1 O<|R.qg O (q.aO O fx O) O<|R.qg O (q.ld 0 O O av O) O<|?_
 by_cases h2:4<p.az
 .
  exact R.qg O (q.eL O O) O<|R.u 11 O<|R.nil<|R.ay O O<|R.reg O<|R.q (q.iface O bm) O<|R.u 1 O<|R.nil<|R.rv O Tryz.results151 O (dq (by decide) (by (exact kj (by omega))))
 refine R.qg O (q.eu O O) O<|R.u 2 O<|R.qg O (q.aO O nI O) O<|R.qg O (q.ld 0 O O av O) O<|?_
 by_cases h3:p.Slot<0
 .
  exact R.qg O (q.dy O O) O<|R.u 6 O<|R.nil<|R.ay O O<|R.reg O<|R.q (q.iface O bm) O<|R.u 1 O<|R.nil<|R.rv O Tryz.results151 O (dq (by decide) (by (exact kj (by omega))))
 refine R.qg O (q.cW O O) O<|R.u 2 O<|R.qg O (q.aO O nI O) O<|R.qg O (q.ld 0 O O av O) O<|?_
 by_cases h4:5<p.Slot
 .
  exact R.qg O (q.eL O O) O<|R.u 1 O<|R.nil<|R.ay O O<|R.reg O<|R.q (q.iface O bm) O<|R.u 1 O<|R.nil<|R.rv O Tryz.results151 O (dq (by decide) (by (exact kj (by omega))))
 exact R.qg O (q.eu O O) O<|R.u 1 O<|R.nil<|R.aB O O<|R.reg O<|R.u 1 O<|R.nil<|R.rv O Tryz.results151 O (iI (by (exact yE (by omega))))
theorem mY (bJ:Value)(l:List Held)(p:Place)(w:World)(ey:Sl w bJ l)(hl:l.length<=1000000):Calls Tryz.prog 169 #[bJ,.agg #[iV p.az,iV p.Slot]] w fun e w'=>e = .returned (iV (mT l p))/\Ext w w':=by
 have zw:=ey.fC
 refine R.enter [] [(0,bJ),(1,.agg #[iV p.az,iV p.Slot])] Tryz.func169 O O O O<|R.reg O<|R.s O (s.box O O O) fun b1=>R.u 1 O<|R.nil<|R.reg O<|R.u 1 O<|R.q (q.dv 0 O O bP) O<|?_
 have Vt:=vx l p
 rcases tT l p with gW|⟨AY,lY,gW,ve,AZ⟩
 .
  exact R.c (q.call AQ O O (fun w hw=>(cv (congrArg (fun b=>Value.tuple #[iV ((fV l p:Nat):Int),.bool b]) gW) (lh _ l p w ((fun _=>Wd.old ey) w hw) (by omega))))) O<|R.u 5 O<|R.nil<|R.reg O<|R.u 2 O<|R.nil<|R.ay O O<|R.reg O<|R.u 1 O<|R.nil<|R.rv O Tryz.results169 O (rI (by (exact (JL gW).symm)))
 exact R.c (q.call AQ O O (fun w hw=>(cv (congrArg (fun b=>Value.tuple #[iV ((fV l p:Nat):Int),.bool b]) gW) (lh _ l p w ((fun _=>Wd.old ey) w hw) (by omega))))) O<|R.u 5 O<|R.nil<|R.reg O<|R.u 2 O<|R.nil<|R.aB O O<|R.reg O<|R.u 2 O<|R.q (q.idx (i:=(fV l p)) (fun _=>Wd.old ey) O O cL O lY) O<|R.q (q.nF (j':=2) (fun _=>Wd.old ey) lY O jQ O) O<|R.q (q.lr (fun _=>Wd.old ey) lY O av O) O<|R.u 1 O<|R.nil<|R.rv O Tryz.results169 O (rI (by (exact (Ga gW lY).symm)))
theorem qG (bJ:Value)(l:List Held)(p:Place)(id:Int)(w:World)(own:List Nat)(H:HN w own [] [af.ls bJ l])(hl:l.length<=100000):RC Tryz.prog 121 #[bJ,.agg #[iV p.az,iV p.Slot],iV id] H (fun z:Value=>z) (fun z=>[af.row 124 z (fL l p id)]) (fun _=>[]):=by
 have yD:=H.cx 0 rfl
 refine R.bF [(0,bJ),(1,.agg #[iV p.az,iV p.Slot]),(2,iV id)] Tryz.func121 O O O O H<|R.reg O<|R.s O (s.box O O O) fun b1=>R.u 1 O<|R.nil<|R.reg O<|R.u 1 O<|R.s O (s.aW [0,1] [0] _ _ _ O O O Ez O O (fun w own hw H=>nr bJ l w own H (by omega)) O) fun z1=>R.u 1 O<|R.nil<|R.reg O<|R.u 1 O<|R.q (q.dv 1 O O bP) O<|?_
 have Vt:=vx l p
 rcases tT l p with gW|⟨AY,lY,gW,ve,AZ⟩
 .
  refine R.c (q.call AQ O O (fun w hw=>(cv (congrArg (fun b=>Value.tuple #[iV ((fV l p:Nat):Int),.bool b]) gW) (lh _ l p w (hw.row 0 O) (by omega))))) O<|R.u 5 O<|R.nil<|R.reg O<|R.u 6 O<|R.nil<|R.aB O O<|R.reg O<|R.u 2 O<|R.nil<|R.aB O O<|R.reg O<|R.u 1 O<|?_
  by_cases h1:id=0
  .
   refine R.q (q.fQ O O) O<|R.u 1 O<|R.nil<|R.ay O O<|R.reg O<|R.u 2 O<|R.nil ?_
   have hz:fL l p id=l:=by (unfold fL;(rw [if_neg (by rw [gW];simp),if_pos ‹_›];done))
   rw [hz]
   exact R.w1 z1 [0,2] [] O Tryz.results121 (RV.tmp O) O O O O
  refine R.q (q.fa O O) O<|R.u 1 O<|R.nil<|R.aB O O<|R.reg O<|R.u 2 O<|R.q (q.dv 1 O O bP) O<|R.u 1 O<|R.q (q.build Ja O O) O<|R.s O (s.bs (l:=([(⟨p,id⟩:Held)]:List Held)) cL gZ O O O O O O O) fun b2=>R.s O (s.aW [1,0,2,3] [] _ _ _ O O O Pu O O (fun w own hw H=>wT z1 l (fV l p) (.slice (some ⟨b2,0,none⟩) 1 1) ([(⟨p,id⟩:Held)]) w own H ‹_› rfl (by omega)) O) fun z2=>R.u 1 O<|R.nil ?_
  have hz:fL l p id=l.take (fV l p)++([(⟨p,id⟩:Held)])++l.drop (fV l p):=by (unfold fL;(rw [if_neg (by rw [gW];simp),if_neg ‹_›];done))
  rw [hz]
  exact R.w1 z2 [0,2] [] O Tryz.results121 (RV.tmp O) O O O O
 refine R.c (q.call AQ O O (fun w hw=>(cv (congrArg (fun b=>Value.tuple #[iV ((fV l p:Nat):Int),.bool b]) gW) (lh _ l p w (hw.row 0 O) (by omega))))) O<|R.u 5 O<|R.nil<|R.reg O<|R.u 3 O<|?_
 by_cases h2:id=0
 .
  refine R.qg O (q.fQ O O) O<|R.u 2 O<|R.nil<|R.ay O O<|R.reg O<|R.u 3 O<|R.q (q.bA (r:=(((fV l p)+1:Nat):Int)) O O) O<|R.s O (s.aW [0,1,2] [] _ _ _ O O O Pt O O (fun w own hw H=>wS z1 l (fV l p) ((fV l p)+1) w own H (by omega)) O) fun z3=>R.u 1 O<|R.nil ?_
  have hz:fL l p id=l.take (fV l p)++l.drop ((fV l p)+1):=by (unfold fL;(rw [if_pos gW,if_pos ‹_›];done))
  rw [hz]
  exact R.w1 z3 [0,2] [] O Tryz.results121 (RV.tmp O) O O O O
 refine R.qg O (q.fa O O) O<|R.u 2 O<|R.nil<|R.aB O O<|R.reg O<|R.u 2 O<|R.nil<|R.ay O O<|R.reg O<|R.u 3 O<|R.q (q.idx (i:=(fV l p)) (ck 0 O) O O cL O lY) O<|R.q (q.nF (j':=2) (ck 0 O) lY O jQ O) O<|R.s O (s.stP (o:=2) (z:=(⟨AY.Place,id⟩:Held)) 0 _ O lY O O O O O (by simp [Value.oneCell']) (.inr ⟨av,rfl⟩) O) fun _=>R.nil<|R.reg O<|R.u 2 O<|R.nil ?_
 have hz:fL l p id=(l.set (fV l p) (⟨AY.Place,id⟩:Held)):=by (unfold fL;(rw [if_pos gW,if_neg ‹_›,ve];done))
 rw [hz]
 exact R.w1 z1 [0,2] [] O Tryz.results121 (RV.tmp O) O O O O
theorem JM (bJ:Value)(l:List Held)(h:Int)(w:World)(ey:Sl w bJ l)(hl:l.length<=1000000):Calls Tryz.prog 128 #[bJ,iV h] w fun e w'=>e = .returned (iV (iO l h))/\Ext w w':=by
 have zw:=ey.fC
 refine R.enter [] [(0,bJ),(1,iV h)] Tryz.func128 O O O O<|R.reg O<|R.u 1 O<|R.nil<|R.reg O<|R.u 1 O<|R.nil<|R.loop (fun i:Nat=>[(0,bJ),(1,iV h),(6,iV (i:Int))]) (fun i:Nat=>[]) (fun i:Nat=>[]) (fun i:Nat=>i<=6/\mF l h (6-i) i=iO l h) (fun i:Nat=>6-i) 0 O (by exact ⟨by omega,rfl⟩) (sF O) (fun _=>Wd.pick [] [] O O O) ?_
 rintro i ⟨hs,HA⟩
 refine R.reg O<|?_
 by_cases h1:i<6
 .
  refine R.q (q.dy O O) O<|R.nil<|R.ay O O<|R.reg O<|R.u 2 O<|R.nil<|R.reg O<|R.u 3 O<|R.q (q.build wn O O) O<|R.c (q.call AP O O (fun w hw=>(mY _ l (⟨h,(i:Int)⟩:Place) w ((fun _=>Wd.old ey) w hw) (by omega)))) O<|?_
  by_cases h2:mT l (⟨h,(i:Int)⟩:Place)=0
  .
   exact R.q (q.fQ O O) O<|R.nil<|R.ay O O<|R.reg O<|R.u 2 O<|R.nil<|R.rv O Tryz.results128 O (rI (by (rw [<- HA];exact (EI ‹_› (by omega)).symm)))
  refine R.q (q.fa O O) O<|R.nil<|R.aB O O<|R.reg O<|R.q (q.bA (r:=((i+1:Nat):Int)) O O) O<|R.u 1 O<|R.nil<|R.back (i+1) O (by (exact ⟨by omega,(CK ‹_› (by omega)).symm.trans HA⟩)) (by omega) (sF O) (fun _=>Wd.pick [] [] O O O)
 exact R.q (q.cW O O) O<|R.nil<|R.aB O O<|R.reg O<|R.u 1 O<|R.nil<|R.rv O Tryz.results128 O (rI (by (rw [<- HA];have:i=6:=(by omega);subst this;rfl)))
end Go.Proofs.YtkbhcbipadkcaaaGreatDoor
