import Derived.Test.YtkbhcbipadkcaaaGreatDoorTF8
namespace Go.Proofs.YtkbhcbipadkcaaaGreatDoor
set_option linter.unusedVariables false
set_option linter.unusedSimpArgs false
set_option maxRecDepth 100000
set_option maxHeartbeats 90000000
open Go Go.RowKit
theorem o9 (bP:Value)(l:List Change)(w:World)(own:List Nat)(H:HN w own [] [ag.ls bP l])(hl:l.length<=1000000):RC Tryz.prog 91 #[bP] H (fun z:Value=>z) (fun z=>[ag.row 117 z l]) (fun _=>[]):=by
 have yw:=H.ck 0 rfl
 refine R.bD [(0,bP)] Tryz.func91 O O O O H<|R.reg O<|R.u 1 O<|R.nil<|R.reg O<|R.u 1 O<|?_
 rcases Bool.eq_false_or_eq_true (pq bP) with h1|h1
 .
  refine R.q (q.Hj (congrArg Value.bool h1) (q.o7 (dx 0 O) O O Tryz.underlying34)) O<|R.nil<|R.az O O<|R.reg O<|R.u 1 O<|R.nil<|R.row0 (α:=Change) 117 ?_
  have hz:l=[]:=by (first|rfl|exact (List.nil_append _).symm|exact Sl.pq (H.bN 0 rfl) ‹_›)
  rw [hz]
  exact R.w1 (nS) [0,1] [] O Tryz.results91 (RV.tmp O) O O O O
 refine R.q (q.Hj (congrArg Value.bool h1) (q.o7 (dx 0 O) O O Tryz.underlying34)) O<|R.nil<|R.aC O O<|R.reg O<|R.s O (s.bs (l:=([]:List Change)) bW cG O O O O O O O) fun b1=>?_
 refine R.u 1 O<|R.s O (s.app 0 _ O O O (dx 0 O) jr (by simp;omega) (by simp;omega) (fun _=>rfl) O) fun v1=>?_
 refine R.u 1 O<|R.nil ?_
 have hz:l=(([])++l):=by (first|rfl|exact (List.nil_append _).symm|exact Sl.pq (H.bN 0 rfl) ‹_›)
 rw [hz]
 exact R.w1 v1 [0,1] [] O Tryz.results91 (RV.tmp O) O O O O
theorem tX (bP:Value)(l:List Change)(i:Nat)(j:Nat)(w:World)(own:List Nat)(H:HN w own [ag.row 117 bP l] [])(hij:i<=j/\j<=l.length):RC Tryz.prog 148 #[bP,iV (i:Int),iV (j:Int)] H (fun z:Value=>z) (fun z=>[ag.row 117 z (l.take i++l.drop j)]) (fun _=>[]):=by
 have HD:=H.cap 0 rfl;have yw:=H.cC 0 rfl
 refine R.bD [(0,bP),(1,iV (i:Int)),(2,iV (j:Int))] Tryz.func148 O O O O H<|R.reg O<|R.u 1 O<|R.nil<|R.reg O<|R.u 4 O<|R.q (q.len' (bE 0 O) O Tryz.underlying34) O<|R.q (q.Ev (i:=i) (j:=j) (q':=l.length) (bE 0 O) O O O O bW O O O (by omega) (by omega) (by omega)) O<|R.nil<|R.reg O<|R.u 2 O<|?_
 by_cases h1:i=j
 .
  refine R.q (q.fJ O O) O<|R.nil<|R.az O O<|R.reg O<|R.u 2 O<|R.nil ?_
  have hz:l.take i++l.drop j=l:=by (first|rfl|exact pS (by omega))
  rw [hz]
  exact R.w1 bP [0,1] [] O Tryz.results148 (RV.tmp O) O O O O
 refine R.q (q.eX O O) O<|R.nil<|R.aC O O<|R.reg O<|R.u 1 O<|R.q (q.len' (bE 0 O) O Tryz.underlying34) O<|R.u 1 O<|R.nil<|R.fP (fuel:=8) [1] O O mixed O<|D.q (i:=0) O (aD [1] [] O) O (q.mv O) O<|D.q (i:=1) O (aD [1] [] O) O (q.mv O) O<|D.q (i:=3) O (aD [1] [] O) O (q.mv O) O<|D.q (i:=4) O (aD [1] [] O) O (q.mv O) O<|D.two (i:=2) (j:=5) O O ?_ ?_
 .
  refine Do.s (s.c (Qt.a (q.kG (i:=i) (bE 0 O) O O Tryz.underlying34 Ax O (by first|omega|(simp;omega)))) O) (fun _=>(aD [1] [] O)) O fun _=>?_
  refine D.one (i:=5) O<|Do.s (s.c (Qt.a (q.dA (i:=j) (bE 0 O) O O bW O (by first|omega|(simp;omega)))) O) (fun _=>(aD [1] [] O)) O fun _=>?_
  refine D.one (i:=6) O<|Do.s (s.tL (a:=i) 0 _ O O O (fun w hw=>Sl.from (hw.row 0 O) (by omega)) jr (by omega) (by simp;omega) O O) (fun _=>(aD [1] [] O)) O fun _=>?_
  refine D.q (i:=7) O (aD [1] [] O) O (q.as O) O<|D.done<|R.reg O<|R.u 2 O<|R.q (q.len' (bE 0 O) O Tryz.underlying34) O<|R.u 1 O<|R.q (q.sl2 (i:=(l.take i++(l.drop j)).length) (j:=l.length) (bE 0 O) O O O bW O O (by first|omega|(simp;omega)) (by first|assumption|omega|(simp;omega)|(simp [fk];omega))) O<|R.s O (s.y9 (lo:=(l.take i++(l.drop j)).length) (hi:=l.length) (z0:=(⟨⟨#[]⟩,⟨#[]⟩,false⟩:Change)) 0 O O bW cG O (by first|omega|(simp;omega)) (by first|omega|(simp;omega)) (by first|assumption|omega|(simp;omega)|(simp [fk];omega))) fun _=>?_
  refine R.nil<|R.reg O<|R.u 2 O<|R.nil ?_
  have hz:l.take i++l.drop j=(l.take i++(l.drop j)):=by (first|rfl|exact pS (by omega))
  rw [hz]
  exact R.w1 (kG bP (i+(l.drop j).length)) [0,1] [] O Tryz.results148 (RV.tmp O) O O O O
 refine Do.s (s.c (Qt.a (q.dA (i:=j) (bE 0 O) O O bW O (by first|omega|(simp;omega)))) O) (fun _=>(aD [1] [] O)) O fun _=>?_
 refine D.one (i:=2) O<|Do.s (s.c (Qt.a (q.kG (i:=i) (bE 0 O) O O Tryz.underlying34 Ax O (by first|omega|(simp;omega)))) O) (fun _=>(aD [1] [] O)) O fun _=>?_
 refine D.one (i:=6) O<|Do.s (s.tL (a:=i) 0 _ O O O (fun w hw=>Sl.from (hw.row 0 O) (by omega)) jr (by omega) (by simp;omega) O O) (fun _=>(aD [1] [] O)) O fun _=>?_
 refine D.q (i:=7) O (aD [1] [] O) O (q.as O) O<|D.done<|R.reg O<|R.u 2 O<|R.q (q.len' (bE 0 O) O Tryz.underlying34) O<|R.u 1 O<|R.q (q.sl2 (i:=(l.take i++(l.drop j)).length) (j:=l.length) (bE 0 O) O O O bW O O (by first|omega|(simp;omega)) (by first|assumption|omega|(simp;omega)|(simp [fk];omega))) O<|R.s O (s.y9 (lo:=(l.take i++(l.drop j)).length) (hi:=l.length) (z0:=(⟨⟨#[]⟩,⟨#[]⟩,false⟩:Change)) 0 O O bW cG O (by first|omega|(simp;omega)) (by first|omega|(simp;omega)) (by first|assumption|omega|(simp;omega)|(simp [fk];omega))) fun _=>?_
 refine R.nil<|R.reg O<|R.u 2 O<|R.nil ?_
 have hz:l.take i++l.drop j=(l.take i++(l.drop j)):=by (first|rfl|exact pS (by omega))
 rw [hz]
 exact R.w1 (kG bP (i+(l.drop j).length)) [0,1] [] O Tryz.results148 (RV.tmp O) O O O O
theorem tY (bP:Value)(l:List Change)(i:Nat)(PN:Value)(u:List Change)(w:World)(own:List Nat)(H:HN w own [ag.row 117 bP l,ag.row 117 PN u] [])(hi:i<=l.length)(hu:u.length=1)(hl:l.length<=1000000):RC Tryz.prog 149 #[bP,iV (i:Int),PN] H (fun z:Value=>z) (fun z=>[ag.row 117 z (l.take i++u++l.drop i)]) (fun _=>[]):=by
 have HD:=H.cap 0 rfl;have yw:=H.cC 0 rfl
 have VG:=H.cap 1 rfl;have VH:=H.cC 1 rfl
 refine R.bD [(0,bP),(1,iV (i:Int)),(2,PN)] Tryz.func149 O O O O H<|R.reg O<|R.u 1 O<|R.nil<|R.reg O<|R.u 2 O<|R.q (q.dA (i:=i) (bE 0 O) O O bW O (by first|omega|(simp;omega))) O<|R.nil<|R.reg O<|R.u 1 O<|R.q (q.len' (bE 1 O) O Tryz.underlying34) O<|R.u 1 O<|R.nil<|R.reg O<|R.u 1 O<|?_
 by_cases h1:u.length=0
 .
  refine R.q (q.fJ O O) O<|R.nil<|R.az O O<|R.reg O<|R.u 2 O<|R.nil ?_
  have hz:l.take i++u++l.drop i=l:=by (first|(exfalso;omega)|exact qD (by omega)|exact nO hu (by omega) rfl|exact rR hu (by omega))
  rw [hz]
  exact R.w1 bP [0,2] [] O Tryz.results149 (RV.tmp O) O O O O
 refine R.q (q.eX O O) O<|R.nil<|R.aC O O<|R.reg O<|R.u 1 O<|R.q (q.len' (bE 0 O) O Tryz.underlying34) O<|R.u 1 O<|R.nil<|R.reg O<|R.u 2 O<|?_
 by_cases h2:i=l.length
 .
  refine R.q (q.fJ O O) O<|R.nil<|R.az O O<|R.reg O<|R.u 2 O<|R.s O (s.app 0 _ O O O (bE 1 O) jr (by first|omega|(simp;done)|(simp;omega)) (by first|omega|(simp;done)|(simp;omega)) (fun _=>rfl) O) fun v1=>?_
  refine R.u 1 O<|R.nil ?_
  have hz:l.take i++u++l.drop i=(l++u):=by (first|(exfalso;omega)|exact qD (by omega)|exact nO hu (by omega) rfl|exact rR hu (by omega))
  rw [hz]
  exact R.w1 v1 [0,2] [] O Tryz.results149 (RV.tmp O) O O O O
 refine R.q (q.eX O O) O<|R.nil<|R.aC O O<|R.reg O<|R.u 2 O<|R.q (q.bC (r:=((l.length+u.length:Nat):Int)) O O) O<|R.u 1 O<|R.q (q.cap (bE 0 O) O Tryz.underlying34) O<|?_
 by_cases h3:(ly bP)<(l.length+u.length)
 .
  refine R.q (q.eM O O) O<|R.nil<|R.az O O<|R.reg O<|R.u 2 O<|R.q (q.kG (i:=i) (bE 0 O) O O Tryz.underlying34 Ax O (by first|omega|(simp;omega))) O<|R.u 2 O<|R.q (q.bC (r:=((l.length+u.length:Nat):Int)) O O) O<|R.u 1 O<|R.q (q.lU (r:=(((l.length+u.length)-i:Nat):Int)) O O) O<|R.s O (s.F7 (o:=i) (m:=((l.length+u.length)-i)) (z0:=(⟨⟨#[]⟩,⟨#[]⟩,false⟩:Change)) 0 O O O O jr Tryz.underlying3 cG O (by omega) (by omega) (by omega) (by omega) (by omega) O) fun v2=>?_
  refine R.u 1 O<|R.nil<|R.reg O<|R.u 2 O<|R.q (q.dA (i:=i) (bE 0 O) O O bW O (by first|omega|(simp;omega))) O<|R.u 1 O<|R.s O (s.uE (o:=i) 0 _ O (bE 2 O) O O bW (by first|omega|(simp;done)|(simp;omega)) O O) fun _=>?_
  refine R.nil<|R.fP (fuel:=9) [1,2,3] O O mixed O<|D.q (i:=0) O (aD [1,2,3] [] O) O (q.mv O) O<|D.q (i:=1) O (aD [1,2,3] [] O) O (q.mv O) O<|D.q (i:=2) O (aD [1,2,3] [] O) O (q.mv O) O<|D.q (i:=3) O (aD [1,2,3] [] O) O (q.bC (r:=((i+u.length:Nat):Int)) O O) O<|D.q (i:=5) O (aD [1,2,3] [] O) O (q.mv O) O<|D.q (i:=6) O (aD [1,2,3] [] O) O (q.mv O) O<|D.q (i:=7) O (aD [1,2,3] [] O) O (q.dA (i:=i) (bE 0 O) O O bW O (by first|omega|(simp;omega))) O<|D.one (i:=4) O<|Do.s (s.c (Qt.a (q.dA (i:=(i+u.length)) (bE 0 O) O O bW O (by first|omega|(simp;omega)))) O) (fun _=>(aD [1,2,3] [] O)) O fun _=>?_
  refine D.one (i:=8) O<|Do.s (s.uE (o:=(i+u.length)) 0 _ O (fun w hw=>Sl.from (hw.row 1 O) (by omega)) O O bW (by first|omega|(simp;done)|(simp;omega)) O O) (fun _=>(aD [1,2,3] [] O)) O fun _=>?_
  refine D.done<|R.reg O<|R.u 2 O<|R.nil ?_
  have hz:l.take i++u++l.drop i=(((l.take i++List.replicate ((l.length+u.length)-i) (⟨⟨#[]⟩,⟨#[]⟩,false⟩:Change)).take i++u++(l.take i++List.replicate ((l.length+u.length)-i) (⟨⟨#[]⟩,⟨#[]⟩,false⟩:Change)).drop (i+u.length)).take (i+u.length)++(l.drop i)++((l.take i++List.replicate ((l.length+u.length)-i) (⟨⟨#[]⟩,⟨#[]⟩,false⟩:Change)).take i++u++(l.take i++List.replicate ((l.length+u.length)-i) (⟨⟨#[]⟩,⟨#[]⟩,false⟩:Change)).drop (i+u.length)).drop ((i+u.length)+(l.drop i).length)):=by (first|(exfalso;omega)|exact qD (by omega)|exact nO hu (by omega) rfl|exact rR hu (by omega))
  rw [hz]
  exact R.w1 v2 [0,3] [] O Tryz.results149 (RV.tmp O) O O O O
 refine R.q (q.ey O O) O<|R.nil<|R.aC O O<|R.reg O<|R.u 3 O<|R.q (q.bC (r:=((l.length+u.length:Nat):Int)) O O) O<|R.q (q.RE (i:=(l.length+u.length)) (bE 0 O) O O bW O (by first|omega|assumption)) O<|R.u 1 O<|R.nil<|R.reg O<|R.u 4 O<|R.q (q.bC (r:=((i+u.length:Nat):Int)) O O) O<|R.q (q.nk (i:=(i+u.length)) (bE 0 O) O O bW O (by omega) (by first|assumption|omega|(simp [fk];omega))) O<|R.q (q.UT (i:=1) (j:=0) (tR:=4) Tryz.func185 O O (by kernel_rfl) (by kernel_rfl) bW O O (by decide) (by omega) (by omega) O O O O) O<|R.u 1 O<|R.nil<|R.az O O<|R.fP (fuel:=9) [1,2] O O mixed O<|D.q (i:=0) O (aD [1,2] [] O) O (q.mv O) O<|D.q (i:=1) O (aD [1,2] [] O) O (q.mv O) O<|D.q (i:=2) O (aD [1,2] [] O) O (q.mv O) O<|D.q (i:=3) O (aD [1,2] [] O) O (q.bC (r:=((i+u.length:Nat):Int)) O O) O<|D.q (i:=5) O (aD [1,2] [] O) O (q.mv O) O<|D.q (i:=6) O (aD [1,2] [] O) O (q.mv O) O<|D.two (i:=4) (j:=7) O O ?_ ?_
 .
  refine Do.s (s.c (Qt.a (q.nk (i:=(i+u.length)) (bE 0 O) O O bW O (by omega) (by first|assumption|omega|(simp [fk];omega)))) O) (fun _=>(aD [1,2] [] O)) O fun _=>?_
  refine D.one (i:=7) O<|Do.s (s.c (Qt.a (q.nk (i:=i) (bE 0 O) O O bW O (by omega) (by first|assumption|omega|(simp [fk];omega)))) O) (fun _=>(aD [1,2] [] O)) O fun _=>?_
  refine D.one (i:=8) O<|Do.s (s.Aq (o:=i) 0 _ O (by omega) (by omega) (by omega) (by first|assumption|omega) O O bW O O) (fun _=>(aD [1,2] [] O)) O fun _=>?_
  refine D.done<|R.reg O<|R.u 2 O<|R.q (q.dA (i:=i) (bE 0 O) O O bW O (by first|omega|(simp;omega))) O<|R.u 1 O<|R.s O (s.uE (o:=i) 0 _ O (bE 1 O) O O bW (by first|omega|(simp;done)|(simp;omega)) O O) fun _=>?_
  refine R.nil<|R.reg O<|R.u 2 O<|R.nil ?_
  have hz:l.take i++u++l.drop i=((l.take (i+1)++l.drop i).take i++u++(l.take (i+1)++l.drop i).drop (i+u.length)):=by (first|(exfalso;omega)|exact qD (by omega)|exact nO hu (by omega) rfl|exact rR hu (by omega))
  rw [hz]
  exact R.w1 (kG bP (l.length+u.length)) [0,2] [] O Tryz.results149 (RV.tmp O) O O O O
 refine Do.s (s.c (Qt.a (q.nk (i:=i) (bE 0 O) O O bW O (by omega) (by first|assumption|omega|(simp [fk];omega)))) O) (fun _=>(aD [1,2] [] O)) O fun _=>?_
 refine D.one (i:=4) O<|Do.s (s.c (Qt.a (q.nk (i:=(i+u.length)) (bE 0 O) O O bW O (by omega) (by first|assumption|omega|(simp [fk];omega)))) O) (fun _=>(aD [1,2] [] O)) O fun _=>?_
 refine D.one (i:=8) O<|Do.s (s.Aq (o:=i) 0 _ O (by omega) (by omega) (by omega) (by first|assumption|omega) O O bW O O) (fun _=>(aD [1,2] [] O)) O fun _=>?_
 refine D.done<|R.reg O<|R.u 2 O<|R.q (q.dA (i:=i) (bE 0 O) O O bW O (by first|omega|(simp;omega))) O<|R.u 1 O<|R.s O (s.uE (o:=i) 0 _ O (bE 1 O) O O bW (by first|omega|(simp;done)|(simp;omega)) O O) fun _=>?_
 refine R.nil<|R.reg O<|R.u 2 O<|R.nil ?_
 have hz:l.take i++u++l.drop i=((l.take (i+1)++l.drop i).take i++u++(l.take (i+1)++l.drop i).drop (i+u.length)):=by (first|(exfalso;omega)|exact qD (by omega)|exact nO hu (by omega) rfl|exact rR hu (by omega))
 rw [hz]
 exact R.w1 (kG bP (l.length+u.length)) [0,2] [] O Tryz.results149 (RV.tmp O) O O O O
theorem pW (a b:ByteArray)(w:World):Calls Tryz.prog 147 #[.string a,.string b] w fun e w'=>e = .returned (.int .i64 (AW a b))/\Ext w w' :=
 (Tryz.strings_Compare a b w).mono fun e w' ⟨h1,h2⟩=>⟨by rw [h1,<- mW,<- mW,Gi],by rw [h2];exact Ext.refl _⟩
theorem AY (x:Change)(k:ByteArray)(w:World):Calls Tryz.prog 146 #[.agg #[.string x.Key,.string x.Val,.bool x.Gone],.string k] w fun e w'=>e = .returned (iV (fK k x))/\Ext w w':=by
 refine R.enter [] [(0,.agg #[.string x.Key,.string x.Val,.bool x.Gone]),(1,.string k)] Tryz.func146 O O O O<|R.reg O<|R.s O (s.box O O O) fun b1=>?_
 refine R.u 1 O<|R.nil<|R.reg O<|R.q (q.aP O bH O) O<|R.q (q.ld 0 O O bF O) O<|R.u 1 O<|R.c (q.call Jy O O (fun w hw=>(pW x.Key k w ))) O<|R.u 1 O<|R.nil ?_
 exact R.rv O Tryz.results146 O (rI (by rfl))
theorem gC (bP:Value)(l:List Change)(t:ByteArray)(c:Change->ByteArray->Int)(HG:Nat)(Mj:List Value)(EV:∀args w,(callFunc HG args).run Tryz.prog w = .ok (.enter HG args) w)(w:World)(ez:Sl w bP l)(PO:∀W (x1:Change) (x2:ByteArray),Ext w W->Calls Tryz.prog HG ([x1.val,.string x2]++Mj).toArray W fun e w'=>e = .returned (iV (c x1 x2))/\Ext W w')(hl:l.length<=1000000):Calls Tryz.prog 145 #[bP,.string t,.func (.func HG) #[] Mj.toArray] w fun e w'=>e = .returned (.tuple #[iV (jC (fun x=>c x t) l:Int),.bool (lI (fun x=>c x t) l)])/\Ext w w':=by
 have zq:=ez.gV
 refine R.enter [] [(0,bP),(1,.string t),(2,.func (.func HG) #[] Mj.toArray)] Tryz.func145 O O O O<|R.reg O<|R.u 2 O<|R.nil<|R.reg O<|R.u 1 O<|R.q (q.len' (fun _=>Wd.old ez) O Tryz.underlying34) O<|R.u 1 O<|R.nil<|R.reg O<|R.u 3 O<|R.nil<|R.loop (fun g_:Nat×Nat=>[(0,bP),(1,.string t),(2,.func (.func HG) #[] Mj.toArray),(8,iV (l.length:Int)),(9,iV (g_.1:Int)),(10,iV (g_.2:Int))]) (fun g_=>[]) (fun g_=>[]) (fun g_=>g_.1<=g_.2/\g_.2<=l.length/\bsGo (fun x=>c x t) l g_.1 g_.2=jC (fun x=>c x t) l) (fun g_=>g_.2-g_.1) (0,l.length) O (by exact ⟨Nat.zero_le _,Nat.le_refl _,rfl⟩) (sF O) (iz [] [] O) ?_
 rintro ⟨lo,hi⟩ ⟨PQ,VI,HA⟩
 dsimp only at *
 refine R.reg O<|R.u 2 O<|?_
 by_cases h1:lo<hi
 .
  refine R.q (q.dD O O) O<|R.nil<|R.az O O<|R.reg O<|R.u 2 O<|R.q (q.bC (r:=((lo+hi:Nat):Int)) O O) O<|R.q (q.ni (r:=(((lo+hi):Nat):Int)) O (by rw [Tryz.underlying3];rfl) Tryz.underlying188 (Ar (by omega))) O<|R.q (q.shr (r:=((((lo+hi) / 2):Nat):Int)) O O (by decide) (L9 (by decide))) O<|R.q (q.ni (r:=((((lo+hi) / 2):Nat):Int)) O (by rw [Tryz.underlying188];rfl) Tryz.underlying3 (wr (by omega))) O<|R.u 1 O<|R.nil<|R.reg O<|R.u 3 O<|?_
  obtain ⟨x1,hx1⟩:∃z,l[((lo+hi) / 2)]? = some z:=⟨_,List.getElem?_eq_getElem (by omega)⟩
  refine R.q (q.idx (i:=((lo+hi) / 2)) (fun _=>Wd.old ez) O O bW O hx1) O<|R.q (q.gk (ds:=fD x1) (fun _=>Wd.old ez) hx1 O aX O) O<|R.u 1 O<|R.c (q.call EV O O (fun w hw=>PO w x1 t hw.ext)) O<|?_
  by_cases h2:(c x1 t)<0
  .
   refine R.q (q.dD O O) O<|R.nil<|R.az O O<|R.reg O<|R.u 1 O<|R.q (q.bC (r:=((((lo+hi) / 2)+1:Nat):Int)) O O) O<|R.u 1 O<|R.nil<|R.back ((((lo+hi) / 2)+1),hi) O (by (exact ⟨by omega,by omega,(AP (by omega) hx1 (by omega)).symm.trans HA⟩)) (by dsimp only;omega) (sF O) (iz [] [] O)
  refine R.q (q.cU O O) O<|R.nil<|R.aC O O<|R.reg O<|R.u 2 O<|R.nil<|R.back (lo,((lo+hi) / 2)) O (by (exact ⟨by omega,by omega,(AQ (by omega) hx1 (by omega)).symm.trans HA⟩)) (by dsimp only;omega) (sF O) (iz [] [] O)
 refine R.q (q.cU O O) O<|R.nil<|R.aC O O<|R.reg O<|R.u 3 O<|?_
 by_cases h3:lo<l.length
 .
  refine R.q (q.dD O O) O<|R.u 4 O<|?_
  obtain ⟨x2,hx2⟩:∃z,l[lo]? = some z:=⟨_,List.getElem?_eq_getElem (by omega)⟩
  refine R.qg O (q.idx (i:=lo) (fun _=>Wd.old ez) O O bW O hx2) O<|R.qg O (q.gk (ds:=fD x2) (fun _=>Wd.old ez) hx2 O aX O) O<|R.u 1 O<|R.cg O (q.call EV O O (fun w hw=>PO w x2 t hw.ext)) O<|?_
  by_cases h4:(c x2 t)=0
  .
   exact R.qg O (q.fJ O O) O<|R.u 3 O<|R.nil<|R.F4 O Tryz.results145 O O (rI (by (exact congrArg (fun n:Nat=>(n:Int)) ((gX (by omega)).symm.trans HA)))) (rB (by (have e:=(gX (by omega)).symm.trans HA;unfold lI;rw [<- e];(rw [hx2];exact (decide_eq_true ‹_›).symm))))
  exact R.qg O (q.eX O O) O<|R.u 3 O<|R.nil<|R.F4 O Tryz.results145 O O (rI (by (exact congrArg (fun n:Nat=>(n:Int)) ((gX (by omega)).symm.trans HA)))) (rB (by (have e:=(gX (by omega)).symm.trans HA;unfold lI;rw [<- e];(rw [hx2];exact (decide_eq_false ‹_›).symm))))
 exact R.q (q.cU O O) O<|R.u 12 O<|R.nil<|R.F4 O Tryz.results145 O O (rI (by (exact congrArg (fun n:Nat=>(n:Int)) ((gX (by omega)).symm.trans HA)))) (rB (by (have e:=(gX (by omega)).symm.trans HA;unfold lI;rw [<- e];(rw [List.getElem?_eq_none (by omega)]))))
theorem jt (c:Change)(w:World):Calls Tryz.prog 133 #[.agg #[.string c.Key,.string c.Val,.bool c.Gone]] w fun e w'=>e = .returned (dh (iH c))/\Ext w w':=by
 refine R.enter [] [(0,.agg #[.string c.Key,.string c.Val,.bool c.Gone])] Tryz.func133 O O O O<|R.reg O<|R.s O (s.box O O O) fun b1=>?_
 refine R.u 1 O<|R.nil<|R.reg O<|R.q (q.aP O bH O) O<|R.q (q.ld 0 O O bF O) O<|?_
 by_cases h1:c.Key=⟨#[]⟩
 .
  exact R.q (q.pI O O h1) O<|R.u 9 O<|R.nil<|R.az O O<|R.reg O<|R.q (q.iface O br) O<|R.u 1 O<|R.nil<|R.rv O Tryz.results133 O (dj (by decide) (by (unfold iH;first|(rw [if_pos (by first|exact .inl ‹_› | exact .inr ⟨by assumption,by assumption⟩)])|(rw [if_neg (by rintro (hh|⟨hh,hk⟩) <;> first|contradiction|(simp_all;done)),if_pos (by omega)])|(rw [if_neg (by rintro (hh|⟨hh,hk⟩) <;> first|contradiction|(simp_all;done)),if_neg (by omega)]))))
 refine R.q (q.pJ O O h1) O<|R.u 1 O<|R.qg O (q.aP O gL O) O<|R.qg O (q.ld 0 O O ig O) O<|R.u 1 O<|?_
 rcases Bool.eq_false_or_eq_true c.Gone with h2|h2
 .
  rw [h2]
  refine R.qg O (q.aP O cY O) O<|R.qg O (q.ld 0 O O bF O) O<|?_
  by_cases h3:c.Val=⟨#[]⟩
  .
   refine R.qg O (q.uD O O h3) O<|R.u 2 O<|R.nil<|R.aC O O<|R.reg O<|R.q (q.aP O bH O) O<|R.q (q.ld 0 O O bF O) O<|R.q (q.iy O Tryz.underlying9) O<|?_
   by_cases h4:8<c.Key.size
   .
    exact R.q (q.eM O O) O<|R.u 6 O<|R.nil<|R.az O O<|R.reg O<|R.q (q.iface O br) O<|R.u 1 O<|R.nil<|R.rv O Tryz.results133 O (dj (by decide) (by (unfold iH;first|(rw [if_pos (by first|exact .inl ‹_› | exact .inr ⟨by assumption,by assumption⟩)])|(rw [if_neg (by rintro (hh|⟨hh,hk⟩) <;> first|contradiction|(simp_all;done)),if_pos (by omega)])|(rw [if_neg (by rintro (hh|⟨hh,hk⟩) <;> first|contradiction|(simp_all;done)),if_neg (by omega)]))))
   refine R.q (q.ey O O) O<|R.u 1 O<|R.qg O (q.aP O cY O) O<|R.qg O (q.ld 0 O O bF O) O<|R.qg O (q.iy O Tryz.underlying9) O<|?_
   by_cases h5:24<c.Val.size
   .
    exact R.qg O (q.eM O O) O<|R.u 1 O<|R.nil<|R.az O O<|R.reg O<|R.q (q.iface O br) O<|R.u 1 O<|R.nil<|R.rv O Tryz.results133 O (dj (by decide) (by (unfold iH;first|(rw [if_pos (by first|exact .inl ‹_› | exact .inr ⟨by assumption,by assumption⟩)])|(rw [if_neg (by rintro (hh|⟨hh,hk⟩) <;> first|contradiction|(simp_all;done)),if_pos (by omega)])|(rw [if_neg (by rintro (hh|⟨hh,hk⟩) <;> first|contradiction|(simp_all;done)),if_neg (by omega)]))))
   exact R.qg O (q.ey O O) O<|R.u 1 O<|R.nil<|R.aC O O<|R.reg O<|R.u 1 O<|R.nil<|R.rv O Tryz.results133 O (iJ (by (unfold iH;first|(rw [if_pos (by first|exact .inl ‹_› | exact .inr ⟨by assumption,by assumption⟩)])|(rw [if_neg (by rintro (hh|⟨hh,hk⟩) <;> first|contradiction|(simp_all;done)),if_pos (by omega)])|(rw [if_neg (by rintro (hh|⟨hh,hk⟩) <;> first|contradiction|(simp_all;done)),if_neg (by omega)]))))
  exact R.qg O (q.yW O O h3) O<|R.u 2 O<|R.nil<|R.az O O<|R.reg O<|R.q (q.iface O br) O<|R.u 1 O<|R.nil<|R.rv O Tryz.results133 O (dj (by decide) (by (unfold iH;first|(rw [if_pos (by first|exact .inl ‹_› | exact .inr ⟨by assumption,by assumption⟩)])|(rw [if_neg (by rintro (hh|⟨hh,hk⟩) <;> first|contradiction|(simp_all;done)),if_pos (by omega)])|(rw [if_neg (by rintro (hh|⟨hh,hk⟩) <;> first|contradiction|(simp_all;done)),if_neg (by omega)]))))
 rw [h2]
 refine R.u 5 O<|R.nil<|R.aC O O<|R.reg O<|R.q (q.aP O bH O) O<|R.q (q.ld 0 O O bF O) O<|R.q (q.iy O Tryz.underlying9) O<|?_
 by_cases h6:8<c.Key.size
 .
  exact R.q (q.eM O O) O<|R.u 6 O<|R.nil<|R.az O O<|R.reg O<|R.q (q.iface O br) O<|R.u 1 O<|R.nil<|R.rv O Tryz.results133 O (dj (by decide) (by (unfold iH;first|(rw [if_pos (by first|exact .inl ‹_› | exact .inr ⟨by assumption,by assumption⟩)])|(rw [if_neg (by rintro (hh|⟨hh,hk⟩) <;> first|contradiction|(simp_all;done)),if_pos (by omega)])|(rw [if_neg (by rintro (hh|⟨hh,hk⟩) <;> first|contradiction|(simp_all;done)),if_neg (by omega)]))))
 refine R.q (q.ey O O) O<|R.u 1 O<|R.qg O (q.aP O cY O) O<|R.qg O (q.ld 0 O O bF O) O<|R.qg O (q.iy O Tryz.underlying9) O<|?_
 by_cases h7:24<c.Val.size
 .
  exact R.qg O (q.eM O O) O<|R.u 1 O<|R.nil<|R.az O O<|R.reg O<|R.q (q.iface O br) O<|R.u 1 O<|R.nil<|R.rv O Tryz.results133 O (dj (by decide) (by (unfold iH;first|(rw [if_pos (by first|exact .inl ‹_› | exact .inr ⟨by assumption,by assumption⟩)])|(rw [if_neg (by rintro (hh|⟨hh,hk⟩) <;> first|contradiction|(simp_all;done)),if_pos (by omega)])|(rw [if_neg (by rintro (hh|⟨hh,hk⟩) <;> first|contradiction|(simp_all;done)),if_neg (by omega)]))))
 exact R.qg O (q.ey O O) O<|R.u 1 O<|R.nil<|R.aC O O<|R.reg O<|R.u 1 O<|R.nil<|R.rv O Tryz.results133 O (iJ (by (unfold iH;first|(rw [if_pos (by first|exact .inl ‹_› | exact .inr ⟨by assumption,by assumption⟩)])|(rw [if_neg (by rintro (hh|⟨hh,hk⟩) <;> first|contradiction|(simp_all;done)),if_pos (by omega)])|(rw [if_neg (by rintro (hh|⟨hh,hk⟩) <;> first|contradiction|(simp_all;done)),if_neg (by omega)]))))
theorem AZ (c:Change)(w:World):Calls Tryz.prog 201 #[.agg #[.string c.Key,.string c.Val,.bool c.Gone]] w fun e w'=>e = .returned (.tuple #[.string (ka c).1,dh (ka c).2])/\Ext w w':=by
 have f0:=bz c
 refine R.enter [] [(0,.agg #[.string c.Key,.string c.Val,.bool c.Gone])] Tryz.func201 O O O O<|R.reg O<|R.s O (s.box O O O) fun b1=>?_
 refine R.u 2 O<|R.nil<|R.reg O<|R.q (q.cW 0 O O aX) O<|R.c (q.call tP O O (fun w hw=>(jt c w ))) O<|R.u 1 O<|R.nil ?_
 refine R.reg O<|R.u 1 O<|?_
 by_cases h1:iH c=0
 .
  obtain ⟨z1,z2,z3,z4⟩:=gY h1
  refine R.q (q.dq O O Tryz.underlying38) O<|R.nil<|R.aC O O<|R.reg O<|R.u 1 O<|R.nil<|R.reg O<|R.q (q.aP O gL O) O<|R.q (q.ld 0 O O ig O) O<|R.nil<|R.cond O O (fun h2=>?_) (fun h2=>?_)
  .
   refine R.reg O<|R.u 1 O<|R.nil<|R.reg O<|R.u 1 O<|R.q (q.aP O bH O) O<|R.q (q.ld 0 O O bF O) O<|R.q (q.iy O Tryz.underlying9) O<|R.q (q.ni (r:=((c.Key.size:Nat):Int)) O (by rw [Tryz.underlying3];rfl) Tryz.underlying5 (wj (by omega))) O<|R.s O (s.bs (l:=([(1:UInt8),(UInt8.ofNat c.Key.size)]:List UInt8)) aR eA O O O O O (cr O (cr (dG (by omega)) fV)) O) fun b2=>?_
   exact R.q (q.kf (bE 0 O) O aR Tryz.underlying5 Tryz.underlying9) O<|R.q (q.aP O bH O) O<|R.q (q.ld 1 O O bF O) O<|R.q (q.cat O O (by first|omega|(simp only [ByteArray.size_append,aI,List.length_cons,List.length_nil];omega))) O<|R.q (q.aP O cY O) O<|R.q (q.ld 1 O O bF O) O<|R.q (q.cat O O (by first|omega|(simp only [ByteArray.size_append,aI,List.length_cons,List.length_nil];omega))) O<|R.u 2 O<|R.nil<|R.F4 O Tryz.results201 O O (rS (by (unfold ka;first|(rw [if_neg (by omega)];done)|(rw [if_neg (by omega)];omega)|(rw [if_pos (by omega)];done)|(rw [if_pos (by omega),show c.Gone=true from by assumption];rfl)|(rw [if_pos (by omega),show c.Gone=false from by assumption];rfl)))) (iJ (by (unfold ka;first|(rw [if_neg (by omega)];done)|(rw [if_neg (by omega)];omega)|(rw [if_pos (by omega)];done)|(rw [if_pos (by omega),show c.Gone=true from by assumption];rfl)|(rw [if_pos (by omega),show c.Gone=false from by assumption];rfl))))
  refine R.reg O<|R.u 1 O<|R.q (q.aP O bH O) O<|R.q (q.ld 0 O O bF O) O<|R.q (q.iy O Tryz.underlying9) O<|R.q (q.ni (r:=((c.Key.size:Nat):Int)) O (by rw [Tryz.underlying3];rfl) Tryz.underlying5 (wj (by omega))) O<|R.s O (s.bs (l:=([(0:UInt8),(UInt8.ofNat c.Key.size)]:List UInt8)) aR eA O O O O O (cr O (cr (dG (by omega)) fV)) O) fun b3=>?_
  exact R.q (q.kf (bE 0 O) O aR Tryz.underlying5 Tryz.underlying9) O<|R.q (q.aP O bH O) O<|R.q (q.ld 1 O O bF O) O<|R.q (q.cat O O (by first|omega|(simp only [ByteArray.size_append,aI,List.length_cons,List.length_nil];omega))) O<|R.q (q.aP O cY O) O<|R.q (q.ld 1 O O bF O) O<|R.q (q.cat O O (by first|omega|(simp only [ByteArray.size_append,aI,List.length_cons,List.length_nil];omega))) O<|R.u 2 O<|R.nil<|R.F4 O Tryz.results201 O O (rS (by (unfold ka;first|(rw [if_neg (by omega)];done)|(rw [if_neg (by omega)];omega)|(rw [if_pos (by omega)];done)|(rw [if_pos (by omega),show c.Gone=true from by assumption];rfl)|(rw [if_pos (by omega),show c.Gone=false from by assumption];rfl)))) (iJ (by (unfold ka;first|(rw [if_neg (by omega)];done)|(rw [if_neg (by omega)];omega)|(rw [if_pos (by omega)];done)|(rw [if_pos (by omega),show c.Gone=true from by assumption];rfl)|(rw [if_pos (by omega),show c.Gone=false from by assumption];rfl))))
 exact R.q (q.dW O O Tryz.underlying38) O<|R.nil<|R.az O O<|R.reg O<|R.u 3 O<|R.nil<|R.F4 O Tryz.results201 O O (rS (by (unfold ka;first|(rw [if_neg (by omega)];done)|(rw [if_neg (by omega)];omega)|(rw [if_pos (by omega)];done)|(rw [if_pos (by omega),show c.Gone=true from by assumption];rfl)|(rw [if_pos (by omega),show c.Gone=false from by assumption];rfl)))) (rE (by (unfold ka;first|(rw [if_neg (by omega)];done)|(rw [if_neg (by omega)];omega)|(rw [if_pos (by omega)];done)|(rw [if_pos (by omega),show c.Gone=true from by assumption];rfl)|(rw [if_pos (by omega),show c.Gone=false from by assumption];rfl))))
theorem gD {s:ByteArray}(h:s.size<2):rT s=(c0,4):=by unfold rT;rw [if_pos (.inl h)]
theorem gE {s:ByteArray}{y:UInt8}(hy:s.data[0]? = some y)(h:1<y.toNat):rT s=(c0,4):=by unfold rT;rw [if_pos (.inr (.inl (by rw [aK hy];exact h)))]
theorem gF {s:ByteArray}{y:UInt8}(hy:s.data[1]? = some y)(h:s.size<2+y.toNat):rT s=(c0,4):=by unfold rT;rw [if_pos (.inr (.inr (by rw [aK hy];exact h)))]
theorem cm {s:ByteArray}{y z:UInt8}{b:Bool}(hy:s.data[0]? = some y)(hz:s.data[1]? = some z)(h1:¬ s.size<2)(h2:¬ 1<y.toNat)(h3:¬ s.size<2+z.toNat)(hb:b=decide (y.toNat=1)) :
 rT s=if iH ⟨s.extract 2 (2+z.toNat),s.extract (2+z.toNat) s.size,b⟩=0 then (⟨s.extract 2 (2+z.toNat),s.extract (2+z.toNat) s.size,b⟩,0) else (c0,4):=by
 have e1:=aK hy;have e2:=aK hz
 unfold rT;rw [if_neg (by rw [e1,e2];omega)];unfold JX;rw [e1,e2,hb]
theorem A8 (sb:ByteArray)(w:World)(hs:sb.size<=1000000):Calls Tryz.prog 143 #[.string sb] w fun e w'=>e = .returned (.tuple #[Change.val (rT sb).1,dh (rT sb).2])/\Ext w w':=by
 refine R.enter [] [(0,.string sb)] Tryz.func143 O O O O<|R.reg O<|R.s O (s.alloc cG O O) fun b1=>?_
 refine R.u 1 O<|R.nil<|R.reg O<|R.u 1 O<|R.q (q.iy O Tryz.underlying9) O<|?_
 by_cases h1:sb.size<2
 .
  refine R.q (q.dD O O) O<|R.u 14 O<|R.nil<|R.az O O<|R.reg O<|R.q (q.build kM O O) O<|R.q (q.iface O br) O<|R.s O (s.st 0 _ O O O O (.inl aX) O O O O) fun _=>?_
  exact R.u 1 O<|R.nil<|R.Cc O Tryz.results143 (RV.cell 0 O O aX) (RV.tmp O) (congrArg Change.val (show (⟨⟨#[]⟩,⟨#[]⟩,false⟩:Change)=(rT sb).1 from by (first|(rw [gD (by omega)];first|done|rfl)|(rw [gE hy1 (by omega)];first|done|rfl)|(rw [gF hy2 (by omega)];first|done|rfl)|(have f1:=bz (⟨sb.extract 2 (2+y2.toNat),sb.extract (2+y2.toNat) sb.size,true⟩:Change);rw [cm (b:=true) hy1 hy2 (by omega) (by omega) (by omega) (decide_eq_true (by omega)).symm,if_pos (by omega)];first|done|rfl)|(have f1:=bz (⟨sb.extract 2 (2+y2.toNat),sb.extract (2+y2.toNat) sb.size,false⟩:Change);rw [cm (b:=false) hy1 hy2 (by omega) (by omega) (by omega) (decide_eq_false (by omega)).symm,if_pos (by omega)];first|done|rfl)|(have f1:=bz (⟨sb.extract 2 (2+y2.toNat),sb.extract (2+y2.toNat) sb.size,true⟩:Change);rw [cm (b:=true) hy1 hy2 (by omega) (by omega) (by omega) (decide_eq_true (by omega)).symm,if_neg (by omega)];first|done|rfl)|(have f1:=bz (⟨sb.extract 2 (2+y2.toNat),sb.extract (2+y2.toNat) sb.size,false⟩:Change);rw [cm (b:=false) hy1 hy2 (by omega) (by omega) (by omega) (decide_eq_false (by omega)).symm,if_neg (by omega)];first|done|rfl)))) (dj (by decide) (by (first|(rw [gD (by omega)];first|done|rfl)|(rw [gE hy1 (by omega)];first|done|rfl)|(rw [gF hy2 (by omega)];first|done|rfl)|(have f1:=bz (⟨sb.extract 2 (2+y2.toNat),sb.extract (2+y2.toNat) sb.size,true⟩:Change);rw [cm (b:=true) hy1 hy2 (by omega) (by omega) (by omega) (decide_eq_true (by omega)).symm,if_pos (by omega)];first|done|rfl)|(have f1:=bz (⟨sb.extract 2 (2+y2.toNat),sb.extract (2+y2.toNat) sb.size,false⟩:Change);rw [cm (b:=false) hy1 hy2 (by omega) (by omega) (by omega) (decide_eq_false (by omega)).symm,if_pos (by omega)];first|done|rfl)|(have f1:=bz (⟨sb.extract 2 (2+y2.toNat),sb.extract (2+y2.toNat) sb.size,true⟩:Change);rw [cm (b:=true) hy1 hy2 (by omega) (by omega) (by omega) (decide_eq_true (by omega)).symm,if_neg (by omega)];first|done|rfl)|(have f1:=bz (⟨sb.extract 2 (2+y2.toNat),sb.extract (2+y2.toNat) sb.size,false⟩:Change);rw [cm (b:=false) hy1 hy2 (by omega) (by omega) (by omega) (decide_eq_false (by omega)).symm,if_neg (by omega)];first|done|rfl))))
 refine R.q (q.cU O O) O<|R.u 2 O<|?_
 obtain ⟨y1,hy1⟩:∃z,sb.data[0]? = some z:=⟨_,Array.getElem?_eq_getElem (show 0<sb.size from by omega)⟩
 have Sw:=y1.toNat_lt
 refine R.qg O (q.iK (i:=0) O O Tryz.underlying9 O hy1) O<|?_
 by_cases h2:1<y1.toNat
 .
  refine R.qg O (q.eM O O) O<|R.u 10 O<|R.nil<|R.az O O<|R.reg O<|R.q (q.build kM O O) O<|R.q (q.iface O br) O<|R.s O (s.st 0 _ O O O O (.inl aX) O O O O) fun _=>?_
  exact R.u 1 O<|R.nil<|R.Cc O Tryz.results143 (RV.cell 0 O O aX) (RV.tmp O) (congrArg Change.val (show (⟨⟨#[]⟩,⟨#[]⟩,false⟩:Change)=(rT sb).1 from by (first|(rw [gD (by omega)];first|done|rfl)|(rw [gE hy1 (by omega)];first|done|rfl)|(rw [gF hy2 (by omega)];first|done|rfl)|(have f1:=bz (⟨sb.extract 2 (2+y2.toNat),sb.extract (2+y2.toNat) sb.size,true⟩:Change);rw [cm (b:=true) hy1 hy2 (by omega) (by omega) (by omega) (decide_eq_true (by omega)).symm,if_pos (by omega)];first|done|rfl)|(have f1:=bz (⟨sb.extract 2 (2+y2.toNat),sb.extract (2+y2.toNat) sb.size,false⟩:Change);rw [cm (b:=false) hy1 hy2 (by omega) (by omega) (by omega) (decide_eq_false (by omega)).symm,if_pos (by omega)];first|done|rfl)|(have f1:=bz (⟨sb.extract 2 (2+y2.toNat),sb.extract (2+y2.toNat) sb.size,true⟩:Change);rw [cm (b:=true) hy1 hy2 (by omega) (by omega) (by omega) (decide_eq_true (by omega)).symm,if_neg (by omega)];first|done|rfl)|(have f1:=bz (⟨sb.extract 2 (2+y2.toNat),sb.extract (2+y2.toNat) sb.size,false⟩:Change);rw [cm (b:=false) hy1 hy2 (by omega) (by omega) (by omega) (decide_eq_false (by omega)).symm,if_neg (by omega)];first|done|rfl)))) (dj (by decide) (by (first|(rw [gD (by omega)];first|done|rfl)|(rw [gE hy1 (by omega)];first|done|rfl)|(rw [gF hy2 (by omega)];first|done|rfl)|(have f1:=bz (⟨sb.extract 2 (2+y2.toNat),sb.extract (2+y2.toNat) sb.size,true⟩:Change);rw [cm (b:=true) hy1 hy2 (by omega) (by omega) (by omega) (decide_eq_true (by omega)).symm,if_pos (by omega)];first|done|rfl)|(have f1:=bz (⟨sb.extract 2 (2+y2.toNat),sb.extract (2+y2.toNat) sb.size,false⟩:Change);rw [cm (b:=false) hy1 hy2 (by omega) (by omega) (by omega) (decide_eq_false (by omega)).symm,if_pos (by omega)];first|done|rfl)|(have f1:=bz (⟨sb.extract 2 (2+y2.toNat),sb.extract (2+y2.toNat) sb.size,true⟩:Change);rw [cm (b:=true) hy1 hy2 (by omega) (by omega) (by omega) (decide_eq_true (by omega)).symm,if_neg (by omega)];first|done|rfl)|(have f1:=bz (⟨sb.extract 2 (2+y2.toNat),sb.extract (2+y2.toNat) sb.size,false⟩:Change);rw [cm (b:=false) hy1 hy2 (by omega) (by omega) (by omega) (decide_eq_false (by omega)).symm,if_neg (by omega)];first|done|rfl))))
 refine R.qg O (q.ey O O) O<|R.u 3 O<|?_
 obtain ⟨y2,hy2⟩:∃z,sb.data[1]? = some z:=⟨_,Array.getElem?_eq_getElem (show 1<sb.size from by omega)⟩
 have Sx:=y2.toNat_lt
 refine R.qg O (q.iK (i:=1) O O Tryz.underlying9 O hy2) O<|R.qg O (q.ni (r:=((y2.toNat:Nat):Int)) O (by rw [Tryz.underlying5];rfl) Tryz.underlying3 (wr (by omega))) O<|R.qg O (q.bC (r:=((2+y2.toNat:Nat):Int)) O O) O<|R.u 1 O<|R.qg O (q.iy O Tryz.underlying9) O<|?_
 by_cases h3:sb.size<(2+y2.toNat)
 .
  refine R.qg O (q.eM O O) O<|R.u 1 O<|R.nil<|R.az O O<|R.reg O<|R.q (q.build kM O O) O<|R.q (q.iface O br) O<|R.s O (s.st 0 _ O O O O (.inl aX) O O O O) fun _=>?_
  exact R.u 1 O<|R.nil<|R.Cc O Tryz.results143 (RV.cell 0 O O aX) (RV.tmp O) (congrArg Change.val (show (⟨⟨#[]⟩,⟨#[]⟩,false⟩:Change)=(rT sb).1 from by (first|(rw [gD (by omega)];first|done|rfl)|(rw [gE hy1 (by omega)];first|done|rfl)|(rw [gF hy2 (by omega)];first|done|rfl)|(have f1:=bz (⟨sb.extract 2 (2+y2.toNat),sb.extract (2+y2.toNat) sb.size,true⟩:Change);rw [cm (b:=true) hy1 hy2 (by omega) (by omega) (by omega) (decide_eq_true (by omega)).symm,if_pos (by omega)];first|done|rfl)|(have f1:=bz (⟨sb.extract 2 (2+y2.toNat),sb.extract (2+y2.toNat) sb.size,false⟩:Change);rw [cm (b:=false) hy1 hy2 (by omega) (by omega) (by omega) (decide_eq_false (by omega)).symm,if_pos (by omega)];first|done|rfl)|(have f1:=bz (⟨sb.extract 2 (2+y2.toNat),sb.extract (2+y2.toNat) sb.size,true⟩:Change);rw [cm (b:=true) hy1 hy2 (by omega) (by omega) (by omega) (decide_eq_true (by omega)).symm,if_neg (by omega)];first|done|rfl)|(have f1:=bz (⟨sb.extract 2 (2+y2.toNat),sb.extract (2+y2.toNat) sb.size,false⟩:Change);rw [cm (b:=false) hy1 hy2 (by omega) (by omega) (by omega) (decide_eq_false (by omega)).symm,if_neg (by omega)];first|done|rfl)))) (dj (by decide) (by (first|(rw [gD (by omega)];first|done|rfl)|(rw [gE hy1 (by omega)];first|done|rfl)|(rw [gF hy2 (by omega)];first|done|rfl)|(have f1:=bz (⟨sb.extract 2 (2+y2.toNat),sb.extract (2+y2.toNat) sb.size,true⟩:Change);rw [cm (b:=true) hy1 hy2 (by omega) (by omega) (by omega) (decide_eq_true (by omega)).symm,if_pos (by omega)];first|done|rfl)|(have f1:=bz (⟨sb.extract 2 (2+y2.toNat),sb.extract (2+y2.toNat) sb.size,false⟩:Change);rw [cm (b:=false) hy1 hy2 (by omega) (by omega) (by omega) (decide_eq_false (by omega)).symm,if_pos (by omega)];first|done|rfl)|(have f1:=bz (⟨sb.extract 2 (2+y2.toNat),sb.extract (2+y2.toNat) sb.size,true⟩:Change);rw [cm (b:=true) hy1 hy2 (by omega) (by omega) (by omega) (decide_eq_true (by omega)).symm,if_neg (by omega)];first|done|rfl)|(have f1:=bz (⟨sb.extract 2 (2+y2.toNat),sb.extract (2+y2.toNat) sb.size,false⟩:Change);rw [cm (b:=false) hy1 hy2 (by omega) (by omega) (by omega) (decide_eq_false (by omega)).symm,if_neg (by omega)];first|done|rfl))))
 refine R.qg O (q.ey O O) O<|R.u 1 O<|R.nil<|R.aC O O<|R.reg O<|R.u 1 O<|R.q (q.iK (i:=1) O O Tryz.underlying9 O hy2) O<|R.q (q.ni (r:=((y2.toNat:Nat):Int)) O (by rw [Tryz.underlying5];rfl) Tryz.underlying3 (wr (by omega))) O<|R.q (q.bC (r:=((2+y2.toNat:Nat):Int)) O O) O<|R.u 1 O<|R.nil ?_
 by_cases h4:y1.toNat=1
 .
  refine R.fP (fuel:=12) [0] O O mixed O<|D.q (i:=0) O (aD [0] [] O) O (q.mv O) O<|D.q (i:=1) O (aD [0] [] O) O (q.mv O) O<|D.q (i:=2) O (aD [0] [] O) O (q.Cn (i:=2) (j:=(2+y2.toNat)) O O O Tryz.underlying9 O O (by omega) (by omega)) O<|D.q (i:=3) O (aD [0] [] O) O (q.mv O) O<|D.q (i:=4) O (aD [0] [] O) O (q.mv O) O<|D.q (i:=5) O (aD [0] [] O) O (q.Co (i:=(2+y2.toNat)) O O Tryz.underlying9 O (by omega)) O<|D.q (i:=6) O (aD [0] [] O) O (q.mv O) O<|D.q (i:=7) O (aD [0] [] O) O (q.iK (i:=0) O O Tryz.underlying9 O hy1) O<|D.q (i:=8) O (aD [0] [] O) O (q.fJ O O) O<|D.q (i:=9) O (aD [0] [] O) O (q.build kM O O) O<|D.one (i:=10) O<|Do.s (s.alloc cG O O) (fun _=>(aD [1] [] O)) O fun b2=>?_
  refine D.one (i:=11) O<|Do.s (s.st 0 _ O O O O (.inl aX) O O O O) (fun _=>(aD [1] [] O)) O fun _=>?_
  refine D.done<|R.reg O<|R.q (q.cW 0 O O aX) O<|R.c (q.call tP O O (fun w hw=>(jt (⟨(sb.extract 2 (2+y2.toNat)),(sb.extract (2+y2.toNat) sb.size),true⟩:Change) w ))) O<|?_
  by_cases h5:iH (⟨(sb.extract 2 (2+y2.toNat)),(sb.extract (2+y2.toNat) sb.size),true⟩:Change)=0
  .
   refine R.q (q.dq O O Tryz.underlying38) O<|R.nil<|R.aC O O<|R.reg O<|R.q (q.cW 0 O O aX) O<|R.s O (s.st 1 _ O O O O (.inl aX) O O O O) fun _=>?_
   exact R.u 1 O<|R.nil<|R.Cc O Tryz.results143 (RV.cell 1 O O aX) (RV.tmp O) (congrArg Change.val (show (⟨(sb.extract 2 (2+y2.toNat)),(sb.extract (2+y2.toNat) sb.size),true⟩:Change)=(rT sb).1 from by (first|(rw [gD (by omega)];first|done|rfl)|(rw [gE hy1 (by omega)];first|done|rfl)|(rw [gF hy2 (by omega)];first|done|rfl)|(have f1:=bz (⟨sb.extract 2 (2+y2.toNat),sb.extract (2+y2.toNat) sb.size,true⟩:Change);rw [cm (b:=true) hy1 hy2 (by omega) (by omega) (by omega) (decide_eq_true (by omega)).symm,if_pos (by omega)];first|done|rfl)|(have f1:=bz (⟨sb.extract 2 (2+y2.toNat),sb.extract (2+y2.toNat) sb.size,false⟩:Change);rw [cm (b:=false) hy1 hy2 (by omega) (by omega) (by omega) (decide_eq_false (by omega)).symm,if_pos (by omega)];first|done|rfl)|(have f1:=bz (⟨sb.extract 2 (2+y2.toNat),sb.extract (2+y2.toNat) sb.size,true⟩:Change);rw [cm (b:=true) hy1 hy2 (by omega) (by omega) (by omega) (decide_eq_true (by omega)).symm,if_neg (by omega)];first|done|rfl)|(have f1:=bz (⟨sb.extract 2 (2+y2.toNat),sb.extract (2+y2.toNat) sb.size,false⟩:Change);rw [cm (b:=false) hy1 hy2 (by omega) (by omega) (by omega) (decide_eq_false (by omega)).symm,if_neg (by omega)];first|done|rfl)))) (iJ (by (first|(rw [gD (by omega)];first|done|rfl)|(rw [gE hy1 (by omega)];first|done|rfl)|(rw [gF hy2 (by omega)];first|done|rfl)|(have f1:=bz (⟨sb.extract 2 (2+y2.toNat),sb.extract (2+y2.toNat) sb.size,true⟩:Change);rw [cm (b:=true) hy1 hy2 (by omega) (by omega) (by omega) (decide_eq_true (by omega)).symm,if_pos (by omega)];first|done|rfl)|(have f1:=bz (⟨sb.extract 2 (2+y2.toNat),sb.extract (2+y2.toNat) sb.size,false⟩:Change);rw [cm (b:=false) hy1 hy2 (by omega) (by omega) (by omega) (decide_eq_false (by omega)).symm,if_pos (by omega)];first|done|rfl)|(have f1:=bz (⟨sb.extract 2 (2+y2.toNat),sb.extract (2+y2.toNat) sb.size,true⟩:Change);rw [cm (b:=true) hy1 hy2 (by omega) (by omega) (by omega) (decide_eq_true (by omega)).symm,if_neg (by omega)];first|done|rfl)|(have f1:=bz (⟨sb.extract 2 (2+y2.toNat),sb.extract (2+y2.toNat) sb.size,false⟩:Change);rw [cm (b:=false) hy1 hy2 (by omega) (by omega) (by omega) (decide_eq_false (by omega)).symm,if_neg (by omega)];first|done|rfl))))
  refine R.q (q.dW O O Tryz.underlying38) O<|R.nil<|R.az O O<|R.reg O<|R.q (q.build kM O O) O<|R.q (q.iface O br) O<|R.s O (s.st 1 _ O O O O (.inl aX) O O O O) fun _=>?_
  exact R.u 1 O<|R.nil<|R.Cc O Tryz.results143 (RV.cell 1 O O aX) (RV.tmp O) (congrArg Change.val (show (⟨⟨#[]⟩,⟨#[]⟩,false⟩:Change)=(rT sb).1 from by (first|(rw [gD (by omega)];first|done|rfl)|(rw [gE hy1 (by omega)];first|done|rfl)|(rw [gF hy2 (by omega)];first|done|rfl)|(have f1:=bz (⟨sb.extract 2 (2+y2.toNat),sb.extract (2+y2.toNat) sb.size,true⟩:Change);rw [cm (b:=true) hy1 hy2 (by omega) (by omega) (by omega) (decide_eq_true (by omega)).symm,if_pos (by omega)];first|done|rfl)|(have f1:=bz (⟨sb.extract 2 (2+y2.toNat),sb.extract (2+y2.toNat) sb.size,false⟩:Change);rw [cm (b:=false) hy1 hy2 (by omega) (by omega) (by omega) (decide_eq_false (by omega)).symm,if_pos (by omega)];first|done|rfl)|(have f1:=bz (⟨sb.extract 2 (2+y2.toNat),sb.extract (2+y2.toNat) sb.size,true⟩:Change);rw [cm (b:=true) hy1 hy2 (by omega) (by omega) (by omega) (decide_eq_true (by omega)).symm,if_neg (by omega)];first|done|rfl)|(have f1:=bz (⟨sb.extract 2 (2+y2.toNat),sb.extract (2+y2.toNat) sb.size,false⟩:Change);rw [cm (b:=false) hy1 hy2 (by omega) (by omega) (by omega) (decide_eq_false (by omega)).symm,if_neg (by omega)];first|done|rfl)))) (dj (by decide) (by (first|(rw [gD (by omega)];first|done|rfl)|(rw [gE hy1 (by omega)];first|done|rfl)|(rw [gF hy2 (by omega)];first|done|rfl)|(have f1:=bz (⟨sb.extract 2 (2+y2.toNat),sb.extract (2+y2.toNat) sb.size,true⟩:Change);rw [cm (b:=true) hy1 hy2 (by omega) (by omega) (by omega) (decide_eq_true (by omega)).symm,if_pos (by omega)];first|done|rfl)|(have f1:=bz (⟨sb.extract 2 (2+y2.toNat),sb.extract (2+y2.toNat) sb.size,false⟩:Change);rw [cm (b:=false) hy1 hy2 (by omega) (by omega) (by omega) (decide_eq_false (by omega)).symm,if_pos (by omega)];first|done|rfl)|(have f1:=bz (⟨sb.extract 2 (2+y2.toNat),sb.extract (2+y2.toNat) sb.size,true⟩:Change);rw [cm (b:=true) hy1 hy2 (by omega) (by omega) (by omega) (decide_eq_true (by omega)).symm,if_neg (by omega)];first|done|rfl)|(have f1:=bz (⟨sb.extract 2 (2+y2.toNat),sb.extract (2+y2.toNat) sb.size,false⟩:Change);rw [cm (b:=false) hy1 hy2 (by omega) (by omega) (by omega) (decide_eq_false (by omega)).symm,if_neg (by omega)];first|done|rfl))))
 refine R.fP (fuel:=12) [0] O O mixed O<|D.q (i:=0) O (aD [0] [] O) O (q.mv O) O<|D.q (i:=1) O (aD [0] [] O) O (q.mv O) O<|D.q (i:=2) O (aD [0] [] O) O (q.Cn (i:=2) (j:=(2+y2.toNat)) O O O Tryz.underlying9 O O (by omega) (by omega)) O<|D.q (i:=3) O (aD [0] [] O) O (q.mv O) O<|D.q (i:=4) O (aD [0] [] O) O (q.mv O) O<|D.q (i:=5) O (aD [0] [] O) O (q.Co (i:=(2+y2.toNat)) O O Tryz.underlying9 O (by omega)) O<|D.q (i:=6) O (aD [0] [] O) O (q.mv O) O<|D.q (i:=7) O (aD [0] [] O) O (q.iK (i:=0) O O Tryz.underlying9 O hy1) O<|D.q (i:=8) O (aD [0] [] O) O (q.eX O O) O<|D.q (i:=9) O (aD [0] [] O) O (q.build kM O O) O<|D.one (i:=10) O<|Do.s (s.alloc cG O O) (fun _=>(aD [1] [] O)) O fun b3=>?_
 refine D.one (i:=11) O<|Do.s (s.st 0 _ O O O O (.inl aX) O O O O) (fun _=>(aD [1] [] O)) O fun _=>?_
 refine D.done<|R.reg O<|R.q (q.cW 0 O O aX) O<|R.c (q.call tP O O (fun w hw=>(jt (⟨(sb.extract 2 (2+y2.toNat)),(sb.extract (2+y2.toNat) sb.size),false⟩:Change) w ))) O<|?_
 by_cases h6:iH (⟨(sb.extract 2 (2+y2.toNat)),(sb.extract (2+y2.toNat) sb.size),false⟩:Change)=0
 .
  refine R.q (q.dq O O Tryz.underlying38) O<|R.nil<|R.aC O O<|R.reg O<|R.q (q.cW 0 O O aX) O<|R.s O (s.st 1 _ O O O O (.inl aX) O O O O) fun _=>?_
  exact R.u 1 O<|R.nil<|R.Cc O Tryz.results143 (RV.cell 1 O O aX) (RV.tmp O) (congrArg Change.val (show (⟨(sb.extract 2 (2+y2.toNat)),(sb.extract (2+y2.toNat) sb.size),false⟩:Change)=(rT sb).1 from by (first|(rw [gD (by omega)];first|done|rfl)|(rw [gE hy1 (by omega)];first|done|rfl)|(rw [gF hy2 (by omega)];first|done|rfl)|(have f1:=bz (⟨sb.extract 2 (2+y2.toNat),sb.extract (2+y2.toNat) sb.size,true⟩:Change);rw [cm (b:=true) hy1 hy2 (by omega) (by omega) (by omega) (decide_eq_true (by omega)).symm,if_pos (by omega)];first|done|rfl)|(have f1:=bz (⟨sb.extract 2 (2+y2.toNat),sb.extract (2+y2.toNat) sb.size,false⟩:Change);rw [cm (b:=false) hy1 hy2 (by omega) (by omega) (by omega) (decide_eq_false (by omega)).symm,if_pos (by omega)];first|done|rfl)|(have f1:=bz (⟨sb.extract 2 (2+y2.toNat),sb.extract (2+y2.toNat) sb.size,true⟩:Change);rw [cm (b:=true) hy1 hy2 (by omega) (by omega) (by omega) (decide_eq_true (by omega)).symm,if_neg (by omega)];first|done|rfl)|(have f1:=bz (⟨sb.extract 2 (2+y2.toNat),sb.extract (2+y2.toNat) sb.size,false⟩:Change);rw [cm (b:=false) hy1 hy2 (by omega) (by omega) (by omega) (decide_eq_false (by omega)).symm,if_neg (by omega)];first|done|rfl)))) (iJ (by (first|(rw [gD (by omega)];first|done|rfl)|(rw [gE hy1 (by omega)];first|done|rfl)|(rw [gF hy2 (by omega)];first|done|rfl)|(have f1:=bz (⟨sb.extract 2 (2+y2.toNat),sb.extract (2+y2.toNat) sb.size,true⟩:Change);rw [cm (b:=true) hy1 hy2 (by omega) (by omega) (by omega) (decide_eq_true (by omega)).symm,if_pos (by omega)];first|done|rfl)|(have f1:=bz (⟨sb.extract 2 (2+y2.toNat),sb.extract (2+y2.toNat) sb.size,false⟩:Change);rw [cm (b:=false) hy1 hy2 (by omega) (by omega) (by omega) (decide_eq_false (by omega)).symm,if_pos (by omega)];first|done|rfl)|(have f1:=bz (⟨sb.extract 2 (2+y2.toNat),sb.extract (2+y2.toNat) sb.size,true⟩:Change);rw [cm (b:=true) hy1 hy2 (by omega) (by omega) (by omega) (decide_eq_true (by omega)).symm,if_neg (by omega)];first|done|rfl)|(have f1:=bz (⟨sb.extract 2 (2+y2.toNat),sb.extract (2+y2.toNat) sb.size,false⟩:Change);rw [cm (b:=false) hy1 hy2 (by omega) (by omega) (by omega) (decide_eq_false (by omega)).symm,if_neg (by omega)];first|done|rfl))))
 refine R.q (q.dW O O Tryz.underlying38) O<|R.nil<|R.az O O<|R.reg O<|R.q (q.build kM O O) O<|R.q (q.iface O br) O<|R.s O (s.st 1 _ O O O O (.inl aX) O O O O) fun _=>?_
 exact R.u 1 O<|R.nil<|R.Cc O Tryz.results143 (RV.cell 1 O O aX) (RV.tmp O) (congrArg Change.val (show (⟨⟨#[]⟩,⟨#[]⟩,false⟩:Change)=(rT sb).1 from by (first|(rw [gD (by omega)];first|done|rfl)|(rw [gE hy1 (by omega)];first|done|rfl)|(rw [gF hy2 (by omega)];first|done|rfl)|(have f1:=bz (⟨sb.extract 2 (2+y2.toNat),sb.extract (2+y2.toNat) sb.size,true⟩:Change);rw [cm (b:=true) hy1 hy2 (by omega) (by omega) (by omega) (decide_eq_true (by omega)).symm,if_pos (by omega)];first|done|rfl)|(have f1:=bz (⟨sb.extract 2 (2+y2.toNat),sb.extract (2+y2.toNat) sb.size,false⟩:Change);rw [cm (b:=false) hy1 hy2 (by omega) (by omega) (by omega) (decide_eq_false (by omega)).symm,if_pos (by omega)];first|done|rfl)|(have f1:=bz (⟨sb.extract 2 (2+y2.toNat),sb.extract (2+y2.toNat) sb.size,true⟩:Change);rw [cm (b:=true) hy1 hy2 (by omega) (by omega) (by omega) (decide_eq_true (by omega)).symm,if_neg (by omega)];first|done|rfl)|(have f1:=bz (⟨sb.extract 2 (2+y2.toNat),sb.extract (2+y2.toNat) sb.size,false⟩:Change);rw [cm (b:=false) hy1 hy2 (by omega) (by omega) (by omega) (decide_eq_false (by omega)).symm,if_neg (by omega)];first|done|rfl)))) (dj (by decide) (by (first|(rw [gD (by omega)];first|done|rfl)|(rw [gE hy1 (by omega)];first|done|rfl)|(rw [gF hy2 (by omega)];first|done|rfl)|(have f1:=bz (⟨sb.extract 2 (2+y2.toNat),sb.extract (2+y2.toNat) sb.size,true⟩:Change);rw [cm (b:=true) hy1 hy2 (by omega) (by omega) (by omega) (decide_eq_true (by omega)).symm,if_pos (by omega)];first|done|rfl)|(have f1:=bz (⟨sb.extract 2 (2+y2.toNat),sb.extract (2+y2.toNat) sb.size,false⟩:Change);rw [cm (b:=false) hy1 hy2 (by omega) (by omega) (by omega) (decide_eq_false (by omega)).symm,if_pos (by omega)];first|done|rfl)|(have f1:=bz (⟨sb.extract 2 (2+y2.toNat),sb.extract (2+y2.toNat) sb.size,true⟩:Change);rw [cm (b:=true) hy1 hy2 (by omega) (by omega) (by omega) (decide_eq_true (by omega)).symm,if_neg (by omega)];first|done|rfl)|(have f1:=bz (⟨sb.extract 2 (2+y2.toNat),sb.extract (2+y2.toNat) sb.size,false⟩:Change);rw [cm (b:=false) hy1 hy2 (by omega) (by omega) (by omega) (decide_eq_false (by omega)).symm,if_neg (by omega)];first|done|rfl))))
theorem wS {α:Type}{f:α->Int}{l:List α}(h:lI f l=true):jC f l<l.length:=by
 obtain ⟨x,hx,_⟩:=CN h
 exact (List.getElem?_eq_some_iff.1 hx).1
theorem oD (wT:Value)(rows:List Change)(bP:Value)(l:List Change)(w:World)(own:List Nat)(H:HN w own [] [ag.ls wT rows,ag.ls bP l])(hl:rows.length+l.length<=100000):RC Tryz.prog 88 #[wT,bP] H (fun z:Value=>z) (fun z=>[ag.row 117 z (bZ rows l)]) (fun _=>[]):=by
 have Uh:=H.ck 0 rfl
 have yw:=H.ck 1 rfl
 refine R.bD [(0,wT),(1,bP)] Tryz.func88 O O O O H<|R.reg O<|R.u 1 O<|R.nil<|R.reg O<|R.u 1 O<|R.s O (s.aT [0] [0] _ _ _ O O O N9 O O (fun w own hw H=>o9 wT rows w own H (by first|omega|assumption|(simp;done)|(simp;omega))) O) fun z1=>?_
 refine R.u 1 O<|R.nil<|R.reg O<|R.u 1 O<|R.q (q.len' (dx 1 O) O Tryz.underlying34) O<|R.u 1 O<|R.nil<|R.loop (fun g_:Nat×Value×(List Change)=>[(0,g_.2.1),(11,bP),(12,iV (l.length:Int)),(13,iV (g_.1:Int))]) (fun g_=>[ag.row 117 g_.2.1 g_.2.2,ag.held w own]) (fun g_=>[ag.ls wT rows,ag.ls bP l]) (fun g_=>g_.1<=l.length/\g_.2.2=bZ rows (l.take g_.1)) (fun g_=>l.length-g_.1) (0,z1,rows) O (by exact ⟨by omega,rfl⟩) (sF O) (iz [0,1] [0,1] O) ?_
 rintro ⟨k,u,rs⟩ ⟨hk,HR⟩
 dsimp only at *
 have hrl:=kU (l.take k) rows;rw [<- HR,List.length_take] at hrl
 refine R.reg O<|?_
 by_cases h1:k<l.length
 .
  refine R.q (q.dD O O) O<|R.nil<|R.az O O<|R.reg O<|?_
  obtain ⟨x1,hx1⟩:∃z,l[k]? = some z:=⟨_,List.getElem?_eq_getElem (by omega)⟩
  refine R.q (q.idx (i:=k) (dx 1 O) O O bW O hx1) O<|R.q (q.gk (ds:=fD x1) (dx 1 O) hx1 O aX O) O<|R.s O (s.alloc cG O O) fun b1=>?_
  refine R.s O (s.st 0 _ O O O O (.inl aX) O O O O) fun _=>?_
  refine R.nil<|R.reg O<|R.u 1 O<|R.q (q.aP O bH O) O<|R.q (q.ld 0 O O bF O) O<|R.c (q.call wC O O (fun w hw=>(gC _ rs x1.Key (fun (x:Change) (k:ByteArray)=>fK k x) _ _ Pm w (hw.row 1 O) (fun W x k hW=>AY x k W ) (by first|omega|assumption|(simp;done)|(simp;omega))))) O<|R.u 5 O<|R.nil ?_
  refine R.reg O<|R.u 2 O<|?_
  rcases Bool.eq_false_or_eq_true (lI (fun x=>(fun (x:Change) (k:ByteArray)=>fK k x) x x1.Key) rs) with h2|h2
  .
   rw [h2]
   refine R.qg O (q.aP O gL O) O<|R.qg O (q.ld 0 O O ig O) O<|R.u 2 O<|R.nil<|R.cond O O (fun h3=>?_) (fun h3=>?_)
   .
    have hb0:jC (fun x=>(fun (x:Change) (k:ByteArray)=>fK k x) x x1.Key) rs<=rs.length:=pU;have hb1:jC (fun x=>fK x1.Key x) rs<=rs.length:=pU;have UV:jC (fun x=>fK x1.Key x) rs=jC (fun x=>(fun (x:Change) (k:ByteArray)=>fK k x) x x1.Key) rs:=rfl
    have VK:jC (fun x=>(fun (x:Change) (k:ByteArray)=>fK k x) x x1.Key) rs<rs.length:=wS ‹_›;have VL:jC (fun x=>fK x1.Key x) rs<rs.length:=wS ‹_›
    refine R.reg O<|R.u 3 O<|R.q (q.bC (r:=((jC (fun x=>(fun (x:Change) (k:ByteArray)=>fK k x) x x1.Key) rs+1:Nat):Int)) O O) O<|R.s O (s.aT [1,0,2] [] _ _ _ O O O Pn O O (fun w own hw H=>by have PQ:=tX u rs (jC (fun x=>(fun (x:Change) (k:ByteArray)=>fK k x) x x1.Key) rs) (jC (fun x=>(fun (x:Change) (k:ByteArray)=>fK k x) x x1.Key) rs+1) w own H (by omega);exact PQ) O) fun z2=>?_
    refine R.u 1 O<|R.nil<|R.reg O<|R.q (q.bC (r:=((k+1:Nat):Int)) O O) O<|R.u 1 O<|R.nil<|R.back (k+1,z2,rs.take (jC (fun x=>(fun (x:Change) (k:ByteArray)=>fK k x) x x1.Key) rs)++rs.drop (jC (fun x=>(fun (x:Change) (k:ByteArray)=>fK k x) x x1.Key) rs+1)) O (by (exact ⟨by omega,by rw [oC hx1,<- HR];unfold zu;first|(rw [if_pos (show lI (fK x1.Key) rs=true from by assumption),if_pos (by first|assumption|(simpa using ‹(!x1.Gone)=false›))];done)|(rw [if_pos (show lI (fK x1.Key) rs=true from by assumption),if_neg (by rw [show x1.Gone=false from by first|assumption|(simpa using ‹(!x1.Gone)=true›)];decide)];done)|(rw [if_neg (by rw [show lI (fK x1.Key) rs=false from by assumption];decide),if_pos (by first|assumption|(simpa using ‹(!x1.Gone)=false›))];done)|(rw [if_neg (by rw [show lI (fK x1.Key) rs=false from by assumption];decide),if_neg (by rw [show x1.Gone=false from by first|assumption|(simpa using ‹(!x1.Gone)=true›)];decide)];done)⟩)) (by dsimp only;omega) (sF O) (aD [0,2] [0,1] O)
   refine R.reg O<|R.u 2 O<|R.nil<|R.az O O ?_
   have hb0:jC (fun x=>(fun (x:Change) (k:ByteArray)=>fK k x) x x1.Key) rs<=rs.length:=pU;have hb1:jC (fun x=>fK x1.Key x) rs<=rs.length:=pU;have UV:jC (fun x=>fK x1.Key x) rs=jC (fun x=>(fun (x:Change) (k:ByteArray)=>fK k x) x x1.Key) rs:=rfl
   have VK:jC (fun x=>(fun (x:Change) (k:ByteArray)=>fK k x) x x1.Key) rs<rs.length:=wS ‹_›;have VL:jC (fun x=>fK x1.Key x) rs<rs.length:=wS ‹_›
   refine R.reg O<|R.u 2 O<|R.q (q.cW 0 O O aX) O<|?_
   obtain ⟨x2,hx2⟩:∃z,rs[jC (fun x=>(fun (x:Change) (k:ByteArray)=>fK k x) x x1.Key) rs]? = some z:=⟨_,List.getElem?_eq_getElem (by omega)⟩
   refine R.q (q.idx (i:=jC (fun x=>(fun (x:Change) (k:ByteArray)=>fK k x) x x1.Key) rs) (bE 1 O) O O bW O hx2) O<|R.s O (s.OV (z:=x1) 1 _ O hx2 O O O O (.inl aX) O) fun _=>?_
   refine R.nil<|R.reg O<|R.q (q.bC (r:=((k+1:Nat):Int)) O O) O<|R.u 1 O<|R.nil<|R.back (k+1,u,(rs.set (jC (fun x=>(fun (x:Change) (k:ByteArray)=>fK k x) x x1.Key) rs) x1)) O (by (exact ⟨by omega,by rw [oC hx1,<- HR];unfold zu;first|(rw [if_pos (show lI (fK x1.Key) rs=true from by assumption),if_pos (by first|assumption|(simpa using ‹(!x1.Gone)=false›))];done)|(rw [if_pos (show lI (fK x1.Key) rs=true from by assumption),if_neg (by rw [show x1.Gone=false from by first|assumption|(simpa using ‹(!x1.Gone)=true›)];decide)];done)|(rw [if_neg (by rw [show lI (fK x1.Key) rs=false from by assumption];decide),if_pos (by first|assumption|(simpa using ‹(!x1.Gone)=false›))];done)|(rw [if_neg (by rw [show lI (fK x1.Key) rs=false from by assumption];decide),if_neg (by rw [show x1.Gone=false from by first|assumption|(simpa using ‹(!x1.Gone)=true›)];decide)];done)⟩)) (by dsimp only;omega) (sF O) (aD [1,2] [0,1] O)
  rw [h2]
  refine R.u 4 O<|R.nil<|R.aC O O<|R.reg O<|R.u 2 O<|R.nil<|R.aC O O<|R.reg O<|R.q (q.aP O gL O) O<|R.q (q.ld 0 O O ig O) O<|R.q (q.not O) O<|R.u 1 O<|R.nil<|R.cond O O (fun h4=>?_) (fun h4=>?_)
  .
   have hb0:jC (fun x=>(fun (x:Change) (k:ByteArray)=>fK k x) x x1.Key) rs<=rs.length:=pU;have hb1:jC (fun x=>fK x1.Key x) rs<=rs.length:=pU;have UV:jC (fun x=>fK x1.Key x) rs=jC (fun x=>(fun (x:Change) (k:ByteArray)=>fK k x) x x1.Key) rs:=rfl
   refine R.reg O<|R.u 2 O<|R.q (q.cW 0 O O aX) O<|R.s O (s.bs (l:=([x1]:List Change)) bW cG O O O O O O O) fun b2=>?_
   refine R.s O (s.aT [2,0,1,3] [] _ _ _ O O O Po O O (fun w own hw H=>by have PQ:=tY u rs (jC (fun x=>(fun (x:Change) (k:ByteArray)=>fK k x) x x1.Key) rs) (.slice (some ⟨b2,0,none⟩) 1 1) ([x1]) w own H (by first|assumption|omega) O (by first|omega|assumption|(simp;done)|(simp;omega));exact PQ) O) fun z3=>?_
   refine R.u 1 O<|R.nil<|R.reg O<|R.q (q.bC (r:=((k+1:Nat):Int)) O O) O<|R.u 1 O<|R.nil<|R.back (k+1,z3,rs.take (jC (fun x=>(fun (x:Change) (k:ByteArray)=>fK k x) x x1.Key) rs)++([x1])++rs.drop (jC (fun x=>(fun (x:Change) (k:ByteArray)=>fK k x) x x1.Key) rs)) O (by (exact ⟨by omega,by rw [oC hx1,<- HR];unfold zu;first|(rw [if_pos (show lI (fK x1.Key) rs=true from by assumption),if_pos (by first|assumption|(simpa using ‹(!x1.Gone)=false›))];done)|(rw [if_pos (show lI (fK x1.Key) rs=true from by assumption),if_neg (by rw [show x1.Gone=false from by first|assumption|(simpa using ‹(!x1.Gone)=true›)];decide)];done)|(rw [if_neg (by rw [show lI (fK x1.Key) rs=false from by assumption];decide),if_pos (by first|assumption|(simpa using ‹(!x1.Gone)=false›))];done)|(rw [if_neg (by rw [show lI (fK x1.Key) rs=false from by assumption];decide),if_neg (by rw [show x1.Gone=false from by first|assumption|(simpa using ‹(!x1.Gone)=true›)];decide)];done)⟩)) (by dsimp only;omega) (sF O) (aD [0,2] [0,1] O)
  refine R.reg O<|R.q (q.bC (r:=((k+1:Nat):Int)) O O) O<|R.u 1 O<|R.nil<|R.back (k+1,u,rs) O (by (exact ⟨by omega,by rw [oC hx1,<- HR];unfold zu;first|(rw [if_pos (show lI (fK x1.Key) rs=true from by assumption),if_pos (by first|assumption|(simpa using ‹(!x1.Gone)=false›))];done)|(rw [if_pos (show lI (fK x1.Key) rs=true from by assumption),if_neg (by rw [show x1.Gone=false from by first|assumption|(simpa using ‹(!x1.Gone)=true›)];decide)];done)|(rw [if_neg (by rw [show lI (fK x1.Key) rs=false from by assumption];decide),if_pos (by first|assumption|(simpa using ‹(!x1.Gone)=false›))];done)|(rw [if_neg (by rw [show lI (fK x1.Key) rs=false from by assumption];decide),if_neg (by rw [show x1.Gone=false from by first|assumption|(simpa using ‹(!x1.Gone)=true›)];decide)];done)⟩)) (by dsimp only;omega) (sF O) (aD [1,2] [0,1] O)
 refine R.q (q.cU O O) O<|R.nil<|R.aC O O<|R.reg O<|R.u 2 O<|R.nil ?_
 have hz:bZ rows l=rs:=by (rw [HR,List.take_of_length_le (by omega)])
 rw [hz]
 exact R.w1 u [0,1] [] O Tryz.results88 (RV.tmp O) O O O O
end Go.Proofs.YtkbhcbipadkcaaaGreatDoor
