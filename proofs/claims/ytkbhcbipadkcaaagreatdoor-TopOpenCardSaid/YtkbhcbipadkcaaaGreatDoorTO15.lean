import Derived.Test.YtkbhcbipadkcaaaGreatDoorTO14
namespace Go.Proofs.YtkbhcbipadkcaaaGreatDoor
set_option linter.unusedVariables false
set_option linter.unusedSimpArgs false
open Go Go.RowKit
set_option maxRecDepth 100000
set_option maxHeartbeats 90000000
theorem pg (bN:Value)(l:List Change)(w:World)(own:List Nat)(H:HN w own [] [ag.ls bN l])(hl:l.length<=1000000):RC Tryz.prog 91 #[bN] H (fun z:Value=>z) (fun z=>[ag.row 117 z l]) (fun _=>[]):=by
 have yz:=H.cq 0 rfl
 refine R.bC [(0,bN)] Tryz.func91 O O O O H<|R.reg O<|R.u 1 O<|R.nil<|R.reg O<|R.u 1 O<|?_
 rcases Bool.eq_false_or_eq_true (px bN) with h1|h1
 .
  refine R.q (q.G4 (congrArg Value.bool h1) (q.pd (dw 0 O) O O Tryz.underlying34)) O<|R.nil<|R.av O O<|R.reg O<|R.u 1 O<|R.nil<|R.row0 (α:=Change) 117 ?_
  have hz:l=[]:=by (first|rfl|exact (List.nil_append _).symm|exact Sl.px (H.bP 0 rfl) ‹_›)
  rw [hz]
  exact R.w1 (nS) [0,1] [] O Tryz.results91 (RV.tmp O) O O O O
 refine R.q (q.G4 (congrArg Value.bool h1) (q.pd (dw 0 O) O O Tryz.underlying34)) O<|R.nil<|R.aA O O<|R.reg O<|R.s O (s.bs (l:=([]:List Change)) cd cF O O O O O O O) fun b1=>?_
 refine R.u 1 O<|R.s O (s.app 0 _ O O O (dw 0 O) jw (by simp;omega) (by simp;omega) (fun _=>rfl) O) fun v1=>?_
 refine R.u 1 O<|R.nil ?_
 have hz:l=(([])++l):=by (first|rfl|exact (List.nil_append _).symm|exact Sl.px (H.bP 0 rfl) ‹_›)
 rw [hz]
 exact R.w1 v1 [0,1] [] O Tryz.results91 (RV.tmp O) O O O O
theorem tU (bN:Value)(l:List Change)(i:Nat)(j:Nat)(w:World)(own:List Nat)(H:HN w own [ag.row 117 bN l] [])(hij:i<=j/\j<=l.length):RC Tryz.prog 148 #[bN,iV (i:Int),iV (j:Int)] H (fun z:Value=>z) (fun z=>[ag.row 117 z (l.take i++l.drop j)]) (fun _=>[]):=by
 have Hj:=H.cap 0 rfl;have yz:=H.cL 0 rfl
 refine R.bC [(0,bN),(1,iV (i:Int)),(2,iV (j:Int))] Tryz.func148 O O O O H<|R.reg O<|R.u 1 O<|R.nil<|R.reg O<|R.u 4 O<|R.q (q.len' (bB 0 O) O Tryz.underlying34) O<|R.q (q.El (i:=i) (j:=j) (q':=l.length) (bB 0 O) O O O O cd O O O (by omega) (by omega) (by omega)) O<|R.nil<|R.reg O<|R.u 2 O<|?_
 by_cases h1:i=j
 .
  refine R.q (q.fN O O) O<|R.nil<|R.av O O<|R.reg O<|R.u 2 O<|R.nil ?_
  have hz:l.take i++l.drop j=l:=by (first|rfl|exact pV (by omega))
  rw [hz]
  exact R.w1 bN [0,1] [] O Tryz.results148 (RV.tmp O) O O O O
 refine R.q (q.e8 O O) O<|R.nil<|R.aA O O<|R.reg O<|R.u 1 O<|R.q (q.len' (bB 0 O) O Tryz.underlying34) O<|R.u 1 O<|R.nil<|R.fY (fuel:=8) [1] O O mixed O<|D.q (i:=0) O (aD [1] [] O) O (q.mv O) O<|D.q (i:=1) O (aD [1] [] O) O (q.mv O) O<|D.q (i:=3) O (aD [1] [] O) O (q.mv O) O<|D.q (i:=4) O (aD [1] [] O) O (q.mv O) O<|D.two (i:=2) (j:=5) O O ?_ ?_
 .
  refine Do.s (s.c (Qt.a (q.kI (i:=i) (bB 0 O) O O Tryz.underlying34 Ax O (by first|omega|(simp;omega)))) O) (fun _=>(aD [1] [] O)) O fun _=>?_
  refine D.one (i:=5) O<|Do.s (s.c (Qt.a (q.dA (i:=j) (bB 0 O) O O cd O (by first|omega|(simp;omega)))) O) (fun _=>(aD [1] [] O)) O fun _=>?_
  refine D.one (i:=6) O<|Do.s (s.tH (a:=i) 0 _ O O O (fun w hw=>Sl.from (hw.row 0 O) (by omega)) jw (by omega) (by simp;omega) O O) (fun _=>(aD [1] [] O)) O fun _=>?_
  refine D.q (i:=7) O (aD [1] [] O) O (q.as O) O<|D.done<|R.reg O<|R.u 2 O<|R.q (q.len' (bB 0 O) O Tryz.underlying34) O<|R.u 1 O<|R.q (q.sl2 (i:=(l.take i++(l.drop j)).length) (j:=l.length) (bB 0 O) O O O cd O O (by first|omega|(simp;omega)) (by first|assumption|omega|(simp;omega)|(simp [fh];omega))) O<|R.s O (s.zd (lo:=(l.take i++(l.drop j)).length) (hi:=l.length) (z0:=(⟨⟨#[]⟩,⟨#[]⟩,false⟩:Change)) 0 O O cd cF O (by first|omega|(simp;omega)) (by first|omega|(simp;omega)) (by first|assumption|omega|(simp;omega)|(simp [fh];omega))) fun _=>?_
  refine R.nil<|R.reg O<|R.u 2 O<|R.nil ?_
  have hz:l.take i++l.drop j=(l.take i++(l.drop j)):=by (first|rfl|exact pV (by omega))
  rw [hz]
  exact R.w1 (kI bN (i+(l.drop j).length)) [0,1] [] O Tryz.results148 (RV.tmp O) O O O O
 refine Do.s (s.c (Qt.a (q.dA (i:=j) (bB 0 O) O O cd O (by first|omega|(simp;omega)))) O) (fun _=>(aD [1] [] O)) O fun _=>?_
 refine D.one (i:=2) O<|Do.s (s.c (Qt.a (q.kI (i:=i) (bB 0 O) O O Tryz.underlying34 Ax O (by first|omega|(simp;omega)))) O) (fun _=>(aD [1] [] O)) O fun _=>?_
 refine D.one (i:=6) O<|Do.s (s.tH (a:=i) 0 _ O O O (fun w hw=>Sl.from (hw.row 0 O) (by omega)) jw (by omega) (by simp;omega) O O) (fun _=>(aD [1] [] O)) O fun _=>?_
 refine D.q (i:=7) O (aD [1] [] O) O (q.as O) O<|D.done<|R.reg O<|R.u 2 O<|R.q (q.len' (bB 0 O) O Tryz.underlying34) O<|R.u 1 O<|R.q (q.sl2 (i:=(l.take i++(l.drop j)).length) (j:=l.length) (bB 0 O) O O O cd O O (by first|omega|(simp;omega)) (by first|assumption|omega|(simp;omega)|(simp [fh];omega))) O<|R.s O (s.zd (lo:=(l.take i++(l.drop j)).length) (hi:=l.length) (z0:=(⟨⟨#[]⟩,⟨#[]⟩,false⟩:Change)) 0 O O cd cF O (by first|omega|(simp;omega)) (by first|omega|(simp;omega)) (by first|assumption|omega|(simp;omega)|(simp [fh];omega))) fun _=>?_
 refine R.nil<|R.reg O<|R.u 2 O<|R.nil ?_
 have hz:l.take i++l.drop j=(l.take i++(l.drop j)):=by (first|rfl|exact pV (by omega))
 rw [hz]
 exact R.w1 (kI bN (i+(l.drop j).length)) [0,1] [] O Tryz.results148 (RV.tmp O) O O O O
set_option maxRecDepth 100000 in
theorem tV (bN:Value)(l:List Change)(i:Nat)(PG:Value)(u:List Change)(w:World)(own:List Nat)(H:HN w own [ag.row 117 bN l,ag.row 117 PG u] [])(hi:i<=l.length)(hu:u.length=1)(hl:l.length<=1000000):RC Tryz.prog 149 #[bN,iV (i:Int),PG] H (fun z:Value=>z) (fun z=>[ag.row 117 z (l.take i++u++l.drop i)]) (fun _=>[]):=by
 have Hj:=H.cap 0 rfl;have yz:=H.cL 0 rfl
 have Vq:=H.cap 1 rfl;have Vr:=H.cL 1 rfl
 refine R.bC [(0,bN),(1,iV (i:Int)),(2,PG)] Tryz.func149 O O O O H<|R.reg O<|R.u 1 O<|R.nil<|R.reg O<|R.u 2 O<|R.q (q.dA (i:=i) (bB 0 O) O O cd O (by first|omega|(simp;omega))) O<|R.nil<|R.reg O<|R.u 1 O<|R.q (q.len' (bB 1 O) O Tryz.underlying34) O<|R.u 1 O<|R.nil<|R.reg O<|R.u 1 O<|?_
 by_cases h1:u.length=0
 .
  refine R.q (q.fN O O) O<|R.nil<|R.av O O<|R.reg O<|R.u 2 O<|R.nil ?_
  have hz:l.take i++u++l.drop i=l:=by (first|(exfalso;omega)|exact qF (by omega)|exact nQ hu (by omega) rfl|exact rT hu (by omega))
  rw [hz]
  exact R.w1 bN [0,2] [] O Tryz.results149 (RV.tmp O) O O O O
 refine R.q (q.e8 O O) O<|R.nil<|R.aA O O<|R.reg O<|R.u 1 O<|R.q (q.len' (bB 0 O) O Tryz.underlying34) O<|R.u 1 O<|R.nil<|R.reg O<|R.u 2 O<|?_
 by_cases h2:i=l.length
 .
  refine R.q (q.fN O O) O<|R.nil<|R.av O O<|R.reg O<|R.u 2 O<|R.s O (s.app 0 _ O O O (bB 1 O) jw (by first|omega|(simp;done)|(simp;omega)) (by first|omega|(simp;done)|(simp;omega)) (fun _=>rfl) O) fun v1=>?_
  refine R.u 1 O<|R.nil ?_
  have hz:l.take i++u++l.drop i=(l++u):=by (first|(exfalso;omega)|exact qF (by omega)|exact nQ hu (by omega) rfl|exact rT hu (by omega))
  rw [hz]
  exact R.w1 v1 [0,2] [] O Tryz.results149 (RV.tmp O) O O O O
 refine R.q (q.e8 O O) O<|R.nil<|R.aA O O<|R.reg O<|R.u 2 O<|R.q (q.bA (r:=((l.length+u.length:Nat):Int)) O O) O<|R.u 1 O<|R.q (q.cap (bB 0 O) O Tryz.underlying34) O<|?_
 by_cases h3:(ly bN)<(l.length+u.length)
 .
  refine R.q (q.eL O O) O<|R.nil<|R.av O O<|R.reg O<|R.u 2 O<|R.q (q.kI (i:=i) (bB 0 O) O O Tryz.underlying34 Ax O (by first|omega|(simp;omega))) O<|R.u 2 O<|R.q (q.bA (r:=((l.length+u.length:Nat):Int)) O O) O<|R.u 1 O<|R.q (q.lT (r:=(((l.length+u.length)-i:Nat):Int)) O O) O<|R.s O (s.FQ (o:=i) (m:=((l.length+u.length)-i)) (z0:=(⟨⟨#[]⟩,⟨#[]⟩,false⟩:Change)) 0 O O O O jw Tryz.underlying3 cF O (by omega) (by omega) (by omega) (by omega) (by omega) O) fun v2=>?_
  refine R.u 1 O<|R.nil<|R.reg O<|R.u 2 O<|R.q (q.dA (i:=i) (bB 0 O) O O cd O (by first|omega|(simp;omega))) O<|R.u 1 O<|R.s O (s.uB (o:=i) 0 _ O (bB 2 O) O O cd (by first|omega|(simp;done)|(simp;omega)) O O) fun _=>?_
  refine R.nil<|R.fY (fuel:=9) [1,2,3] O O mixed O<|D.q (i:=0) O (aD [1,2,3] [] O) O (q.mv O) O<|D.q (i:=1) O (aD [1,2,3] [] O) O (q.mv O) O<|D.q (i:=2) O (aD [1,2,3] [] O) O (q.mv O) O<|D.q (i:=3) O (aD [1,2,3] [] O) O (q.bA (r:=((i+u.length:Nat):Int)) O O) O<|D.q (i:=5) O (aD [1,2,3] [] O) O (q.mv O) O<|D.q (i:=6) O (aD [1,2,3] [] O) O (q.mv O) O<|D.q (i:=7) O (aD [1,2,3] [] O) O (q.dA (i:=i) (bB 0 O) O O cd O (by first|omega|(simp;omega))) O<|D.one (i:=4) O<|Do.s (s.c (Qt.a (q.dA (i:=(i+u.length)) (bB 0 O) O O cd O (by first|omega|(simp;omega)))) O) (fun _=>(aD [1,2,3] [] O)) O fun _=>?_
  refine D.one (i:=8) O<|Do.s (s.uB (o:=(i+u.length)) 0 _ O (fun w hw=>Sl.from (hw.row 1 O) (by omega)) O O cd (by first|omega|(simp;done)|(simp;omega)) O O) (fun _=>(aD [1,2,3] [] O)) O fun _=>?_
  refine D.done<|R.reg O<|R.u 2 O<|R.nil ?_
  have hz:l.take i++u++l.drop i=(((l.take i++List.replicate ((l.length+u.length)-i) (⟨⟨#[]⟩,⟨#[]⟩,false⟩:Change)).take i++u++(l.take i++List.replicate ((l.length+u.length)-i) (⟨⟨#[]⟩,⟨#[]⟩,false⟩:Change)).drop (i+u.length)).take (i+u.length)++(l.drop i)++((l.take i++List.replicate ((l.length+u.length)-i) (⟨⟨#[]⟩,⟨#[]⟩,false⟩:Change)).take i++u++(l.take i++List.replicate ((l.length+u.length)-i) (⟨⟨#[]⟩,⟨#[]⟩,false⟩:Change)).drop (i+u.length)).drop ((i+u.length)+(l.drop i).length)):=by (first|(exfalso;omega)|exact qF (by omega)|exact nQ hu (by omega) rfl|exact rT hu (by omega))
  rw [hz]
  exact R.w1 v2 [0,3] [] O Tryz.results149 (RV.tmp O) O O O O
 refine R.q (q.eo O O) O<|R.nil<|R.aA O O<|R.reg O<|R.u 3 O<|R.q (q.bA (r:=((l.length+u.length:Nat):Int)) O O) O<|R.q (q.Rr (i:=(l.length+u.length)) (bB 0 O) O O cd O (by first|omega|assumption)) O<|R.u 1 O<|R.nil<|R.reg O<|R.u 4 O<|R.q (q.bA (r:=((i+u.length:Nat):Int)) O O) O<|R.q (q.nr (i:=(i+u.length)) (bB 0 O) O O cd O (by omega) (by first|assumption|omega|(simp [fh];omega))) O<|R.q (q.UC (i:=1) (j:=0) (tR:=4) Tryz.func185 O O (by kernel_rfl) (by kernel_rfl) cd O O (by decide) (by omega) (by omega) O O O O) O<|R.u 1 O<|R.nil<|R.av O O<|R.fY (fuel:=9) [1,2] O O mixed O<|D.q (i:=0) O (aD [1,2] [] O) O (q.mv O) O<|D.q (i:=1) O (aD [1,2] [] O) O (q.mv O) O<|D.q (i:=2) O (aD [1,2] [] O) O (q.mv O) O<|D.q (i:=3) O (aD [1,2] [] O) O (q.bA (r:=((i+u.length:Nat):Int)) O O) O<|D.q (i:=5) O (aD [1,2] [] O) O (q.mv O) O<|D.q (i:=6) O (aD [1,2] [] O) O (q.mv O) O<|D.two (i:=4) (j:=7) O O ?_ ?_
 .
  refine Do.s (s.c (Qt.a (q.nr (i:=(i+u.length)) (bB 0 O) O O cd O (by omega) (by first|assumption|omega|(simp [fh];omega)))) O) (fun _=>(aD [1,2] [] O)) O fun _=>?_
  refine D.one (i:=7) O<|Do.s (s.c (Qt.a (q.nr (i:=i) (bB 0 O) O O cd O (by omega) (by first|assumption|omega|(simp [fh];omega)))) O) (fun _=>(aD [1,2] [] O)) O fun _=>?_
  refine D.one (i:=8) O<|Do.s (s.Ap (o:=i) 0 _ O (by omega) (by omega) (by omega) (by first|assumption|omega) O O cd O O) (fun _=>(aD [1,2] [] O)) O fun _=>?_
  refine D.done<|R.reg O<|R.u 2 O<|R.q (q.dA (i:=i) (bB 0 O) O O cd O (by first|omega|(simp;omega))) O<|R.u 1 O<|R.s O (s.uB (o:=i) 0 _ O (bB 1 O) O O cd (by first|omega|(simp;done)|(simp;omega)) O O) fun _=>?_
  refine R.nil<|R.reg O<|R.u 2 O<|R.nil ?_
  have hz:l.take i++u++l.drop i=((l.take (i+1)++l.drop i).take i++u++(l.take (i+1)++l.drop i).drop (i+u.length)):=by (first|(exfalso;omega)|exact qF (by omega)|exact nQ hu (by omega) rfl|exact rT hu (by omega))
  rw [hz]
  exact R.w1 (kI bN (l.length+u.length)) [0,2] [] O Tryz.results149 (RV.tmp O) O O O O
 refine Do.s (s.c (Qt.a (q.nr (i:=i) (bB 0 O) O O cd O (by omega) (by first|assumption|omega|(simp [fh];omega)))) O) (fun _=>(aD [1,2] [] O)) O fun _=>?_
 refine D.one (i:=4) O<|Do.s (s.c (Qt.a (q.nr (i:=(i+u.length)) (bB 0 O) O O cd O (by omega) (by first|assumption|omega|(simp [fh];omega)))) O) (fun _=>(aD [1,2] [] O)) O fun _=>?_
 refine D.one (i:=8) O<|Do.s (s.Ap (o:=i) 0 _ O (by omega) (by omega) (by omega) (by first|assumption|omega) O O cd O O) (fun _=>(aD [1,2] [] O)) O fun _=>?_
 refine D.done<|R.reg O<|R.u 2 O<|R.q (q.dA (i:=i) (bB 0 O) O O cd O (by first|omega|(simp;omega))) O<|R.u 1 O<|R.s O (s.uB (o:=i) 0 _ O (bB 1 O) O O cd (by first|omega|(simp;done)|(simp;omega)) O O) fun _=>?_
 refine R.nil<|R.reg O<|R.u 2 O<|R.nil ?_
 have hz:l.take i++u++l.drop i=((l.take (i+1)++l.drop i).take i++u++(l.take (i+1)++l.drop i).drop (i+u.length)):=by (first|(exfalso;omega)|exact qF (by omega)|exact nQ hu (by omega) rfl|exact rT hu (by omega))
 rw [hz]
 exact R.w1 (kI bN (l.length+u.length)) [0,2] [] O Tryz.results149 (RV.tmp O) O O O O
theorem pY (a b:ByteArray)(w:World):Calls Tryz.prog 147 #[.string a,.string b] w fun e w'=>e = .returned (.int .i64 (AR a b))/\Ext w w' :=
 (Tryz.strings_Compare a b w).mono fun e w' ⟨h1,h2⟩=>⟨by rw [h1,<- m4,<- m4,F7],by rw [h2];exact Ext.refl _⟩
theorem AV (x:Change)(k:ByteArray)(w:World):Calls Tryz.prog 146 #[.agg #[.string x.Key,.string x.Val,.bool x.Gone],.string k] w fun e w'=>e = .returned (iV (fK k x))/\Ext w w':=by
 refine R.enter [] [(0,.agg #[.string x.Key,.string x.Val,.bool x.Gone]),(1,.string k)] Tryz.func146 O O O O<|R.reg O<|R.s O (s.box O O O) fun b1=>?_
 refine R.u 1 O<|R.nil<|R.reg O<|R.q (q.aO O bG O) O<|R.q (q.ld 0 O O bE O) O<|R.u 1 O<|R.c (q.call Jn O O (fun w hw=>(pY x.Key k w ))) O<|R.u 1 O<|R.nil ?_
 exact R.rv O Tryz.results146 O (rI (by rfl))
theorem gF (bN:Value)(l:List Change)(t:ByteArray)(c:Change->ByteArray->Int)(Hm:Nat)(Mf:List Value)(EI:∀args w,(callFunc Hm args).run Tryz.prog w = .ok (.enter Hm args) w)(w:World)(ew:Sl w bN l)(PH:∀W (x1:Change) (x2:ByteArray),Ext w W->Calls Tryz.prog Hm ([x1.val,.string x2]++Mf).toArray W fun e w'=>e = .returned (iV (c x1 x2))/\Ext W w')(hl:l.length<=1000000):Calls Tryz.prog 145 #[bN,.string t,.func (.func Hm) #[] Mf.toArray] w fun e w'=>e = .returned (.tuple #[iV (jF (fun x=>c x t) l:Int),.bool (lG (fun x=>c x t) l)])/\Ext w w':=by
 have zq:=ew.fA
 refine R.enter [] [(0,bN),(1,.string t),(2,.func (.func Hm) #[] Mf.toArray)] Tryz.func145 O O O O<|R.reg O<|R.u 2 O<|R.nil<|R.reg O<|R.u 1 O<|R.q (q.len' (fun _=>Wd.old ew) O Tryz.underlying34) O<|R.u 1 O<|R.nil<|R.reg O<|R.u 3 O<|R.nil<|R.loop (fun g_:Nat×Nat=>[(0,bN),(1,.string t),(2,.func (.func Hm) #[] Mf.toArray),(8,iV (l.length:Int)),(9,iV (g_.1:Int)),(10,iV (g_.2:Int))]) (fun g_=>[]) (fun g_=>[]) (fun g_=>g_.1<=g_.2/\g_.2<=l.length/\bsGo (fun x=>c x t) l g_.1 g_.2=jF (fun x=>c x t) l) (fun g_=>g_.2-g_.1) (0,l.length) O (by exact ⟨Nat.zero_le _,Nat.le_refl _,rfl⟩) (sF O) (ic [] [] O) ?_
 rintro ⟨lo,hi⟩ ⟨PK,Vs,HA⟩
 dsimp only at *
 refine R.reg O<|R.u 2 O<|?_
 by_cases h1:lo<hi
 .
  refine R.q (q.dx O O) O<|R.nil<|R.av O O<|R.reg O<|R.u 2 O<|R.q (q.bA (r:=((lo+hi:Nat):Int)) O O) O<|R.q (q.np (r:=(((lo+hi):Nat):Int)) O (by rw [Tryz.underlying3];rfl) Tryz.underlying188 (Aq (by omega))) O<|R.q (q.shr (r:=((((lo+hi) / 2):Nat):Int)) O O (by decide) (L6 (by decide))) O<|R.q (q.np (r:=((((lo+hi) / 2):Nat):Int)) O (by rw [Tryz.underlying188];rfl) Tryz.underlying3 (wr (by omega))) O<|R.u 1 O<|R.nil<|R.reg O<|R.u 3 O<|?_
  obtain ⟨x1,hx1⟩:∃z,l[((lo+hi) / 2)]? = some z:=⟨_,List.getElem?_eq_getElem (by omega)⟩
  refine R.q (q.idx (i:=((lo+hi) / 2)) (fun _=>Wd.old ew) O O cd O hx1) O<|R.q (q.eS (ds:=iz x1) (fun _=>Wd.old ew) hx1 O aX O) O<|R.u 1 O<|R.c (q.call EI O O (fun w hw=>PH w x1 t hw.ext)) O<|?_
  by_cases h2:(c x1 t)<0
  .
   refine R.q (q.dx O O) O<|R.nil<|R.av O O<|R.reg O<|R.u 1 O<|R.q (q.bA (r:=((((lo+hi) / 2)+1:Nat):Int)) O O) O<|R.u 1 O<|R.nil<|R.back ((((lo+hi) / 2)+1),hi) O (by (exact ⟨by omega,by omega,(AK (by omega) hx1 (by omega)).symm.trans HA⟩)) (by dsimp only;omega) (sF O) (ic [] [] O)
  refine R.q (q.cU O O) O<|R.nil<|R.aA O O<|R.reg O<|R.u 2 O<|R.nil<|R.back (lo,((lo+hi) / 2)) O (by (exact ⟨by omega,by omega,(AL (by omega) hx1 (by omega)).symm.trans HA⟩)) (by dsimp only;omega) (sF O) (ic [] [] O)
 refine R.q (q.cU O O) O<|R.nil<|R.aA O O<|R.reg O<|R.u 3 O<|?_
 by_cases h3:lo<l.length
 .
  refine R.q (q.dx O O) O<|R.u 4 O<|?_
  obtain ⟨x2,hx2⟩:∃z,l[lo]? = some z:=⟨_,List.getElem?_eq_getElem (by omega)⟩
  refine R.qg O (q.idx (i:=lo) (fun _=>Wd.old ew) O O cd O hx2) O<|R.qg O (q.eS (ds:=iz x2) (fun _=>Wd.old ew) hx2 O aX O) O<|R.u 1 O<|R.cg O (q.call EI O O (fun w hw=>PH w x2 t hw.ext)) O<|?_
  by_cases h4:(c x2 t)=0
  .
   exact R.qg O (q.fN O O) O<|R.u 3 O<|R.nil<|R.FM O Tryz.results145 O O (rI (by (exact congrArg (fun n:Nat=>(n:Int)) ((gZ (by omega)).symm.trans HA)))) (rB (by (have e:=(gZ (by omega)).symm.trans HA;unfold lG;rw [<- e];(rw [hx2];exact (decide_eq_true ‹_›).symm))))
  exact R.qg O (q.e8 O O) O<|R.u 3 O<|R.nil<|R.FM O Tryz.results145 O O (rI (by (exact congrArg (fun n:Nat=>(n:Int)) ((gZ (by omega)).symm.trans HA)))) (rB (by (have e:=(gZ (by omega)).symm.trans HA;unfold lG;rw [<- e];(rw [hx2];exact (decide_eq_false ‹_›).symm))))
 exact R.q (q.cU O O) O<|R.u 12 O<|R.nil<|R.FM O Tryz.results145 O O (rI (by (exact congrArg (fun n:Nat=>(n:Int)) ((gZ (by omega)).symm.trans HA)))) (rB (by (have e:=(gZ (by omega)).symm.trans HA;unfold lG;rw [<- e];(rw [List.getElem?_eq_none (by omega)]))))
theorem jx (c:Change)(w:World):Calls Tryz.prog 133 #[.agg #[.string c.Key,.string c.Val,.bool c.Gone]] w fun e w'=>e = .returned (df (iI c))/\Ext w w':=by
 refine R.enter [] [(0,.agg #[.string c.Key,.string c.Val,.bool c.Gone])] Tryz.func133 O O O O<|R.reg O<|R.s O (s.box O O O) fun b1=>?_
 refine R.u 1 O<|R.nil<|R.reg O<|R.q (q.aO O bG O) O<|R.q (q.ld 0 O O bE O) O<|?_
 by_cases h1:c.Key=⟨#[]⟩
 .
  exact R.q (q.pI O O h1) O<|R.u 9 O<|R.nil<|R.av O O<|R.reg O<|R.q (q.iface O bj) O<|R.u 1 O<|R.nil<|R.rv O Tryz.results133 O (dj (by decide) (by (unfold iI;first|(rw [if_pos (by first|exact .inl ‹_› | exact .inr ⟨by assumption,by assumption⟩)])|(rw [if_neg (by rintro (hh|⟨hh,hk⟩) <;> first|contradiction|(simp_all;done)),if_pos (by omega)])|(rw [if_neg (by rintro (hh|⟨hh,hk⟩) <;> first|contradiction|(simp_all;done)),if_neg (by omega)]))))
 refine R.q (q.pJ O O h1) O<|R.u 1 O<|R.qg O (q.aO O gN O) O<|R.qg O (q.ld 0 O O iW O) O<|R.u 1 O<|?_
 rcases Bool.eq_false_or_eq_true c.Gone with h2|h2
 .
  rw [h2]
  refine R.qg O (q.aO O cX O) O<|R.qg O (q.ld 0 O O bE O) O<|?_
  by_cases h3:c.Val=⟨#[]⟩
  .
   refine R.qg O (q.uA O O h3) O<|R.u 2 O<|R.nil<|R.aA O O<|R.reg O<|R.q (q.aO O bG O) O<|R.q (q.ld 0 O O bE O) O<|R.q (q.iA O Tryz.underlying9) O<|?_
   by_cases h4:8<c.Key.size
   .
    exact R.q (q.eL O O) O<|R.u 6 O<|R.nil<|R.av O O<|R.reg O<|R.q (q.iface O bj) O<|R.u 1 O<|R.nil<|R.rv O Tryz.results133 O (dj (by decide) (by (unfold iI;first|(rw [if_pos (by first|exact .inl ‹_› | exact .inr ⟨by assumption,by assumption⟩)])|(rw [if_neg (by rintro (hh|⟨hh,hk⟩) <;> first|contradiction|(simp_all;done)),if_pos (by omega)])|(rw [if_neg (by rintro (hh|⟨hh,hk⟩) <;> first|contradiction|(simp_all;done)),if_neg (by omega)]))))
   refine R.q (q.eo O O) O<|R.u 1 O<|R.qg O (q.aO O cX O) O<|R.qg O (q.ld 0 O O bE O) O<|R.qg O (q.iA O Tryz.underlying9) O<|?_
   by_cases h5:24<c.Val.size
   .
    exact R.qg O (q.eL O O) O<|R.u 1 O<|R.nil<|R.av O O<|R.reg O<|R.q (q.iface O bj) O<|R.u 1 O<|R.nil<|R.rv O Tryz.results133 O (dj (by decide) (by (unfold iI;first|(rw [if_pos (by first|exact .inl ‹_› | exact .inr ⟨by assumption,by assumption⟩)])|(rw [if_neg (by rintro (hh|⟨hh,hk⟩) <;> first|contradiction|(simp_all;done)),if_pos (by omega)])|(rw [if_neg (by rintro (hh|⟨hh,hk⟩) <;> first|contradiction|(simp_all;done)),if_neg (by omega)]))))
   exact R.qg O (q.eo O O) O<|R.u 1 O<|R.nil<|R.aA O O<|R.reg O<|R.u 1 O<|R.nil<|R.rv O Tryz.results133 O (iK (by (unfold iI;first|(rw [if_pos (by first|exact .inl ‹_› | exact .inr ⟨by assumption,by assumption⟩)])|(rw [if_neg (by rintro (hh|⟨hh,hk⟩) <;> first|contradiction|(simp_all;done)),if_pos (by omega)])|(rw [if_neg (by rintro (hh|⟨hh,hk⟩) <;> first|contradiction|(simp_all;done)),if_neg (by omega)]))))
  exact R.qg O (q.y9 O O h3) O<|R.u 2 O<|R.nil<|R.av O O<|R.reg O<|R.q (q.iface O bj) O<|R.u 1 O<|R.nil<|R.rv O Tryz.results133 O (dj (by decide) (by (unfold iI;first|(rw [if_pos (by first|exact .inl ‹_› | exact .inr ⟨by assumption,by assumption⟩)])|(rw [if_neg (by rintro (hh|⟨hh,hk⟩) <;> first|contradiction|(simp_all;done)),if_pos (by omega)])|(rw [if_neg (by rintro (hh|⟨hh,hk⟩) <;> first|contradiction|(simp_all;done)),if_neg (by omega)]))))
 rw [h2]
 refine R.u 5 O<|R.nil<|R.aA O O<|R.reg O<|R.q (q.aO O bG O) O<|R.q (q.ld 0 O O bE O) O<|R.q (q.iA O Tryz.underlying9) O<|?_
 by_cases h6:8<c.Key.size
 .
  exact R.q (q.eL O O) O<|R.u 6 O<|R.nil<|R.av O O<|R.reg O<|R.q (q.iface O bj) O<|R.u 1 O<|R.nil<|R.rv O Tryz.results133 O (dj (by decide) (by (unfold iI;first|(rw [if_pos (by first|exact .inl ‹_› | exact .inr ⟨by assumption,by assumption⟩)])|(rw [if_neg (by rintro (hh|⟨hh,hk⟩) <;> first|contradiction|(simp_all;done)),if_pos (by omega)])|(rw [if_neg (by rintro (hh|⟨hh,hk⟩) <;> first|contradiction|(simp_all;done)),if_neg (by omega)]))))
 refine R.q (q.eo O O) O<|R.u 1 O<|R.qg O (q.aO O cX O) O<|R.qg O (q.ld 0 O O bE O) O<|R.qg O (q.iA O Tryz.underlying9) O<|?_
 by_cases h7:24<c.Val.size
 .
  exact R.qg O (q.eL O O) O<|R.u 1 O<|R.nil<|R.av O O<|R.reg O<|R.q (q.iface O bj) O<|R.u 1 O<|R.nil<|R.rv O Tryz.results133 O (dj (by decide) (by (unfold iI;first|(rw [if_pos (by first|exact .inl ‹_› | exact .inr ⟨by assumption,by assumption⟩)])|(rw [if_neg (by rintro (hh|⟨hh,hk⟩) <;> first|contradiction|(simp_all;done)),if_pos (by omega)])|(rw [if_neg (by rintro (hh|⟨hh,hk⟩) <;> first|contradiction|(simp_all;done)),if_neg (by omega)]))))
 exact R.qg O (q.eo O O) O<|R.u 1 O<|R.nil<|R.aA O O<|R.reg O<|R.u 1 O<|R.nil<|R.rv O Tryz.results133 O (iK (by (unfold iI;first|(rw [if_pos (by first|exact .inl ‹_› | exact .inr ⟨by assumption,by assumption⟩)])|(rw [if_neg (by rintro (hh|⟨hh,hk⟩) <;> first|contradiction|(simp_all;done)),if_pos (by omega)])|(rw [if_neg (by rintro (hh|⟨hh,hk⟩) <;> first|contradiction|(simp_all;done)),if_neg (by omega)]))))
theorem AW (c:Change)(w:World):Calls Tryz.prog 201 #[.agg #[.string c.Key,.string c.Val,.bool c.Gone]] w fun e w'=>e = .returned (.tuple #[.string (ke c).1,df (ke c).2])/\Ext w w':=by
 have f0:=br c
 refine R.enter [] [(0,.agg #[.string c.Key,.string c.Val,.bool c.Gone])] Tryz.func201 O O O O<|R.reg O<|R.s O (s.box O O O) fun b1=>?_
 refine R.u 2 O<|R.nil<|R.reg O<|R.q (q.dt 0 O O aX) O<|R.c (q.call tL O O (fun w hw=>(jx c w ))) O<|R.u 1 O<|R.nil ?_
 refine R.reg O<|R.u 1 O<|?_
 by_cases h1:iI c=0
 .
  obtain ⟨z1,z2,z3,z4⟩:=g9 h1
  refine R.q (q.dB O O Tryz.underlying38) O<|R.nil<|R.aA O O<|R.reg O<|R.u 1 O<|R.nil<|R.reg O<|R.q (q.aO O gN O) O<|R.q (q.ld 0 O O iW O) O<|R.nil<|R.cond O O (fun h2=>?_) (fun h2=>?_)
  .
   refine R.reg O<|R.u 1 O<|R.nil<|R.reg O<|R.u 1 O<|R.q (q.aO O bG O) O<|R.q (q.ld 0 O O bE O) O<|R.q (q.iA O Tryz.underlying9) O<|R.q (q.np (r:=((c.Key.size:Nat):Int)) O (by rw [Tryz.underlying3];rfl) Tryz.underlying5 (wh (by omega))) O<|R.s O (s.bs (l:=([(1:UInt8),(UInt8.ofNat c.Key.size)]:List UInt8)) aR ey O O O O O (cp O (cp (dH (by omega)) fS)) O) fun b2=>?_
   exact R.q (q.ki (bB 0 O) O aR Tryz.underlying5 Tryz.underlying9) O<|R.q (q.aO O bG O) O<|R.q (q.ld 1 O O bE O) O<|R.q (q.cat O O (by first|omega|(simp only [ByteArray.size_append,aI,List.length_cons,List.length_nil];omega))) O<|R.q (q.aO O cX O) O<|R.q (q.ld 1 O O bE O) O<|R.q (q.cat O O (by first|omega|(simp only [ByteArray.size_append,aI,List.length_cons,List.length_nil];omega))) O<|R.u 2 O<|R.nil<|R.FM O Tryz.results201 O O (rS (by (unfold ke;first|(rw [if_neg (by omega)];done)|(rw [if_neg (by omega)];omega)|(rw [if_pos (by omega)];done)|(rw [if_pos (by omega),show c.Gone=true from by assumption];rfl)|(rw [if_pos (by omega),show c.Gone=false from by assumption];rfl)))) (iK (by (unfold ke;first|(rw [if_neg (by omega)];done)|(rw [if_neg (by omega)];omega)|(rw [if_pos (by omega)];done)|(rw [if_pos (by omega),show c.Gone=true from by assumption];rfl)|(rw [if_pos (by omega),show c.Gone=false from by assumption];rfl))))
  refine R.reg O<|R.u 1 O<|R.q (q.aO O bG O) O<|R.q (q.ld 0 O O bE O) O<|R.q (q.iA O Tryz.underlying9) O<|R.q (q.np (r:=((c.Key.size:Nat):Int)) O (by rw [Tryz.underlying3];rfl) Tryz.underlying5 (wh (by omega))) O<|R.s O (s.bs (l:=([(0:UInt8),(UInt8.ofNat c.Key.size)]:List UInt8)) aR ey O O O O O (cp O (cp (dH (by omega)) fS)) O) fun b3=>?_
  exact R.q (q.ki (bB 0 O) O aR Tryz.underlying5 Tryz.underlying9) O<|R.q (q.aO O bG O) O<|R.q (q.ld 1 O O bE O) O<|R.q (q.cat O O (by first|omega|(simp only [ByteArray.size_append,aI,List.length_cons,List.length_nil];omega))) O<|R.q (q.aO O cX O) O<|R.q (q.ld 1 O O bE O) O<|R.q (q.cat O O (by first|omega|(simp only [ByteArray.size_append,aI,List.length_cons,List.length_nil];omega))) O<|R.u 2 O<|R.nil<|R.FM O Tryz.results201 O O (rS (by (unfold ke;first|(rw [if_neg (by omega)];done)|(rw [if_neg (by omega)];omega)|(rw [if_pos (by omega)];done)|(rw [if_pos (by omega),show c.Gone=true from by assumption];rfl)|(rw [if_pos (by omega),show c.Gone=false from by assumption];rfl)))) (iK (by (unfold ke;first|(rw [if_neg (by omega)];done)|(rw [if_neg (by omega)];omega)|(rw [if_pos (by omega)];done)|(rw [if_pos (by omega),show c.Gone=true from by assumption];rfl)|(rw [if_pos (by omega),show c.Gone=false from by assumption];rfl))))
 exact R.q (q.ej O O Tryz.underlying38) O<|R.nil<|R.av O O<|R.reg O<|R.u 3 O<|R.nil<|R.FM O Tryz.results201 O O (rS (by (unfold ke;first|(rw [if_neg (by omega)];done)|(rw [if_neg (by omega)];omega)|(rw [if_pos (by omega)];done)|(rw [if_pos (by omega),show c.Gone=true from by assumption];rfl)|(rw [if_pos (by omega),show c.Gone=false from by assumption];rfl)))) (rE (by (unfold ke;first|(rw [if_neg (by omega)];done)|(rw [if_neg (by omega)];omega)|(rw [if_pos (by omega)];done)|(rw [if_pos (by omega),show c.Gone=true from by assumption];rfl)|(rw [if_pos (by omega),show c.Gone=false from by assumption];rfl))))
theorem gG {s:ByteArray}(h:s.size<2):rU s=(c0,4):=by unfold rU;rw [if_pos (.inl h)]
theorem gH {s:ByteArray}{y:UInt8}(hy:s.data[0]? = some y)(h:1<y.toNat):rU s=(c0,4):=by unfold rU;rw [if_pos (.inr (.inl (by rw [aK hy];exact h)))]
theorem gI {s:ByteArray}{y:UInt8}(hy:s.data[1]? = some y)(h:s.size<2+y.toNat):rU s=(c0,4):=by unfold rU;rw [if_pos (.inr (.inr (by rw [aK hy];exact h)))]
theorem cj {s:ByteArray}{y z:UInt8}{b:Bool}(hy:s.data[0]? = some y)(hz:s.data[1]? = some z)(h1:¬ s.size<2)(h2:¬ 1<y.toNat)(h3:¬ s.size<2+z.toNat)(hb:b=decide (y.toNat=1)) :
 rU s=if iI ⟨s.extract 2 (2+z.toNat),s.extract (2+z.toNat) s.size,b⟩=0 then (⟨s.extract 2 (2+z.toNat),s.extract (2+z.toNat) s.size,b⟩,0) else (c0,4):=by
 have e1:=aK hy;have e2:=aK hz
 unfold rU;rw [if_neg (by rw [e1,e2];omega)];unfold JL;rw [e1,e2,hb]
theorem AX (sb:ByteArray)(w:World)(hs:sb.size<=1000000):Calls Tryz.prog 143 #[.string sb] w fun e w'=>e = .returned (.tuple #[Change.val (rU sb).1,df (rU sb).2])/\Ext w w':=by
 refine R.enter [] [(0,.string sb)] Tryz.func143 O O O O<|R.reg O<|R.s O (s.alloc cF O O) fun b1=>?_
 refine R.u 1 O<|R.nil<|R.reg O<|R.u 1 O<|R.q (q.iA O Tryz.underlying9) O<|?_
 by_cases h1:sb.size<2
 .
  refine R.q (q.dx O O) O<|R.u 14 O<|R.nil<|R.av O O<|R.reg O<|R.q (q.build kM O O) O<|R.q (q.iface O bj) O<|R.s O (s.st 0 _ O O O O (.inl aX) O O O O) fun _=>?_
  exact R.u 1 O<|R.nil<|R.Ca O Tryz.results143 (RV.cell 0 O O aX) (RV.tmp O) (congrArg Change.val (show (⟨⟨#[]⟩,⟨#[]⟩,false⟩:Change)=(rU sb).1 from by (first|(rw [gG (by omega)];first|done|rfl)|(rw [gH hy1 (by omega)];first|done|rfl)|(rw [gI hy2 (by omega)];first|done|rfl)|(have f1:=br (⟨sb.extract 2 (2+y2.toNat),sb.extract (2+y2.toNat) sb.size,true⟩:Change);rw [cj (b:=true) hy1 hy2 (by omega) (by omega) (by omega) (decide_eq_true (by omega)).symm,if_pos (by omega)];first|done|rfl)|(have f1:=br (⟨sb.extract 2 (2+y2.toNat),sb.extract (2+y2.toNat) sb.size,false⟩:Change);rw [cj (b:=false) hy1 hy2 (by omega) (by omega) (by omega) (decide_eq_false (by omega)).symm,if_pos (by omega)];first|done|rfl)|(have f1:=br (⟨sb.extract 2 (2+y2.toNat),sb.extract (2+y2.toNat) sb.size,true⟩:Change);rw [cj (b:=true) hy1 hy2 (by omega) (by omega) (by omega) (decide_eq_true (by omega)).symm,if_neg (by omega)];first|done|rfl)|(have f1:=br (⟨sb.extract 2 (2+y2.toNat),sb.extract (2+y2.toNat) sb.size,false⟩:Change);rw [cj (b:=false) hy1 hy2 (by omega) (by omega) (by omega) (decide_eq_false (by omega)).symm,if_neg (by omega)];first|done|rfl)))) (dj (by decide) (by (first|(rw [gG (by omega)];first|done|rfl)|(rw [gH hy1 (by omega)];first|done|rfl)|(rw [gI hy2 (by omega)];first|done|rfl)|(have f1:=br (⟨sb.extract 2 (2+y2.toNat),sb.extract (2+y2.toNat) sb.size,true⟩:Change);rw [cj (b:=true) hy1 hy2 (by omega) (by omega) (by omega) (decide_eq_true (by omega)).symm,if_pos (by omega)];first|done|rfl)|(have f1:=br (⟨sb.extract 2 (2+y2.toNat),sb.extract (2+y2.toNat) sb.size,false⟩:Change);rw [cj (b:=false) hy1 hy2 (by omega) (by omega) (by omega) (decide_eq_false (by omega)).symm,if_pos (by omega)];first|done|rfl)|(have f1:=br (⟨sb.extract 2 (2+y2.toNat),sb.extract (2+y2.toNat) sb.size,true⟩:Change);rw [cj (b:=true) hy1 hy2 (by omega) (by omega) (by omega) (decide_eq_true (by omega)).symm,if_neg (by omega)];first|done|rfl)|(have f1:=br (⟨sb.extract 2 (2+y2.toNat),sb.extract (2+y2.toNat) sb.size,false⟩:Change);rw [cj (b:=false) hy1 hy2 (by omega) (by omega) (by omega) (decide_eq_false (by omega)).symm,if_neg (by omega)];first|done|rfl))))
 refine R.q (q.cU O O) O<|R.u 2 O<|?_
 obtain ⟨y1,hy1⟩:∃z,sb.data[0]? = some z:=⟨_,Array.getElem?_eq_getElem (show 0<sb.size from by omega)⟩
 have Sf:=y1.toNat_lt
 refine R.qg O (q.iL (i:=0) O O Tryz.underlying9 O hy1) O<|?_
 by_cases h2:1<y1.toNat
 .
  refine R.qg O (q.eL O O) O<|R.u 10 O<|R.nil<|R.av O O<|R.reg O<|R.q (q.build kM O O) O<|R.q (q.iface O bj) O<|R.s O (s.st 0 _ O O O O (.inl aX) O O O O) fun _=>?_
  exact R.u 1 O<|R.nil<|R.Ca O Tryz.results143 (RV.cell 0 O O aX) (RV.tmp O) (congrArg Change.val (show (⟨⟨#[]⟩,⟨#[]⟩,false⟩:Change)=(rU sb).1 from by (first|(rw [gG (by omega)];first|done|rfl)|(rw [gH hy1 (by omega)];first|done|rfl)|(rw [gI hy2 (by omega)];first|done|rfl)|(have f1:=br (⟨sb.extract 2 (2+y2.toNat),sb.extract (2+y2.toNat) sb.size,true⟩:Change);rw [cj (b:=true) hy1 hy2 (by omega) (by omega) (by omega) (decide_eq_true (by omega)).symm,if_pos (by omega)];first|done|rfl)|(have f1:=br (⟨sb.extract 2 (2+y2.toNat),sb.extract (2+y2.toNat) sb.size,false⟩:Change);rw [cj (b:=false) hy1 hy2 (by omega) (by omega) (by omega) (decide_eq_false (by omega)).symm,if_pos (by omega)];first|done|rfl)|(have f1:=br (⟨sb.extract 2 (2+y2.toNat),sb.extract (2+y2.toNat) sb.size,true⟩:Change);rw [cj (b:=true) hy1 hy2 (by omega) (by omega) (by omega) (decide_eq_true (by omega)).symm,if_neg (by omega)];first|done|rfl)|(have f1:=br (⟨sb.extract 2 (2+y2.toNat),sb.extract (2+y2.toNat) sb.size,false⟩:Change);rw [cj (b:=false) hy1 hy2 (by omega) (by omega) (by omega) (decide_eq_false (by omega)).symm,if_neg (by omega)];first|done|rfl)))) (dj (by decide) (by (first|(rw [gG (by omega)];first|done|rfl)|(rw [gH hy1 (by omega)];first|done|rfl)|(rw [gI hy2 (by omega)];first|done|rfl)|(have f1:=br (⟨sb.extract 2 (2+y2.toNat),sb.extract (2+y2.toNat) sb.size,true⟩:Change);rw [cj (b:=true) hy1 hy2 (by omega) (by omega) (by omega) (decide_eq_true (by omega)).symm,if_pos (by omega)];first|done|rfl)|(have f1:=br (⟨sb.extract 2 (2+y2.toNat),sb.extract (2+y2.toNat) sb.size,false⟩:Change);rw [cj (b:=false) hy1 hy2 (by omega) (by omega) (by omega) (decide_eq_false (by omega)).symm,if_pos (by omega)];first|done|rfl)|(have f1:=br (⟨sb.extract 2 (2+y2.toNat),sb.extract (2+y2.toNat) sb.size,true⟩:Change);rw [cj (b:=true) hy1 hy2 (by omega) (by omega) (by omega) (decide_eq_true (by omega)).symm,if_neg (by omega)];first|done|rfl)|(have f1:=br (⟨sb.extract 2 (2+y2.toNat),sb.extract (2+y2.toNat) sb.size,false⟩:Change);rw [cj (b:=false) hy1 hy2 (by omega) (by omega) (by omega) (decide_eq_false (by omega)).symm,if_neg (by omega)];first|done|rfl))))
 refine R.qg O (q.eo O O) O<|R.u 3 O<|?_
 obtain ⟨y2,hy2⟩:∃z,sb.data[1]? = some z:=⟨_,Array.getElem?_eq_getElem (show 1<sb.size from by omega)⟩
 have Sg:=y2.toNat_lt
 refine R.qg O (q.iL (i:=1) O O Tryz.underlying9 O hy2) O<|R.qg O (q.np (r:=((y2.toNat:Nat):Int)) O (by rw [Tryz.underlying5];rfl) Tryz.underlying3 (wr (by omega))) O<|R.qg O (q.bA (r:=((2+y2.toNat:Nat):Int)) O O) O<|R.u 1 O<|R.qg O (q.iA O Tryz.underlying9) O<|?_
 by_cases h3:sb.size<(2+y2.toNat)
 .
  refine R.qg O (q.eL O O) O<|R.u 1 O<|R.nil<|R.av O O<|R.reg O<|R.q (q.build kM O O) O<|R.q (q.iface O bj) O<|R.s O (s.st 0 _ O O O O (.inl aX) O O O O) fun _=>?_
  exact R.u 1 O<|R.nil<|R.Ca O Tryz.results143 (RV.cell 0 O O aX) (RV.tmp O) (congrArg Change.val (show (⟨⟨#[]⟩,⟨#[]⟩,false⟩:Change)=(rU sb).1 from by (first|(rw [gG (by omega)];first|done|rfl)|(rw [gH hy1 (by omega)];first|done|rfl)|(rw [gI hy2 (by omega)];first|done|rfl)|(have f1:=br (⟨sb.extract 2 (2+y2.toNat),sb.extract (2+y2.toNat) sb.size,true⟩:Change);rw [cj (b:=true) hy1 hy2 (by omega) (by omega) (by omega) (decide_eq_true (by omega)).symm,if_pos (by omega)];first|done|rfl)|(have f1:=br (⟨sb.extract 2 (2+y2.toNat),sb.extract (2+y2.toNat) sb.size,false⟩:Change);rw [cj (b:=false) hy1 hy2 (by omega) (by omega) (by omega) (decide_eq_false (by omega)).symm,if_pos (by omega)];first|done|rfl)|(have f1:=br (⟨sb.extract 2 (2+y2.toNat),sb.extract (2+y2.toNat) sb.size,true⟩:Change);rw [cj (b:=true) hy1 hy2 (by omega) (by omega) (by omega) (decide_eq_true (by omega)).symm,if_neg (by omega)];first|done|rfl)|(have f1:=br (⟨sb.extract 2 (2+y2.toNat),sb.extract (2+y2.toNat) sb.size,false⟩:Change);rw [cj (b:=false) hy1 hy2 (by omega) (by omega) (by omega) (decide_eq_false (by omega)).symm,if_neg (by omega)];first|done|rfl)))) (dj (by decide) (by (first|(rw [gG (by omega)];first|done|rfl)|(rw [gH hy1 (by omega)];first|done|rfl)|(rw [gI hy2 (by omega)];first|done|rfl)|(have f1:=br (⟨sb.extract 2 (2+y2.toNat),sb.extract (2+y2.toNat) sb.size,true⟩:Change);rw [cj (b:=true) hy1 hy2 (by omega) (by omega) (by omega) (decide_eq_true (by omega)).symm,if_pos (by omega)];first|done|rfl)|(have f1:=br (⟨sb.extract 2 (2+y2.toNat),sb.extract (2+y2.toNat) sb.size,false⟩:Change);rw [cj (b:=false) hy1 hy2 (by omega) (by omega) (by omega) (decide_eq_false (by omega)).symm,if_pos (by omega)];first|done|rfl)|(have f1:=br (⟨sb.extract 2 (2+y2.toNat),sb.extract (2+y2.toNat) sb.size,true⟩:Change);rw [cj (b:=true) hy1 hy2 (by omega) (by omega) (by omega) (decide_eq_true (by omega)).symm,if_neg (by omega)];first|done|rfl)|(have f1:=br (⟨sb.extract 2 (2+y2.toNat),sb.extract (2+y2.toNat) sb.size,false⟩:Change);rw [cj (b:=false) hy1 hy2 (by omega) (by omega) (by omega) (decide_eq_false (by omega)).symm,if_neg (by omega)];first|done|rfl))))
 refine R.qg O (q.eo O O) O<|R.u 1 O<|R.nil<|R.aA O O<|R.reg O<|R.u 1 O<|R.q (q.iL (i:=1) O O Tryz.underlying9 O hy2) O<|R.q (q.np (r:=((y2.toNat:Nat):Int)) O (by rw [Tryz.underlying5];rfl) Tryz.underlying3 (wr (by omega))) O<|R.q (q.bA (r:=((2+y2.toNat:Nat):Int)) O O) O<|R.u 1 O<|R.nil ?_
 by_cases h4:y1.toNat=1
 .
  refine R.fY (fuel:=12) [0] O O mixed O<|D.q (i:=0) O (aD [0] [] O) O (q.mv O) O<|D.q (i:=1) O (aD [0] [] O) O (q.mv O) O<|D.q (i:=2) O (aD [0] [] O) O (q.Cl (i:=2) (j:=(2+y2.toNat)) O O O Tryz.underlying9 O O (by omega) (by omega)) O<|D.q (i:=3) O (aD [0] [] O) O (q.mv O) O<|D.q (i:=4) O (aD [0] [] O) O (q.mv O) O<|D.q (i:=5) O (aD [0] [] O) O (q.Cm (i:=(2+y2.toNat)) O O Tryz.underlying9 O (by omega)) O<|D.q (i:=6) O (aD [0] [] O) O (q.mv O) O<|D.q (i:=7) O (aD [0] [] O) O (q.iL (i:=0) O O Tryz.underlying9 O hy1) O<|D.q (i:=8) O (aD [0] [] O) O (q.fN O O) O<|D.q (i:=9) O (aD [0] [] O) O (q.build kM O O) O<|D.one (i:=10) O<|Do.s (s.alloc cF O O) (fun _=>(aD [1] [] O)) O fun b2=>?_
  refine D.one (i:=11) O<|Do.s (s.st 0 _ O O O O (.inl aX) O O O O) (fun _=>(aD [1] [] O)) O fun _=>?_
  refine D.done<|R.reg O<|R.q (q.dt 0 O O aX) O<|R.c (q.call tL O O (fun w hw=>(jx (⟨(sb.extract 2 (2+y2.toNat)),(sb.extract (2+y2.toNat) sb.size),true⟩:Change) w ))) O<|?_
  by_cases h5:iI (⟨(sb.extract 2 (2+y2.toNat)),(sb.extract (2+y2.toNat) sb.size),true⟩:Change)=0
  .
   refine R.q (q.dB O O Tryz.underlying38) O<|R.nil<|R.aA O O<|R.reg O<|R.q (q.dt 0 O O aX) O<|R.s O (s.st 1 _ O O O O (.inl aX) O O O O) fun _=>?_
   exact R.u 1 O<|R.nil<|R.Ca O Tryz.results143 (RV.cell 1 O O aX) (RV.tmp O) (congrArg Change.val (show (⟨(sb.extract 2 (2+y2.toNat)),(sb.extract (2+y2.toNat) sb.size),true⟩:Change)=(rU sb).1 from by (first|(rw [gG (by omega)];first|done|rfl)|(rw [gH hy1 (by omega)];first|done|rfl)|(rw [gI hy2 (by omega)];first|done|rfl)|(have f1:=br (⟨sb.extract 2 (2+y2.toNat),sb.extract (2+y2.toNat) sb.size,true⟩:Change);rw [cj (b:=true) hy1 hy2 (by omega) (by omega) (by omega) (decide_eq_true (by omega)).symm,if_pos (by omega)];first|done|rfl)|(have f1:=br (⟨sb.extract 2 (2+y2.toNat),sb.extract (2+y2.toNat) sb.size,false⟩:Change);rw [cj (b:=false) hy1 hy2 (by omega) (by omega) (by omega) (decide_eq_false (by omega)).symm,if_pos (by omega)];first|done|rfl)|(have f1:=br (⟨sb.extract 2 (2+y2.toNat),sb.extract (2+y2.toNat) sb.size,true⟩:Change);rw [cj (b:=true) hy1 hy2 (by omega) (by omega) (by omega) (decide_eq_true (by omega)).symm,if_neg (by omega)];first|done|rfl)|(have f1:=br (⟨sb.extract 2 (2+y2.toNat),sb.extract (2+y2.toNat) sb.size,false⟩:Change);rw [cj (b:=false) hy1 hy2 (by omega) (by omega) (by omega) (decide_eq_false (by omega)).symm,if_neg (by omega)];first|done|rfl)))) (iK (by (first|(rw [gG (by omega)];first|done|rfl)|(rw [gH hy1 (by omega)];first|done|rfl)|(rw [gI hy2 (by omega)];first|done|rfl)|(have f1:=br (⟨sb.extract 2 (2+y2.toNat),sb.extract (2+y2.toNat) sb.size,true⟩:Change);rw [cj (b:=true) hy1 hy2 (by omega) (by omega) (by omega) (decide_eq_true (by omega)).symm,if_pos (by omega)];first|done|rfl)|(have f1:=br (⟨sb.extract 2 (2+y2.toNat),sb.extract (2+y2.toNat) sb.size,false⟩:Change);rw [cj (b:=false) hy1 hy2 (by omega) (by omega) (by omega) (decide_eq_false (by omega)).symm,if_pos (by omega)];first|done|rfl)|(have f1:=br (⟨sb.extract 2 (2+y2.toNat),sb.extract (2+y2.toNat) sb.size,true⟩:Change);rw [cj (b:=true) hy1 hy2 (by omega) (by omega) (by omega) (decide_eq_true (by omega)).symm,if_neg (by omega)];first|done|rfl)|(have f1:=br (⟨sb.extract 2 (2+y2.toNat),sb.extract (2+y2.toNat) sb.size,false⟩:Change);rw [cj (b:=false) hy1 hy2 (by omega) (by omega) (by omega) (decide_eq_false (by omega)).symm,if_neg (by omega)];first|done|rfl))))
  refine R.q (q.ej O O Tryz.underlying38) O<|R.nil<|R.av O O<|R.reg O<|R.q (q.build kM O O) O<|R.q (q.iface O bj) O<|R.s O (s.st 1 _ O O O O (.inl aX) O O O O) fun _=>?_
  exact R.u 1 O<|R.nil<|R.Ca O Tryz.results143 (RV.cell 1 O O aX) (RV.tmp O) (congrArg Change.val (show (⟨⟨#[]⟩,⟨#[]⟩,false⟩:Change)=(rU sb).1 from by (first|(rw [gG (by omega)];first|done|rfl)|(rw [gH hy1 (by omega)];first|done|rfl)|(rw [gI hy2 (by omega)];first|done|rfl)|(have f1:=br (⟨sb.extract 2 (2+y2.toNat),sb.extract (2+y2.toNat) sb.size,true⟩:Change);rw [cj (b:=true) hy1 hy2 (by omega) (by omega) (by omega) (decide_eq_true (by omega)).symm,if_pos (by omega)];first|done|rfl)|(have f1:=br (⟨sb.extract 2 (2+y2.toNat),sb.extract (2+y2.toNat) sb.size,false⟩:Change);rw [cj (b:=false) hy1 hy2 (by omega) (by omega) (by omega) (decide_eq_false (by omega)).symm,if_pos (by omega)];first|done|rfl)|(have f1:=br (⟨sb.extract 2 (2+y2.toNat),sb.extract (2+y2.toNat) sb.size,true⟩:Change);rw [cj (b:=true) hy1 hy2 (by omega) (by omega) (by omega) (decide_eq_true (by omega)).symm,if_neg (by omega)];first|done|rfl)|(have f1:=br (⟨sb.extract 2 (2+y2.toNat),sb.extract (2+y2.toNat) sb.size,false⟩:Change);rw [cj (b:=false) hy1 hy2 (by omega) (by omega) (by omega) (decide_eq_false (by omega)).symm,if_neg (by omega)];first|done|rfl)))) (dj (by decide) (by (first|(rw [gG (by omega)];first|done|rfl)|(rw [gH hy1 (by omega)];first|done|rfl)|(rw [gI hy2 (by omega)];first|done|rfl)|(have f1:=br (⟨sb.extract 2 (2+y2.toNat),sb.extract (2+y2.toNat) sb.size,true⟩:Change);rw [cj (b:=true) hy1 hy2 (by omega) (by omega) (by omega) (decide_eq_true (by omega)).symm,if_pos (by omega)];first|done|rfl)|(have f1:=br (⟨sb.extract 2 (2+y2.toNat),sb.extract (2+y2.toNat) sb.size,false⟩:Change);rw [cj (b:=false) hy1 hy2 (by omega) (by omega) (by omega) (decide_eq_false (by omega)).symm,if_pos (by omega)];first|done|rfl)|(have f1:=br (⟨sb.extract 2 (2+y2.toNat),sb.extract (2+y2.toNat) sb.size,true⟩:Change);rw [cj (b:=true) hy1 hy2 (by omega) (by omega) (by omega) (decide_eq_true (by omega)).symm,if_neg (by omega)];first|done|rfl)|(have f1:=br (⟨sb.extract 2 (2+y2.toNat),sb.extract (2+y2.toNat) sb.size,false⟩:Change);rw [cj (b:=false) hy1 hy2 (by omega) (by omega) (by omega) (decide_eq_false (by omega)).symm,if_neg (by omega)];first|done|rfl))))
 refine R.fY (fuel:=12) [0] O O mixed O<|D.q (i:=0) O (aD [0] [] O) O (q.mv O) O<|D.q (i:=1) O (aD [0] [] O) O (q.mv O) O<|D.q (i:=2) O (aD [0] [] O) O (q.Cl (i:=2) (j:=(2+y2.toNat)) O O O Tryz.underlying9 O O (by omega) (by omega)) O<|D.q (i:=3) O (aD [0] [] O) O (q.mv O) O<|D.q (i:=4) O (aD [0] [] O) O (q.mv O) O<|D.q (i:=5) O (aD [0] [] O) O (q.Cm (i:=(2+y2.toNat)) O O Tryz.underlying9 O (by omega)) O<|D.q (i:=6) O (aD [0] [] O) O (q.mv O) O<|D.q (i:=7) O (aD [0] [] O) O (q.iL (i:=0) O O Tryz.underlying9 O hy1) O<|D.q (i:=8) O (aD [0] [] O) O (q.e8 O O) O<|D.q (i:=9) O (aD [0] [] O) O (q.build kM O O) O<|D.one (i:=10) O<|Do.s (s.alloc cF O O) (fun _=>(aD [1] [] O)) O fun b3=>?_
 refine D.one (i:=11) O<|Do.s (s.st 0 _ O O O O (.inl aX) O O O O) (fun _=>(aD [1] [] O)) O fun _=>?_
 refine D.done<|R.reg O<|R.q (q.dt 0 O O aX) O<|R.c (q.call tL O O (fun w hw=>(jx (⟨(sb.extract 2 (2+y2.toNat)),(sb.extract (2+y2.toNat) sb.size),false⟩:Change) w ))) O<|?_
 by_cases h6:iI (⟨(sb.extract 2 (2+y2.toNat)),(sb.extract (2+y2.toNat) sb.size),false⟩:Change)=0
 .
  refine R.q (q.dB O O Tryz.underlying38) O<|R.nil<|R.aA O O<|R.reg O<|R.q (q.dt 0 O O aX) O<|R.s O (s.st 1 _ O O O O (.inl aX) O O O O) fun _=>?_
  exact R.u 1 O<|R.nil<|R.Ca O Tryz.results143 (RV.cell 1 O O aX) (RV.tmp O) (congrArg Change.val (show (⟨(sb.extract 2 (2+y2.toNat)),(sb.extract (2+y2.toNat) sb.size),false⟩:Change)=(rU sb).1 from by (first|(rw [gG (by omega)];first|done|rfl)|(rw [gH hy1 (by omega)];first|done|rfl)|(rw [gI hy2 (by omega)];first|done|rfl)|(have f1:=br (⟨sb.extract 2 (2+y2.toNat),sb.extract (2+y2.toNat) sb.size,true⟩:Change);rw [cj (b:=true) hy1 hy2 (by omega) (by omega) (by omega) (decide_eq_true (by omega)).symm,if_pos (by omega)];first|done|rfl)|(have f1:=br (⟨sb.extract 2 (2+y2.toNat),sb.extract (2+y2.toNat) sb.size,false⟩:Change);rw [cj (b:=false) hy1 hy2 (by omega) (by omega) (by omega) (decide_eq_false (by omega)).symm,if_pos (by omega)];first|done|rfl)|(have f1:=br (⟨sb.extract 2 (2+y2.toNat),sb.extract (2+y2.toNat) sb.size,true⟩:Change);rw [cj (b:=true) hy1 hy2 (by omega) (by omega) (by omega) (decide_eq_true (by omega)).symm,if_neg (by omega)];first|done|rfl)|(have f1:=br (⟨sb.extract 2 (2+y2.toNat),sb.extract (2+y2.toNat) sb.size,false⟩:Change);rw [cj (b:=false) hy1 hy2 (by omega) (by omega) (by omega) (decide_eq_false (by omega)).symm,if_neg (by omega)];first|done|rfl)))) (iK (by (first|(rw [gG (by omega)];first|done|rfl)|(rw [gH hy1 (by omega)];first|done|rfl)|(rw [gI hy2 (by omega)];first|done|rfl)|(have f1:=br (⟨sb.extract 2 (2+y2.toNat),sb.extract (2+y2.toNat) sb.size,true⟩:Change);rw [cj (b:=true) hy1 hy2 (by omega) (by omega) (by omega) (decide_eq_true (by omega)).symm,if_pos (by omega)];first|done|rfl)|(have f1:=br (⟨sb.extract 2 (2+y2.toNat),sb.extract (2+y2.toNat) sb.size,false⟩:Change);rw [cj (b:=false) hy1 hy2 (by omega) (by omega) (by omega) (decide_eq_false (by omega)).symm,if_pos (by omega)];first|done|rfl)|(have f1:=br (⟨sb.extract 2 (2+y2.toNat),sb.extract (2+y2.toNat) sb.size,true⟩:Change);rw [cj (b:=true) hy1 hy2 (by omega) (by omega) (by omega) (decide_eq_true (by omega)).symm,if_neg (by omega)];first|done|rfl)|(have f1:=br (⟨sb.extract 2 (2+y2.toNat),sb.extract (2+y2.toNat) sb.size,false⟩:Change);rw [cj (b:=false) hy1 hy2 (by omega) (by omega) (by omega) (decide_eq_false (by omega)).symm,if_neg (by omega)];first|done|rfl))))
 refine R.q (q.ej O O Tryz.underlying38) O<|R.nil<|R.av O O<|R.reg O<|R.q (q.build kM O O) O<|R.q (q.iface O bj) O<|R.s O (s.st 1 _ O O O O (.inl aX) O O O O) fun _=>?_
 exact R.u 1 O<|R.nil<|R.Ca O Tryz.results143 (RV.cell 1 O O aX) (RV.tmp O) (congrArg Change.val (show (⟨⟨#[]⟩,⟨#[]⟩,false⟩:Change)=(rU sb).1 from by (first|(rw [gG (by omega)];first|done|rfl)|(rw [gH hy1 (by omega)];first|done|rfl)|(rw [gI hy2 (by omega)];first|done|rfl)|(have f1:=br (⟨sb.extract 2 (2+y2.toNat),sb.extract (2+y2.toNat) sb.size,true⟩:Change);rw [cj (b:=true) hy1 hy2 (by omega) (by omega) (by omega) (decide_eq_true (by omega)).symm,if_pos (by omega)];first|done|rfl)|(have f1:=br (⟨sb.extract 2 (2+y2.toNat),sb.extract (2+y2.toNat) sb.size,false⟩:Change);rw [cj (b:=false) hy1 hy2 (by omega) (by omega) (by omega) (decide_eq_false (by omega)).symm,if_pos (by omega)];first|done|rfl)|(have f1:=br (⟨sb.extract 2 (2+y2.toNat),sb.extract (2+y2.toNat) sb.size,true⟩:Change);rw [cj (b:=true) hy1 hy2 (by omega) (by omega) (by omega) (decide_eq_true (by omega)).symm,if_neg (by omega)];first|done|rfl)|(have f1:=br (⟨sb.extract 2 (2+y2.toNat),sb.extract (2+y2.toNat) sb.size,false⟩:Change);rw [cj (b:=false) hy1 hy2 (by omega) (by omega) (by omega) (decide_eq_false (by omega)).symm,if_neg (by omega)];first|done|rfl)))) (dj (by decide) (by (first|(rw [gG (by omega)];first|done|rfl)|(rw [gH hy1 (by omega)];first|done|rfl)|(rw [gI hy2 (by omega)];first|done|rfl)|(have f1:=br (⟨sb.extract 2 (2+y2.toNat),sb.extract (2+y2.toNat) sb.size,true⟩:Change);rw [cj (b:=true) hy1 hy2 (by omega) (by omega) (by omega) (decide_eq_true (by omega)).symm,if_pos (by omega)];first|done|rfl)|(have f1:=br (⟨sb.extract 2 (2+y2.toNat),sb.extract (2+y2.toNat) sb.size,false⟩:Change);rw [cj (b:=false) hy1 hy2 (by omega) (by omega) (by omega) (decide_eq_false (by omega)).symm,if_pos (by omega)];first|done|rfl)|(have f1:=br (⟨sb.extract 2 (2+y2.toNat),sb.extract (2+y2.toNat) sb.size,true⟩:Change);rw [cj (b:=true) hy1 hy2 (by omega) (by omega) (by omega) (decide_eq_true (by omega)).symm,if_neg (by omega)];first|done|rfl)|(have f1:=br (⟨sb.extract 2 (2+y2.toNat),sb.extract (2+y2.toNat) sb.size,false⟩:Change);rw [cj (b:=false) hy1 hy2 (by omega) (by omega) (by omega) (decide_eq_false (by omega)).symm,if_neg (by omega)];first|done|rfl))))
theorem wU {α:Type}{f:α->Int}{l:List α}(h:lG f l=true):jF f l<l.length:=by
 obtain ⟨x,hx,_⟩:=CB h
 exact (List.getElem?_eq_some_iff.1 hx).1
theorem oI (wV:Value)(rows:List Change)(bN:Value)(l:List Change)(w:World)(own:List Nat)(H:HN w own [] [ag.ls wV rows,ag.ls bN l])(hl:rows.length+l.length<=100000):RC Tryz.prog 88 #[wV,bN] H (fun z:Value=>z) (fun z=>[ag.row 117 z (bW rows l)]) (fun _=>[]):=by
 have T1:=H.cq 0 rfl
 have yz:=H.cq 1 rfl
 refine R.bC [(0,wV),(1,bN)] Tryz.func88 O O O O H<|R.reg O<|R.u 1 O<|R.nil<|R.reg O<|R.u 1 O<|R.s O (s.aW [0] [0] _ _ _ O O O N2 O O (fun w own hw H=>pg wV rows w own H (by first|omega|assumption|(simp;done)|(simp;omega))) O) fun z1=>?_
 refine R.u 1 O<|R.nil<|R.reg O<|R.u 1 O<|R.q (q.len' (dw 1 O) O Tryz.underlying34) O<|R.u 1 O<|R.nil<|R.loop (fun g_:Nat×Value×(List Change)=>[(0,g_.2.1),(11,bN),(12,iV (l.length:Int)),(13,iV (g_.1:Int))]) (fun g_=>[ag.row 117 g_.2.1 g_.2.2,ag.held w own]) (fun g_=>[ag.ls wV rows,ag.ls bN l]) (fun g_=>g_.1<=l.length/\g_.2.2=bW rows (l.take g_.1)) (fun g_=>l.length-g_.1) (0,z1,rows) O (by exact ⟨by omega,rfl⟩) (sF O) (ic [0,1] [0,1] O) ?_
 rintro ⟨k,u,rs⟩ ⟨hk,HR⟩
 dsimp only at *
 have hrl:=kU (l.take k) rows;rw [<- HR,List.length_take] at hrl
 refine R.reg O<|?_
 by_cases h1:k<l.length
 .
  refine R.q (q.dx O O) O<|R.nil<|R.av O O<|R.reg O<|?_
  obtain ⟨x1,hx1⟩:∃z,l[k]? = some z:=⟨_,List.getElem?_eq_getElem (by omega)⟩
  refine R.q (q.idx (i:=k) (dw 1 O) O O cd O hx1) O<|R.q (q.eS (ds:=iz x1) (dw 1 O) hx1 O aX O) O<|R.s O (s.alloc cF O O) fun b1=>?_
  refine R.s O (s.st 0 _ O O O O (.inl aX) O O O O) fun _=>?_
  refine R.nil<|R.reg O<|R.u 1 O<|R.q (q.aO O bG O) O<|R.q (q.ld 0 O O bE O) O<|R.c (q.call wA O O (fun w hw=>(gF _ rs x1.Key (fun (x:Change) (k:ByteArray)=>fK k x) _ _ Pg w (hw.row 1 O) (fun W x k hW=>AV x k W ) (by first|omega|assumption|(simp;done)|(simp;omega))))) O<|R.u 5 O<|R.nil ?_
  refine R.reg O<|R.u 2 O<|?_
  rcases Bool.eq_false_or_eq_true (lG (fun x=>(fun (x:Change) (k:ByteArray)=>fK k x) x x1.Key) rs) with h2|h2
  .
   rw [h2]
   refine R.qg O (q.aO O gN O) O<|R.qg O (q.ld 0 O O iW O) O<|R.u 2 O<|R.nil<|R.cond O O (fun h3=>?_) (fun h3=>?_)
   .
    have hb0:jF (fun x=>(fun (x:Change) (k:ByteArray)=>fK k x) x x1.Key) rs<=rs.length:=pW;have hb1:jF (fun x=>fK x1.Key x) rs<=rs.length:=pW;have UF:jF (fun x=>fK x1.Key x) rs=jF (fun x=>(fun (x:Change) (k:ByteArray)=>fK k x) x x1.Key) rs:=rfl
    have Vu:jF (fun x=>(fun (x:Change) (k:ByteArray)=>fK k x) x x1.Key) rs<rs.length:=wU ‹_›;have Vv:jF (fun x=>fK x1.Key x) rs<rs.length:=wU ‹_›
    refine R.reg O<|R.u 3 O<|R.q (q.bA (r:=((jF (fun x=>(fun (x:Change) (k:ByteArray)=>fK k x) x x1.Key) rs+1:Nat):Int)) O O) O<|R.s O (s.aW [1,0,2] [] _ _ _ O O O Ph O O (fun w own hw H=>by have PK:=tU u rs (jF (fun x=>(fun (x:Change) (k:ByteArray)=>fK k x) x x1.Key) rs) (jF (fun x=>(fun (x:Change) (k:ByteArray)=>fK k x) x x1.Key) rs+1) w own H (by omega);exact PK) O) fun z2=>?_
    refine R.u 1 O<|R.nil<|R.reg O<|R.q (q.bA (r:=((k+1:Nat):Int)) O O) O<|R.u 1 O<|R.nil<|R.back (k+1,z2,rs.take (jF (fun x=>(fun (x:Change) (k:ByteArray)=>fK k x) x x1.Key) rs)++rs.drop (jF (fun x=>(fun (x:Change) (k:ByteArray)=>fK k x) x x1.Key) rs+1)) O (by (exact ⟨by omega,by rw [oH hx1,<- HR];unfold zu;first|(rw [if_pos (show lG (fK x1.Key) rs=true from by assumption),if_pos (by first|assumption|(simpa using ‹(!x1.Gone)=false›))];done)|(rw [if_pos (show lG (fK x1.Key) rs=true from by assumption),if_neg (by rw [show x1.Gone=false from by first|assumption|(simpa using ‹(!x1.Gone)=true›)];decide)];done)|(rw [if_neg (by rw [show lG (fK x1.Key) rs=false from by assumption];decide),if_pos (by first|assumption|(simpa using ‹(!x1.Gone)=false›))];done)|(rw [if_neg (by rw [show lG (fK x1.Key) rs=false from by assumption];decide),if_neg (by rw [show x1.Gone=false from by first|assumption|(simpa using ‹(!x1.Gone)=true›)];decide)];done)⟩)) (by dsimp only;omega) (sF O) (aD [0,2] [0,1] O)
   refine R.reg O<|R.u 2 O<|R.nil<|R.av O O ?_
   have hb0:jF (fun x=>(fun (x:Change) (k:ByteArray)=>fK k x) x x1.Key) rs<=rs.length:=pW;have hb1:jF (fun x=>fK x1.Key x) rs<=rs.length:=pW;have UF:jF (fun x=>fK x1.Key x) rs=jF (fun x=>(fun (x:Change) (k:ByteArray)=>fK k x) x x1.Key) rs:=rfl
   have Vu:jF (fun x=>(fun (x:Change) (k:ByteArray)=>fK k x) x x1.Key) rs<rs.length:=wU ‹_›;have Vv:jF (fun x=>fK x1.Key x) rs<rs.length:=wU ‹_›
   refine R.reg O<|R.u 2 O<|R.q (q.dt 0 O O aX) O<|?_
   obtain ⟨x2,hx2⟩:∃z,rs[jF (fun x=>(fun (x:Change) (k:ByteArray)=>fK k x) x x1.Key) rs]? = some z:=⟨_,List.getElem?_eq_getElem (by omega)⟩
   refine R.q (q.idx (i:=jF (fun x=>(fun (x:Change) (k:ByteArray)=>fK k x) x x1.Key) rs) (bB 1 O) O O cd O hx2) O<|R.s O (s.QY (z:=x1) 1 _ O hx2 O O O O (.inl aX) O) fun _=>?_
   refine R.nil<|R.reg O<|R.q (q.bA (r:=((k+1:Nat):Int)) O O) O<|R.u 1 O<|R.nil<|R.back (k+1,u,(rs.set (jF (fun x=>(fun (x:Change) (k:ByteArray)=>fK k x) x x1.Key) rs) x1)) O (by (exact ⟨by omega,by rw [oH hx1,<- HR];unfold zu;first|(rw [if_pos (show lG (fK x1.Key) rs=true from by assumption),if_pos (by first|assumption|(simpa using ‹(!x1.Gone)=false›))];done)|(rw [if_pos (show lG (fK x1.Key) rs=true from by assumption),if_neg (by rw [show x1.Gone=false from by first|assumption|(simpa using ‹(!x1.Gone)=true›)];decide)];done)|(rw [if_neg (by rw [show lG (fK x1.Key) rs=false from by assumption];decide),if_pos (by first|assumption|(simpa using ‹(!x1.Gone)=false›))];done)|(rw [if_neg (by rw [show lG (fK x1.Key) rs=false from by assumption];decide),if_neg (by rw [show x1.Gone=false from by first|assumption|(simpa using ‹(!x1.Gone)=true›)];decide)];done)⟩)) (by dsimp only;omega) (sF O) (aD [1,2] [0,1] O)
  rw [h2]
  refine R.u 4 O<|R.nil<|R.aA O O<|R.reg O<|R.u 2 O<|R.nil<|R.aA O O<|R.reg O<|R.q (q.aO O gN O) O<|R.q (q.ld 0 O O iW O) O<|R.q (q.not O) O<|R.u 1 O<|R.nil<|R.cond O O (fun h4=>?_) (fun h4=>?_)
  .
   have hb0:jF (fun x=>(fun (x:Change) (k:ByteArray)=>fK k x) x x1.Key) rs<=rs.length:=pW;have hb1:jF (fun x=>fK x1.Key x) rs<=rs.length:=pW;have UF:jF (fun x=>fK x1.Key x) rs=jF (fun x=>(fun (x:Change) (k:ByteArray)=>fK k x) x x1.Key) rs:=rfl
   refine R.reg O<|R.u 2 O<|R.q (q.dt 0 O O aX) O<|R.s O (s.bs (l:=([x1]:List Change)) cd cF O O O O O O O) fun b2=>?_
   refine R.s O (s.aW [2,0,1,3] [] _ _ _ O O O Pj O O (fun w own hw H=>by have PK:=tV u rs (jF (fun x=>(fun (x:Change) (k:ByteArray)=>fK k x) x x1.Key) rs) (.slice (some ⟨b2,0,none⟩) 1 1) ([x1]) w own H (by first|assumption|omega) O (by first|omega|assumption|(simp;done)|(simp;omega));exact PK) O) fun z3=>?_
   refine R.u 1 O<|R.nil<|R.reg O<|R.q (q.bA (r:=((k+1:Nat):Int)) O O) O<|R.u 1 O<|R.nil<|R.back (k+1,z3,rs.take (jF (fun x=>(fun (x:Change) (k:ByteArray)=>fK k x) x x1.Key) rs)++([x1])++rs.drop (jF (fun x=>(fun (x:Change) (k:ByteArray)=>fK k x) x x1.Key) rs)) O (by (exact ⟨by omega,by rw [oH hx1,<- HR];unfold zu;first|(rw [if_pos (show lG (fK x1.Key) rs=true from by assumption),if_pos (by first|assumption|(simpa using ‹(!x1.Gone)=false›))];done)|(rw [if_pos (show lG (fK x1.Key) rs=true from by assumption),if_neg (by rw [show x1.Gone=false from by first|assumption|(simpa using ‹(!x1.Gone)=true›)];decide)];done)|(rw [if_neg (by rw [show lG (fK x1.Key) rs=false from by assumption];decide),if_pos (by first|assumption|(simpa using ‹(!x1.Gone)=false›))];done)|(rw [if_neg (by rw [show lG (fK x1.Key) rs=false from by assumption];decide),if_neg (by rw [show x1.Gone=false from by first|assumption|(simpa using ‹(!x1.Gone)=true›)];decide)];done)⟩)) (by dsimp only;omega) (sF O) (aD [0,2] [0,1] O)
  refine R.reg O<|R.q (q.bA (r:=((k+1:Nat):Int)) O O) O<|R.u 1 O<|R.nil<|R.back (k+1,u,rs) O (by (exact ⟨by omega,by rw [oH hx1,<- HR];unfold zu;first|(rw [if_pos (show lG (fK x1.Key) rs=true from by assumption),if_pos (by first|assumption|(simpa using ‹(!x1.Gone)=false›))];done)|(rw [if_pos (show lG (fK x1.Key) rs=true from by assumption),if_neg (by rw [show x1.Gone=false from by first|assumption|(simpa using ‹(!x1.Gone)=true›)];decide)];done)|(rw [if_neg (by rw [show lG (fK x1.Key) rs=false from by assumption];decide),if_pos (by first|assumption|(simpa using ‹(!x1.Gone)=false›))];done)|(rw [if_neg (by rw [show lG (fK x1.Key) rs=false from by assumption];decide),if_neg (by rw [show x1.Gone=false from by first|assumption|(simpa using ‹(!x1.Gone)=true›)];decide)];done)⟩)) (by dsimp only;omega) (sF O) (aD [1,2] [0,1] O)
 refine R.q (q.cU O O) O<|R.nil<|R.aA O O<|R.reg O<|R.u 2 O<|R.nil ?_
 have hz:bW rows l=rs:=by (rw [HR,List.take_of_length_le (by omega)])
 rw [hz]
 exact R.w1 u [0,1] [] O Tryz.results88 (RV.tmp O) O O O O
end Go.Proofs.YtkbhcbipadkcaaaGreatDoor
