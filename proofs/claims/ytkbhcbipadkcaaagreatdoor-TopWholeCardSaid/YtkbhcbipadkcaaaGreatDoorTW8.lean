import Derived.Test.YtkbhcbipadkcaaaGreatDoorTW7
namespace Go.Proofs.YtkbhcbipadkcaaaGreatDoor
set_option linter.unusedVariables false
set_option linter.unusedSimpArgs false
set_option maxRecDepth 100000
set_option maxHeartbeats 90000000
open Go Go.RowKit
theorem pw (bP:Value)(l:List Change)(w:World)(own:List Nat)(H:HN w own [] [ag.ls bP l])(hl:l.length<=1000000):RC Tryz.prog 91 #[bP] H (fun z:Value=>z) (fun z=>[ag.row 117 z l]) (fun _=>[]):=by
 have yF:=H.cq 0 rfl
 refine R.bD [(0,bP)] Tryz.func91 O O O O H<|R.reg O<|R.u 1 O<|R.nil<|R.reg O<|R.u 1 O<|?_
 rcases Bool.eq_false_or_eq_true (pD bP) with h1|h1
 .
  refine R.q (q.Hg (congrArg Value.bool h1) (q.po (dy 0 O) O O Tryz.underlying34)) O<|R.nil<|R.av O O<|R.reg O<|R.u 1 O<|R.nil<|R.row0 (α:=Change) 117 ?_
  have hz:l=[]:=by (first|rfl|exact (List.nil_append _).symm|exact Sl.pD (H.bG 0 rfl) ‹_›)
  rw [hz]
  exact R.w1 (nS) [0,1] [] O Tryz.results91 (RV.tmp O) O O O O
 refine R.q (q.Hg (congrArg Value.bool h1) (q.po (dy 0 O) O O Tryz.underlying34)) O<|R.nil<|R.aB O O<|R.reg O<|R.s O (s.bs (l:=([]:List Change)) cd cI O O O O O O O) fun b1=>?_
 refine R.u 1 O<|R.s O (s.app 0 _ O O O (dy 0 O) jw (by simp;omega) (by simp;omega) (fun _=>rfl) O) fun v1=>?_
 refine R.u 1 O<|R.nil ?_
 have hz:l=(([])++l):=by (first|rfl|exact (List.nil_append _).symm|exact Sl.pD (H.bG 0 rfl) ‹_›)
 rw [hz]
 exact R.w1 v1 [0,1] [] O Tryz.results91 (RV.tmp O) O O O O
theorem t7 (bP:Value)(l:List Change)(i:Nat)(j:Nat)(w:World)(own:List Nat)(H:HN w own [ag.row 117 bP l] [])(hij:i<=j/\j<=l.length):RC Tryz.prog 148 #[bP,iV (i:Int),iV (j:Int)] H (fun z:Value=>z) (fun z=>[ag.row 117 z (l.take i++l.drop j)]) (fun _=>[]):=by
 have Hw:=H.cap 0 rfl;have yF:=H.cO 0 rfl
 refine R.bD [(0,bP),(1,iV (i:Int)),(2,iV (j:Int))] Tryz.func148 O O O O H<|R.reg O<|R.u 1 O<|R.nil<|R.reg O<|R.u 4 O<|R.q (q.len' (bC 0 O) O Tryz.underlying34) O<|R.q (q.Er (i:=i) (j:=j) (q':=l.length) (bC 0 O) O O O O cd O O O (by omega) (by omega) (by omega)) O<|R.nil<|R.reg O<|R.u 2 O<|?_
 by_cases h1:i=j
 .
  refine R.q (q.fI O O) O<|R.nil<|R.av O O<|R.reg O<|R.u 2 O<|R.nil ?_
  have hz:l.take i++l.drop j=l:=by (first|rfl|exact p7 (by omega))
  rw [hz]
  exact R.w1 bP [0,1] [] O Tryz.results148 (RV.tmp O) O O O O
 refine R.q (q.e9 O O) O<|R.nil<|R.aB O O<|R.reg O<|R.u 1 O<|R.q (q.len' (bC 0 O) O Tryz.underlying34) O<|R.u 1 O<|R.nil<|R.fP (fuel:=8) [1] O O mixed O<|D.q (i:=0) O (aD [1] [] O) O (q.mv O) O<|D.q (i:=1) O (aD [1] [] O) O (q.mv O) O<|D.q (i:=3) O (aD [1] [] O) O (q.mv O) O<|D.q (i:=4) O (aD [1] [] O) O (q.mv O) O<|D.two (i:=2) (j:=5) O O ?_ ?_
 .
  refine Do.s (s.c (Qt.a (q.kI (i:=i) (bC 0 O) O O Tryz.underlying34 AF O (by first|omega|(simp;omega)))) O) (fun _=>(aD [1] [] O)) O fun _=>?_
  refine D.one (i:=5) O<|Do.s (s.c (Qt.a (q.dC (i:=j) (bC 0 O) O O cd O (by first|omega|(simp;omega)))) O) (fun _=>(aD [1] [] O)) O fun _=>?_
  refine D.one (i:=6) O<|Do.s (s.tO (a:=i) 0 _ O O O (fun w hw=>Sl.from (hw.row 0 O) (by omega)) jw (by omega) (by simp;omega) O O) (fun _=>(aD [1] [] O)) O fun _=>?_
  refine D.q (i:=7) O (aD [1] [] O) O (q.as O) O<|D.done<|R.reg O<|R.u 2 O<|R.q (q.len' (bC 0 O) O Tryz.underlying34) O<|R.u 1 O<|R.q (q.sl2 (i:=(l.take i++(l.drop j)).length) (j:=l.length) (bC 0 O) O O O cd O O (by first|omega|(simp;omega)) (by first|assumption|omega|(simp;omega)|(simp [fj];omega))) O<|R.s O (s.zh (lo:=(l.take i++(l.drop j)).length) (hi:=l.length) (z0:=(⟨⟨#[]⟩,⟨#[]⟩,false⟩:Change)) 0 O O cd cI O (by first|omega|(simp;omega)) (by first|omega|(simp;omega)) (by first|assumption|omega|(simp;omega)|(simp [fj];omega))) fun _=>?_
  refine R.nil<|R.reg O<|R.u 2 O<|R.nil ?_
  have hz:l.take i++l.drop j=(l.take i++(l.drop j)):=by (first|rfl|exact p7 (by omega))
  rw [hz]
  exact R.w1 (kI bP (i+(l.drop j).length)) [0,1] [] O Tryz.results148 (RV.tmp O) O O O O
 refine Do.s (s.c (Qt.a (q.dC (i:=j) (bC 0 O) O O cd O (by first|omega|(simp;omega)))) O) (fun _=>(aD [1] [] O)) O fun _=>?_
 refine D.one (i:=2) O<|Do.s (s.c (Qt.a (q.kI (i:=i) (bC 0 O) O O Tryz.underlying34 AF O (by first|omega|(simp;omega)))) O) (fun _=>(aD [1] [] O)) O fun _=>?_
 refine D.one (i:=6) O<|Do.s (s.tO (a:=i) 0 _ O O O (fun w hw=>Sl.from (hw.row 0 O) (by omega)) jw (by omega) (by simp;omega) O O) (fun _=>(aD [1] [] O)) O fun _=>?_
 refine D.q (i:=7) O (aD [1] [] O) O (q.as O) O<|D.done<|R.reg O<|R.u 2 O<|R.q (q.len' (bC 0 O) O Tryz.underlying34) O<|R.u 1 O<|R.q (q.sl2 (i:=(l.take i++(l.drop j)).length) (j:=l.length) (bC 0 O) O O O cd O O (by first|omega|(simp;omega)) (by first|assumption|omega|(simp;omega)|(simp [fj];omega))) O<|R.s O (s.zh (lo:=(l.take i++(l.drop j)).length) (hi:=l.length) (z0:=(⟨⟨#[]⟩,⟨#[]⟩,false⟩:Change)) 0 O O cd cI O (by first|omega|(simp;omega)) (by first|omega|(simp;omega)) (by first|assumption|omega|(simp;omega)|(simp [fj];omega))) fun _=>?_
 refine R.nil<|R.reg O<|R.u 2 O<|R.nil ?_
 have hz:l.take i++l.drop j=(l.take i++(l.drop j)):=by (first|rfl|exact p7 (by omega))
 rw [hz]
 exact R.w1 (kI bP (i+(l.drop j).length)) [0,1] [] O Tryz.results148 (RV.tmp O) O O O O
theorem t8 (bP:Value)(l:List Change)(i:Nat)(PW:Value)(u:List Change)(w:World)(own:List Nat)(H:HN w own [ag.row 117 bP l,ag.row 117 PW u] [])(hi:i<=l.length)(hu:u.length=1)(hl:l.length<=1000000):RC Tryz.prog 149 #[bP,iV (i:Int),PW] H (fun z:Value=>z) (fun z=>[ag.row 117 z (l.take i++u++l.drop i)]) (fun _=>[]):=by
 have Hw:=H.cap 0 rfl;have yF:=H.cO 0 rfl
 have VB:=H.cap 1 rfl;have VD:=H.cO 1 rfl
 refine R.bD [(0,bP),(1,iV (i:Int)),(2,PW)] Tryz.func149 O O O O H<|R.reg O<|R.u 1 O<|R.nil<|R.reg O<|R.u 2 O<|R.q (q.dC (i:=i) (bC 0 O) O O cd O (by first|omega|(simp;omega))) O<|R.nil<|R.reg O<|R.u 1 O<|R.q (q.len' (bC 1 O) O Tryz.underlying34) O<|R.u 1 O<|R.nil<|R.reg O<|R.u 1 O<|?_
 by_cases h1:u.length=0
 .
  refine R.q (q.fI O O) O<|R.nil<|R.av O O<|R.reg O<|R.u 2 O<|R.nil ?_
  have hz:l.take i++u++l.drop i=l:=by (first|(exfalso;omega)|exact qL (by omega)|exact nU hu (by omega) rfl|exact rY hu (by omega))
  rw [hz]
  exact R.w1 bP [0,2] [] O Tryz.results149 (RV.tmp O) O O O O
 refine R.q (q.e9 O O) O<|R.nil<|R.aB O O<|R.reg O<|R.u 1 O<|R.q (q.len' (bC 0 O) O Tryz.underlying34) O<|R.u 1 O<|R.nil<|R.reg O<|R.u 2 O<|?_
 by_cases h2:i=l.length
 .
  refine R.q (q.fI O O) O<|R.nil<|R.av O O<|R.reg O<|R.u 2 O<|R.s O (s.app 0 _ O O O (bC 1 O) jw (by first|omega|(simp;done)|(simp;omega)) (by first|omega|(simp;done)|(simp;omega)) (fun _=>rfl) O) fun v1=>?_
  refine R.u 1 O<|R.nil ?_
  have hz:l.take i++u++l.drop i=(l++u):=by (first|(exfalso;omega)|exact qL (by omega)|exact nU hu (by omega) rfl|exact rY hu (by omega))
  rw [hz]
  exact R.w1 v1 [0,2] [] O Tryz.results149 (RV.tmp O) O O O O
 refine R.q (q.e9 O O) O<|R.nil<|R.aB O O<|R.reg O<|R.u 2 O<|R.q (q.bB (r:=((l.length+u.length:Nat):Int)) O O) O<|R.u 1 O<|R.q (q.cap (bC 0 O) O Tryz.underlying34) O<|?_
 by_cases h3:(lA bP)<(l.length+u.length)
 .
  refine R.q (q.eL O O) O<|R.nil<|R.av O O<|R.reg O<|R.u 2 O<|R.q (q.kI (i:=i) (bC 0 O) O O Tryz.underlying34 AF O (by first|omega|(simp;omega))) O<|R.u 2 O<|R.q (q.bB (r:=((l.length+u.length:Nat):Int)) O O) O<|R.u 1 O<|R.q (q.lV (r:=(((l.length+u.length)-i:Nat):Int)) O O) O<|R.s O (s.F3 (o:=i) (m:=((l.length+u.length)-i)) (z0:=(⟨⟨#[]⟩,⟨#[]⟩,false⟩:Change)) 0 O O O O jw Tryz.underlying3 cI O (by omega) (by omega) (by omega) (by omega) (by omega) O) fun v2=>?_
  refine R.u 1 O<|R.nil<|R.reg O<|R.u 2 O<|R.q (q.dC (i:=i) (bC 0 O) O O cd O (by first|omega|(simp;omega))) O<|R.u 1 O<|R.s O (s.uH (o:=i) 0 _ O (bC 2 O) O O cd (by first|omega|(simp;done)|(simp;omega)) O O) fun _=>?_
  refine R.nil<|R.fP (fuel:=9) [1,2,3] O O mixed O<|D.q (i:=0) O (aD [1,2,3] [] O) O (q.mv O) O<|D.q (i:=1) O (aD [1,2,3] [] O) O (q.mv O) O<|D.q (i:=2) O (aD [1,2,3] [] O) O (q.mv O) O<|D.q (i:=3) O (aD [1,2,3] [] O) O (q.bB (r:=((i+u.length:Nat):Int)) O O) O<|D.q (i:=5) O (aD [1,2,3] [] O) O (q.mv O) O<|D.q (i:=6) O (aD [1,2,3] [] O) O (q.mv O) O<|D.q (i:=7) O (aD [1,2,3] [] O) O (q.dC (i:=i) (bC 0 O) O O cd O (by first|omega|(simp;omega))) O<|D.one (i:=4) O<|Do.s (s.c (Qt.a (q.dC (i:=(i+u.length)) (bC 0 O) O O cd O (by first|omega|(simp;omega)))) O) (fun _=>(aD [1,2,3] [] O)) O fun _=>?_
  refine D.one (i:=8) O<|Do.s (s.uH (o:=(i+u.length)) 0 _ O (fun w hw=>Sl.from (hw.row 1 O) (by omega)) O O cd (by first|omega|(simp;done)|(simp;omega)) O O) (fun _=>(aD [1,2,3] [] O)) O fun _=>?_
  refine D.done<|R.reg O<|R.u 2 O<|R.nil ?_
  have hz:l.take i++u++l.drop i=(((l.take i++List.replicate ((l.length+u.length)-i) (⟨⟨#[]⟩,⟨#[]⟩,false⟩:Change)).take i++u++(l.take i++List.replicate ((l.length+u.length)-i) (⟨⟨#[]⟩,⟨#[]⟩,false⟩:Change)).drop (i+u.length)).take (i+u.length)++(l.drop i)++((l.take i++List.replicate ((l.length+u.length)-i) (⟨⟨#[]⟩,⟨#[]⟩,false⟩:Change)).take i++u++(l.take i++List.replicate ((l.length+u.length)-i) (⟨⟨#[]⟩,⟨#[]⟩,false⟩:Change)).drop (i+u.length)).drop ((i+u.length)+(l.drop i).length)):=by (first|(exfalso;omega)|exact qL (by omega)|exact nU hu (by omega) rfl|exact rY hu (by omega))
  rw [hz]
  exact R.w1 v2 [0,3] [] O Tryz.results149 (RV.tmp O) O O O O
 refine R.q (q.eo O O) O<|R.nil<|R.aB O O<|R.reg O<|R.u 3 O<|R.q (q.bB (r:=((l.length+u.length:Nat):Int)) O O) O<|R.q (q.RD (i:=(l.length+u.length)) (bC 0 O) O O cd O (by first|omega|assumption)) O<|R.u 1 O<|R.nil<|R.reg O<|R.u 4 O<|R.q (q.bB (r:=((i+u.length:Nat):Int)) O O) O<|R.q (q.nu (i:=(i+u.length)) (bC 0 O) O O cd O (by omega) (by first|assumption|omega|(simp [fj];omega))) O<|R.q (q.UN (i:=1) (j:=0) (tR:=4) Tryz.func185 O O (by kernel_rfl) (by kernel_rfl) cd O O (by decide) (by omega) (by omega) O O O O) O<|R.u 1 O<|R.nil<|R.av O O<|R.fP (fuel:=9) [1,2] O O mixed O<|D.q (i:=0) O (aD [1,2] [] O) O (q.mv O) O<|D.q (i:=1) O (aD [1,2] [] O) O (q.mv O) O<|D.q (i:=2) O (aD [1,2] [] O) O (q.mv O) O<|D.q (i:=3) O (aD [1,2] [] O) O (q.bB (r:=((i+u.length:Nat):Int)) O O) O<|D.q (i:=5) O (aD [1,2] [] O) O (q.mv O) O<|D.q (i:=6) O (aD [1,2] [] O) O (q.mv O) O<|D.two (i:=4) (j:=7) O O ?_ ?_
 .
  refine Do.s (s.c (Qt.a (q.nu (i:=(i+u.length)) (bC 0 O) O O cd O (by omega) (by first|assumption|omega|(simp [fj];omega)))) O) (fun _=>(aD [1,2] [] O)) O fun _=>?_
  refine D.one (i:=7) O<|Do.s (s.c (Qt.a (q.nu (i:=i) (bC 0 O) O O cd O (by omega) (by first|assumption|omega|(simp [fj];omega)))) O) (fun _=>(aD [1,2] [] O)) O fun _=>?_
  refine D.one (i:=8) O<|Do.s (s.Ay (o:=i) 0 _ O (by omega) (by omega) (by omega) (by first|assumption|omega) O O cd O O) (fun _=>(aD [1,2] [] O)) O fun _=>?_
  refine D.done<|R.reg O<|R.u 2 O<|R.q (q.dC (i:=i) (bC 0 O) O O cd O (by first|omega|(simp;omega))) O<|R.u 1 O<|R.s O (s.uH (o:=i) 0 _ O (bC 1 O) O O cd (by first|omega|(simp;done)|(simp;omega)) O O) fun _=>?_
  refine R.nil<|R.reg O<|R.u 2 O<|R.nil ?_
  have hz:l.take i++u++l.drop i=((l.take (i+1)++l.drop i).take i++u++(l.take (i+1)++l.drop i).drop (i+u.length)):=by (first|(exfalso;omega)|exact qL (by omega)|exact nU hu (by omega) rfl|exact rY hu (by omega))
  rw [hz]
  exact R.w1 (kI bP (l.length+u.length)) [0,2] [] O Tryz.results149 (RV.tmp O) O O O O
 refine Do.s (s.c (Qt.a (q.nu (i:=i) (bC 0 O) O O cd O (by omega) (by first|assumption|omega|(simp [fj];omega)))) O) (fun _=>(aD [1,2] [] O)) O fun _=>?_
 refine D.one (i:=4) O<|Do.s (s.c (Qt.a (q.nu (i:=(i+u.length)) (bC 0 O) O O cd O (by omega) (by first|assumption|omega|(simp [fj];omega)))) O) (fun _=>(aD [1,2] [] O)) O fun _=>?_
 refine D.one (i:=8) O<|Do.s (s.Ay (o:=i) 0 _ O (by omega) (by omega) (by omega) (by first|assumption|omega) O O cd O O) (fun _=>(aD [1,2] [] O)) O fun _=>?_
 refine D.done<|R.reg O<|R.u 2 O<|R.q (q.dC (i:=i) (bC 0 O) O O cd O (by first|omega|(simp;omega))) O<|R.u 1 O<|R.s O (s.uH (o:=i) 0 _ O (bC 1 O) O O cd (by first|omega|(simp;done)|(simp;omega)) O O) fun _=>?_
 refine R.nil<|R.reg O<|R.u 2 O<|R.nil ?_
 have hz:l.take i++u++l.drop i=((l.take (i+1)++l.drop i).take i++u++(l.take (i+1)++l.drop i).drop (i+u.length)):=by (first|(exfalso;omega)|exact qL (by omega)|exact nU hu (by omega) rfl|exact rY hu (by omega))
 rw [hz]
 exact R.w1 (kI bP (l.length+u.length)) [0,2] [] O Tryz.results149 (RV.tmp O) O O O O
theorem qa (a b:ByteArray)(w:World):Calls Tryz.prog 147 #[.string a,.string b] w fun e w'=>e = .returned (.int .i64 (AZ a b))/\Ext w w' :=
 (Tryz.strings_Compare a b w).mono fun e w' ⟨h1,h2⟩=>⟨by rw [h1,<- m5,<- m5,Gg],by rw [h2];exact Ext.refl _⟩
theorem A9 (x:Change)(k:ByteArray)(w:World):Calls Tryz.prog 146 #[.agg #[.string x.Key,.string x.Val,.bool x.Gone],.string k] w fun e w'=>e = .returned (iV (fK k x))/\Ext w w':=by
 refine R.enter [] [(0,.agg #[.string x.Key,.string x.Val,.bool x.Gone]),(1,.string k)] Tryz.func146 O O O O<|R.reg O<|R.s O (s.box O O O) fun b1=>?_
 refine R.u 1 O<|R.nil<|R.reg O<|R.q (q.aO O bI O) O<|R.q (q.ld 0 O O bF O) O<|R.u 1 O<|R.c (q.call Jw O O (fun w hw=>(qa x.Key k w ))) O<|R.u 1 O<|R.nil ?_
 exact R.rv O Tryz.results146 O (rI (by rfl))
theorem gF (bP:Value)(l:List Change)(t:ByteArray)(c:Change->ByteArray->Int)(Hz:Nat)(Ms:List Value)(EN:∀args w,(callFunc Hz args).run Tryz.prog w = .ok (.enter Hz args) w)(w:World)(ew:Sl w bP l)(PX:∀W (x1:Change) (x2:ByteArray),Ext w W->Calls Tryz.prog Hz ([x1.val,.string x2]++Ms).toArray W fun e w'=>e = .returned (iV (c x1 x2))/\Ext W w')(hl:l.length<=1000000):Calls Tryz.prog 145 #[bP,.string t,.func (.func Hz) #[] Ms.toArray] w fun e w'=>e = .returned (.tuple #[iV (jG (fun x=>c x t) l:Int),.bool (lI (fun x=>c x t) l)])/\Ext w w':=by
 have zx:=ew.fB
 refine R.enter [] [(0,bP),(1,.string t),(2,.func (.func Hz) #[] Ms.toArray)] Tryz.func145 O O O O<|R.reg O<|R.u 2 O<|R.nil<|R.reg O<|R.u 1 O<|R.q (q.len' (fun _=>Wd.old ew) O Tryz.underlying34) O<|R.u 1 O<|R.nil<|R.reg O<|R.u 3 O<|R.nil<|R.loop (fun g_:Nat×Nat=>[(0,bP),(1,.string t),(2,.func (.func Hz) #[] Ms.toArray),(8,iV (l.length:Int)),(9,iV (g_.1:Int)),(10,iV (g_.2:Int))]) (fun g_=>[]) (fun g_=>[]) (fun g_=>g_.1<=g_.2/\g_.2<=l.length/\bsGo (fun x=>c x t) l g_.1 g_.2=jG (fun x=>c x t) l) (fun g_=>g_.2-g_.1) (0,l.length) O (by exact ⟨Nat.zero_le _,Nat.le_refl _,rfl⟩) (sF O) (ic [] [] O) ?_
 rintro ⟨lo,hi⟩ ⟨PY,VE,HA⟩
 dsimp only at *
 refine R.reg O<|R.u 2 O<|?_
 by_cases h1:lo<hi
 .
  refine R.q (q.dz O O) O<|R.nil<|R.av O O<|R.reg O<|R.u 2 O<|R.q (q.bB (r:=((lo+hi:Nat):Int)) O O) O<|R.q (q.nq (r:=(((lo+hi):Nat):Int)) O (by rw [Tryz.underlying3];rfl) Tryz.underlying188 (Az (by omega))) O<|R.q (q.shr (r:=((((lo+hi) / 2):Nat):Int)) O O (by decide) (Mi (by decide))) O<|R.q (q.nq (r:=((((lo+hi) / 2):Nat):Int)) O (by rw [Tryz.underlying188];rfl) Tryz.underlying3 (wr (by omega))) O<|R.u 1 O<|R.nil<|R.reg O<|R.u 3 O<|?_
  obtain ⟨x1,hx1⟩:∃z,l[((lo+hi) / 2)]? = some z:=⟨_,List.getElem?_eq_getElem (by omega)⟩
  refine R.q (q.idx (i:=((lo+hi) / 2)) (fun _=>Wd.old ew) O O cd O hx1) O<|R.q (q.eS (ds:=iz x1) (fun _=>Wd.old ew) hx1 O aY O) O<|R.u 1 O<|R.c (q.call EN O O (fun w hw=>PX w x1 t hw.ext)) O<|?_
  by_cases h2:(c x1 t)<0
  .
   refine R.q (q.dz O O) O<|R.nil<|R.av O O<|R.reg O<|R.u 1 O<|R.q (q.bB (r:=((((lo+hi) / 2)+1:Nat):Int)) O O) O<|R.u 1 O<|R.nil<|R.back ((((lo+hi) / 2)+1),hi) O (by (exact ⟨by omega,by omega,(AU (by omega) hx1 (by omega)).symm.trans HA⟩)) (by dsimp only;omega) (sF O) (ic [] [] O)
  refine R.q (q.cW O O) O<|R.nil<|R.aB O O<|R.reg O<|R.u 2 O<|R.nil<|R.back (lo,((lo+hi) / 2)) O (by (exact ⟨by omega,by omega,(AV (by omega) hx1 (by omega)).symm.trans HA⟩)) (by dsimp only;omega) (sF O) (ic [] [] O)
 refine R.q (q.cW O O) O<|R.nil<|R.aB O O<|R.reg O<|R.u 3 O<|?_
 by_cases h3:lo<l.length
 .
  refine R.q (q.dz O O) O<|R.u 4 O<|?_
  obtain ⟨x2,hx2⟩:∃z,l[lo]? = some z:=⟨_,List.getElem?_eq_getElem (by omega)⟩
  refine R.qg O (q.idx (i:=lo) (fun _=>Wd.old ew) O O cd O hx2) O<|R.qg O (q.eS (ds:=iz x2) (fun _=>Wd.old ew) hx2 O aY O) O<|R.u 1 O<|R.cg O (q.call EN O O (fun w hw=>PX w x2 t hw.ext)) O<|?_
  by_cases h4:(c x2 t)=0
  .
   exact R.qg O (q.fI O O) O<|R.u 3 O<|R.nil<|R.FX O Tryz.results145 O O (rI (by (exact congrArg (fun n:Nat=>(n:Int)) ((gZ (by omega)).symm.trans HA)))) (rB (by (have e:=(gZ (by omega)).symm.trans HA;unfold lI;rw [<- e];(rw [hx2];exact (decide_eq_true ‹_›).symm))))
  exact R.qg O (q.e9 O O) O<|R.u 3 O<|R.nil<|R.FX O Tryz.results145 O O (rI (by (exact congrArg (fun n:Nat=>(n:Int)) ((gZ (by omega)).symm.trans HA)))) (rB (by (have e:=(gZ (by omega)).symm.trans HA;unfold lI;rw [<- e];(rw [hx2];exact (decide_eq_false ‹_›).symm))))
 exact R.q (q.cW O O) O<|R.u 12 O<|R.nil<|R.FX O Tryz.results145 O O (rI (by (exact congrArg (fun n:Nat=>(n:Int)) ((gZ (by omega)).symm.trans HA)))) (rB (by (have e:=(gZ (by omega)).symm.trans HA;unfold lI;rw [<- e];(rw [List.getElem?_eq_none (by omega)]))))
theorem jx (c:Change)(w:World):Calls Tryz.prog 133 #[.agg #[.string c.Key,.string c.Val,.bool c.Gone]] w fun e w'=>e = .returned (da (iI c))/\Ext w w':=by
 refine R.enter [] [(0,.agg #[.string c.Key,.string c.Val,.bool c.Gone])] Tryz.func133 O O O O<|R.reg O<|R.s O (s.box O O O) fun b1=>?_
 refine R.u 1 O<|R.nil<|R.reg O<|R.q (q.aO O bI O) O<|R.q (q.ld 0 O O bF O) O<|?_
 by_cases h1:c.Key=⟨#[]⟩
 .
  exact R.q (q.pQ O O h1) O<|R.u 9 O<|R.nil<|R.av O O<|R.reg O<|R.q (q.iface O bm) O<|R.u 1 O<|R.nil<|R.rv O Tryz.results133 O (dr (by decide) (by (unfold iI;first|(rw [if_pos (by first|exact .inl ‹_› | exact .inr ⟨by assumption,by assumption⟩)])|(rw [if_neg (by rintro (hh|⟨hh,hk⟩) <;> first|contradiction|(simp_all;done)),if_pos (by omega)])|(rw [if_neg (by rintro (hh|⟨hh,hk⟩) <;> first|contradiction|(simp_all;done)),if_neg (by omega)]))))
 refine R.q (q.pR O O h1) O<|R.u 1 O<|R.qg O (q.aO O gN O) O<|R.qg O (q.ld 0 O O iW O) O<|R.u 1 O<|?_
 rcases Bool.eq_false_or_eq_true c.Gone with h2|h2
 .
  rw [h2]
  refine R.qg O (q.aO O cY O) O<|R.qg O (q.ld 0 O O bF O) O<|?_
  by_cases h3:c.Val=⟨#[]⟩
  .
   refine R.qg O (q.uG O O h3) O<|R.u 2 O<|R.nil<|R.aB O O<|R.reg O<|R.q (q.aO O bI O) O<|R.q (q.ld 0 O O bF O) O<|R.q (q.iA O Tryz.underlying9) O<|?_
   by_cases h4:8<c.Key.size
   .
    exact R.q (q.eL O O) O<|R.u 6 O<|R.nil<|R.av O O<|R.reg O<|R.q (q.iface O bm) O<|R.u 1 O<|R.nil<|R.rv O Tryz.results133 O (dr (by decide) (by (unfold iI;first|(rw [if_pos (by first|exact .inl ‹_› | exact .inr ⟨by assumption,by assumption⟩)])|(rw [if_neg (by rintro (hh|⟨hh,hk⟩) <;> first|contradiction|(simp_all;done)),if_pos (by omega)])|(rw [if_neg (by rintro (hh|⟨hh,hk⟩) <;> first|contradiction|(simp_all;done)),if_neg (by omega)]))))
   refine R.q (q.eo O O) O<|R.u 1 O<|R.qg O (q.aO O cY O) O<|R.qg O (q.ld 0 O O bF O) O<|R.qg O (q.iA O Tryz.underlying9) O<|?_
   by_cases h5:24<c.Val.size
   .
    exact R.qg O (q.eL O O) O<|R.u 1 O<|R.nil<|R.av O O<|R.reg O<|R.q (q.iface O bm) O<|R.u 1 O<|R.nil<|R.rv O Tryz.results133 O (dr (by decide) (by (unfold iI;first|(rw [if_pos (by first|exact .inl ‹_› | exact .inr ⟨by assumption,by assumption⟩)])|(rw [if_neg (by rintro (hh|⟨hh,hk⟩) <;> first|contradiction|(simp_all;done)),if_pos (by omega)])|(rw [if_neg (by rintro (hh|⟨hh,hk⟩) <;> first|contradiction|(simp_all;done)),if_neg (by omega)]))))
   exact R.qg O (q.eo O O) O<|R.u 1 O<|R.nil<|R.aB O O<|R.reg O<|R.u 1 O<|R.nil<|R.rv O Tryz.results133 O (iK (by (unfold iI;first|(rw [if_pos (by first|exact .inl ‹_› | exact .inr ⟨by assumption,by assumption⟩)])|(rw [if_neg (by rintro (hh|⟨hh,hk⟩) <;> first|contradiction|(simp_all;done)),if_pos (by omega)])|(rw [if_neg (by rintro (hh|⟨hh,hk⟩) <;> first|contradiction|(simp_all;done)),if_neg (by omega)]))))
  exact R.qg O (q.zd O O h3) O<|R.u 2 O<|R.nil<|R.av O O<|R.reg O<|R.q (q.iface O bm) O<|R.u 1 O<|R.nil<|R.rv O Tryz.results133 O (dr (by decide) (by (unfold iI;first|(rw [if_pos (by first|exact .inl ‹_› | exact .inr ⟨by assumption,by assumption⟩)])|(rw [if_neg (by rintro (hh|⟨hh,hk⟩) <;> first|contradiction|(simp_all;done)),if_pos (by omega)])|(rw [if_neg (by rintro (hh|⟨hh,hk⟩) <;> first|contradiction|(simp_all;done)),if_neg (by omega)]))))
 rw [h2]
 refine R.u 5 O<|R.nil<|R.aB O O<|R.reg O<|R.q (q.aO O bI O) O<|R.q (q.ld 0 O O bF O) O<|R.q (q.iA O Tryz.underlying9) O<|?_
 by_cases h6:8<c.Key.size
 .
  exact R.q (q.eL O O) O<|R.u 6 O<|R.nil<|R.av O O<|R.reg O<|R.q (q.iface O bm) O<|R.u 1 O<|R.nil<|R.rv O Tryz.results133 O (dr (by decide) (by (unfold iI;first|(rw [if_pos (by first|exact .inl ‹_› | exact .inr ⟨by assumption,by assumption⟩)])|(rw [if_neg (by rintro (hh|⟨hh,hk⟩) <;> first|contradiction|(simp_all;done)),if_pos (by omega)])|(rw [if_neg (by rintro (hh|⟨hh,hk⟩) <;> first|contradiction|(simp_all;done)),if_neg (by omega)]))))
 refine R.q (q.eo O O) O<|R.u 1 O<|R.qg O (q.aO O cY O) O<|R.qg O (q.ld 0 O O bF O) O<|R.qg O (q.iA O Tryz.underlying9) O<|?_
 by_cases h7:24<c.Val.size
 .
  exact R.qg O (q.eL O O) O<|R.u 1 O<|R.nil<|R.av O O<|R.reg O<|R.q (q.iface O bm) O<|R.u 1 O<|R.nil<|R.rv O Tryz.results133 O (dr (by decide) (by (unfold iI;first|(rw [if_pos (by first|exact .inl ‹_› | exact .inr ⟨by assumption,by assumption⟩)])|(rw [if_neg (by rintro (hh|⟨hh,hk⟩) <;> first|contradiction|(simp_all;done)),if_pos (by omega)])|(rw [if_neg (by rintro (hh|⟨hh,hk⟩) <;> first|contradiction|(simp_all;done)),if_neg (by omega)]))))
 exact R.qg O (q.eo O O) O<|R.u 1 O<|R.nil<|R.aB O O<|R.reg O<|R.u 1 O<|R.nil<|R.rv O Tryz.results133 O (iK (by (unfold iI;first|(rw [if_pos (by first|exact .inl ‹_› | exact .inr ⟨by assumption,by assumption⟩)])|(rw [if_neg (by rintro (hh|⟨hh,hk⟩) <;> first|contradiction|(simp_all;done)),if_pos (by omega)])|(rw [if_neg (by rintro (hh|⟨hh,hk⟩) <;> first|contradiction|(simp_all;done)),if_neg (by omega)]))))
theorem Ba (c:Change)(w:World):Calls Tryz.prog 201 #[.agg #[.string c.Key,.string c.Val,.bool c.Gone]] w fun e w'=>e = .returned (.tuple #[.string (kb c).1,da (kb c).2])/\Ext w w':=by
 have f0:=br c
 refine R.enter [] [(0,.agg #[.string c.Key,.string c.Val,.bool c.Gone])] Tryz.func201 O O O O<|R.reg O<|R.s O (s.box O O O) fun b1=>?_
 refine R.u 2 O<|R.nil<|R.reg O<|R.q (q.dh 0 O O aY) O<|R.c (q.call tU O O (fun w hw=>(jx c w ))) O<|R.u 1 O<|R.nil ?_
 refine R.reg O<|R.u 1 O<|?_
 by_cases h1:iI c=0
 .
  obtain ⟨z1,z2,z3,z4⟩:=g9 h1
  refine R.q (q.dx O O Tryz.underlying38) O<|R.nil<|R.aB O O<|R.reg O<|R.u 1 O<|R.nil<|R.reg O<|R.q (q.aO O gN O) O<|R.q (q.ld 0 O O iW O) O<|R.nil<|R.cond O O (fun h2=>?_) (fun h2=>?_)
  .
   refine R.reg O<|R.u 1 O<|R.nil<|R.reg O<|R.u 1 O<|R.q (q.aO O bI O) O<|R.q (q.ld 0 O O bF O) O<|R.q (q.iA O Tryz.underlying9) O<|R.q (q.nq (r:=((c.Key.size:Nat):Int)) O (by rw [Tryz.underlying3];rfl) Tryz.underlying5 (wt (by omega))) O<|R.s O (s.bs (l:=([(1:UInt8),(UInt8.ofNat c.Key.size)]:List UInt8)) aR ey O O O O O (cp O (cp (dJ (by omega)) fV)) O) fun b2=>?_
   exact R.q (q.kg (bC 0 O) O aR Tryz.underlying5 Tryz.underlying9) O<|R.q (q.aO O bI O) O<|R.q (q.ld 1 O O bF O) O<|R.q (q.cat O O (by first|omega|(simp only [ByteArray.size_append,aI,List.length_cons,List.length_nil];omega))) O<|R.q (q.aO O cY O) O<|R.q (q.ld 1 O O bF O) O<|R.q (q.cat O O (by first|omega|(simp only [ByteArray.size_append,aI,List.length_cons,List.length_nil];omega))) O<|R.u 2 O<|R.nil<|R.FX O Tryz.results201 O O (rS (by (unfold kb;first|(rw [if_neg (by omega)];done)|(rw [if_neg (by omega)];omega)|(rw [if_pos (by omega)];done)|(rw [if_pos (by omega),show c.Gone=true from by assumption];rfl)|(rw [if_pos (by omega),show c.Gone=false from by assumption];rfl)))) (iK (by (unfold kb;first|(rw [if_neg (by omega)];done)|(rw [if_neg (by omega)];omega)|(rw [if_pos (by omega)];done)|(rw [if_pos (by omega),show c.Gone=true from by assumption];rfl)|(rw [if_pos (by omega),show c.Gone=false from by assumption];rfl))))
  refine R.reg O<|R.u 1 O<|R.q (q.aO O bI O) O<|R.q (q.ld 0 O O bF O) O<|R.q (q.iA O Tryz.underlying9) O<|R.q (q.nq (r:=((c.Key.size:Nat):Int)) O (by rw [Tryz.underlying3];rfl) Tryz.underlying5 (wt (by omega))) O<|R.s O (s.bs (l:=([(0:UInt8),(UInt8.ofNat c.Key.size)]:List UInt8)) aR ey O O O O O (cp O (cp (dJ (by omega)) fV)) O) fun b3=>?_
  exact R.q (q.kg (bC 0 O) O aR Tryz.underlying5 Tryz.underlying9) O<|R.q (q.aO O bI O) O<|R.q (q.ld 1 O O bF O) O<|R.q (q.cat O O (by first|omega|(simp only [ByteArray.size_append,aI,List.length_cons,List.length_nil];omega))) O<|R.q (q.aO O cY O) O<|R.q (q.ld 1 O O bF O) O<|R.q (q.cat O O (by first|omega|(simp only [ByteArray.size_append,aI,List.length_cons,List.length_nil];omega))) O<|R.u 2 O<|R.nil<|R.FX O Tryz.results201 O O (rS (by (unfold kb;first|(rw [if_neg (by omega)];done)|(rw [if_neg (by omega)];omega)|(rw [if_pos (by omega)];done)|(rw [if_pos (by omega),show c.Gone=true from by assumption];rfl)|(rw [if_pos (by omega),show c.Gone=false from by assumption];rfl)))) (iK (by (unfold kb;first|(rw [if_neg (by omega)];done)|(rw [if_neg (by omega)];omega)|(rw [if_pos (by omega)];done)|(rw [if_pos (by omega),show c.Gone=true from by assumption];rfl)|(rw [if_pos (by omega),show c.Gone=false from by assumption];rfl))))
 exact R.q (q.d9 O O Tryz.underlying38) O<|R.nil<|R.av O O<|R.reg O<|R.u 3 O<|R.nil<|R.FX O Tryz.results201 O O (rS (by (unfold kb;first|(rw [if_neg (by omega)];done)|(rw [if_neg (by omega)];omega)|(rw [if_pos (by omega)];done)|(rw [if_pos (by omega),show c.Gone=true from by assumption];rfl)|(rw [if_pos (by omega),show c.Gone=false from by assumption];rfl)))) (rE (by (unfold kb;first|(rw [if_neg (by omega)];done)|(rw [if_neg (by omega)];omega)|(rw [if_pos (by omega)];done)|(rw [if_pos (by omega),show c.Gone=true from by assumption];rfl)|(rw [if_pos (by omega),show c.Gone=false from by assumption];rfl))))
theorem gG {s:ByteArray}(h:s.size<2):rZ s=(c0,4):=by unfold rZ;rw [if_pos (.inl h)]
theorem gH {s:ByteArray}{y:UInt8}(hy:s.data[0]? = some y)(h:1<y.toNat):rZ s=(c0,4):=by unfold rZ;rw [if_pos (.inr (.inl (by rw [aK hy];exact h)))]
theorem gI {s:ByteArray}{y:UInt8}(hy:s.data[1]? = some y)(h:s.size<2+y.toNat):rZ s=(c0,4):=by unfold rZ;rw [if_pos (.inr (.inr (by rw [aK hy];exact h)))]
theorem cj {s:ByteArray}{y z:UInt8}{b:Bool}(hy:s.data[0]? = some y)(hz:s.data[1]? = some z)(h1:¬ s.size<2)(h2:¬ 1<y.toNat)(h3:¬ s.size<2+z.toNat)(hb:b=decide (y.toNat=1)) :
 rZ s=if iI ⟨s.extract 2 (2+z.toNat),s.extract (2+z.toNat) s.size,b⟩=0 then (⟨s.extract 2 (2+z.toNat),s.extract (2+z.toNat) s.size,b⟩,0) else (c0,4):=by
 have e1:=aK hy;have e2:=aK hz
 unfold rZ;rw [if_neg (by rw [e1,e2];omega)];unfold JX;rw [e1,e2,hb]
theorem Bb (sb:ByteArray)(w:World)(hs:sb.size<=1000000):Calls Tryz.prog 143 #[.string sb] w fun e w'=>e = .returned (.tuple #[Change.val (rZ sb).1,da (rZ sb).2])/\Ext w w':=by
 refine R.enter [] [(0,.string sb)] Tryz.func143 O O O O<|R.reg O<|R.s O (s.alloc cI O O) fun b1=>?_
 refine R.u 1 O<|R.nil<|R.reg O<|R.u 1 O<|R.q (q.iA O Tryz.underlying9) O<|?_
 by_cases h1:sb.size<2
 .
  refine R.q (q.dz O O) O<|R.u 14 O<|R.nil<|R.av O O<|R.reg O<|R.q (q.build kM O O) O<|R.q (q.iface O bm) O<|R.s O (s.st 0 _ O O O O (.inl aY) O O O O) fun _=>?_
  exact R.u 1 O<|R.nil<|R.Ci O Tryz.results143 (RV.cell 0 O O aY) (RV.tmp O) (congrArg Change.val (show (⟨⟨#[]⟩,⟨#[]⟩,false⟩:Change)=(rZ sb).1 from by (first|(rw [gG (by omega)];first|done|rfl)|(rw [gH hy1 (by omega)];first|done|rfl)|(rw [gI hy2 (by omega)];first|done|rfl)|(have f1:=br (⟨sb.extract 2 (2+y2.toNat),sb.extract (2+y2.toNat) sb.size,true⟩:Change);rw [cj (b:=true) hy1 hy2 (by omega) (by omega) (by omega) (decide_eq_true (by omega)).symm,if_pos (by omega)];first|done|rfl)|(have f1:=br (⟨sb.extract 2 (2+y2.toNat),sb.extract (2+y2.toNat) sb.size,false⟩:Change);rw [cj (b:=false) hy1 hy2 (by omega) (by omega) (by omega) (decide_eq_false (by omega)).symm,if_pos (by omega)];first|done|rfl)|(have f1:=br (⟨sb.extract 2 (2+y2.toNat),sb.extract (2+y2.toNat) sb.size,true⟩:Change);rw [cj (b:=true) hy1 hy2 (by omega) (by omega) (by omega) (decide_eq_true (by omega)).symm,if_neg (by omega)];first|done|rfl)|(have f1:=br (⟨sb.extract 2 (2+y2.toNat),sb.extract (2+y2.toNat) sb.size,false⟩:Change);rw [cj (b:=false) hy1 hy2 (by omega) (by omega) (by omega) (decide_eq_false (by omega)).symm,if_neg (by omega)];first|done|rfl)))) (dr (by decide) (by (first|(rw [gG (by omega)];first|done|rfl)|(rw [gH hy1 (by omega)];first|done|rfl)|(rw [gI hy2 (by omega)];first|done|rfl)|(have f1:=br (⟨sb.extract 2 (2+y2.toNat),sb.extract (2+y2.toNat) sb.size,true⟩:Change);rw [cj (b:=true) hy1 hy2 (by omega) (by omega) (by omega) (decide_eq_true (by omega)).symm,if_pos (by omega)];first|done|rfl)|(have f1:=br (⟨sb.extract 2 (2+y2.toNat),sb.extract (2+y2.toNat) sb.size,false⟩:Change);rw [cj (b:=false) hy1 hy2 (by omega) (by omega) (by omega) (decide_eq_false (by omega)).symm,if_pos (by omega)];first|done|rfl)|(have f1:=br (⟨sb.extract 2 (2+y2.toNat),sb.extract (2+y2.toNat) sb.size,true⟩:Change);rw [cj (b:=true) hy1 hy2 (by omega) (by omega) (by omega) (decide_eq_true (by omega)).symm,if_neg (by omega)];first|done|rfl)|(have f1:=br (⟨sb.extract 2 (2+y2.toNat),sb.extract (2+y2.toNat) sb.size,false⟩:Change);rw [cj (b:=false) hy1 hy2 (by omega) (by omega) (by omega) (decide_eq_false (by omega)).symm,if_neg (by omega)];first|done|rfl))))
 refine R.q (q.cW O O) O<|R.u 2 O<|?_
 obtain ⟨y1,hy1⟩:∃z,sb.data[0]? = some z:=⟨_,Array.getElem?_eq_getElem (show 0<sb.size from by omega)⟩
 have Sr:=y1.toNat_lt
 refine R.qg O (q.iL (i:=0) O O Tryz.underlying9 O hy1) O<|?_
 by_cases h2:1<y1.toNat
 .
  refine R.qg O (q.eL O O) O<|R.u 10 O<|R.nil<|R.av O O<|R.reg O<|R.q (q.build kM O O) O<|R.q (q.iface O bm) O<|R.s O (s.st 0 _ O O O O (.inl aY) O O O O) fun _=>?_
  exact R.u 1 O<|R.nil<|R.Ci O Tryz.results143 (RV.cell 0 O O aY) (RV.tmp O) (congrArg Change.val (show (⟨⟨#[]⟩,⟨#[]⟩,false⟩:Change)=(rZ sb).1 from by (first|(rw [gG (by omega)];first|done|rfl)|(rw [gH hy1 (by omega)];first|done|rfl)|(rw [gI hy2 (by omega)];first|done|rfl)|(have f1:=br (⟨sb.extract 2 (2+y2.toNat),sb.extract (2+y2.toNat) sb.size,true⟩:Change);rw [cj (b:=true) hy1 hy2 (by omega) (by omega) (by omega) (decide_eq_true (by omega)).symm,if_pos (by omega)];first|done|rfl)|(have f1:=br (⟨sb.extract 2 (2+y2.toNat),sb.extract (2+y2.toNat) sb.size,false⟩:Change);rw [cj (b:=false) hy1 hy2 (by omega) (by omega) (by omega) (decide_eq_false (by omega)).symm,if_pos (by omega)];first|done|rfl)|(have f1:=br (⟨sb.extract 2 (2+y2.toNat),sb.extract (2+y2.toNat) sb.size,true⟩:Change);rw [cj (b:=true) hy1 hy2 (by omega) (by omega) (by omega) (decide_eq_true (by omega)).symm,if_neg (by omega)];first|done|rfl)|(have f1:=br (⟨sb.extract 2 (2+y2.toNat),sb.extract (2+y2.toNat) sb.size,false⟩:Change);rw [cj (b:=false) hy1 hy2 (by omega) (by omega) (by omega) (decide_eq_false (by omega)).symm,if_neg (by omega)];first|done|rfl)))) (dr (by decide) (by (first|(rw [gG (by omega)];first|done|rfl)|(rw [gH hy1 (by omega)];first|done|rfl)|(rw [gI hy2 (by omega)];first|done|rfl)|(have f1:=br (⟨sb.extract 2 (2+y2.toNat),sb.extract (2+y2.toNat) sb.size,true⟩:Change);rw [cj (b:=true) hy1 hy2 (by omega) (by omega) (by omega) (decide_eq_true (by omega)).symm,if_pos (by omega)];first|done|rfl)|(have f1:=br (⟨sb.extract 2 (2+y2.toNat),sb.extract (2+y2.toNat) sb.size,false⟩:Change);rw [cj (b:=false) hy1 hy2 (by omega) (by omega) (by omega) (decide_eq_false (by omega)).symm,if_pos (by omega)];first|done|rfl)|(have f1:=br (⟨sb.extract 2 (2+y2.toNat),sb.extract (2+y2.toNat) sb.size,true⟩:Change);rw [cj (b:=true) hy1 hy2 (by omega) (by omega) (by omega) (decide_eq_true (by omega)).symm,if_neg (by omega)];first|done|rfl)|(have f1:=br (⟨sb.extract 2 (2+y2.toNat),sb.extract (2+y2.toNat) sb.size,false⟩:Change);rw [cj (b:=false) hy1 hy2 (by omega) (by omega) (by omega) (decide_eq_false (by omega)).symm,if_neg (by omega)];first|done|rfl))))
 refine R.qg O (q.eo O O) O<|R.u 3 O<|?_
 obtain ⟨y2,hy2⟩:∃z,sb.data[1]? = some z:=⟨_,Array.getElem?_eq_getElem (show 1<sb.size from by omega)⟩
 have Ss:=y2.toNat_lt
 refine R.qg O (q.iL (i:=1) O O Tryz.underlying9 O hy2) O<|R.qg O (q.nq (r:=((y2.toNat:Nat):Int)) O (by rw [Tryz.underlying5];rfl) Tryz.underlying3 (wr (by omega))) O<|R.qg O (q.bB (r:=((2+y2.toNat:Nat):Int)) O O) O<|R.u 1 O<|R.qg O (q.iA O Tryz.underlying9) O<|?_
 by_cases h3:sb.size<(2+y2.toNat)
 .
  refine R.qg O (q.eL O O) O<|R.u 1 O<|R.nil<|R.av O O<|R.reg O<|R.q (q.build kM O O) O<|R.q (q.iface O bm) O<|R.s O (s.st 0 _ O O O O (.inl aY) O O O O) fun _=>?_
  exact R.u 1 O<|R.nil<|R.Ci O Tryz.results143 (RV.cell 0 O O aY) (RV.tmp O) (congrArg Change.val (show (⟨⟨#[]⟩,⟨#[]⟩,false⟩:Change)=(rZ sb).1 from by (first|(rw [gG (by omega)];first|done|rfl)|(rw [gH hy1 (by omega)];first|done|rfl)|(rw [gI hy2 (by omega)];first|done|rfl)|(have f1:=br (⟨sb.extract 2 (2+y2.toNat),sb.extract (2+y2.toNat) sb.size,true⟩:Change);rw [cj (b:=true) hy1 hy2 (by omega) (by omega) (by omega) (decide_eq_true (by omega)).symm,if_pos (by omega)];first|done|rfl)|(have f1:=br (⟨sb.extract 2 (2+y2.toNat),sb.extract (2+y2.toNat) sb.size,false⟩:Change);rw [cj (b:=false) hy1 hy2 (by omega) (by omega) (by omega) (decide_eq_false (by omega)).symm,if_pos (by omega)];first|done|rfl)|(have f1:=br (⟨sb.extract 2 (2+y2.toNat),sb.extract (2+y2.toNat) sb.size,true⟩:Change);rw [cj (b:=true) hy1 hy2 (by omega) (by omega) (by omega) (decide_eq_true (by omega)).symm,if_neg (by omega)];first|done|rfl)|(have f1:=br (⟨sb.extract 2 (2+y2.toNat),sb.extract (2+y2.toNat) sb.size,false⟩:Change);rw [cj (b:=false) hy1 hy2 (by omega) (by omega) (by omega) (decide_eq_false (by omega)).symm,if_neg (by omega)];first|done|rfl)))) (dr (by decide) (by (first|(rw [gG (by omega)];first|done|rfl)|(rw [gH hy1 (by omega)];first|done|rfl)|(rw [gI hy2 (by omega)];first|done|rfl)|(have f1:=br (⟨sb.extract 2 (2+y2.toNat),sb.extract (2+y2.toNat) sb.size,true⟩:Change);rw [cj (b:=true) hy1 hy2 (by omega) (by omega) (by omega) (decide_eq_true (by omega)).symm,if_pos (by omega)];first|done|rfl)|(have f1:=br (⟨sb.extract 2 (2+y2.toNat),sb.extract (2+y2.toNat) sb.size,false⟩:Change);rw [cj (b:=false) hy1 hy2 (by omega) (by omega) (by omega) (decide_eq_false (by omega)).symm,if_pos (by omega)];first|done|rfl)|(have f1:=br (⟨sb.extract 2 (2+y2.toNat),sb.extract (2+y2.toNat) sb.size,true⟩:Change);rw [cj (b:=true) hy1 hy2 (by omega) (by omega) (by omega) (decide_eq_true (by omega)).symm,if_neg (by omega)];first|done|rfl)|(have f1:=br (⟨sb.extract 2 (2+y2.toNat),sb.extract (2+y2.toNat) sb.size,false⟩:Change);rw [cj (b:=false) hy1 hy2 (by omega) (by omega) (by omega) (decide_eq_false (by omega)).symm,if_neg (by omega)];first|done|rfl))))
 refine R.qg O (q.eo O O) O<|R.u 1 O<|R.nil<|R.aB O O<|R.reg O<|R.u 1 O<|R.q (q.iL (i:=1) O O Tryz.underlying9 O hy2) O<|R.q (q.nq (r:=((y2.toNat:Nat):Int)) O (by rw [Tryz.underlying5];rfl) Tryz.underlying3 (wr (by omega))) O<|R.q (q.bB (r:=((2+y2.toNat:Nat):Int)) O O) O<|R.u 1 O<|R.nil ?_
 by_cases h4:y1.toNat=1
 .
  refine R.fP (fuel:=12) [0] O O mixed O<|D.q (i:=0) O (aD [0] [] O) O (q.mv O) O<|D.q (i:=1) O (aD [0] [] O) O (q.mv O) O<|D.q (i:=2) O (aD [0] [] O) O (q.Cr (i:=2) (j:=(2+y2.toNat)) O O O Tryz.underlying9 O O (by omega) (by omega)) O<|D.q (i:=3) O (aD [0] [] O) O (q.mv O) O<|D.q (i:=4) O (aD [0] [] O) O (q.mv O) O<|D.q (i:=5) O (aD [0] [] O) O (q.Ct (i:=(2+y2.toNat)) O O Tryz.underlying9 O (by omega)) O<|D.q (i:=6) O (aD [0] [] O) O (q.mv O) O<|D.q (i:=7) O (aD [0] [] O) O (q.iL (i:=0) O O Tryz.underlying9 O hy1) O<|D.q (i:=8) O (aD [0] [] O) O (q.fI O O) O<|D.q (i:=9) O (aD [0] [] O) O (q.build kM O O) O<|D.one (i:=10) O<|Do.s (s.alloc cI O O) (fun _=>(aD [1] [] O)) O fun b2=>?_
  refine D.one (i:=11) O<|Do.s (s.st 0 _ O O O O (.inl aY) O O O O) (fun _=>(aD [1] [] O)) O fun _=>?_
  refine D.done<|R.reg O<|R.q (q.dh 0 O O aY) O<|R.c (q.call tU O O (fun w hw=>(jx (⟨(sb.extract 2 (2+y2.toNat)),(sb.extract (2+y2.toNat) sb.size),true⟩:Change) w ))) O<|?_
  by_cases h5:iI (⟨(sb.extract 2 (2+y2.toNat)),(sb.extract (2+y2.toNat) sb.size),true⟩:Change)=0
  .
   refine R.q (q.dx O O Tryz.underlying38) O<|R.nil<|R.aB O O<|R.reg O<|R.q (q.dh 0 O O aY) O<|R.s O (s.st 1 _ O O O O (.inl aY) O O O O) fun _=>?_
   exact R.u 1 O<|R.nil<|R.Ci O Tryz.results143 (RV.cell 1 O O aY) (RV.tmp O) (congrArg Change.val (show (⟨(sb.extract 2 (2+y2.toNat)),(sb.extract (2+y2.toNat) sb.size),true⟩:Change)=(rZ sb).1 from by (first|(rw [gG (by omega)];first|done|rfl)|(rw [gH hy1 (by omega)];first|done|rfl)|(rw [gI hy2 (by omega)];first|done|rfl)|(have f1:=br (⟨sb.extract 2 (2+y2.toNat),sb.extract (2+y2.toNat) sb.size,true⟩:Change);rw [cj (b:=true) hy1 hy2 (by omega) (by omega) (by omega) (decide_eq_true (by omega)).symm,if_pos (by omega)];first|done|rfl)|(have f1:=br (⟨sb.extract 2 (2+y2.toNat),sb.extract (2+y2.toNat) sb.size,false⟩:Change);rw [cj (b:=false) hy1 hy2 (by omega) (by omega) (by omega) (decide_eq_false (by omega)).symm,if_pos (by omega)];first|done|rfl)|(have f1:=br (⟨sb.extract 2 (2+y2.toNat),sb.extract (2+y2.toNat) sb.size,true⟩:Change);rw [cj (b:=true) hy1 hy2 (by omega) (by omega) (by omega) (decide_eq_true (by omega)).symm,if_neg (by omega)];first|done|rfl)|(have f1:=br (⟨sb.extract 2 (2+y2.toNat),sb.extract (2+y2.toNat) sb.size,false⟩:Change);rw [cj (b:=false) hy1 hy2 (by omega) (by omega) (by omega) (decide_eq_false (by omega)).symm,if_neg (by omega)];first|done|rfl)))) (iK (by (first|(rw [gG (by omega)];first|done|rfl)|(rw [gH hy1 (by omega)];first|done|rfl)|(rw [gI hy2 (by omega)];first|done|rfl)|(have f1:=br (⟨sb.extract 2 (2+y2.toNat),sb.extract (2+y2.toNat) sb.size,true⟩:Change);rw [cj (b:=true) hy1 hy2 (by omega) (by omega) (by omega) (decide_eq_true (by omega)).symm,if_pos (by omega)];first|done|rfl)|(have f1:=br (⟨sb.extract 2 (2+y2.toNat),sb.extract (2+y2.toNat) sb.size,false⟩:Change);rw [cj (b:=false) hy1 hy2 (by omega) (by omega) (by omega) (decide_eq_false (by omega)).symm,if_pos (by omega)];first|done|rfl)|(have f1:=br (⟨sb.extract 2 (2+y2.toNat),sb.extract (2+y2.toNat) sb.size,true⟩:Change);rw [cj (b:=true) hy1 hy2 (by omega) (by omega) (by omega) (decide_eq_true (by omega)).symm,if_neg (by omega)];first|done|rfl)|(have f1:=br (⟨sb.extract 2 (2+y2.toNat),sb.extract (2+y2.toNat) sb.size,false⟩:Change);rw [cj (b:=false) hy1 hy2 (by omega) (by omega) (by omega) (decide_eq_false (by omega)).symm,if_neg (by omega)];first|done|rfl))))
  refine R.q (q.d9 O O Tryz.underlying38) O<|R.nil<|R.av O O<|R.reg O<|R.q (q.build kM O O) O<|R.q (q.iface O bm) O<|R.s O (s.st 1 _ O O O O (.inl aY) O O O O) fun _=>?_
  exact R.u 1 O<|R.nil<|R.Ci O Tryz.results143 (RV.cell 1 O O aY) (RV.tmp O) (congrArg Change.val (show (⟨⟨#[]⟩,⟨#[]⟩,false⟩:Change)=(rZ sb).1 from by (first|(rw [gG (by omega)];first|done|rfl)|(rw [gH hy1 (by omega)];first|done|rfl)|(rw [gI hy2 (by omega)];first|done|rfl)|(have f1:=br (⟨sb.extract 2 (2+y2.toNat),sb.extract (2+y2.toNat) sb.size,true⟩:Change);rw [cj (b:=true) hy1 hy2 (by omega) (by omega) (by omega) (decide_eq_true (by omega)).symm,if_pos (by omega)];first|done|rfl)|(have f1:=br (⟨sb.extract 2 (2+y2.toNat),sb.extract (2+y2.toNat) sb.size,false⟩:Change);rw [cj (b:=false) hy1 hy2 (by omega) (by omega) (by omega) (decide_eq_false (by omega)).symm,if_pos (by omega)];first|done|rfl)|(have f1:=br (⟨sb.extract 2 (2+y2.toNat),sb.extract (2+y2.toNat) sb.size,true⟩:Change);rw [cj (b:=true) hy1 hy2 (by omega) (by omega) (by omega) (decide_eq_true (by omega)).symm,if_neg (by omega)];first|done|rfl)|(have f1:=br (⟨sb.extract 2 (2+y2.toNat),sb.extract (2+y2.toNat) sb.size,false⟩:Change);rw [cj (b:=false) hy1 hy2 (by omega) (by omega) (by omega) (decide_eq_false (by omega)).symm,if_neg (by omega)];first|done|rfl)))) (dr (by decide) (by (first|(rw [gG (by omega)];first|done|rfl)|(rw [gH hy1 (by omega)];first|done|rfl)|(rw [gI hy2 (by omega)];first|done|rfl)|(have f1:=br (⟨sb.extract 2 (2+y2.toNat),sb.extract (2+y2.toNat) sb.size,true⟩:Change);rw [cj (b:=true) hy1 hy2 (by omega) (by omega) (by omega) (decide_eq_true (by omega)).symm,if_pos (by omega)];first|done|rfl)|(have f1:=br (⟨sb.extract 2 (2+y2.toNat),sb.extract (2+y2.toNat) sb.size,false⟩:Change);rw [cj (b:=false) hy1 hy2 (by omega) (by omega) (by omega) (decide_eq_false (by omega)).symm,if_pos (by omega)];first|done|rfl)|(have f1:=br (⟨sb.extract 2 (2+y2.toNat),sb.extract (2+y2.toNat) sb.size,true⟩:Change);rw [cj (b:=true) hy1 hy2 (by omega) (by omega) (by omega) (decide_eq_true (by omega)).symm,if_neg (by omega)];first|done|rfl)|(have f1:=br (⟨sb.extract 2 (2+y2.toNat),sb.extract (2+y2.toNat) sb.size,false⟩:Change);rw [cj (b:=false) hy1 hy2 (by omega) (by omega) (by omega) (decide_eq_false (by omega)).symm,if_neg (by omega)];first|done|rfl))))
 refine R.fP (fuel:=12) [0] O O mixed O<|D.q (i:=0) O (aD [0] [] O) O (q.mv O) O<|D.q (i:=1) O (aD [0] [] O) O (q.mv O) O<|D.q (i:=2) O (aD [0] [] O) O (q.Cr (i:=2) (j:=(2+y2.toNat)) O O O Tryz.underlying9 O O (by omega) (by omega)) O<|D.q (i:=3) O (aD [0] [] O) O (q.mv O) O<|D.q (i:=4) O (aD [0] [] O) O (q.mv O) O<|D.q (i:=5) O (aD [0] [] O) O (q.Ct (i:=(2+y2.toNat)) O O Tryz.underlying9 O (by omega)) O<|D.q (i:=6) O (aD [0] [] O) O (q.mv O) O<|D.q (i:=7) O (aD [0] [] O) O (q.iL (i:=0) O O Tryz.underlying9 O hy1) O<|D.q (i:=8) O (aD [0] [] O) O (q.e9 O O) O<|D.q (i:=9) O (aD [0] [] O) O (q.build kM O O) O<|D.one (i:=10) O<|Do.s (s.alloc cI O O) (fun _=>(aD [1] [] O)) O fun b3=>?_
 refine D.one (i:=11) O<|Do.s (s.st 0 _ O O O O (.inl aY) O O O O) (fun _=>(aD [1] [] O)) O fun _=>?_
 refine D.done<|R.reg O<|R.q (q.dh 0 O O aY) O<|R.c (q.call tU O O (fun w hw=>(jx (⟨(sb.extract 2 (2+y2.toNat)),(sb.extract (2+y2.toNat) sb.size),false⟩:Change) w ))) O<|?_
 by_cases h6:iI (⟨(sb.extract 2 (2+y2.toNat)),(sb.extract (2+y2.toNat) sb.size),false⟩:Change)=0
 .
  refine R.q (q.dx O O Tryz.underlying38) O<|R.nil<|R.aB O O<|R.reg O<|R.q (q.dh 0 O O aY) O<|R.s O (s.st 1 _ O O O O (.inl aY) O O O O) fun _=>?_
  exact R.u 1 O<|R.nil<|R.Ci O Tryz.results143 (RV.cell 1 O O aY) (RV.tmp O) (congrArg Change.val (show (⟨(sb.extract 2 (2+y2.toNat)),(sb.extract (2+y2.toNat) sb.size),false⟩:Change)=(rZ sb).1 from by (first|(rw [gG (by omega)];first|done|rfl)|(rw [gH hy1 (by omega)];first|done|rfl)|(rw [gI hy2 (by omega)];first|done|rfl)|(have f1:=br (⟨sb.extract 2 (2+y2.toNat),sb.extract (2+y2.toNat) sb.size,true⟩:Change);rw [cj (b:=true) hy1 hy2 (by omega) (by omega) (by omega) (decide_eq_true (by omega)).symm,if_pos (by omega)];first|done|rfl)|(have f1:=br (⟨sb.extract 2 (2+y2.toNat),sb.extract (2+y2.toNat) sb.size,false⟩:Change);rw [cj (b:=false) hy1 hy2 (by omega) (by omega) (by omega) (decide_eq_false (by omega)).symm,if_pos (by omega)];first|done|rfl)|(have f1:=br (⟨sb.extract 2 (2+y2.toNat),sb.extract (2+y2.toNat) sb.size,true⟩:Change);rw [cj (b:=true) hy1 hy2 (by omega) (by omega) (by omega) (decide_eq_true (by omega)).symm,if_neg (by omega)];first|done|rfl)|(have f1:=br (⟨sb.extract 2 (2+y2.toNat),sb.extract (2+y2.toNat) sb.size,false⟩:Change);rw [cj (b:=false) hy1 hy2 (by omega) (by omega) (by omega) (decide_eq_false (by omega)).symm,if_neg (by omega)];first|done|rfl)))) (iK (by (first|(rw [gG (by omega)];first|done|rfl)|(rw [gH hy1 (by omega)];first|done|rfl)|(rw [gI hy2 (by omega)];first|done|rfl)|(have f1:=br (⟨sb.extract 2 (2+y2.toNat),sb.extract (2+y2.toNat) sb.size,true⟩:Change);rw [cj (b:=true) hy1 hy2 (by omega) (by omega) (by omega) (decide_eq_true (by omega)).symm,if_pos (by omega)];first|done|rfl)|(have f1:=br (⟨sb.extract 2 (2+y2.toNat),sb.extract (2+y2.toNat) sb.size,false⟩:Change);rw [cj (b:=false) hy1 hy2 (by omega) (by omega) (by omega) (decide_eq_false (by omega)).symm,if_pos (by omega)];first|done|rfl)|(have f1:=br (⟨sb.extract 2 (2+y2.toNat),sb.extract (2+y2.toNat) sb.size,true⟩:Change);rw [cj (b:=true) hy1 hy2 (by omega) (by omega) (by omega) (decide_eq_true (by omega)).symm,if_neg (by omega)];first|done|rfl)|(have f1:=br (⟨sb.extract 2 (2+y2.toNat),sb.extract (2+y2.toNat) sb.size,false⟩:Change);rw [cj (b:=false) hy1 hy2 (by omega) (by omega) (by omega) (decide_eq_false (by omega)).symm,if_neg (by omega)];first|done|rfl))))
 refine R.q (q.d9 O O Tryz.underlying38) O<|R.nil<|R.av O O<|R.reg O<|R.q (q.build kM O O) O<|R.q (q.iface O bm) O<|R.s O (s.st 1 _ O O O O (.inl aY) O O O O) fun _=>?_
 exact R.u 1 O<|R.nil<|R.Ci O Tryz.results143 (RV.cell 1 O O aY) (RV.tmp O) (congrArg Change.val (show (⟨⟨#[]⟩,⟨#[]⟩,false⟩:Change)=(rZ sb).1 from by (first|(rw [gG (by omega)];first|done|rfl)|(rw [gH hy1 (by omega)];first|done|rfl)|(rw [gI hy2 (by omega)];first|done|rfl)|(have f1:=br (⟨sb.extract 2 (2+y2.toNat),sb.extract (2+y2.toNat) sb.size,true⟩:Change);rw [cj (b:=true) hy1 hy2 (by omega) (by omega) (by omega) (decide_eq_true (by omega)).symm,if_pos (by omega)];first|done|rfl)|(have f1:=br (⟨sb.extract 2 (2+y2.toNat),sb.extract (2+y2.toNat) sb.size,false⟩:Change);rw [cj (b:=false) hy1 hy2 (by omega) (by omega) (by omega) (decide_eq_false (by omega)).symm,if_pos (by omega)];first|done|rfl)|(have f1:=br (⟨sb.extract 2 (2+y2.toNat),sb.extract (2+y2.toNat) sb.size,true⟩:Change);rw [cj (b:=true) hy1 hy2 (by omega) (by omega) (by omega) (decide_eq_true (by omega)).symm,if_neg (by omega)];first|done|rfl)|(have f1:=br (⟨sb.extract 2 (2+y2.toNat),sb.extract (2+y2.toNat) sb.size,false⟩:Change);rw [cj (b:=false) hy1 hy2 (by omega) (by omega) (by omega) (decide_eq_false (by omega)).symm,if_neg (by omega)];first|done|rfl)))) (dr (by decide) (by (first|(rw [gG (by omega)];first|done|rfl)|(rw [gH hy1 (by omega)];first|done|rfl)|(rw [gI hy2 (by omega)];first|done|rfl)|(have f1:=br (⟨sb.extract 2 (2+y2.toNat),sb.extract (2+y2.toNat) sb.size,true⟩:Change);rw [cj (b:=true) hy1 hy2 (by omega) (by omega) (by omega) (decide_eq_true (by omega)).symm,if_pos (by omega)];first|done|rfl)|(have f1:=br (⟨sb.extract 2 (2+y2.toNat),sb.extract (2+y2.toNat) sb.size,false⟩:Change);rw [cj (b:=false) hy1 hy2 (by omega) (by omega) (by omega) (decide_eq_false (by omega)).symm,if_pos (by omega)];first|done|rfl)|(have f1:=br (⟨sb.extract 2 (2+y2.toNat),sb.extract (2+y2.toNat) sb.size,true⟩:Change);rw [cj (b:=true) hy1 hy2 (by omega) (by omega) (by omega) (decide_eq_true (by omega)).symm,if_neg (by omega)];first|done|rfl)|(have f1:=br (⟨sb.extract 2 (2+y2.toNat),sb.extract (2+y2.toNat) sb.size,false⟩:Change);rw [cj (b:=false) hy1 hy2 (by omega) (by omega) (by omega) (decide_eq_false (by omega)).symm,if_neg (by omega)];first|done|rfl))))
theorem w9 {α:Type}{f:α->Int}{l:List α}(h:lI f l=true):jG f l<l.length:=by
 obtain ⟨x,hx,_⟩:=CL h
 exact (List.getElem?_eq_some_iff.1 hx).1
theorem oL (xa:Value)(rows:List Change)(bP:Value)(l:List Change)(w:World)(own:List Nat)(H:HN w own [] [ag.ls xa rows,ag.ls bP l])(hl:rows.length+l.length<=100000):RC Tryz.prog 88 #[xa,bP] H (fun z:Value=>z) (fun z=>[ag.row 117 z (bX rows l)]) (fun _=>[]):=by
 have Ub:=H.cq 0 rfl
 have yF:=H.cq 1 rfl
 refine R.bD [(0,xa),(1,bP)] Tryz.func88 O O O O H<|R.reg O<|R.u 1 O<|R.nil<|R.reg O<|R.u 1 O<|R.s O (s.aW [0] [0] _ _ _ O O O Oe O O (fun w own hw H=>pw xa rows w own H (by first|omega|assumption|(simp;done)|(simp;omega))) O) fun z1=>?_
 refine R.u 1 O<|R.nil<|R.reg O<|R.u 1 O<|R.q (q.len' (dy 1 O) O Tryz.underlying34) O<|R.u 1 O<|R.nil<|R.loop (fun g_:Nat×Value×(List Change)=>[(0,g_.2.1),(11,bP),(12,iV (l.length:Int)),(13,iV (g_.1:Int))]) (fun g_=>[ag.row 117 g_.2.1 g_.2.2,ag.held w own]) (fun g_=>[ag.ls xa rows,ag.ls bP l]) (fun g_=>g_.1<=l.length/\g_.2.2=bX rows (l.take g_.1)) (fun g_=>l.length-g_.1) (0,z1,rows) O (by exact ⟨by omega,rfl⟩) (sF O) (ic [0,1] [0,1] O) ?_
 rintro ⟨k,u,rs⟩ ⟨hk,HR⟩
 dsimp only at *
 have hrl:=kU (l.take k) rows;rw [<- HR,List.length_take] at hrl
 refine R.reg O<|?_
 by_cases h1:k<l.length
 .
  refine R.q (q.dz O O) O<|R.nil<|R.av O O<|R.reg O<|?_
  obtain ⟨x1,hx1⟩:∃z,l[k]? = some z:=⟨_,List.getElem?_eq_getElem (by omega)⟩
  refine R.q (q.idx (i:=k) (dy 1 O) O O cd O hx1) O<|R.q (q.eS (ds:=iz x1) (dy 1 O) hx1 O aY O) O<|R.s O (s.alloc cI O O) fun b1=>?_
  refine R.s O (s.st 0 _ O O O O (.inl aY) O O O O) fun _=>?_
  refine R.nil<|R.reg O<|R.u 1 O<|R.q (q.aO O bI O) O<|R.q (q.ld 0 O O bF O) O<|R.c (q.call wH O O (fun w hw=>(gF _ rs x1.Key (fun (x:Change) (k:ByteArray)=>fK k x) _ _ Ps w (hw.row 1 O) (fun W x k hW=>A9 x k W ) (by first|omega|assumption|(simp;done)|(simp;omega))))) O<|R.u 5 O<|R.nil ?_
  refine R.reg O<|R.u 2 O<|?_
  rcases Bool.eq_false_or_eq_true (lI (fun x=>(fun (x:Change) (k:ByteArray)=>fK k x) x x1.Key) rs) with h2|h2
  .
   rw [h2]
   refine R.qg O (q.aO O gN O) O<|R.qg O (q.ld 0 O O iW O) O<|R.u 2 O<|R.nil<|R.cond O O (fun h3=>?_) (fun h3=>?_)
   .
    have hb0:jG (fun x=>(fun (x:Change) (k:ByteArray)=>fK k x) x x1.Key) rs<=rs.length:=p8;have hb1:jG (fun x=>fK x1.Key x) rs<=rs.length:=p8;have UR:jG (fun x=>fK x1.Key x) rs=jG (fun x=>(fun (x:Change) (k:ByteArray)=>fK k x) x x1.Key) rs:=rfl
    have VG:jG (fun x=>(fun (x:Change) (k:ByteArray)=>fK k x) x x1.Key) rs<rs.length:=w9 ‹_›;have VH:jG (fun x=>fK x1.Key x) rs<rs.length:=w9 ‹_›
    refine R.reg O<|R.u 3 O<|R.q (q.bB (r:=((jG (fun x=>(fun (x:Change) (k:ByteArray)=>fK k x) x x1.Key) rs+1:Nat):Int)) O O) O<|R.s O (s.aW [1,0,2] [] _ _ _ O O O Pt O O (fun w own hw H=>by have PY:=t7 u rs (jG (fun x=>(fun (x:Change) (k:ByteArray)=>fK k x) x x1.Key) rs) (jG (fun x=>(fun (x:Change) (k:ByteArray)=>fK k x) x x1.Key) rs+1) w own H (by omega);exact PY) O) fun z2=>?_
    refine R.u 1 O<|R.nil<|R.reg O<|R.q (q.bB (r:=((k+1:Nat):Int)) O O) O<|R.u 1 O<|R.nil<|R.back (k+1,z2,rs.take (jG (fun x=>(fun (x:Change) (k:ByteArray)=>fK k x) x x1.Key) rs)++rs.drop (jG (fun x=>(fun (x:Change) (k:ByteArray)=>fK k x) x x1.Key) rs+1)) O (by (exact ⟨by omega,by rw [oK hx1,<- HR];unfold zB;first|(rw [if_pos (show lI (fK x1.Key) rs=true from by assumption),if_pos (by first|assumption|(simpa using ‹(!x1.Gone)=false›))];done)|(rw [if_pos (show lI (fK x1.Key) rs=true from by assumption),if_neg (by rw [show x1.Gone=false from by first|assumption|(simpa using ‹(!x1.Gone)=true›)];decide)];done)|(rw [if_neg (by rw [show lI (fK x1.Key) rs=false from by assumption];decide),if_pos (by first|assumption|(simpa using ‹(!x1.Gone)=false›))];done)|(rw [if_neg (by rw [show lI (fK x1.Key) rs=false from by assumption];decide),if_neg (by rw [show x1.Gone=false from by first|assumption|(simpa using ‹(!x1.Gone)=true›)];decide)];done)⟩)) (by dsimp only;omega) (sF O) (aD [0,2] [0,1] O)
   refine R.reg O<|R.u 2 O<|R.nil<|R.av O O ?_
   have hb0:jG (fun x=>(fun (x:Change) (k:ByteArray)=>fK k x) x x1.Key) rs<=rs.length:=p8;have hb1:jG (fun x=>fK x1.Key x) rs<=rs.length:=p8;have UR:jG (fun x=>fK x1.Key x) rs=jG (fun x=>(fun (x:Change) (k:ByteArray)=>fK k x) x x1.Key) rs:=rfl
   have VG:jG (fun x=>(fun (x:Change) (k:ByteArray)=>fK k x) x x1.Key) rs<rs.length:=w9 ‹_›;have VH:jG (fun x=>fK x1.Key x) rs<rs.length:=w9 ‹_›
   refine R.reg O<|R.u 2 O<|R.q (q.dh 0 O O aY) O<|?_
   obtain ⟨x2,hx2⟩:∃z,rs[jG (fun x=>(fun (x:Change) (k:ByteArray)=>fK k x) x x1.Key) rs]? = some z:=⟨_,List.getElem?_eq_getElem (by omega)⟩
   refine R.q (q.idx (i:=jG (fun x=>(fun (x:Change) (k:ByteArray)=>fK k x) x x1.Key) rs) (bC 1 O) O O cd O hx2) O<|R.s O (s.Rc (z:=x1) 1 _ O hx2 O O O O (.inl aY) O) fun _=>?_
   refine R.nil<|R.reg O<|R.q (q.bB (r:=((k+1:Nat):Int)) O O) O<|R.u 1 O<|R.nil<|R.back (k+1,u,(rs.set (jG (fun x=>(fun (x:Change) (k:ByteArray)=>fK k x) x x1.Key) rs) x1)) O (by (exact ⟨by omega,by rw [oK hx1,<- HR];unfold zB;first|(rw [if_pos (show lI (fK x1.Key) rs=true from by assumption),if_pos (by first|assumption|(simpa using ‹(!x1.Gone)=false›))];done)|(rw [if_pos (show lI (fK x1.Key) rs=true from by assumption),if_neg (by rw [show x1.Gone=false from by first|assumption|(simpa using ‹(!x1.Gone)=true›)];decide)];done)|(rw [if_neg (by rw [show lI (fK x1.Key) rs=false from by assumption];decide),if_pos (by first|assumption|(simpa using ‹(!x1.Gone)=false›))];done)|(rw [if_neg (by rw [show lI (fK x1.Key) rs=false from by assumption];decide),if_neg (by rw [show x1.Gone=false from by first|assumption|(simpa using ‹(!x1.Gone)=true›)];decide)];done)⟩)) (by dsimp only;omega) (sF O) (aD [1,2] [0,1] O)
  rw [h2]
  refine R.u 4 O<|R.nil<|R.aB O O<|R.reg O<|R.u 2 O<|R.nil<|R.aB O O<|R.reg O<|R.q (q.aO O gN O) O<|R.q (q.ld 0 O O iW O) O<|R.q (q.not O) O<|R.u 1 O<|R.nil<|R.cond O O (fun h4=>?_) (fun h4=>?_)
  .
   have hb0:jG (fun x=>(fun (x:Change) (k:ByteArray)=>fK k x) x x1.Key) rs<=rs.length:=p8;have hb1:jG (fun x=>fK x1.Key x) rs<=rs.length:=p8;have UR:jG (fun x=>fK x1.Key x) rs=jG (fun x=>(fun (x:Change) (k:ByteArray)=>fK k x) x x1.Key) rs:=rfl
   refine R.reg O<|R.u 2 O<|R.q (q.dh 0 O O aY) O<|R.s O (s.bs (l:=([x1]:List Change)) cd cI O O O O O O O) fun b2=>?_
   refine R.s O (s.aW [2,0,1,3] [] _ _ _ O O O Pu O O (fun w own hw H=>by have PY:=t8 u rs (jG (fun x=>(fun (x:Change) (k:ByteArray)=>fK k x) x x1.Key) rs) (.slice (some ⟨b2,0,none⟩) 1 1) ([x1]) w own H (by first|assumption|omega) O (by first|omega|assumption|(simp;done)|(simp;omega));exact PY) O) fun z3=>?_
   refine R.u 1 O<|R.nil<|R.reg O<|R.q (q.bB (r:=((k+1:Nat):Int)) O O) O<|R.u 1 O<|R.nil<|R.back (k+1,z3,rs.take (jG (fun x=>(fun (x:Change) (k:ByteArray)=>fK k x) x x1.Key) rs)++([x1])++rs.drop (jG (fun x=>(fun (x:Change) (k:ByteArray)=>fK k x) x x1.Key) rs)) O (by (exact ⟨by omega,by rw [oK hx1,<- HR];unfold zB;first|(rw [if_pos (show lI (fK x1.Key) rs=true from by assumption),if_pos (by first|assumption|(simpa using ‹(!x1.Gone)=false›))];done)|(rw [if_pos (show lI (fK x1.Key) rs=true from by assumption),if_neg (by rw [show x1.Gone=false from by first|assumption|(simpa using ‹(!x1.Gone)=true›)];decide)];done)|(rw [if_neg (by rw [show lI (fK x1.Key) rs=false from by assumption];decide),if_pos (by first|assumption|(simpa using ‹(!x1.Gone)=false›))];done)|(rw [if_neg (by rw [show lI (fK x1.Key) rs=false from by assumption];decide),if_neg (by rw [show x1.Gone=false from by first|assumption|(simpa using ‹(!x1.Gone)=true›)];decide)];done)⟩)) (by dsimp only;omega) (sF O) (aD [0,2] [0,1] O)
  refine R.reg O<|R.q (q.bB (r:=((k+1:Nat):Int)) O O) O<|R.u 1 O<|R.nil<|R.back (k+1,u,rs) O (by (exact ⟨by omega,by rw [oK hx1,<- HR];unfold zB;first|(rw [if_pos (show lI (fK x1.Key) rs=true from by assumption),if_pos (by first|assumption|(simpa using ‹(!x1.Gone)=false›))];done)|(rw [if_pos (show lI (fK x1.Key) rs=true from by assumption),if_neg (by rw [show x1.Gone=false from by first|assumption|(simpa using ‹(!x1.Gone)=true›)];decide)];done)|(rw [if_neg (by rw [show lI (fK x1.Key) rs=false from by assumption];decide),if_pos (by first|assumption|(simpa using ‹(!x1.Gone)=false›))];done)|(rw [if_neg (by rw [show lI (fK x1.Key) rs=false from by assumption];decide),if_neg (by rw [show x1.Gone=false from by first|assumption|(simpa using ‹(!x1.Gone)=true›)];decide)];done)⟩)) (by dsimp only;omega) (sF O) (aD [1,2] [0,1] O)
 refine R.q (q.cW O O) O<|R.nil<|R.aB O O<|R.reg O<|R.u 2 O<|R.nil ?_
 have hz:bX rows l=rs:=by (rw [HR,List.take_of_length_le (by omega)])
 rw [hz]
 exact R.w1 u [0,1] [] O Tryz.results88 (RV.tmp O) O O O O
end Go.Proofs.YtkbhcbipadkcaaaGreatDoor
