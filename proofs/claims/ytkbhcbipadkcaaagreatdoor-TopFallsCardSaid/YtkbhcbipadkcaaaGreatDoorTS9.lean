import Derived.Test.YtkbhcbipadkcaaaGreatDoorTS8
namespace Go.Proofs.YtkbhcbipadkcaaaGreatDoor
set_option linter.unusedVariables false
set_option linter.unusedSimpArgs false
set_option maxRecDepth 100000
set_option maxHeartbeats 90000000
open Go Go.RowKit
theorem o0 (bT:Value)(l:List Change)(w:World)(own:List Nat)(H:HN w own [] [ag.ls bT l])(hl:l.length<=1000000):RC Tryz.prog 91 #[bT] H (fun z:Value=>z) (fun z=>[ag.row 117 z l]) (fun _=>[]):=by
 have AJ:=H.cq 0 rfl
 refine R.bF [(0,bT)] Tryz.func91 O O O O H<|R.reg O<|R.u 1 O<|R.nil<|R.reg O<|R.u 1 O<|?_
 rcases Bool.eq_false_or_eq_true (pb bT) with h1|h1
 .
  refine R.q (q.G7 (congrArg Value.bool h1) (q.oY (dh 0 O) O O Tryz.underlying34)) O<|R.nil<|R.az O O<|R.reg O<|R.u 1 O<|R.nil<|R.row0 (α:=Change) 117 ?_
  have hz:l=[]:=by (first|rfl|exact (List.nil_append _).symm|exact Sl.pb (H.bO 0 rfl) ‹_›)
  rw [hz]
  exact R.w1 (nS) [0,1] [] O Tryz.results91 (RV.tmp O) O O O O
 refine R.q (q.G7 (congrArg Value.bool h1) (q.oY (dh 0 O) O O Tryz.underlying34)) O<|R.nil<|R.aD O O<|R.reg O<|R.s O (s.bs (l:=([]:List Change)) bW cC O O O O O O O) fun b1=>?_
 refine R.u 1 O<|R.s O (s.app 0 _ O O O (dh 0 O) jt (by simp;omega) (by simp;omega) (fun _=>rfl) O) fun v1=>?_
 refine R.u 1 O<|R.nil ?_
 have hz:l=(([])++l):=by (first|rfl|exact (List.nil_append _).symm|exact Sl.pb (H.bO 0 rfl) ‹_›)
 rw [hz]
 exact R.w1 v1 [0,1] [] O Tryz.results91 (RV.tmp O) O O O O
theorem tP (bT:Value)(l:List Change)(i:Nat)(j:Nat)(w:World)(own:List Nat)(H:HN w own [ag.row 117 bT l] [])(hij:i<=j/\j<=l.length):RC Tryz.prog 148 #[bT,iV (i:Int),iV (j:Int)] H (fun z:Value=>z) (fun z=>[ag.row 117 z (l.take i++l.drop j)]) (fun _=>[]):=by
 have Ht:=H.cap 0 rfl;have AJ:=H.cE 0 rfl
 refine R.bF [(0,bT),(1,iV (i:Int)),(2,iV (j:Int))] Tryz.func148 O O O O H<|R.reg O<|R.u 1 O<|R.nil<|R.reg O<|R.u 4 O<|R.q (q.len' (bD 0 O) O Tryz.underlying34) O<|R.q (q.Er (i:=i) (j:=j) (q':=l.length) (bD 0 O) O O O O bW O O O (by omega) (by omega) (by omega)) O<|R.nil<|R.reg O<|R.u 2 O<|?_
 by_cases h1:i=j
 .
  refine R.q (q.fI O O) O<|R.nil<|R.az O O<|R.reg O<|R.u 2 O<|R.nil ?_
  have hz:l.take i++l.drop j=l:=by (first|rfl|exact pQ (by omega))
  rw [hz]
  exact R.w1 bT [0,1] [] O Tryz.results148 (RV.tmp O) O O O O
 refine R.q (q.eU O O) O<|R.nil<|R.aD O O<|R.reg O<|R.u 1 O<|R.q (q.len' (bD 0 O) O Tryz.underlying34) O<|R.u 1 O<|R.nil<|R.fJ (fuel:=8) [1] O O mixed O<|D.q (i:=0) O (aA [1] [] O) O (q.mv O) O<|D.q (i:=1) O (aA [1] [] O) O (q.mv O) O<|D.q (i:=3) O (aA [1] [] O) O (q.mv O) O<|D.q (i:=4) O (aA [1] [] O) O (q.mv O) O<|D.two (i:=2) (j:=5) O O ?_ ?_
 .
  refine Do.s (s.c (Qt.a (q.kG (i:=i) (bD 0 O) O O Tryz.underlying34 Au O (by first|omega|(simp;omega)))) O) (fun _=>(aA [1] [] O)) O fun _=>?_
  refine D.one (i:=5) O<|Do.s (s.c (Qt.a (q.dA (i:=j) (bD 0 O) O O bW O (by first|omega|(simp;omega)))) O) (fun _=>(aA [1] [] O)) O fun _=>?_
  refine D.one (i:=6) O<|Do.s (s.tE (a:=i) 0 _ O O O (fun w hw=>Sl.from (hw.row 0 O) (by omega)) jt (by omega) (by simp;omega) O O) (fun _=>(aA [1] [] O)) O fun _=>?_
  refine D.q (i:=7) O (aA [1] [] O) O (q.as O) O<|D.done<|R.reg O<|R.u 2 O<|R.q (q.len' (bD 0 O) O Tryz.underlying34) O<|R.u 1 O<|R.q (q.sl2 (i:=(l.take i++(l.drop j)).length) (j:=l.length) (bD 0 O) O O O bW O O (by first|omega|(simp;omega)) (by first|assumption|omega|(simp;omega)|(simp [fe];omega))) O<|R.s O (s.yY (lo:=(l.take i++(l.drop j)).length) (hi:=l.length) (z0:=(⟨⟨#[]⟩,⟨#[]⟩,false⟩:Change)) 0 O O bW cC O (by first|omega|(simp;omega)) (by first|omega|(simp;omega)) (by first|assumption|omega|(simp;omega)|(simp [fe];omega))) fun _=>?_
  refine R.nil<|R.reg O<|R.u 2 O<|R.nil ?_
  have hz:l.take i++l.drop j=(l.take i++(l.drop j)):=by (first|rfl|exact pQ (by omega))
  rw [hz]
  exact R.w1 (kG bT (i+(l.drop j).length)) [0,1] [] O Tryz.results148 (RV.tmp O) O O O O
 refine Do.s (s.c (Qt.a (q.dA (i:=j) (bD 0 O) O O bW O (by first|omega|(simp;omega)))) O) (fun _=>(aA [1] [] O)) O fun _=>?_
 refine D.one (i:=2) O<|Do.s (s.c (Qt.a (q.kG (i:=i) (bD 0 O) O O Tryz.underlying34 Au O (by first|omega|(simp;omega)))) O) (fun _=>(aA [1] [] O)) O fun _=>?_
 refine D.one (i:=6) O<|Do.s (s.tE (a:=i) 0 _ O O O (fun w hw=>Sl.from (hw.row 0 O) (by omega)) jt (by omega) (by simp;omega) O O) (fun _=>(aA [1] [] O)) O fun _=>?_
 refine D.q (i:=7) O (aA [1] [] O) O (q.as O) O<|D.done<|R.reg O<|R.u 2 O<|R.q (q.len' (bD 0 O) O Tryz.underlying34) O<|R.u 1 O<|R.q (q.sl2 (i:=(l.take i++(l.drop j)).length) (j:=l.length) (bD 0 O) O O O bW O O (by first|omega|(simp;omega)) (by first|assumption|omega|(simp;omega)|(simp [fe];omega))) O<|R.s O (s.yY (lo:=(l.take i++(l.drop j)).length) (hi:=l.length) (z0:=(⟨⟨#[]⟩,⟨#[]⟩,false⟩:Change)) 0 O O bW cC O (by first|omega|(simp;omega)) (by first|omega|(simp;omega)) (by first|assumption|omega|(simp;omega)|(simp [fe];omega))) fun _=>?_
 refine R.nil<|R.reg O<|R.u 2 O<|R.nil ?_
 have hz:l.take i++l.drop j=(l.take i++(l.drop j)):=by (first|rfl|exact pQ (by omega))
 rw [hz]
 exact R.w1 (kG bT (i+(l.drop j).length)) [0,1] [] O Tryz.results148 (RV.tmp O) O O O O
theorem tQ (bT:Value)(l:List Change)(i:Nat)(PD:Value)(u:List Change)(w:World)(own:List Nat)(H:HN w own [ag.row 117 bT l,ag.row 117 PD u] [])(hi:i<=l.length)(hu:u.length=1)(hl:l.length<=1000000):RC Tryz.prog 149 #[bT,iV (i:Int),PD] H (fun z:Value=>z) (fun z=>[ag.row 117 z (l.take i++u++l.drop i)]) (fun _=>[]):=by
 have Ht:=H.cap 0 rfl;have AJ:=H.cE 0 rfl
 have VE:=H.cap 1 rfl;have VF:=H.cE 1 rfl
 refine R.bF [(0,bT),(1,iV (i:Int)),(2,PD)] Tryz.func149 O O O O H<|R.reg O<|R.u 1 O<|R.nil<|R.reg O<|R.u 2 O<|R.q (q.dA (i:=i) (bD 0 O) O O bW O (by first|omega|(simp;omega))) O<|R.nil<|R.reg O<|R.u 1 O<|R.q (q.len' (bD 1 O) O Tryz.underlying34) O<|R.u 1 O<|R.nil<|R.reg O<|R.u 1 O<|?_
 by_cases h1:u.length=0
 .
  refine R.q (q.fI O O) O<|R.nil<|R.az O O<|R.reg O<|R.u 2 O<|R.nil ?_
  have hz:l.take i++u++l.drop i=l:=by (first|(exfalso;omega)|exact qy (by omega)|exact nJ hu (by omega) rfl|exact rN hu (by omega))
  rw [hz]
  exact R.w1 bT [0,2] [] O Tryz.results149 (RV.tmp O) O O O O
 refine R.q (q.eU O O) O<|R.nil<|R.aD O O<|R.reg O<|R.u 1 O<|R.q (q.len' (bD 0 O) O Tryz.underlying34) O<|R.u 1 O<|R.nil<|R.reg O<|R.u 2 O<|?_
 by_cases h2:i=l.length
 .
  refine R.q (q.fI O O) O<|R.nil<|R.az O O<|R.reg O<|R.u 2 O<|R.s O (s.app 0 _ O O O (bD 1 O) jt (by first|omega|(simp;done)|(simp;omega)) (by first|omega|(simp;done)|(simp;omega)) (fun _=>rfl) O) fun v1=>?_
  refine R.u 1 O<|R.nil ?_
  have hz:l.take i++u++l.drop i=(l++u):=by (first|(exfalso;omega)|exact qy (by omega)|exact nJ hu (by omega) rfl|exact rN hu (by omega))
  rw [hz]
  exact R.w1 v1 [0,2] [] O Tryz.results149 (RV.tmp O) O O O O
 refine R.q (q.eU O O) O<|R.nil<|R.aD O O<|R.reg O<|R.u 2 O<|R.q (q.bA (r:=((l.length+u.length:Nat):Int)) O O) O<|R.u 1 O<|R.q (q.cap (bD 0 O) O Tryz.underlying34) O<|?_
 by_cases h3:(lz bT)<(l.length+u.length)
 .
  refine R.q (q.eM O O) O<|R.nil<|R.az O O<|R.reg O<|R.u 2 O<|R.q (q.kG (i:=i) (bD 0 O) O O Tryz.underlying34 Au O (by first|omega|(simp;omega))) O<|R.u 2 O<|R.q (q.bA (r:=((l.length+u.length:Nat):Int)) O O) O<|R.u 1 O<|R.q (q.lS (r:=(((l.length+u.length)-i:Nat):Int)) O O) O<|R.s O (s.FY (o:=i) (m:=((l.length+u.length)-i)) (z0:=(⟨⟨#[]⟩,⟨#[]⟩,false⟩:Change)) 0 O O O O jt Tryz.underlying3 cC O (by omega) (by omega) (by omega) (by omega) (by omega) O) fun v2=>?_
  refine R.u 1 O<|R.nil<|R.reg O<|R.u 2 O<|R.q (q.dA (i:=i) (bD 0 O) O O bW O (by first|omega|(simp;omega))) O<|R.u 1 O<|R.s O (s.uz (o:=i) 0 _ O (bD 2 O) O O bW (by first|omega|(simp;done)|(simp;omega)) O O) fun _=>?_
  refine R.nil<|R.fJ (fuel:=9) [1,2,3] O O mixed O<|D.q (i:=0) O (aA [1,2,3] [] O) O (q.mv O) O<|D.q (i:=1) O (aA [1,2,3] [] O) O (q.mv O) O<|D.q (i:=2) O (aA [1,2,3] [] O) O (q.mv O) O<|D.q (i:=3) O (aA [1,2,3] [] O) O (q.bA (r:=((i+u.length:Nat):Int)) O O) O<|D.q (i:=5) O (aA [1,2,3] [] O) O (q.mv O) O<|D.q (i:=6) O (aA [1,2,3] [] O) O (q.mv O) O<|D.q (i:=7) O (aA [1,2,3] [] O) O (q.dA (i:=i) (bD 0 O) O O bW O (by first|omega|(simp;omega))) O<|D.one (i:=4) O<|Do.s (s.c (Qt.a (q.dA (i:=(i+u.length)) (bD 0 O) O O bW O (by first|omega|(simp;omega)))) O) (fun _=>(aA [1,2,3] [] O)) O fun _=>?_
  refine D.one (i:=8) O<|Do.s (s.uz (o:=(i+u.length)) 0 _ O (fun w hw=>Sl.from (hw.row 1 O) (by omega)) O O bW (by first|omega|(simp;done)|(simp;omega)) O O) (fun _=>(aA [1,2,3] [] O)) O fun _=>?_
  refine D.done<|R.reg O<|R.u 2 O<|R.nil ?_
  have hz:l.take i++u++l.drop i=(((l.take i++List.replicate ((l.length+u.length)-i) (⟨⟨#[]⟩,⟨#[]⟩,false⟩:Change)).take i++u++(l.take i++List.replicate ((l.length+u.length)-i) (⟨⟨#[]⟩,⟨#[]⟩,false⟩:Change)).drop (i+u.length)).take (i+u.length)++(l.drop i)++((l.take i++List.replicate ((l.length+u.length)-i) (⟨⟨#[]⟩,⟨#[]⟩,false⟩:Change)).take i++u++(l.take i++List.replicate ((l.length+u.length)-i) (⟨⟨#[]⟩,⟨#[]⟩,false⟩:Change)).drop (i+u.length)).drop ((i+u.length)+(l.drop i).length)):=by (first|(exfalso;omega)|exact qy (by omega)|exact nJ hu (by omega) rfl|exact rN hu (by omega))
  rw [hz]
  exact R.w1 v2 [0,3] [] O Tryz.results149 (RV.tmp O) O O O O
 refine R.q (q.ey O O) O<|R.nil<|R.aD O O<|R.reg O<|R.u 3 O<|R.q (q.bA (r:=((l.length+u.length:Nat):Int)) O O) O<|R.q (q.Rs (i:=(l.length+u.length)) (bD 0 O) O O bW O (by first|omega|assumption)) O<|R.u 1 O<|R.nil<|R.reg O<|R.u 4 O<|R.q (q.bA (r:=((i+u.length:Nat):Int)) O O) O<|R.q (q.nh (i:=(i+u.length)) (bD 0 O) O O bW O (by omega) (by first|assumption|omega|(simp [fe];omega))) O<|R.q (q.UQ (i:=1) (j:=0) (tR:=4) Tryz.func185 O O (by kernel_rfl) (by kernel_rfl) bW O O (by decide) (by omega) (by omega) O O O O) O<|R.u 1 O<|R.nil<|R.az O O<|R.fJ (fuel:=9) [1,2] O O mixed O<|D.q (i:=0) O (aA [1,2] [] O) O (q.mv O) O<|D.q (i:=1) O (aA [1,2] [] O) O (q.mv O) O<|D.q (i:=2) O (aA [1,2] [] O) O (q.mv O) O<|D.q (i:=3) O (aA [1,2] [] O) O (q.bA (r:=((i+u.length:Nat):Int)) O O) O<|D.q (i:=5) O (aA [1,2] [] O) O (q.mv O) O<|D.q (i:=6) O (aA [1,2] [] O) O (q.mv O) O<|D.two (i:=4) (j:=7) O O ?_ ?_
 .
  refine Do.s (s.c (Qt.a (q.nh (i:=(i+u.length)) (bD 0 O) O O bW O (by omega) (by first|assumption|omega|(simp [fe];omega)))) O) (fun _=>(aA [1,2] [] O)) O fun _=>?_
  refine D.one (i:=7) O<|Do.s (s.c (Qt.a (q.nh (i:=i) (bD 0 O) O O bW O (by omega) (by first|assumption|omega|(simp [fe];omega)))) O) (fun _=>(aA [1,2] [] O)) O fun _=>?_
  refine D.one (i:=8) O<|Do.s (s.Ak (o:=i) 0 _ O (by omega) (by omega) (by omega) (by first|assumption|omega) O O bW O O) (fun _=>(aA [1,2] [] O)) O fun _=>?_
  refine D.done<|R.reg O<|R.u 2 O<|R.q (q.dA (i:=i) (bD 0 O) O O bW O (by first|omega|(simp;omega))) O<|R.u 1 O<|R.s O (s.uz (o:=i) 0 _ O (bD 1 O) O O bW (by first|omega|(simp;done)|(simp;omega)) O O) fun _=>?_
  refine R.nil<|R.reg O<|R.u 2 O<|R.nil ?_
  have hz:l.take i++u++l.drop i=((l.take (i+1)++l.drop i).take i++u++(l.take (i+1)++l.drop i).drop (i+u.length)):=by (first|(exfalso;omega)|exact qy (by omega)|exact nJ hu (by omega) rfl|exact rN hu (by omega))
  rw [hz]
  exact R.w1 (kG bT (l.length+u.length)) [0,2] [] O Tryz.results149 (RV.tmp O) O O O O
 refine Do.s (s.c (Qt.a (q.nh (i:=i) (bD 0 O) O O bW O (by omega) (by first|assumption|omega|(simp [fe];omega)))) O) (fun _=>(aA [1,2] [] O)) O fun _=>?_
 refine D.one (i:=4) O<|Do.s (s.c (Qt.a (q.nh (i:=(i+u.length)) (bD 0 O) O O bW O (by omega) (by first|assumption|omega|(simp [fe];omega)))) O) (fun _=>(aA [1,2] [] O)) O fun _=>?_
 refine D.one (i:=8) O<|Do.s (s.Ak (o:=i) 0 _ O (by omega) (by omega) (by omega) (by first|assumption|omega) O O bW O O) (fun _=>(aA [1,2] [] O)) O fun _=>?_
 refine D.done<|R.reg O<|R.u 2 O<|R.q (q.dA (i:=i) (bD 0 O) O O bW O (by first|omega|(simp;omega))) O<|R.u 1 O<|R.s O (s.uz (o:=i) 0 _ O (bD 1 O) O O bW (by first|omega|(simp;done)|(simp;omega)) O O) fun _=>?_
 refine R.nil<|R.reg O<|R.u 2 O<|R.nil ?_
 have hz:l.take i++u++l.drop i=((l.take (i+1)++l.drop i).take i++u++(l.take (i+1)++l.drop i).drop (i+u.length)):=by (first|(exfalso;omega)|exact qy (by omega)|exact nJ hu (by omega) rfl|exact rN hu (by omega))
 rw [hz]
 exact R.w1 (kG bT (l.length+u.length)) [0,2] [] O Tryz.results149 (RV.tmp O) O O O O
theorem pU (a b:ByteArray)(w:World):Calls Tryz.prog 147 #[.string a,.string b] w fun e w'=>e = .returned (.int .i64 (AU a b))/\Ext w w' :=
 (Tryz.strings_Compare a b w).mono fun e w' ⟨h1,h2⟩=>⟨by rw [h1,<- mS,<- mS,Gb],by rw [h2];exact Ext.refl _⟩
theorem AW (x:Change)(k:ByteArray)(w:World):Calls Tryz.prog 146 #[.agg #[.string x.Key,.string x.Val,.bool x.Gone],.string k] w fun e w'=>e = .returned (iV (fK k x))/\Ext w w':=by
 refine R.enter [] [(0,.agg #[.string x.Key,.string x.Val,.bool x.Gone]),(1,.string k)] Tryz.func146 O O O O<|R.reg O<|R.s O (s.box O O O) fun b1=>?_
 refine R.u 1 O<|R.nil<|R.reg O<|R.q (q.aP O bI O) O<|R.q (q.ld 0 O O bG O) O<|R.u 1 O<|R.c (q.call Jp O O (fun w hw=>(pU x.Key k w ))) O<|R.u 1 O<|R.nil ?_
 exact R.rv O Tryz.results146 O (rI (by rfl))
theorem gC (bT:Value)(l:List Change)(t:ByteArray)(c:Change->ByteArray->Int)(Hw:Nat)(Mb:List Value)(EO:∀args w,(callFunc Hw args).run Tryz.prog w = .ok (.enter Hw args) w)(w:World)(eA:Sl w bT l)(PE:∀W (x1:Change) (x2:ByteArray),Ext w W->Calls Tryz.prog Hw ([x1.val,.string x2]++Mb).toArray W fun e w'=>e = .returned (iV (c x1 x2))/\Ext W w')(hl:l.length<=1000000):Calls Tryz.prog 145 #[bT,.string t,.func (.func Hw) #[] Mb.toArray] w fun e w'=>e = .returned (.tuple #[iV (jD (fun x=>c x t) l:Int),.bool (lI (fun x=>c x t) l)])/\Ext w w':=by
 have zm:=eA.gW
 refine R.enter [] [(0,bT),(1,.string t),(2,.func (.func Hw) #[] Mb.toArray)] Tryz.func145 O O O O<|R.reg O<|R.u 2 O<|R.nil<|R.reg O<|R.u 1 O<|R.q (q.len' (fun _=>Wd.old eA) O Tryz.underlying34) O<|R.u 1 O<|R.nil<|R.reg O<|R.u 3 O<|R.nil<|R.loop (fun g_:Nat×Nat=>[(0,bT),(1,.string t),(2,.func (.func Hw) #[] Mb.toArray),(8,iV (l.length:Int)),(9,iV (g_.1:Int)),(10,iV (g_.2:Int))]) (fun g_=>[]) (fun g_=>[]) (fun g_=>g_.1<=g_.2/\g_.2<=l.length/\bsGo (fun x=>c x t) l g_.1 g_.2=jD (fun x=>c x t) l) (fun g_=>g_.2-g_.1) (0,l.length) O (by exact ⟨Nat.zero_le _,Nat.le_refl _,rfl⟩) (sF O) (iz [] [] O) ?_
 rintro ⟨lo,hi⟩ ⟨PF,VG,HA⟩
 dsimp only at *
 refine R.reg O<|R.u 2 O<|?_
 by_cases h1:lo<hi
 .
  refine R.q (q.dC O O) O<|R.nil<|R.az O O<|R.reg O<|R.u 2 O<|R.q (q.bA (r:=((lo+hi:Nat):Int)) O O) O<|R.q (q.nf (r:=(((lo+hi):Nat):Int)) O (by rw [Tryz.underlying3];rfl) Tryz.underlying188 (Al (by omega))) O<|R.q (q.shr (r:=((((lo+hi) / 2):Nat):Int)) O O (by decide) (LX (by decide))) O<|R.q (q.nf (r:=((((lo+hi) / 2):Nat):Int)) O (by rw [Tryz.underlying188];rfl) Tryz.underlying3 (wr (by omega))) O<|R.u 1 O<|R.nil<|R.reg O<|R.u 3 O<|?_
  obtain ⟨x1,hx1⟩:∃z,l[((lo+hi) / 2)]? = some z:=⟨_,List.getElem?_eq_getElem (by omega)⟩
  refine R.q (q.idx (i:=((lo+hi) / 2)) (fun _=>Wd.old eA) O O bW O hx1) O<|R.q (q.gh (ds:=fC x1) (fun _=>Wd.old eA) hx1 O aX O) O<|R.u 1 O<|R.c (q.call EO O O (fun w hw=>PE w x1 t hw.ext)) O<|?_
  by_cases h2:(c x1 t)<0
  .
   refine R.q (q.dC O O) O<|R.nil<|R.az O O<|R.reg O<|R.u 1 O<|R.q (q.bA (r:=((((lo+hi) / 2)+1:Nat):Int)) O O) O<|R.u 1 O<|R.nil<|R.back ((((lo+hi) / 2)+1),hi) O (by (exact ⟨by omega,by omega,(AL (by omega) hx1 (by omega)).symm.trans HA⟩)) (by dsimp only;omega) (sF O) (iz [] [] O)
  refine R.q (q.cS O O) O<|R.nil<|R.aD O O<|R.reg O<|R.u 2 O<|R.nil<|R.back (lo,((lo+hi) / 2)) O (by (exact ⟨by omega,by omega,(AO (by omega) hx1 (by omega)).symm.trans HA⟩)) (by dsimp only;omega) (sF O) (iz [] [] O)
 refine R.q (q.cS O O) O<|R.nil<|R.aD O O<|R.reg O<|R.u 3 O<|?_
 by_cases h3:lo<l.length
 .
  refine R.q (q.dC O O) O<|R.u 4 O<|?_
  obtain ⟨x2,hx2⟩:∃z,l[lo]? = some z:=⟨_,List.getElem?_eq_getElem (by omega)⟩
  refine R.qg O (q.idx (i:=lo) (fun _=>Wd.old eA) O O bW O hx2) O<|R.qg O (q.gh (ds:=fC x2) (fun _=>Wd.old eA) hx2 O aX O) O<|R.u 1 O<|R.cg O (q.call EO O O (fun w hw=>PE w x2 t hw.ext)) O<|?_
  by_cases h4:(c x2 t)=0
  .
   exact R.qg O (q.fI O O) O<|R.u 3 O<|R.nil<|R.FV O Tryz.results145 O O (rI (by (exact congrArg (fun n:Nat=>(n:Int)) ((gY (by omega)).symm.trans HA)))) (rB (by (have e:=(gY (by omega)).symm.trans HA;unfold lI;rw [<- e];(rw [hx2];exact (decide_eq_true ‹_›).symm))))
  exact R.qg O (q.eU O O) O<|R.u 3 O<|R.nil<|R.FV O Tryz.results145 O O (rI (by (exact congrArg (fun n:Nat=>(n:Int)) ((gY (by omega)).symm.trans HA)))) (rB (by (have e:=(gY (by omega)).symm.trans HA;unfold lI;rw [<- e];(rw [hx2];exact (decide_eq_false ‹_›).symm))))
 exact R.q (q.cS O O) O<|R.u 12 O<|R.nil<|R.FV O Tryz.results145 O O (rI (by (exact congrArg (fun n:Nat=>(n:Int)) ((gY (by omega)).symm.trans HA)))) (rB (by (have e:=(gY (by omega)).symm.trans HA;unfold lI;rw [<- e];(rw [List.getElem?_eq_none (by omega)]))))
theorem ju (c:Change)(w:World):Calls Tryz.prog 133 #[.agg #[.string c.Key,.string c.Val,.bool c.Gone]] w fun e w'=>e = .returned (df (iL c))/\Ext w w':=by
 refine R.enter [] [(0,.agg #[.string c.Key,.string c.Val,.bool c.Gone])] Tryz.func133 O O O O<|R.reg O<|R.s O (s.box O O O) fun b1=>?_
 refine R.u 1 O<|R.nil<|R.reg O<|R.q (q.aP O bI O) O<|R.q (q.ld 0 O O bG O) O<|?_
 by_cases h1:c.Key=⟨#[]⟩
 .
  exact R.q (q.ru O O h1) O<|R.u 9 O<|R.nil<|R.az O O<|R.reg O<|R.q (q.iface O br) O<|R.u 1 O<|R.nil<|R.rv O Tryz.results133 O (dj (by decide) (by (unfold iL;first|(rw [if_pos (by first|exact .inl ‹_› | exact .inr ⟨by assumption,by assumption⟩)])|(rw [if_neg (by rintro (hh|⟨hh,hk⟩) <;> first|contradiction|(simp_all;done)),if_pos (by omega)])|(rw [if_neg (by rintro (hh|⟨hh,hk⟩) <;> first|contradiction|(simp_all;done)),if_neg (by omega)]))))
 refine R.q (q.rx O O h1) O<|R.u 1 O<|R.qg O (q.aP O gK O) O<|R.qg O (q.ld 0 O O ig O) O<|R.u 1 O<|?_
 rcases Bool.eq_false_or_eq_true c.Gone with h2|h2
 .
  rw [h2]
  refine R.qg O (q.aP O cX O) O<|R.qg O (q.ld 0 O O bG O) O<|?_
  by_cases h3:c.Val=⟨#[]⟩
  .
   refine R.qg O (q.uy O O h3) O<|R.u 2 O<|R.nil<|R.aD O O<|R.reg O<|R.q (q.aP O bI O) O<|R.q (q.ld 0 O O bG O) O<|R.q (q.iy O Tryz.underlying9) O<|?_
   by_cases h4:8<c.Key.size
   .
    exact R.q (q.eM O O) O<|R.u 6 O<|R.nil<|R.az O O<|R.reg O<|R.q (q.iface O br) O<|R.u 1 O<|R.nil<|R.rv O Tryz.results133 O (dj (by decide) (by (unfold iL;first|(rw [if_pos (by first|exact .inl ‹_› | exact .inr ⟨by assumption,by assumption⟩)])|(rw [if_neg (by rintro (hh|⟨hh,hk⟩) <;> first|contradiction|(simp_all;done)),if_pos (by omega)])|(rw [if_neg (by rintro (hh|⟨hh,hk⟩) <;> first|contradiction|(simp_all;done)),if_neg (by omega)]))))
   refine R.q (q.ey O O) O<|R.u 1 O<|R.qg O (q.aP O cX O) O<|R.qg O (q.ld 0 O O bG O) O<|R.qg O (q.iy O Tryz.underlying9) O<|?_
   by_cases h5:24<c.Val.size
   .
    exact R.qg O (q.eM O O) O<|R.u 1 O<|R.nil<|R.az O O<|R.reg O<|R.q (q.iface O br) O<|R.u 1 O<|R.nil<|R.rv O Tryz.results133 O (dj (by decide) (by (unfold iL;first|(rw [if_pos (by first|exact .inl ‹_› | exact .inr ⟨by assumption,by assumption⟩)])|(rw [if_neg (by rintro (hh|⟨hh,hk⟩) <;> first|contradiction|(simp_all;done)),if_pos (by omega)])|(rw [if_neg (by rintro (hh|⟨hh,hk⟩) <;> first|contradiction|(simp_all;done)),if_neg (by omega)]))))
   exact R.qg O (q.ey O O) O<|R.u 1 O<|R.nil<|R.aD O O<|R.reg O<|R.u 1 O<|R.nil<|R.rv O Tryz.results133 O (iJ (by (unfold iL;first|(rw [if_pos (by first|exact .inl ‹_› | exact .inr ⟨by assumption,by assumption⟩)])|(rw [if_neg (by rintro (hh|⟨hh,hk⟩) <;> first|contradiction|(simp_all;done)),if_pos (by omega)])|(rw [if_neg (by rintro (hh|⟨hh,hk⟩) <;> first|contradiction|(simp_all;done)),if_neg (by omega)]))))
  exact R.qg O (q.yU O O h3) O<|R.u 2 O<|R.nil<|R.az O O<|R.reg O<|R.q (q.iface O br) O<|R.u 1 O<|R.nil<|R.rv O Tryz.results133 O (dj (by decide) (by (unfold iL;first|(rw [if_pos (by first|exact .inl ‹_› | exact .inr ⟨by assumption,by assumption⟩)])|(rw [if_neg (by rintro (hh|⟨hh,hk⟩) <;> first|contradiction|(simp_all;done)),if_pos (by omega)])|(rw [if_neg (by rintro (hh|⟨hh,hk⟩) <;> first|contradiction|(simp_all;done)),if_neg (by omega)]))))
 rw [h2]
 refine R.u 5 O<|R.nil<|R.aD O O<|R.reg O<|R.q (q.aP O bI O) O<|R.q (q.ld 0 O O bG O) O<|R.q (q.iy O Tryz.underlying9) O<|?_
 by_cases h6:8<c.Key.size
 .
  exact R.q (q.eM O O) O<|R.u 6 O<|R.nil<|R.az O O<|R.reg O<|R.q (q.iface O br) O<|R.u 1 O<|R.nil<|R.rv O Tryz.results133 O (dj (by decide) (by (unfold iL;first|(rw [if_pos (by first|exact .inl ‹_› | exact .inr ⟨by assumption,by assumption⟩)])|(rw [if_neg (by rintro (hh|⟨hh,hk⟩) <;> first|contradiction|(simp_all;done)),if_pos (by omega)])|(rw [if_neg (by rintro (hh|⟨hh,hk⟩) <;> first|contradiction|(simp_all;done)),if_neg (by omega)]))))
 refine R.q (q.ey O O) O<|R.u 1 O<|R.qg O (q.aP O cX O) O<|R.qg O (q.ld 0 O O bG O) O<|R.qg O (q.iy O Tryz.underlying9) O<|?_
 by_cases h7:24<c.Val.size
 .
  exact R.qg O (q.eM O O) O<|R.u 1 O<|R.nil<|R.az O O<|R.reg O<|R.q (q.iface O br) O<|R.u 1 O<|R.nil<|R.rv O Tryz.results133 O (dj (by decide) (by (unfold iL;first|(rw [if_pos (by first|exact .inl ‹_› | exact .inr ⟨by assumption,by assumption⟩)])|(rw [if_neg (by rintro (hh|⟨hh,hk⟩) <;> first|contradiction|(simp_all;done)),if_pos (by omega)])|(rw [if_neg (by rintro (hh|⟨hh,hk⟩) <;> first|contradiction|(simp_all;done)),if_neg (by omega)]))))
 exact R.qg O (q.ey O O) O<|R.u 1 O<|R.nil<|R.aD O O<|R.reg O<|R.u 1 O<|R.nil<|R.rv O Tryz.results133 O (iJ (by (unfold iL;first|(rw [if_pos (by first|exact .inl ‹_› | exact .inr ⟨by assumption,by assumption⟩)])|(rw [if_neg (by rintro (hh|⟨hh,hk⟩) <;> first|contradiction|(simp_all;done)),if_pos (by omega)])|(rw [if_neg (by rintro (hh|⟨hh,hk⟩) <;> first|contradiction|(simp_all;done)),if_neg (by omega)]))))
theorem AX (c:Change)(w:World):Calls Tryz.prog 201 #[.agg #[.string c.Key,.string c.Val,.bool c.Gone]] w fun e w'=>e = .returned (.tuple #[.string (kb c).1,df (kb c).2])/\Ext w w':=by
 have f0:=bz c
 refine R.enter [] [(0,.agg #[.string c.Key,.string c.Val,.bool c.Gone])] Tryz.func201 O O O O<|R.reg O<|R.s O (s.box O O O) fun b1=>?_
 refine R.u 2 O<|R.nil<|R.reg O<|R.q (q.cT 0 O O aX) O<|R.c (q.call tJ O O (fun w hw=>(ju c w ))) O<|R.u 1 O<|R.nil ?_
 refine R.reg O<|R.u 1 O<|?_
 by_cases h1:iL c=0
 .
  obtain ⟨z1,z2,z3,z4⟩:=gZ h1
  refine R.q (q.dx O O Tryz.underlying38) O<|R.nil<|R.aD O O<|R.reg O<|R.u 1 O<|R.nil<|R.reg O<|R.q (q.aP O gK O) O<|R.q (q.ld 0 O O ig O) O<|R.nil<|R.cond O O (fun h2=>?_) (fun h2=>?_)
  .
   refine R.reg O<|R.u 1 O<|R.nil<|R.reg O<|R.u 1 O<|R.q (q.aP O bI O) O<|R.q (q.ld 0 O O bG O) O<|R.q (q.iy O Tryz.underlying9) O<|R.q (q.nf (r:=((c.Key.size:Nat):Int)) O (by rw [Tryz.underlying3];rfl) Tryz.underlying5 (wh (by omega))) O<|R.s O (s.bs (l:=([(1:UInt8),(UInt8.ofNat c.Key.size)]:List UInt8)) aR eB O O O O O (ct O (ct (dF (by omega)) fV)) O) fun b2=>?_
   exact R.q (q.kf (bD 0 O) O aR Tryz.underlying5 Tryz.underlying9) O<|R.q (q.aP O bI O) O<|R.q (q.ld 1 O O bG O) O<|R.q (q.cat O O (by first|omega|(simp only [ByteArray.size_append,aI,List.length_cons,List.length_nil];omega))) O<|R.q (q.aP O cX O) O<|R.q (q.ld 1 O O bG O) O<|R.q (q.cat O O (by first|omega|(simp only [ByteArray.size_append,aI,List.length_cons,List.length_nil];omega))) O<|R.u 2 O<|R.nil<|R.FV O Tryz.results201 O O (rS (by (unfold kb;first|(rw [if_neg (by omega)];done)|(rw [if_neg (by omega)];omega)|(rw [if_pos (by omega)];done)|(rw [if_pos (by omega),show c.Gone=true from by assumption];rfl)|(rw [if_pos (by omega),show c.Gone=false from by assumption];rfl)))) (iJ (by (unfold kb;first|(rw [if_neg (by omega)];done)|(rw [if_neg (by omega)];omega)|(rw [if_pos (by omega)];done)|(rw [if_pos (by omega),show c.Gone=true from by assumption];rfl)|(rw [if_pos (by omega),show c.Gone=false from by assumption];rfl))))
  refine R.reg O<|R.u 1 O<|R.q (q.aP O bI O) O<|R.q (q.ld 0 O O bG O) O<|R.q (q.iy O Tryz.underlying9) O<|R.q (q.nf (r:=((c.Key.size:Nat):Int)) O (by rw [Tryz.underlying3];rfl) Tryz.underlying5 (wh (by omega))) O<|R.s O (s.bs (l:=([(0:UInt8),(UInt8.ofNat c.Key.size)]:List UInt8)) aR eB O O O O O (ct O (ct (dF (by omega)) fV)) O) fun b3=>?_
  exact R.q (q.kf (bD 0 O) O aR Tryz.underlying5 Tryz.underlying9) O<|R.q (q.aP O bI O) O<|R.q (q.ld 1 O O bG O) O<|R.q (q.cat O O (by first|omega|(simp only [ByteArray.size_append,aI,List.length_cons,List.length_nil];omega))) O<|R.q (q.aP O cX O) O<|R.q (q.ld 1 O O bG O) O<|R.q (q.cat O O (by first|omega|(simp only [ByteArray.size_append,aI,List.length_cons,List.length_nil];omega))) O<|R.u 2 O<|R.nil<|R.FV O Tryz.results201 O O (rS (by (unfold kb;first|(rw [if_neg (by omega)];done)|(rw [if_neg (by omega)];omega)|(rw [if_pos (by omega)];done)|(rw [if_pos (by omega),show c.Gone=true from by assumption];rfl)|(rw [if_pos (by omega),show c.Gone=false from by assumption];rfl)))) (iJ (by (unfold kb;first|(rw [if_neg (by omega)];done)|(rw [if_neg (by omega)];omega)|(rw [if_pos (by omega)];done)|(rw [if_pos (by omega),show c.Gone=true from by assumption];rfl)|(rw [if_pos (by omega),show c.Gone=false from by assumption];rfl))))
 exact R.q (q.dX O O Tryz.underlying38) O<|R.nil<|R.az O O<|R.reg O<|R.u 3 O<|R.nil<|R.FV O Tryz.results201 O O (rS (by (unfold kb;first|(rw [if_neg (by omega)];done)|(rw [if_neg (by omega)];omega)|(rw [if_pos (by omega)];done)|(rw [if_pos (by omega),show c.Gone=true from by assumption];rfl)|(rw [if_pos (by omega),show c.Gone=false from by assumption];rfl)))) (rE (by (unfold kb;first|(rw [if_neg (by omega)];done)|(rw [if_neg (by omega)];omega)|(rw [if_pos (by omega)];done)|(rw [if_pos (by omega),show c.Gone=true from by assumption];rfl)|(rw [if_pos (by omega),show c.Gone=false from by assumption];rfl))))
theorem gD {s:ByteArray}(h:s.size<2):rO s=(c0,4):=by unfold rO;rw [if_pos (.inl h)]
theorem gE {s:ByteArray}{y:UInt8}(hy:s.data[0]? = some y)(h:1<y.toNat):rO s=(c0,4):=by unfold rO;rw [if_pos (.inr (.inl (by rw [aK hy];exact h)))]
theorem gF {s:ByteArray}{y:UInt8}(hy:s.data[1]? = some y)(h:s.size<2+y.toNat):rO s=(c0,4):=by unfold rO;rw [if_pos (.inr (.inr (by rw [aK hy];exact h)))]
theorem ck {s:ByteArray}{y z:UInt8}{b:Bool}(hy:s.data[0]? = some y)(hz:s.data[1]? = some z)(h1:¬ s.size<2)(h2:¬ 1<y.toNat)(h3:¬ s.size<2+z.toNat)(hb:b=decide (y.toNat=1)) :
 rO s=if iL ⟨s.extract 2 (2+z.toNat),s.extract (2+z.toNat) s.size,b⟩=0 then (⟨s.extract 2 (2+z.toNat),s.extract (2+z.toNat) s.size,b⟩,0) else (c0,4):=by
 have e1:=aK hy;have e2:=aK hz
 unfold rO;rw [if_neg (by rw [e1,e2];omega)];unfold JL;rw [e1,e2,hb]
theorem AY (sb:ByteArray)(w:World)(hs:sb.size<=1000000):Calls Tryz.prog 143 #[.string sb] w fun e w'=>e = .returned (.tuple #[Change.val (rO sb).1,df (rO sb).2])/\Ext w w':=by
 refine R.enter [] [(0,.string sb)] Tryz.func143 O O O O<|R.reg O<|R.s O (s.alloc cC O O) fun b1=>?_
 refine R.u 1 O<|R.nil<|R.reg O<|R.u 1 O<|R.q (q.iy O Tryz.underlying9) O<|?_
 by_cases h1:sb.size<2
 .
  refine R.q (q.dC O O) O<|R.u 14 O<|R.nil<|R.az O O<|R.reg O<|R.q (q.build kM O O) O<|R.q (q.iface O br) O<|R.s O (s.st 0 _ O O O O (.inl aX) O O O O) fun _=>?_
  exact R.u 1 O<|R.nil<|R.Cc O Tryz.results143 (RV.cell 0 O O aX) (RV.tmp O) (congrArg Change.val (show (⟨⟨#[]⟩,⟨#[]⟩,false⟩:Change)=(rO sb).1 from by (first|(rw [gD (by omega)];first|done|rfl)|(rw [gE hy1 (by omega)];first|done|rfl)|(rw [gF hy2 (by omega)];first|done|rfl)|(have f1:=bz (⟨sb.extract 2 (2+y2.toNat),sb.extract (2+y2.toNat) sb.size,true⟩:Change);rw [ck (b:=true) hy1 hy2 (by omega) (by omega) (by omega) (decide_eq_true (by omega)).symm,if_pos (by omega)];first|done|rfl)|(have f1:=bz (⟨sb.extract 2 (2+y2.toNat),sb.extract (2+y2.toNat) sb.size,false⟩:Change);rw [ck (b:=false) hy1 hy2 (by omega) (by omega) (by omega) (decide_eq_false (by omega)).symm,if_pos (by omega)];first|done|rfl)|(have f1:=bz (⟨sb.extract 2 (2+y2.toNat),sb.extract (2+y2.toNat) sb.size,true⟩:Change);rw [ck (b:=true) hy1 hy2 (by omega) (by omega) (by omega) (decide_eq_true (by omega)).symm,if_neg (by omega)];first|done|rfl)|(have f1:=bz (⟨sb.extract 2 (2+y2.toNat),sb.extract (2+y2.toNat) sb.size,false⟩:Change);rw [ck (b:=false) hy1 hy2 (by omega) (by omega) (by omega) (decide_eq_false (by omega)).symm,if_neg (by omega)];first|done|rfl)))) (dj (by decide) (by (first|(rw [gD (by omega)];first|done|rfl)|(rw [gE hy1 (by omega)];first|done|rfl)|(rw [gF hy2 (by omega)];first|done|rfl)|(have f1:=bz (⟨sb.extract 2 (2+y2.toNat),sb.extract (2+y2.toNat) sb.size,true⟩:Change);rw [ck (b:=true) hy1 hy2 (by omega) (by omega) (by omega) (decide_eq_true (by omega)).symm,if_pos (by omega)];first|done|rfl)|(have f1:=bz (⟨sb.extract 2 (2+y2.toNat),sb.extract (2+y2.toNat) sb.size,false⟩:Change);rw [ck (b:=false) hy1 hy2 (by omega) (by omega) (by omega) (decide_eq_false (by omega)).symm,if_pos (by omega)];first|done|rfl)|(have f1:=bz (⟨sb.extract 2 (2+y2.toNat),sb.extract (2+y2.toNat) sb.size,true⟩:Change);rw [ck (b:=true) hy1 hy2 (by omega) (by omega) (by omega) (decide_eq_true (by omega)).symm,if_neg (by omega)];first|done|rfl)|(have f1:=bz (⟨sb.extract 2 (2+y2.toNat),sb.extract (2+y2.toNat) sb.size,false⟩:Change);rw [ck (b:=false) hy1 hy2 (by omega) (by omega) (by omega) (decide_eq_false (by omega)).symm,if_neg (by omega)];first|done|rfl))))
 refine R.q (q.cS O O) O<|R.u 2 O<|?_
 obtain ⟨y1,hy1⟩:∃z,sb.data[0]? = some z:=⟨_,Array.getElem?_eq_getElem (show 0<sb.size from by omega)⟩
 have Sj:=y1.toNat_lt
 refine R.qg O (q.iK (i:=0) O O Tryz.underlying9 O hy1) O<|?_
 by_cases h2:1<y1.toNat
 .
  refine R.qg O (q.eM O O) O<|R.u 10 O<|R.nil<|R.az O O<|R.reg O<|R.q (q.build kM O O) O<|R.q (q.iface O br) O<|R.s O (s.st 0 _ O O O O (.inl aX) O O O O) fun _=>?_
  exact R.u 1 O<|R.nil<|R.Cc O Tryz.results143 (RV.cell 0 O O aX) (RV.tmp O) (congrArg Change.val (show (⟨⟨#[]⟩,⟨#[]⟩,false⟩:Change)=(rO sb).1 from by (first|(rw [gD (by omega)];first|done|rfl)|(rw [gE hy1 (by omega)];first|done|rfl)|(rw [gF hy2 (by omega)];first|done|rfl)|(have f1:=bz (⟨sb.extract 2 (2+y2.toNat),sb.extract (2+y2.toNat) sb.size,true⟩:Change);rw [ck (b:=true) hy1 hy2 (by omega) (by omega) (by omega) (decide_eq_true (by omega)).symm,if_pos (by omega)];first|done|rfl)|(have f1:=bz (⟨sb.extract 2 (2+y2.toNat),sb.extract (2+y2.toNat) sb.size,false⟩:Change);rw [ck (b:=false) hy1 hy2 (by omega) (by omega) (by omega) (decide_eq_false (by omega)).symm,if_pos (by omega)];first|done|rfl)|(have f1:=bz (⟨sb.extract 2 (2+y2.toNat),sb.extract (2+y2.toNat) sb.size,true⟩:Change);rw [ck (b:=true) hy1 hy2 (by omega) (by omega) (by omega) (decide_eq_true (by omega)).symm,if_neg (by omega)];first|done|rfl)|(have f1:=bz (⟨sb.extract 2 (2+y2.toNat),sb.extract (2+y2.toNat) sb.size,false⟩:Change);rw [ck (b:=false) hy1 hy2 (by omega) (by omega) (by omega) (decide_eq_false (by omega)).symm,if_neg (by omega)];first|done|rfl)))) (dj (by decide) (by (first|(rw [gD (by omega)];first|done|rfl)|(rw [gE hy1 (by omega)];first|done|rfl)|(rw [gF hy2 (by omega)];first|done|rfl)|(have f1:=bz (⟨sb.extract 2 (2+y2.toNat),sb.extract (2+y2.toNat) sb.size,true⟩:Change);rw [ck (b:=true) hy1 hy2 (by omega) (by omega) (by omega) (decide_eq_true (by omega)).symm,if_pos (by omega)];first|done|rfl)|(have f1:=bz (⟨sb.extract 2 (2+y2.toNat),sb.extract (2+y2.toNat) sb.size,false⟩:Change);rw [ck (b:=false) hy1 hy2 (by omega) (by omega) (by omega) (decide_eq_false (by omega)).symm,if_pos (by omega)];first|done|rfl)|(have f1:=bz (⟨sb.extract 2 (2+y2.toNat),sb.extract (2+y2.toNat) sb.size,true⟩:Change);rw [ck (b:=true) hy1 hy2 (by omega) (by omega) (by omega) (decide_eq_true (by omega)).symm,if_neg (by omega)];first|done|rfl)|(have f1:=bz (⟨sb.extract 2 (2+y2.toNat),sb.extract (2+y2.toNat) sb.size,false⟩:Change);rw [ck (b:=false) hy1 hy2 (by omega) (by omega) (by omega) (decide_eq_false (by omega)).symm,if_neg (by omega)];first|done|rfl))))
 refine R.qg O (q.ey O O) O<|R.u 3 O<|?_
 obtain ⟨y2,hy2⟩:∃z,sb.data[1]? = some z:=⟨_,Array.getElem?_eq_getElem (show 1<sb.size from by omega)⟩
 have Sk:=y2.toNat_lt
 refine R.qg O (q.iK (i:=1) O O Tryz.underlying9 O hy2) O<|R.qg O (q.nf (r:=((y2.toNat:Nat):Int)) O (by rw [Tryz.underlying5];rfl) Tryz.underlying3 (wr (by omega))) O<|R.qg O (q.bA (r:=((2+y2.toNat:Nat):Int)) O O) O<|R.u 1 O<|R.qg O (q.iy O Tryz.underlying9) O<|?_
 by_cases h3:sb.size<(2+y2.toNat)
 .
  refine R.qg O (q.eM O O) O<|R.u 1 O<|R.nil<|R.az O O<|R.reg O<|R.q (q.build kM O O) O<|R.q (q.iface O br) O<|R.s O (s.st 0 _ O O O O (.inl aX) O O O O) fun _=>?_
  exact R.u 1 O<|R.nil<|R.Cc O Tryz.results143 (RV.cell 0 O O aX) (RV.tmp O) (congrArg Change.val (show (⟨⟨#[]⟩,⟨#[]⟩,false⟩:Change)=(rO sb).1 from by (first|(rw [gD (by omega)];first|done|rfl)|(rw [gE hy1 (by omega)];first|done|rfl)|(rw [gF hy2 (by omega)];first|done|rfl)|(have f1:=bz (⟨sb.extract 2 (2+y2.toNat),sb.extract (2+y2.toNat) sb.size,true⟩:Change);rw [ck (b:=true) hy1 hy2 (by omega) (by omega) (by omega) (decide_eq_true (by omega)).symm,if_pos (by omega)];first|done|rfl)|(have f1:=bz (⟨sb.extract 2 (2+y2.toNat),sb.extract (2+y2.toNat) sb.size,false⟩:Change);rw [ck (b:=false) hy1 hy2 (by omega) (by omega) (by omega) (decide_eq_false (by omega)).symm,if_pos (by omega)];first|done|rfl)|(have f1:=bz (⟨sb.extract 2 (2+y2.toNat),sb.extract (2+y2.toNat) sb.size,true⟩:Change);rw [ck (b:=true) hy1 hy2 (by omega) (by omega) (by omega) (decide_eq_true (by omega)).symm,if_neg (by omega)];first|done|rfl)|(have f1:=bz (⟨sb.extract 2 (2+y2.toNat),sb.extract (2+y2.toNat) sb.size,false⟩:Change);rw [ck (b:=false) hy1 hy2 (by omega) (by omega) (by omega) (decide_eq_false (by omega)).symm,if_neg (by omega)];first|done|rfl)))) (dj (by decide) (by (first|(rw [gD (by omega)];first|done|rfl)|(rw [gE hy1 (by omega)];first|done|rfl)|(rw [gF hy2 (by omega)];first|done|rfl)|(have f1:=bz (⟨sb.extract 2 (2+y2.toNat),sb.extract (2+y2.toNat) sb.size,true⟩:Change);rw [ck (b:=true) hy1 hy2 (by omega) (by omega) (by omega) (decide_eq_true (by omega)).symm,if_pos (by omega)];first|done|rfl)|(have f1:=bz (⟨sb.extract 2 (2+y2.toNat),sb.extract (2+y2.toNat) sb.size,false⟩:Change);rw [ck (b:=false) hy1 hy2 (by omega) (by omega) (by omega) (decide_eq_false (by omega)).symm,if_pos (by omega)];first|done|rfl)|(have f1:=bz (⟨sb.extract 2 (2+y2.toNat),sb.extract (2+y2.toNat) sb.size,true⟩:Change);rw [ck (b:=true) hy1 hy2 (by omega) (by omega) (by omega) (decide_eq_true (by omega)).symm,if_neg (by omega)];first|done|rfl)|(have f1:=bz (⟨sb.extract 2 (2+y2.toNat),sb.extract (2+y2.toNat) sb.size,false⟩:Change);rw [ck (b:=false) hy1 hy2 (by omega) (by omega) (by omega) (decide_eq_false (by omega)).symm,if_neg (by omega)];first|done|rfl))))
 refine R.qg O (q.ey O O) O<|R.u 1 O<|R.nil<|R.aD O O<|R.reg O<|R.u 1 O<|R.q (q.iK (i:=1) O O Tryz.underlying9 O hy2) O<|R.q (q.nf (r:=((y2.toNat:Nat):Int)) O (by rw [Tryz.underlying5];rfl) Tryz.underlying3 (wr (by omega))) O<|R.q (q.bA (r:=((2+y2.toNat:Nat):Int)) O O) O<|R.u 1 O<|R.nil ?_
 by_cases h4:y1.toNat=1
 .
  refine R.fJ (fuel:=12) [0] O O mixed O<|D.q (i:=0) O (aA [0] [] O) O (q.mv O) O<|D.q (i:=1) O (aA [0] [] O) O (q.mv O) O<|D.q (i:=2) O (aA [0] [] O) O (q.Cp (i:=2) (j:=(2+y2.toNat)) O O O Tryz.underlying9 O O (by omega) (by omega)) O<|D.q (i:=3) O (aA [0] [] O) O (q.mv O) O<|D.q (i:=4) O (aA [0] [] O) O (q.mv O) O<|D.q (i:=5) O (aA [0] [] O) O (q.Cq (i:=(2+y2.toNat)) O O Tryz.underlying9 O (by omega)) O<|D.q (i:=6) O (aA [0] [] O) O (q.mv O) O<|D.q (i:=7) O (aA [0] [] O) O (q.iK (i:=0) O O Tryz.underlying9 O hy1) O<|D.q (i:=8) O (aA [0] [] O) O (q.fI O O) O<|D.q (i:=9) O (aA [0] [] O) O (q.build kM O O) O<|D.one (i:=10) O<|Do.s (s.alloc cC O O) (fun _=>(aA [1] [] O)) O fun b2=>?_
  refine D.one (i:=11) O<|Do.s (s.st 0 _ O O O O (.inl aX) O O O O) (fun _=>(aA [1] [] O)) O fun _=>?_
  refine D.done<|R.reg O<|R.q (q.cT 0 O O aX) O<|R.c (q.call tJ O O (fun w hw=>(ju (⟨(sb.extract 2 (2+y2.toNat)),(sb.extract (2+y2.toNat) sb.size),true⟩:Change) w ))) O<|?_
  by_cases h5:iL (⟨(sb.extract 2 (2+y2.toNat)),(sb.extract (2+y2.toNat) sb.size),true⟩:Change)=0
  .
   refine R.q (q.dx O O Tryz.underlying38) O<|R.nil<|R.aD O O<|R.reg O<|R.q (q.cT 0 O O aX) O<|R.s O (s.st 1 _ O O O O (.inl aX) O O O O) fun _=>?_
   exact R.u 1 O<|R.nil<|R.Cc O Tryz.results143 (RV.cell 1 O O aX) (RV.tmp O) (congrArg Change.val (show (⟨(sb.extract 2 (2+y2.toNat)),(sb.extract (2+y2.toNat) sb.size),true⟩:Change)=(rO sb).1 from by (first|(rw [gD (by omega)];first|done|rfl)|(rw [gE hy1 (by omega)];first|done|rfl)|(rw [gF hy2 (by omega)];first|done|rfl)|(have f1:=bz (⟨sb.extract 2 (2+y2.toNat),sb.extract (2+y2.toNat) sb.size,true⟩:Change);rw [ck (b:=true) hy1 hy2 (by omega) (by omega) (by omega) (decide_eq_true (by omega)).symm,if_pos (by omega)];first|done|rfl)|(have f1:=bz (⟨sb.extract 2 (2+y2.toNat),sb.extract (2+y2.toNat) sb.size,false⟩:Change);rw [ck (b:=false) hy1 hy2 (by omega) (by omega) (by omega) (decide_eq_false (by omega)).symm,if_pos (by omega)];first|done|rfl)|(have f1:=bz (⟨sb.extract 2 (2+y2.toNat),sb.extract (2+y2.toNat) sb.size,true⟩:Change);rw [ck (b:=true) hy1 hy2 (by omega) (by omega) (by omega) (decide_eq_true (by omega)).symm,if_neg (by omega)];first|done|rfl)|(have f1:=bz (⟨sb.extract 2 (2+y2.toNat),sb.extract (2+y2.toNat) sb.size,false⟩:Change);rw [ck (b:=false) hy1 hy2 (by omega) (by omega) (by omega) (decide_eq_false (by omega)).symm,if_neg (by omega)];first|done|rfl)))) (iJ (by (first|(rw [gD (by omega)];first|done|rfl)|(rw [gE hy1 (by omega)];first|done|rfl)|(rw [gF hy2 (by omega)];first|done|rfl)|(have f1:=bz (⟨sb.extract 2 (2+y2.toNat),sb.extract (2+y2.toNat) sb.size,true⟩:Change);rw [ck (b:=true) hy1 hy2 (by omega) (by omega) (by omega) (decide_eq_true (by omega)).symm,if_pos (by omega)];first|done|rfl)|(have f1:=bz (⟨sb.extract 2 (2+y2.toNat),sb.extract (2+y2.toNat) sb.size,false⟩:Change);rw [ck (b:=false) hy1 hy2 (by omega) (by omega) (by omega) (decide_eq_false (by omega)).symm,if_pos (by omega)];first|done|rfl)|(have f1:=bz (⟨sb.extract 2 (2+y2.toNat),sb.extract (2+y2.toNat) sb.size,true⟩:Change);rw [ck (b:=true) hy1 hy2 (by omega) (by omega) (by omega) (decide_eq_true (by omega)).symm,if_neg (by omega)];first|done|rfl)|(have f1:=bz (⟨sb.extract 2 (2+y2.toNat),sb.extract (2+y2.toNat) sb.size,false⟩:Change);rw [ck (b:=false) hy1 hy2 (by omega) (by omega) (by omega) (decide_eq_false (by omega)).symm,if_neg (by omega)];first|done|rfl))))
  refine R.q (q.dX O O Tryz.underlying38) O<|R.nil<|R.az O O<|R.reg O<|R.q (q.build kM O O) O<|R.q (q.iface O br) O<|R.s O (s.st 1 _ O O O O (.inl aX) O O O O) fun _=>?_
  exact R.u 1 O<|R.nil<|R.Cc O Tryz.results143 (RV.cell 1 O O aX) (RV.tmp O) (congrArg Change.val (show (⟨⟨#[]⟩,⟨#[]⟩,false⟩:Change)=(rO sb).1 from by (first|(rw [gD (by omega)];first|done|rfl)|(rw [gE hy1 (by omega)];first|done|rfl)|(rw [gF hy2 (by omega)];first|done|rfl)|(have f1:=bz (⟨sb.extract 2 (2+y2.toNat),sb.extract (2+y2.toNat) sb.size,true⟩:Change);rw [ck (b:=true) hy1 hy2 (by omega) (by omega) (by omega) (decide_eq_true (by omega)).symm,if_pos (by omega)];first|done|rfl)|(have f1:=bz (⟨sb.extract 2 (2+y2.toNat),sb.extract (2+y2.toNat) sb.size,false⟩:Change);rw [ck (b:=false) hy1 hy2 (by omega) (by omega) (by omega) (decide_eq_false (by omega)).symm,if_pos (by omega)];first|done|rfl)|(have f1:=bz (⟨sb.extract 2 (2+y2.toNat),sb.extract (2+y2.toNat) sb.size,true⟩:Change);rw [ck (b:=true) hy1 hy2 (by omega) (by omega) (by omega) (decide_eq_true (by omega)).symm,if_neg (by omega)];first|done|rfl)|(have f1:=bz (⟨sb.extract 2 (2+y2.toNat),sb.extract (2+y2.toNat) sb.size,false⟩:Change);rw [ck (b:=false) hy1 hy2 (by omega) (by omega) (by omega) (decide_eq_false (by omega)).symm,if_neg (by omega)];first|done|rfl)))) (dj (by decide) (by (first|(rw [gD (by omega)];first|done|rfl)|(rw [gE hy1 (by omega)];first|done|rfl)|(rw [gF hy2 (by omega)];first|done|rfl)|(have f1:=bz (⟨sb.extract 2 (2+y2.toNat),sb.extract (2+y2.toNat) sb.size,true⟩:Change);rw [ck (b:=true) hy1 hy2 (by omega) (by omega) (by omega) (decide_eq_true (by omega)).symm,if_pos (by omega)];first|done|rfl)|(have f1:=bz (⟨sb.extract 2 (2+y2.toNat),sb.extract (2+y2.toNat) sb.size,false⟩:Change);rw [ck (b:=false) hy1 hy2 (by omega) (by omega) (by omega) (decide_eq_false (by omega)).symm,if_pos (by omega)];first|done|rfl)|(have f1:=bz (⟨sb.extract 2 (2+y2.toNat),sb.extract (2+y2.toNat) sb.size,true⟩:Change);rw [ck (b:=true) hy1 hy2 (by omega) (by omega) (by omega) (decide_eq_true (by omega)).symm,if_neg (by omega)];first|done|rfl)|(have f1:=bz (⟨sb.extract 2 (2+y2.toNat),sb.extract (2+y2.toNat) sb.size,false⟩:Change);rw [ck (b:=false) hy1 hy2 (by omega) (by omega) (by omega) (decide_eq_false (by omega)).symm,if_neg (by omega)];first|done|rfl))))
 refine R.fJ (fuel:=12) [0] O O mixed O<|D.q (i:=0) O (aA [0] [] O) O (q.mv O) O<|D.q (i:=1) O (aA [0] [] O) O (q.mv O) O<|D.q (i:=2) O (aA [0] [] O) O (q.Cp (i:=2) (j:=(2+y2.toNat)) O O O Tryz.underlying9 O O (by omega) (by omega)) O<|D.q (i:=3) O (aA [0] [] O) O (q.mv O) O<|D.q (i:=4) O (aA [0] [] O) O (q.mv O) O<|D.q (i:=5) O (aA [0] [] O) O (q.Cq (i:=(2+y2.toNat)) O O Tryz.underlying9 O (by omega)) O<|D.q (i:=6) O (aA [0] [] O) O (q.mv O) O<|D.q (i:=7) O (aA [0] [] O) O (q.iK (i:=0) O O Tryz.underlying9 O hy1) O<|D.q (i:=8) O (aA [0] [] O) O (q.eU O O) O<|D.q (i:=9) O (aA [0] [] O) O (q.build kM O O) O<|D.one (i:=10) O<|Do.s (s.alloc cC O O) (fun _=>(aA [1] [] O)) O fun b3=>?_
 refine D.one (i:=11) O<|Do.s (s.st 0 _ O O O O (.inl aX) O O O O) (fun _=>(aA [1] [] O)) O fun _=>?_
 refine D.done<|R.reg O<|R.q (q.cT 0 O O aX) O<|R.c (q.call tJ O O (fun w hw=>(ju (⟨(sb.extract 2 (2+y2.toNat)),(sb.extract (2+y2.toNat) sb.size),false⟩:Change) w ))) O<|?_
 by_cases h6:iL (⟨(sb.extract 2 (2+y2.toNat)),(sb.extract (2+y2.toNat) sb.size),false⟩:Change)=0
 .
  refine R.q (q.dx O O Tryz.underlying38) O<|R.nil<|R.aD O O<|R.reg O<|R.q (q.cT 0 O O aX) O<|R.s O (s.st 1 _ O O O O (.inl aX) O O O O) fun _=>?_
  exact R.u 1 O<|R.nil<|R.Cc O Tryz.results143 (RV.cell 1 O O aX) (RV.tmp O) (congrArg Change.val (show (⟨(sb.extract 2 (2+y2.toNat)),(sb.extract (2+y2.toNat) sb.size),false⟩:Change)=(rO sb).1 from by (first|(rw [gD (by omega)];first|done|rfl)|(rw [gE hy1 (by omega)];first|done|rfl)|(rw [gF hy2 (by omega)];first|done|rfl)|(have f1:=bz (⟨sb.extract 2 (2+y2.toNat),sb.extract (2+y2.toNat) sb.size,true⟩:Change);rw [ck (b:=true) hy1 hy2 (by omega) (by omega) (by omega) (decide_eq_true (by omega)).symm,if_pos (by omega)];first|done|rfl)|(have f1:=bz (⟨sb.extract 2 (2+y2.toNat),sb.extract (2+y2.toNat) sb.size,false⟩:Change);rw [ck (b:=false) hy1 hy2 (by omega) (by omega) (by omega) (decide_eq_false (by omega)).symm,if_pos (by omega)];first|done|rfl)|(have f1:=bz (⟨sb.extract 2 (2+y2.toNat),sb.extract (2+y2.toNat) sb.size,true⟩:Change);rw [ck (b:=true) hy1 hy2 (by omega) (by omega) (by omega) (decide_eq_true (by omega)).symm,if_neg (by omega)];first|done|rfl)|(have f1:=bz (⟨sb.extract 2 (2+y2.toNat),sb.extract (2+y2.toNat) sb.size,false⟩:Change);rw [ck (b:=false) hy1 hy2 (by omega) (by omega) (by omega) (decide_eq_false (by omega)).symm,if_neg (by omega)];first|done|rfl)))) (iJ (by (first|(rw [gD (by omega)];first|done|rfl)|(rw [gE hy1 (by omega)];first|done|rfl)|(rw [gF hy2 (by omega)];first|done|rfl)|(have f1:=bz (⟨sb.extract 2 (2+y2.toNat),sb.extract (2+y2.toNat) sb.size,true⟩:Change);rw [ck (b:=true) hy1 hy2 (by omega) (by omega) (by omega) (decide_eq_true (by omega)).symm,if_pos (by omega)];first|done|rfl)|(have f1:=bz (⟨sb.extract 2 (2+y2.toNat),sb.extract (2+y2.toNat) sb.size,false⟩:Change);rw [ck (b:=false) hy1 hy2 (by omega) (by omega) (by omega) (decide_eq_false (by omega)).symm,if_pos (by omega)];first|done|rfl)|(have f1:=bz (⟨sb.extract 2 (2+y2.toNat),sb.extract (2+y2.toNat) sb.size,true⟩:Change);rw [ck (b:=true) hy1 hy2 (by omega) (by omega) (by omega) (decide_eq_true (by omega)).symm,if_neg (by omega)];first|done|rfl)|(have f1:=bz (⟨sb.extract 2 (2+y2.toNat),sb.extract (2+y2.toNat) sb.size,false⟩:Change);rw [ck (b:=false) hy1 hy2 (by omega) (by omega) (by omega) (decide_eq_false (by omega)).symm,if_neg (by omega)];first|done|rfl))))
 refine R.q (q.dX O O Tryz.underlying38) O<|R.nil<|R.az O O<|R.reg O<|R.q (q.build kM O O) O<|R.q (q.iface O br) O<|R.s O (s.st 1 _ O O O O (.inl aX) O O O O) fun _=>?_
 exact R.u 1 O<|R.nil<|R.Cc O Tryz.results143 (RV.cell 1 O O aX) (RV.tmp O) (congrArg Change.val (show (⟨⟨#[]⟩,⟨#[]⟩,false⟩:Change)=(rO sb).1 from by (first|(rw [gD (by omega)];first|done|rfl)|(rw [gE hy1 (by omega)];first|done|rfl)|(rw [gF hy2 (by omega)];first|done|rfl)|(have f1:=bz (⟨sb.extract 2 (2+y2.toNat),sb.extract (2+y2.toNat) sb.size,true⟩:Change);rw [ck (b:=true) hy1 hy2 (by omega) (by omega) (by omega) (decide_eq_true (by omega)).symm,if_pos (by omega)];first|done|rfl)|(have f1:=bz (⟨sb.extract 2 (2+y2.toNat),sb.extract (2+y2.toNat) sb.size,false⟩:Change);rw [ck (b:=false) hy1 hy2 (by omega) (by omega) (by omega) (decide_eq_false (by omega)).symm,if_pos (by omega)];first|done|rfl)|(have f1:=bz (⟨sb.extract 2 (2+y2.toNat),sb.extract (2+y2.toNat) sb.size,true⟩:Change);rw [ck (b:=true) hy1 hy2 (by omega) (by omega) (by omega) (decide_eq_true (by omega)).symm,if_neg (by omega)];first|done|rfl)|(have f1:=bz (⟨sb.extract 2 (2+y2.toNat),sb.extract (2+y2.toNat) sb.size,false⟩:Change);rw [ck (b:=false) hy1 hy2 (by omega) (by omega) (by omega) (decide_eq_false (by omega)).symm,if_neg (by omega)];first|done|rfl)))) (dj (by decide) (by (first|(rw [gD (by omega)];first|done|rfl)|(rw [gE hy1 (by omega)];first|done|rfl)|(rw [gF hy2 (by omega)];first|done|rfl)|(have f1:=bz (⟨sb.extract 2 (2+y2.toNat),sb.extract (2+y2.toNat) sb.size,true⟩:Change);rw [ck (b:=true) hy1 hy2 (by omega) (by omega) (by omega) (decide_eq_true (by omega)).symm,if_pos (by omega)];first|done|rfl)|(have f1:=bz (⟨sb.extract 2 (2+y2.toNat),sb.extract (2+y2.toNat) sb.size,false⟩:Change);rw [ck (b:=false) hy1 hy2 (by omega) (by omega) (by omega) (decide_eq_false (by omega)).symm,if_pos (by omega)];first|done|rfl)|(have f1:=bz (⟨sb.extract 2 (2+y2.toNat),sb.extract (2+y2.toNat) sb.size,true⟩:Change);rw [ck (b:=true) hy1 hy2 (by omega) (by omega) (by omega) (decide_eq_true (by omega)).symm,if_neg (by omega)];first|done|rfl)|(have f1:=bz (⟨sb.extract 2 (2+y2.toNat),sb.extract (2+y2.toNat) sb.size,false⟩:Change);rw [ck (b:=false) hy1 hy2 (by omega) (by omega) (by omega) (decide_eq_false (by omega)).symm,if_neg (by omega)];first|done|rfl))))
theorem wQ {α:Type}{f:α->Int}{l:List α}(h:lI f l=true):jD f l<l.length:=by
 obtain ⟨x,hx,_⟩:=CN h
 exact (List.getElem?_eq_some_iff.1 hx).1
theorem oA (wR:Value)(rows:List Change)(bT:Value)(l:List Change)(w:World)(own:List Nat)(H:HN w own [] [ag.ls wR rows,ag.ls bT l])(hl:rows.length+l.length<=100000):RC Tryz.prog 88 #[wR,bT] H (fun z:Value=>z) (fun z=>[ag.row 117 z (cb rows l)]) (fun _=>[]):=by
 have Ud:=H.cq 0 rfl
 have AJ:=H.cq 1 rfl
 refine R.bF [(0,wR),(1,bT)] Tryz.func88 O O O O H<|R.reg O<|R.u 1 O<|R.nil<|R.reg O<|R.u 1 O<|R.s O (s.aT [0] [0] _ _ _ O O O NZ O O (fun w own hw H=>o0 wR rows w own H (by first|omega|assumption|(simp;done)|(simp;omega))) O) fun z1=>?_
 refine R.u 1 O<|R.nil<|R.reg O<|R.u 1 O<|R.q (q.len' (dh 1 O) O Tryz.underlying34) O<|R.u 1 O<|R.nil<|R.loop (fun g_:Nat×Value×(List Change)=>[(0,g_.2.1),(11,bT),(12,iV (l.length:Int)),(13,iV (g_.1:Int))]) (fun g_=>[ag.row 117 g_.2.1 g_.2.2,ag.held w own]) (fun g_=>[ag.ls wR rows,ag.ls bT l]) (fun g_=>g_.1<=l.length/\g_.2.2=cb rows (l.take g_.1)) (fun g_=>l.length-g_.1) (0,z1,rows) O (by exact ⟨by omega,rfl⟩) (sF O) (iz [0,1] [0,1] O) ?_
 rintro ⟨k,u,rs⟩ ⟨hk,HR⟩
 dsimp only at *
 have hrl:=kU (l.take k) rows;rw [<- HR,List.length_take] at hrl
 refine R.reg O<|?_
 by_cases h1:k<l.length
 .
  refine R.q (q.dC O O) O<|R.nil<|R.az O O<|R.reg O<|?_
  obtain ⟨x1,hx1⟩:∃z,l[k]? = some z:=⟨_,List.getElem?_eq_getElem (by omega)⟩
  refine R.q (q.idx (i:=k) (dh 1 O) O O bW O hx1) O<|R.q (q.gh (ds:=fC x1) (dh 1 O) hx1 O aX O) O<|R.s O (s.alloc cC O O) fun b1=>?_
  refine R.s O (s.st 0 _ O O O O (.inl aX) O O O O) fun _=>?_
  refine R.nil<|R.reg O<|R.u 1 O<|R.q (q.aP O bI O) O<|R.q (q.ld 0 O O bG O) O<|R.c (q.call wA O O (fun w hw=>(gC _ rs x1.Key (fun (x:Change) (k:ByteArray)=>fK k x) _ _ Pd w (hw.row 1 O) (fun W x k hW=>AW x k W ) (by first|omega|assumption|(simp;done)|(simp;omega))))) O<|R.u 5 O<|R.nil ?_
  refine R.reg O<|R.u 2 O<|?_
  rcases Bool.eq_false_or_eq_true (lI (fun x=>(fun (x:Change) (k:ByteArray)=>fK k x) x x1.Key) rs) with h2|h2
  .
   rw [h2]
   refine R.qg O (q.aP O gK O) O<|R.qg O (q.ld 0 O O ig O) O<|R.u 2 O<|R.nil<|R.cond O O (fun h3=>?_) (fun h3=>?_)
   .
    have hb0:jD (fun x=>(fun (x:Change) (k:ByteArray)=>fK k x) x x1.Key) rs<=rs.length:=pR;have hb1:jD (fun x=>fK x1.Key x) rs<=rs.length:=pR;have UT:jD (fun x=>fK x1.Key x) rs=jD (fun x=>(fun (x:Change) (k:ByteArray)=>fK k x) x x1.Key) rs:=rfl
    have VI:jD (fun x=>(fun (x:Change) (k:ByteArray)=>fK k x) x x1.Key) rs<rs.length:=wQ ‹_›;have VJ:jD (fun x=>fK x1.Key x) rs<rs.length:=wQ ‹_›
    refine R.reg O<|R.u 3 O<|R.q (q.bA (r:=((jD (fun x=>(fun (x:Change) (k:ByteArray)=>fK k x) x x1.Key) rs+1:Nat):Int)) O O) O<|R.s O (s.aT [1,0,2] [] _ _ _ O O O Pe O O (fun w own hw H=>by have PF:=tP u rs (jD (fun x=>(fun (x:Change) (k:ByteArray)=>fK k x) x x1.Key) rs) (jD (fun x=>(fun (x:Change) (k:ByteArray)=>fK k x) x x1.Key) rs+1) w own H (by omega);exact PF) O) fun z2=>?_
    refine R.u 1 O<|R.nil<|R.reg O<|R.q (q.bA (r:=((k+1:Nat):Int)) O O) O<|R.u 1 O<|R.nil<|R.back (k+1,z2,rs.take (jD (fun x=>(fun (x:Change) (k:ByteArray)=>fK k x) x x1.Key) rs)++rs.drop (jD (fun x=>(fun (x:Change) (k:ByteArray)=>fK k x) x x1.Key) rs+1)) O (by (exact ⟨by omega,by rw [oz hx1,<- HR];unfold zp;first|(rw [if_pos (show lI (fK x1.Key) rs=true from by assumption),if_pos (by first|assumption|(simpa using ‹(!x1.Gone)=false›))];done)|(rw [if_pos (show lI (fK x1.Key) rs=true from by assumption),if_neg (by rw [show x1.Gone=false from by first|assumption|(simpa using ‹(!x1.Gone)=true›)];decide)];done)|(rw [if_neg (by rw [show lI (fK x1.Key) rs=false from by assumption];decide),if_pos (by first|assumption|(simpa using ‹(!x1.Gone)=false›))];done)|(rw [if_neg (by rw [show lI (fK x1.Key) rs=false from by assumption];decide),if_neg (by rw [show x1.Gone=false from by first|assumption|(simpa using ‹(!x1.Gone)=true›)];decide)];done)⟩)) (by dsimp only;omega) (sF O) (aA [0,2] [0,1] O)
   refine R.reg O<|R.u 2 O<|R.nil<|R.az O O ?_
   have hb0:jD (fun x=>(fun (x:Change) (k:ByteArray)=>fK k x) x x1.Key) rs<=rs.length:=pR;have hb1:jD (fun x=>fK x1.Key x) rs<=rs.length:=pR;have UT:jD (fun x=>fK x1.Key x) rs=jD (fun x=>(fun (x:Change) (k:ByteArray)=>fK k x) x x1.Key) rs:=rfl
   have VI:jD (fun x=>(fun (x:Change) (k:ByteArray)=>fK k x) x x1.Key) rs<rs.length:=wQ ‹_›;have VJ:jD (fun x=>fK x1.Key x) rs<rs.length:=wQ ‹_›
   refine R.reg O<|R.u 2 O<|R.q (q.cT 0 O O aX) O<|?_
   obtain ⟨x2,hx2⟩:∃z,rs[jD (fun x=>(fun (x:Change) (k:ByteArray)=>fK k x) x x1.Key) rs]? = some z:=⟨_,List.getElem?_eq_getElem (by omega)⟩
   refine R.q (q.idx (i:=jD (fun x=>(fun (x:Change) (k:ByteArray)=>fK k x) x x1.Key) rs) (bD 1 O) O O bW O hx2) O<|R.s O (s.OJ (z:=x1) 1 _ O hx2 O O O O (.inl aX) O) fun _=>?_
   refine R.nil<|R.reg O<|R.q (q.bA (r:=((k+1:Nat):Int)) O O) O<|R.u 1 O<|R.nil<|R.back (k+1,u,(rs.set (jD (fun x=>(fun (x:Change) (k:ByteArray)=>fK k x) x x1.Key) rs) x1)) O (by (exact ⟨by omega,by rw [oz hx1,<- HR];unfold zp;first|(rw [if_pos (show lI (fK x1.Key) rs=true from by assumption),if_pos (by first|assumption|(simpa using ‹(!x1.Gone)=false›))];done)|(rw [if_pos (show lI (fK x1.Key) rs=true from by assumption),if_neg (by rw [show x1.Gone=false from by first|assumption|(simpa using ‹(!x1.Gone)=true›)];decide)];done)|(rw [if_neg (by rw [show lI (fK x1.Key) rs=false from by assumption];decide),if_pos (by first|assumption|(simpa using ‹(!x1.Gone)=false›))];done)|(rw [if_neg (by rw [show lI (fK x1.Key) rs=false from by assumption];decide),if_neg (by rw [show x1.Gone=false from by first|assumption|(simpa using ‹(!x1.Gone)=true›)];decide)];done)⟩)) (by dsimp only;omega) (sF O) (aA [1,2] [0,1] O)
  rw [h2]
  refine R.u 4 O<|R.nil<|R.aD O O<|R.reg O<|R.u 2 O<|R.nil<|R.aD O O<|R.reg O<|R.q (q.aP O gK O) O<|R.q (q.ld 0 O O ig O) O<|R.q (q.not O) O<|R.u 1 O<|R.nil<|R.cond O O (fun h4=>?_) (fun h4=>?_)
  .
   have hb0:jD (fun x=>(fun (x:Change) (k:ByteArray)=>fK k x) x x1.Key) rs<=rs.length:=pR;have hb1:jD (fun x=>fK x1.Key x) rs<=rs.length:=pR;have UT:jD (fun x=>fK x1.Key x) rs=jD (fun x=>(fun (x:Change) (k:ByteArray)=>fK k x) x x1.Key) rs:=rfl
   refine R.reg O<|R.u 2 O<|R.q (q.cT 0 O O aX) O<|R.s O (s.bs (l:=([x1]:List Change)) bW cC O O O O O O O) fun b2=>?_
   refine R.s O (s.aT [2,0,1,3] [] _ _ _ O O O Pf O O (fun w own hw H=>by have PF:=tQ u rs (jD (fun x=>(fun (x:Change) (k:ByteArray)=>fK k x) x x1.Key) rs) (.slice (some ⟨b2,0,none⟩) 1 1) ([x1]) w own H (by first|assumption|omega) O (by first|omega|assumption|(simp;done)|(simp;omega));exact PF) O) fun z3=>?_
   refine R.u 1 O<|R.nil<|R.reg O<|R.q (q.bA (r:=((k+1:Nat):Int)) O O) O<|R.u 1 O<|R.nil<|R.back (k+1,z3,rs.take (jD (fun x=>(fun (x:Change) (k:ByteArray)=>fK k x) x x1.Key) rs)++([x1])++rs.drop (jD (fun x=>(fun (x:Change) (k:ByteArray)=>fK k x) x x1.Key) rs)) O (by (exact ⟨by omega,by rw [oz hx1,<- HR];unfold zp;first|(rw [if_pos (show lI (fK x1.Key) rs=true from by assumption),if_pos (by first|assumption|(simpa using ‹(!x1.Gone)=false›))];done)|(rw [if_pos (show lI (fK x1.Key) rs=true from by assumption),if_neg (by rw [show x1.Gone=false from by first|assumption|(simpa using ‹(!x1.Gone)=true›)];decide)];done)|(rw [if_neg (by rw [show lI (fK x1.Key) rs=false from by assumption];decide),if_pos (by first|assumption|(simpa using ‹(!x1.Gone)=false›))];done)|(rw [if_neg (by rw [show lI (fK x1.Key) rs=false from by assumption];decide),if_neg (by rw [show x1.Gone=false from by first|assumption|(simpa using ‹(!x1.Gone)=true›)];decide)];done)⟩)) (by dsimp only;omega) (sF O) (aA [0,2] [0,1] O)
  refine R.reg O<|R.q (q.bA (r:=((k+1:Nat):Int)) O O) O<|R.u 1 O<|R.nil<|R.back (k+1,u,rs) O (by (exact ⟨by omega,by rw [oz hx1,<- HR];unfold zp;first|(rw [if_pos (show lI (fK x1.Key) rs=true from by assumption),if_pos (by first|assumption|(simpa using ‹(!x1.Gone)=false›))];done)|(rw [if_pos (show lI (fK x1.Key) rs=true from by assumption),if_neg (by rw [show x1.Gone=false from by first|assumption|(simpa using ‹(!x1.Gone)=true›)];decide)];done)|(rw [if_neg (by rw [show lI (fK x1.Key) rs=false from by assumption];decide),if_pos (by first|assumption|(simpa using ‹(!x1.Gone)=false›))];done)|(rw [if_neg (by rw [show lI (fK x1.Key) rs=false from by assumption];decide),if_neg (by rw [show x1.Gone=false from by first|assumption|(simpa using ‹(!x1.Gone)=true›)];decide)];done)⟩)) (by dsimp only;omega) (sF O) (aA [1,2] [0,1] O)
 refine R.q (q.cS O O) O<|R.nil<|R.aD O O<|R.reg O<|R.u 2 O<|R.nil ?_
 have hz:cb rows l=rs:=by (rw [HR,List.take_of_length_le (by omega)])
 rw [hz]
 exact R.w1 u [0,1] [] O Tryz.results88 (RV.tmp O) O O O O
end Go.Proofs.YtkbhcbipadkcaaaGreatDoor
