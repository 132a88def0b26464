import Derived.Test.YtbkfhjaibhnkmaaGreatDoorTSD24
namespace Go.Proofs.YtbkfhjaibhnkmaaGreatDoor
open Go Go.RowKit
set_option linter.unusedVariables false
set_option linter.unusedSimpArgs false
set_option maxRecDepth 100000
set_option maxHeartbeats 400000 in
theorem lr (aF az aC aB:Value)(r:ap)(w:World)(own:List Nat)(H:Wd w (blks []++own) ([]++[ag.held w own]) [ag.ls aF (r.ai:List aj),ag.ls az (r.Things:List ah),ag.ls aC (r.Held:List Held),ag.ls aB (r.Notes:List Note)] w)(hk:Ok r):Calls Tryz.prog 63 #[.agg #[aF,az,aC,aB,iV r.ae,iV r.af]] w fun e w' => ∃z:Value×Value×Value×Value,e = .returned (.agg #[z.1,z.2.1,z.2.2.1,z.2.2.2,iV (((bq r)).ae),iV (((bq r)).af)])∧Wd w (blks []++own) ([]++[ag.held w own]) [ag.ls z.1 (((bq r)).ai:List aj),ag.ls z.2.1 (((bq r)).Things:List ah),ag.ls z.2.2.1 (((bq r)).Held:List Held),ag.ls z.2.2.2 (((bq r)).Notes:List Note)] w':=by
 have dR:=H.cX 0 rfl
 have dq:=H.cX 1 rfl
 have eK:=H.cX 2 rfl
 have dS:=H.cX 3 rfl
 refine R.dc (n:=74) (vs:=[.agg #[aF,az,aC,aB,iV r.ae,iV r.af]]) (B:=[ag.held w own]) [(0,.agg #[aF,az,aC,aB,iV r.ae,iV r.af])] Tryz.func63 rfl rfl rfl rfl H ?_
 refine R.reg rfl<|R.s rfl (s.box (cs:=[aF,az,aC,aB,iV r.ae,iV r.af]) rfl rfl rfl) fun b1=>R.s rfl (s.alloc (cs:=aJ) cD rfl rfl) fun b2=>R.nil ?_
 refine R.loop (fun g_:ap×Value×Value×Value×Value=>[(1,.pointer (some ⟨b1,0,none⟩)),(2,.pointer (some ⟨b2,0,none⟩))]) (fun g_:ap×Value×Value×Value×Value=>[ag.box b2 aJ 32,ag.box b1 [g_.2.1,g_.2.2.1,g_.2.2.2.1,g_.2.2.2.2,iV g_.1.ae,iV g_.1.af] 32,ag.held w own]) (fun g_:ap×Value×Value×Value×Value=>[ag.ls g_.2.1 (g_.1.ai:List aj),ag.ls g_.2.2.1 (g_.1.Things:List ah),ag.ls g_.2.2.2.1 (g_.1.Held:List Held),ag.ls g_.2.2.2.2 (g_.1.Notes:List Note),ag.ls aF (r.ai:List aj),ag.ls az (r.Things:List ah),ag.ls aC (r.Held:List Held),ag.ls aB (r.Notes:List Note)]) (fun g_:ap×Value×Value×Value×Value=>Ok g_.1∧bq g_.1=bq r) (fun g_:ap×Value×Value×Value×Value=>g_.1.Notes.length) (r,aF,az,aC,aB) rfl (by exact ⟨hk,rfl⟩) ⟨rfl,rfl,trivial⟩ (fun _=>Wd.pick [0,1,2] [0,1,2,3,0,1,2,3] rfl rfl rfl) ?_
 rintro ⟨m,iC,lE,jX,lu⟩ ⟨hok,HS⟩
 dsimp only at *
 have o1:=hok.wl;have o2:=hok.tl;have o3:=hok.hl;have o4:=hok.nl
 refine R.reg rfl<|R.q (q.a8 (off':=0) rfl bj rfl) rfl<|R.q (q.ld 1 rfl rfl bA rfl) rfl<|R.s rfl (s.nT vR rfl rfl (fun w hw=>km _ (m.ai) w (hw.aT 0 rfl) (by first|omega|assumption)) rfl) fun v1=>R.s rfl (s.alloc (cs:=[nS]) qT rfl rfl) fun b3=>R.s rfl (s.e8 (us:=[v1]) (cs':=[v1]) 0 _ rfl rfl rfl (fun w hw=>Sl.cJ (hw.row 1 rfl)) (.inr ⟨ky,rfl⟩) (fun w hw=>(ak (Sl.one (hw.row 1 rfl)) aS)) rfl rfl rfl) fun _=>R.nil ?_
 refine R.reg rfl<|R.q (q.a8 (off':=1) rfl bO rfl) rfl<|R.q (q.ld 3 rfl rfl cw rfl) rfl<|R.s (B':=(fun aH:Value=>[ag.row 62 aH (m.Things:List ah),ag.box b3 [v1] 60,ag.row 3 v1 ((aY m.ai):List Int),ag.box b2 aJ 32,ag.box b1 [iC,lE,jX,lu,iV m.ae,iV m.af] 32,ag.held w own])) (F':=(fun aH:Value=>[ag.ls iC (m.ai:List aj),ag.ls lE (m.Things:List ah),ag.ls jX (m.Held:List Held),ag.ls lu (m.Notes:List Note),ag.ls aF (r.ai:List aj),ag.ls az (r.Things:List ah),ag.ls aC (r.Held:List Held),ag.ls aB (r.Notes:List Note)])) rfl (s.bJ (B0:=[]) (Br:=[ag.box b3 [v1] 60,ag.row 3 v1 ((aY m.ai):List Int),ag.box b2 aJ 32,ag.box b1 [iC,lE,jX,lu,iV m.ae,iV m.af] 32,ag.held w own]) (F0:=[ag.ls lE (m.Things:List ah)]) [0,1,2,3,4] [1] (fun aH:Value=>aH) (fun aH:Value=>[ag.row 62 aH (m.Things:List ah)]) (fun aH:Value=>[]) rfl rfl rfl tO rfl rfl (fun w own hw H=>gx lE (m.Things) w own H (by first|omega|assumption|(simp;done)|(simp;omega))) rfl) fun z1=>R.q (q.AZ (cap:=[.pointer (some ⟨b3,0,none⟩)]) rfl rfl) rfl<|R.s (B':=(fun aH:Value=>[ag.row 62 aH ((m.Things.filter (fun x => !(fun (t:ah) => !decide (t.ID∈(aY m.ai))) x)):List ah),ag.box b3 [v1] 60,ag.row 3 v1 ((aY m.ai):List Int),ag.box b2 aJ 32,ag.box b1 [iC,lE,jX,lu,iV m.ae,iV m.af] 32,ag.held w own])) (F':=(fun aH:Value=>[ag.ls iC (m.ai:List aj),ag.ls lE (m.Things:List ah),ag.ls jX (m.Held:List Held),ag.ls lu (m.Notes:List Note),ag.ls aF (r.ai:List aj),ag.ls az (r.Things:List ah),ag.ls aC (r.Held:List Held),ag.ls aB (r.Notes:List Note)])) rfl (s.bJ (B0:=[ag.row 62 z1 (m.Things:List ah)]) (Br:=[ag.box b3 [v1] 60,ag.row 3 v1 ((aY m.ai):List Int),ag.box b2 aJ 32,ag.box b1 [iC,lE,jX,lu,iV m.ae,iV m.af] 32,ag.held w own]) (F0:=[]) [0,1,2,3,4,5] [] (fun aH:Value=>aH) (fun aH:Value=>[ag.row 62 aH ((m.Things.filter (fun x => !(fun (t:ah) => !decide (t.ID∈(aY m.ai))) x)):List ah)]) (fun aH:Value=>[]) rfl rfl rfl zS rfl rfl (fun w own hw H=>mI z1 (m.Things) (fun (t:ah) => !decide (t.ID∈(aY m.ai))) _ _ zU w own H (fun W t hU=>pk t _ ((aY m.ai)) _ W (hw.og 1 0 rfl rfl (by decide) hU) (Own.sl (hw.og 2 0 rfl rfl (by decide) hU)) ) (by first|omega|assumption|(simp;done)|(simp;omega))) rfl) fun z2=>R.q (q.a8 (off':=1) rfl bO rfl) rfl<|R.s rfl (s.e8 (us:=[z2]) (cs':=[iC,z2,jX,lu,iV m.ae,iV m.af]) 4 _ rfl rfl rfl (fun w hw=>Sl.cJ (hw.row 0 rfl)) (.inr ⟨cw,rfl⟩) (fun w hw=>(ak (Sl.one (hw.row 0 rfl)) aS)) rfl rfl rfl) fun _=>R.nil ?_
 refine R.reg rfl<|R.u 1 rfl<|R.nil ?_
 refine R.reg rfl<|R.u 1 rfl<|R.nil ?_
 refine R.reg rfl<|R.q (q.a8 (off':=3) rfl bR rfl) rfl<|R.q (q.ld 4 rfl rfl cy rfl) rfl<|R.q (q.len' (fun _=>Wd.aT 3 rfl) rfl Tryz.underlying30) rfl<|R.u 1 rfl<|R.nil ?_
 refine R.row0 (α:=Int) 3 ?_
 refine R.row0 (α:=Note) 72 ?_
 refine R.loop (fun g_:Nat×Value×(List Note)×Value×(List Int)=>[(1,.pointer (some ⟨b1,0,none⟩)),(2,.pointer (some ⟨b2,0,none⟩)),(3,.pointer (some ⟨b3,0,none⟩)),(4,g_.2.2.2.1),(5,g_.2.1),(20,lu),(21,iV (m.Notes.length:Int)),(22,iV (g_.1:Int))]) (fun g_:Nat×Value×(List Note)×Value×(List Int)=>[ag.row 72 g_.2.1 (g_.2.2.1:List Note),ag.row 3 g_.2.2.2.1 (g_.2.2.2.2:List Int),ag.row 62 z2 (m.Things.filter (fun x => !(fun (t:ah) => !decide (t.ID∈(aY m.ai))) x):List ah),ag.box b3 [v1] 60,ag.row 3 v1 ((aY m.ai):List Int),ag.box b2 aJ 32,ag.box b1 [iC,z2,jX,lu,iV m.ae,iV m.af] 32,ag.held w own]) (fun g_:Nat×Value×(List Note)×Value×(List Int)=>[ag.ls iC (m.ai:List aj),ag.ls lE (m.Things:List ah),ag.ls jX (m.Held:List Held),ag.ls lu (m.Notes:List Note),ag.ls aF (r.ai:List aj),ag.ls az (r.Things:List ah),ag.ls aC (r.Held:List Held),ag.ls aB (r.Notes:List Note)]) (fun g_:Nat×Value×(List Note)×Value×(List Int)=>g_.1≤m.Notes.length∧g_.2.2.1=e9 m.ai (aY m.ai) (m.Notes.take g_.1)∧g_.2.2.2.2=gA m.ai (aY m.ai) (m.Notes.take g_.1)) (fun g_:Nat×Value×(List Note)×Value×(List Int)=>m.Notes.length-g_.1) (0,(nS),[],(nS),[]) rfl (by exact ⟨by omega,by simp [e9],by simp [gA]⟩) ⟨rfl,rfl,rfl,rfl,rfl,rfl,rfl,rfl,trivial⟩ (fun _=>Wd.pick [0,1,2,3,4,5,6,7] [0,1,2,3,4,5,6,7] rfl rfl rfl) ?_
 rintro ⟨k,vn,ns,vl,ls⟩ ⟨hk1,HN,HL⟩
 dsimp only at *
 have hkl:=kC m.ai (aY m.ai) (m.Notes.take k);rw [← HN,← HL,List.length_take] at hkl
 refine R.reg rfl<|?_
 by_cases h1:k<m.Notes.length
 ·
  refine R.q (q.lss rfl rfl (decide_eq_true (by omega))) rfl<|R.nil ?_
  refine R.aD rfl rfl ?_
  refine R.reg rfl<|?_
  obtain ⟨x1,hx1⟩:∃z,m.Notes[k]? = some z:=⟨_,List.getElem?_eq_getElem (by omega)⟩
  refine R.q (q.idx (i:=k) (fun _=>Wd.aT 3 rfl) rfl rfl dW rfl hx1) rfl<|R.q (q.dD (ds:=cb x1) (fun _=>Wd.aT 3 rfl) hx1 rfl cm rfl) rfl<|R.s rfl (s.alloc (cs:=[iV 0,.string (⟨#[]⟩),iV 0,iV 0]) dC rfl rfl) fun b4=>R.s rfl (s.st (us:=cb x1) (cs':=cb x1) 0 _ rfl rfl rfl rfl (.inl cm) rfl rfl rfl rfl) fun _=>R.nil ?_
  refine R.reg rfl<|R.q (q.a8 (off':=0) rfl bj rfl) rfl<|R.q (q.ld 7 rfl rfl bA rfl) rfl<|R.q (q.a8 (off':=3) rfl fm rfl) rfl<|R.q (q.ld 0 rfl rfl av rfl) rfl<|?_
  rcases dO m.ai x1.aj with ⟨dF,lp⟩ | ⟨pd,eC,dF,fU,Cw⟩
  ·
   refine R.c (q.call jS rfl rfl (fun w hw=>(cv (congrArg (Value.int .i64) dF) (ff _ (m.ai) (x1.aj) w (hw.aT 0 rfl) )))) rfl<|R.q (q.lss (b:=true) rfl rfl (by decide)) rfl<|R.nil ?_
   refine R.aD rfl rfl ?_
   refine R.reg rfl<|R.q (q.a8 (off':=3) rfl fm rfl) rfl<|R.s rfl (s.st (us:=[iV 0]) (cs':=[iV x1.Port,.string x1.Data,iV x1.aG,iV 0]) 0 _ rfl rfl rfl rfl (.inr ⟨av,rfl⟩) rfl rfl rfl rfl) fun _=>R.nil ?_
   refine R.reg rfl<|R.q (q.ld 4 rfl rfl ky rfl) rfl<|R.q (q.a8 (off':=0) rfl kz rfl) rfl<|R.q (q.ld 0 rfl rfl av rfl) rfl<|?_
   rcases Bool.eq_false_or_eq_true (decide (x1.Port∈(aY m.ai))) with h2|h2
   ·
    refine R.c (q.call mY rfl rfl (fun w hw=>(cv (congrArg Value.bool h2) (eb _ ((aY m.ai)) (x1.Port) w (hw.row 5 rfl) )))) rfl<|R.nil ?_
    refine R.aD rfl rfl ?_
    refine R.reg rfl<|R.u 1 rfl<|R.q (q.cT 0 rfl rfl cm) rfl<|R.s rfl (s.bs (l:=([(⟨x1.Port,x1.Data,x1.aG,0⟩:Note)]:List Note)) dW dC rfl rfl rfl rfl rfl rfl rfl) fun b5=>R.s rfl (s.app (l2:=[(⟨x1.Port,x1.Data,x1.aG,0⟩:Note)]) 2 _ rfl rfl rfl (fun _=>Wd.row 0 rfl) gj (by first|omega|(simp;omega)) (by first|omega|(simp;omega)) (fun _=>rfl) rfl) fun v2=>R.u 1 rfl<|R.nil ?_
    refine R.reg rfl<|R.q (q.add (r:=((k+1:Nat):Int)) rfl rfl (wr (by omega))) rfl<|R.u 1 rfl<|R.nil ?_
    refine R.back (k+1,v2,(ns++([(⟨x1.Port,x1.Data,x1.aG,0⟩:Note)])),vl,ls) rfl (by (have e0:=hx1;first|(have e1:=nF (ws:=m.ai) dF;have e2:=kE e0 (by rw [e1];exact of_decide_eq_true ‹_›);rw [e1] at e2;exact ⟨by omega,by rw [e2.1,HN],by rw [e2.2,HL]⟩)|(have e1:=kj (ws:=m.ai) dF;have e2:=kE e0 (by rw [e1];exact of_decide_eq_true ‹_›);rw [e1] at e2;exact ⟨by omega,by rw [e2.1,HN],by rw [e2.2,HL]⟩))) (by dsimp only;omega) ⟨rfl,rfl,rfl,rfl,rfl,rfl,rfl,rfl,trivial⟩ (fun _=>Wd.aM [2,3,4,5,6,7,8,9] [0,1,2,3,4,5,6,7] rfl rfl rfl)
   ·
    refine R.c (q.call mY rfl rfl (fun w hw=>(cv (congrArg Value.bool h2) (eb _ ((aY m.ai)) (x1.Port) w (hw.row 5 rfl) )))) rfl<|R.nil ?_
    refine R.aI rfl rfl ?_
    refine R.reg rfl<|R.q (q.a8 (off':=3) rfl fm rfl) rfl<|R.q (q.ld 0 rfl rfl av rfl) rfl<|R.q (q.gtr (b:=false) rfl rfl (by decide)) rfl<|R.nil ?_
    refine R.aI rfl rfl ?_
    refine R.reg rfl<|R.q (q.add (r:=((k+1:Nat):Int)) rfl rfl (wr (by omega))) rfl<|R.u 1 rfl<|R.nil ?_
    refine R.back (k+1,vn,ns,vl,ls) rfl (by (have e0:=hx1;first|(have e1:=nF (ws:=m.ai) dF;have e2:=kF e0 (by rw [e1];exact of_decide_eq_false ‹_›) (by rw [e1];simp);exact ⟨by omega,by rw [e2.1,HN],by rw [e2.2,HL]⟩)|(have e1:=kj (ws:=m.ai) dF;have e2:=kF e0 (by rw [e1];exact of_decide_eq_false ‹_›) (by rw [e1];assumption);exact ⟨by omega,by rw [e2.1,HN],by rw [e2.2,HL]⟩))) (by dsimp only;omega) ⟨rfl,rfl,rfl,rfl,rfl,rfl,rfl,rfl,trivial⟩ (fun _=>Wd.aM [1,2,3,4,5,6,7,8] [0,1,2,3,4,5,6,7] rfl rfl rfl)
  ·
   refine R.c (q.call jS rfl rfl (fun w hw=>(cv (congrArg (Value.int .i64) dF) (ff _ (m.ai) (x1.aj) w (hw.aT 0 rfl) )))) rfl<|R.q (q.lss rfl rfl (decide_eq_false (by omega))) rfl<|R.nil ?_
   refine R.aI rfl rfl ?_
   refine R.reg rfl<|R.q (q.ld 4 rfl rfl ky rfl) rfl<|R.q (q.a8 (off':=0) rfl kz rfl) rfl<|R.q (q.ld 0 rfl rfl av rfl) rfl<|?_
   rcases Bool.eq_false_or_eq_true (decide (x1.Port∈(aY m.ai))) with h3|h3
   ·
    refine R.c (q.call mY rfl rfl (fun w hw=>(cv (congrArg Value.bool h3) (eb _ ((aY m.ai)) (x1.Port) w (hw.row 5 rfl) )))) rfl<|R.nil ?_
    refine R.aD rfl rfl ?_
    refine R.reg rfl<|R.u 1 rfl<|R.q (q.cT 0 rfl rfl cm) rfl<|R.s rfl (s.bs (l:=([x1]:List Note)) dW dC rfl rfl rfl rfl rfl rfl rfl) fun b6=>R.s rfl (s.app (l2:=[x1]) 2 _ rfl rfl rfl (fun _=>Wd.row 0 rfl) gj (by first|omega|(simp;omega)) (by first|omega|(simp;omega)) (fun _=>rfl) rfl) fun v3=>R.u 1 rfl<|R.nil ?_
    refine R.reg rfl<|R.q (q.add (r:=((k+1:Nat):Int)) rfl rfl (wr (by omega))) rfl<|R.u 1 rfl<|R.nil ?_
    refine R.back (k+1,v3,(ns++([x1])),vl,ls) rfl (by (have e0:=hx1;first|(have e1:=nF (ws:=m.ai) dF;have e2:=kE e0 (by rw [e1];exact of_decide_eq_true ‹_›);rw [e1] at e2;exact ⟨by omega,by rw [e2.1,HN],by rw [e2.2,HL]⟩)|(have e1:=kj (ws:=m.ai) dF;have e2:=kE e0 (by rw [e1];exact of_decide_eq_true ‹_›);rw [e1] at e2;exact ⟨by omega,by rw [e2.1,HN],by rw [e2.2,HL]⟩))) (by dsimp only;omega) ⟨rfl,rfl,rfl,rfl,rfl,rfl,rfl,rfl,trivial⟩ (fun _=>Wd.aM [2,3,4,5,6,7,8,9] [0,1,2,3,4,5,6,7] rfl rfl rfl)
   ·
    refine R.c (q.call mY rfl rfl (fun w hw=>(cv (congrArg Value.bool h3) (eb _ ((aY m.ai)) (x1.Port) w (hw.row 5 rfl) )))) rfl<|R.nil ?_
    refine R.aI rfl rfl ?_
    refine R.reg rfl<|R.q (q.a8 (off':=3) rfl fm rfl) rfl<|R.q (q.ld 0 rfl rfl av rfl) rfl<|?_
    by_cases h4:0<x1.aj
    ·
     refine R.q (q.gtr rfl rfl (decide_eq_true (by omega))) rfl<|R.nil ?_
     refine R.aD rfl rfl ?_
     refine R.reg rfl<|R.u 1 rfl<|R.q (q.a8 (off':=3) rfl fm rfl) rfl<|R.q (q.ld 0 rfl rfl av rfl) rfl<|R.s rfl (s.bs (l:=([x1.aj]:List Int)) ct iH rfl rfl rfl rfl rfl rfl rfl) fun b7=>R.s rfl (s.app (l2:=[x1.aj]) 3 _ rfl rfl rfl (fun _=>Wd.row 0 rfl) jz (by first|omega|(simp;omega)) (by first|omega|(simp;omega)) (fun _=>rfl) rfl) fun v4=>R.u 1 rfl<|R.nil ?_
     refine R.reg rfl<|R.q (q.add (r:=((k+1:Nat):Int)) rfl rfl (wr (by omega))) rfl<|R.u 1 rfl<|R.nil ?_
     refine R.back (k+1,vn,ns,v4,(ls++([x1.aj]))) rfl (by (have e0:=hx1;first|(have e1:=kj (ws:=m.ai) dF;have e2:=uS e0 (by rw [e1];exact of_decide_eq_false ‹_›) (by rw [e1];assumption);rw [e1] at e2;exact ⟨by omega,by rw [e2.1,HN],by rw [e2.2,HL]⟩)|(exfalso;omega))) (by dsimp only;omega) ⟨rfl,rfl,rfl,rfl,rfl,rfl,rfl,rfl,trivial⟩ (fun _=>Wd.aM [2,3,4,5,6,7,8,9] [0,1,2,3,4,5,6,7] rfl rfl rfl)
    ·
     refine R.q (q.gtr rfl rfl (decide_eq_false (by omega))) rfl<|R.nil ?_
     refine R.aI rfl rfl ?_
     refine R.reg rfl<|R.q (q.add (r:=((k+1:Nat):Int)) rfl rfl (wr (by omega))) rfl<|R.u 1 rfl<|R.nil ?_
     refine R.back (k+1,vn,ns,vl,ls) rfl (by (have e0:=hx1;first|(have e1:=nF (ws:=m.ai) dF;have e2:=kF e0 (by rw [e1];exact of_decide_eq_false ‹_›) (by rw [e1];simp);exact ⟨by omega,by rw [e2.1,HN],by rw [e2.2,HL]⟩)|(have e1:=kj (ws:=m.ai) dF;have e2:=kF e0 (by rw [e1];exact of_decide_eq_false ‹_›) (by rw [e1];assumption);exact ⟨by omega,by rw [e2.1,HN],by rw [e2.2,HL]⟩))) (by dsimp only;omega) ⟨rfl,rfl,rfl,rfl,rfl,rfl,rfl,rfl,trivial⟩ (fun _=>Wd.aM [1,2,3,4,5,6,7,8] [0,1,2,3,4,5,6,7] rfl rfl rfl)
 ·
  refine R.q (q.lss rfl rfl (decide_eq_false (by omega))) rfl<|R.nil ?_
  refine R.aI rfl rfl ?_
  refine R.reg rfl<|R.u 1 rfl<|R.q (q.a8 (off':=3) rfl bR rfl) rfl<|R.s rfl (s.e8 (us:=[vn]) (cs':=[iC,z2,jX,vn,iV m.ae,iV m.af]) 6 _ rfl rfl rfl (fun w hw=>Sl.cJ (hw.row 0 rfl)) (.inr ⟨cy,rfl⟩) (fun w hw=>(ak (Sl.one (hw.row 0 rfl)) aS)) rfl rfl rfl) fun _=>R.nil ?_
  refine R.reg rfl<|R.q (q.a8 (off':=2) rfl bP rfl) rfl<|R.q (q.ld 6 rfl rfl cx rfl) rfl<|R.s (B':=(fun aH:Value=>[ag.row 85 aH (m.Held:List Held),ag.row 72 vn (ns:List Note),ag.row 3 vl (ls:List Int),ag.row 62 z2 (m.Things.filter (fun x => !(fun (t:ah) => !decide (t.ID∈(aY m.ai))) x):List ah),ag.box b3 [v1] 60,ag.row 3 v1 ((aY m.ai):List Int),ag.box b2 aJ 32,ag.box b1 [iC,z2,jX,vn,iV m.ae,iV m.af] 32,ag.held w own])) (F':=(fun aH:Value=>[ag.ls iC (m.ai:List aj),ag.ls lE (m.Things:List ah),ag.ls jX (m.Held:List Held),ag.ls lu (m.Notes:List Note),ag.ls aF (r.ai:List aj),ag.ls az (r.Things:List ah),ag.ls aC (r.Held:List Held),ag.ls aB (r.Notes:List Note)])) rfl (s.bJ (B0:=[]) (Br:=[ag.row 72 vn (ns:List Note),ag.row 3 vl (ls:List Int),ag.row 62 z2 (m.Things.filter (fun x => !(fun (t:ah) => !decide (t.ID∈(aY m.ai))) x):List ah),ag.box b3 [v1] 60,ag.row 3 v1 ((aY m.ai):List Int),ag.box b2 aJ 32,ag.box b1 [iC,z2,jX,vn,iV m.ae,iV m.af] 32,ag.held w own]) (F0:=[ag.ls jX (m.Held:List Held)]) [0,1,2,3,4,5,6,7] [2] (fun aH:Value=>aH) (fun aH:Value=>[ag.row 85 aH (m.Held:List Held)]) (fun aH:Value=>[]) rfl rfl rfl vX rfl rfl (fun w own hw H=>kZ jX (m.Held) w own H (by first|omega|assumption|(simp;done)|(simp;omega))) rfl) fun z3=>R.q (q.AZ (cap:=[.pointer (some ⟨b1,0,none⟩)]) rfl rfl) rfl<|R.s (B':=(fun aH:Value=>[ag.row 85 aH ((m.Held.filter (fun x => !(fun (h:Held)=>decide (bL m.ai h.aj<0)) x)):List Held),ag.row 72 vn (ns:List Note),ag.row 3 vl (ls:List Int),ag.row 62 z2 (m.Things.filter (fun x => !(fun (t:ah) => !decide (t.ID∈(aY m.ai))) x):List ah),ag.box b3 [v1] 60,ag.row 3 v1 ((aY m.ai):List Int),ag.box b2 aJ 32,ag.box b1 [iC,z2,jX,vn,iV m.ae,iV m.af] 32,ag.held w own])) (F':=(fun aH:Value=>[ag.ls iC (m.ai:List aj),ag.ls lE (m.Things:List ah),ag.ls jX (m.Held:List Held),ag.ls lu (m.Notes:List Note),ag.ls aF (r.ai:List aj),ag.ls az (r.Things:List ah),ag.ls aC (r.Held:List Held),ag.ls aB (r.Notes:List Note)])) rfl (s.bJ (B0:=[ag.row 85 z3 (m.Held:List Held)]) (Br:=[ag.row 72 vn (ns:List Note),ag.row 3 vl (ls:List Int),ag.row 62 z2 (m.Things.filter (fun x => !(fun (t:ah) => !decide (t.ID∈(aY m.ai))) x):List ah),ag.box b3 [v1] 60,ag.row 3 v1 ((aY m.ai):List Int),ag.box b2 aJ 32,ag.box b1 [iC,z2,jX,vn,iV m.ae,iV m.af] 32,ag.held w own]) (F0:=[]) [0,1,2,3,4,5,6,7,8] [] (fun aH:Value=>aH) (fun aH:Value=>[ag.row 85 aH ((m.Held.filter (fun x => !(fun (h:Held)=>decide (bL m.ai h.aj<0)) x)):List Held)]) (fun aH:Value=>[]) rfl rfl rfl zV rfl rfl (fun w own hw H=>nz z3 (m.Held) (fun (h:Held)=>decide (bL (⟨m.ai,m.Things.filter (fun x => !(fun (t:ah) => !decide (t.ID∈(aY m.ai))) x),m.Held,ns,m.ae,m.af⟩:ap).ai h.aj<0)) _ _ zW w own H (fun W h hU=>pn h _ _ _ _ ((⟨m.ai,m.Things.filter (fun x => !(fun (t:ah) => !decide (t.ID∈(aY m.ai))) x),m.Held,ns,m.ae,m.af⟩:ap)) _ W (hw.og 7 0 rfl rfl (by decide) hU) (hw.za 0 0 rfl rfl hU) (Own.sl (hw.og 3 0 rfl rfl (by decide) hU)) (hw.za 2 0 rfl rfl hU) (Own.sl (hw.og 1 0 rfl rfl (by decide) hU)) ) (by first|omega|assumption|(simp;done)|(simp;omega))) rfl) fun z4=>R.q (q.a8 (off':=2) rfl bP rfl) rfl<|R.s rfl (s.e8 (us:=[z4]) (cs':=[iC,z2,z4,vn,iV m.ae,iV m.af]) 7 _ rfl rfl rfl (fun w hw=>Sl.cJ (hw.row 0 rfl)) (.inr ⟨cx,rfl⟩) (fun w hw=>(ak (Sl.one (hw.row 0 rfl)) aS)) rfl rfl rfl) fun _=>R.nil ?_
  refine R.reg rfl<|R.u 1 rfl<|R.q (q.len' (fun _=>Wd.row 2 rfl) rfl Tryz.underlying60) rfl<|?_
  by_cases h5:ls.length=0
  ·
   refine R.q (q.eql rfl rfl (beq_iff_eq.2 (by omega))) rfl<|R.nil ?_
   refine R.aD rfl rfl ?_
   refine R.reg rfl<|R.q (q.cT 7 rfl rfl ar) rfl<|R.s rfl (s.e8 (us:=[iC,z2,z4,vn,iV m.ae,iV m.af]) (cs':=[iC,z2,z4,vn,iV m.ae,iV m.af]) 6 _ rfl rfl rfl (fun _ _=>rfl) (.inl ar) (fun w hw=>(ak (Sl.one (hw.aT 0 rfl)) (ak (Sl.one (hw.row 3 rfl)) (ak (Sl.one (hw.row 0 rfl)) (ak (Sl.one (hw.row 1 rfl)) (ak rfl (ak rfl aS))))))) rfl rfl rfl) fun _=>R.nil ?_
   refine R.mp (B':=[ag.row 85 z4 (m.Held.filter (fun x => !(fun (h:Held)=>decide (bL m.ai h.aj<0)) x):List Held),ag.row 72 vn (ns:List Note),ag.row 3 vl (ls:List Int),ag.box b3 [v1] 60,ag.row 3 v1 ((aY m.ai):List Int),ag.box b2 [iC,z2,z4,vn,iV m.ae,iV m.af] 32,ag.box b1 [iC,z2,z4,vn,iV m.ae,iV m.af] 32,ag.held w own]) (fun _ hw=>hw.di 3 _ rfl rfl) ?_
   refine R.mp (B':=[ag.row 72 vn (ns:List Note),ag.row 3 vl (ls:List Int),ag.box b3 [v1] 60,ag.row 3 v1 ((aY m.ai):List Int),ag.box b2 [iC,z2,z4,vn,iV m.ae,iV m.af] 32,ag.box b1 [iC,z2,z4,vn,iV m.ae,iV m.af] 32,ag.held w own]) (fun _ hw=>hw.di 0 _ rfl rfl) ?_
   refine R.mp (B':=[ag.row 3 vl (ls:List Int),ag.box b3 [v1] 60,ag.row 3 v1 ((aY m.ai):List Int),ag.box b2 [iC,z2,z4,vn,iV m.ae,iV m.af] 32,ag.box b1 [iC,z2,z4,vn,iV m.ae,iV m.af] 32,ag.held w own]) (fun _ hw=>hw.di 0 _ rfl rfl) ?_
   have hz:bq r=(⟨m.ai,m.Things.filter (fun x => !(fun (t:ah) => !decide (t.ID∈(aY m.ai))) x),m.Held.filter (fun x => !(fun (h:Held)=>decide (bL m.ai h.aj<0)) x),ns,m.ae,m.af⟩:ap):=by (rw [List.take_of_length_le (by omega)] at HN HL;rw [← HS,kg (by show (gA _ _ _).length=0;rw [← HL];assumption)];unfold ew;rw [← HN])
   rw [hz]
   exact R.w1 (iC,z2,z4,vn) [5] [3,2,1,0] rfl Tryz.results63 (RV.cell 3 rfl rfl ar) rfl rfl rfl rfl
  ·
   refine R.q (q.eql rfl rfl (beq_eq_false_iff_ne.2 (by omega))) rfl<|R.nil ?_
   refine R.aI rfl rfl ?_
   refine R.reg rfl<|R.u 1 rfl<|R.q (q.len' (fun _=>Wd.row 2 rfl) rfl Tryz.underlying60) rfl<|R.u 1 rfl<|R.nil ?_
   refine R.loop (fun g_:Nat×Value×(List aj)=>[(1,.pointer (some ⟨b1,0,none⟩)),(2,.pointer (some ⟨b2,0,none⟩)),(62,vl),(63,iV (ls.length:Int)),(64,iV (g_.1:Int))]) (fun g_:Nat×Value×(List aj)=>[ag.row 85 z4 (m.Held.filter (fun x => !(fun (h:Held)=>decide (bL m.ai h.aj<0)) x):List Held),ag.row 72 vn (ns:List Note),ag.row 3 vl (ls:List Int),ag.row 62 z2 (m.Things.filter (fun x => !(fun (t:ah) => !decide (t.ID∈(aY m.ai))) x):List ah),ag.box b3 [v1] 60,ag.row 3 v1 ((aY m.ai):List Int),ag.box b2 aJ 32,ag.box b1 [g_.2.1,z2,z4,vn,iV m.ae,iV m.af] 32,ag.held w own]) (fun g_:Nat×Value×(List aj)=>[ag.ls g_.2.1 (g_.2.2:List aj),ag.ls iC (m.ai:List aj),ag.ls lE (m.Things:List ah),ag.ls jX (m.Held:List Held),ag.ls lu (m.Notes:List Note),ag.ls aF (r.ai:List aj),ag.ls az (r.Things:List ah),ag.ls aC (r.Held:List Held),ag.ls aB (r.Notes:List Note)]) (fun g_:Nat×Value×(List aj)=>g_.1≤ls.length∧g_.2.2=(ls.take g_.1).foldl without m.ai) (fun g_:Nat×Value×(List aj)=>ls.length-g_.1) (0,iC,m.ai) rfl (by exact ⟨by omega,rfl⟩) ⟨rfl,rfl,rfl,rfl,rfl,trivial⟩ (fun _=>Wd.pick [0,1,2,3,4,5,6,7,8] [0,0,1,2,3,4,5,6,7] rfl rfl rfl) ?_
   rintro ⟨j,vw,ws⟩ ⟨hj1,HW⟩
   dsimp only at *
   have hws:ws.length≤2000:=by rw [HW];exact Nat.le_trans (lZ _ _) hok.wl
   refine R.reg rfl<|?_
   by_cases h6:j<ls.length
   ·
    refine R.q (q.lss rfl rfl (decide_eq_true (by omega))) rfl<|R.nil ?_
    refine R.aD rfl rfl ?_
    refine R.reg rfl<|?_
    obtain ⟨x2,hx2⟩:∃z,ls[j]? = some z:=⟨_,List.getElem?_eq_getElem (by omega)⟩
    refine R.q (q.idx (i:=j) (fun _=>Wd.row 2 rfl) rfl rfl ct rfl hx2) rfl<|R.q (q.fk (fun _=>Wd.row 2 rfl) hx2 rfl av rfl) rfl<|R.u 1 rfl<|R.nil ?_
    refine R.reg rfl<|R.q (q.a8 (off':=0) rfl bj rfl) rfl<|R.q (q.ld 7 rfl rfl bA rfl) rfl<|R.u 1 rfl<|R.s rfl (s.nT vT rfl rfl (fun w hw=>ke _ (ws) (x2) w (hw.aT 0 rfl) (by first|omega|assumption)) rfl) fun v5=>R.q (q.a8 (off':=0) rfl bj rfl) rfl<|R.s rfl (s.e8 (us:=[v5]) (cs':=[v5,z2,z4,vn,iV m.ae,iV m.af]) 8 _ rfl rfl rfl (fun w hw=>Sl.cJ (hw.row 0 rfl)) (.inr ⟨bA,rfl⟩) (fun w hw=>(ak (Sl.one (hw.row 0 rfl)) aS)) rfl rfl rfl) fun _=>R.nil ?_
    refine R.reg rfl<|R.q (q.add (r:=((j+1:Nat):Int)) rfl rfl (wr (by omega))) rfl<|R.u 1 rfl<|R.nil ?_
    refine R.mp (B':=[ag.row 85 z4 (m.Held.filter (fun x => !(fun (h:Held)=>decide (bL m.ai h.aj<0)) x):List Held),ag.row 72 vn (ns:List Note),ag.row 3 vl (ls:List Int),ag.row 62 z2 (m.Things.filter (fun x => !(fun (t:ah) => !decide (t.ID∈(aY m.ai))) x):List ah),ag.box b3 [v1] 60,ag.row 3 v1 ((aY m.ai):List Int),ag.box b2 aJ 32,ag.box b1 [v5,z2,z4,vn,iV m.ae,iV m.af] 32,ag.held w own]) (fun _ hw=>hw.di 0 _ rfl rfl) ?_
    refine R.back (j+1,v5,(without ws x2)) rfl (by (exact ⟨by omega,by rw [List.take_add_one,hx2,HW];simp⟩)) (by dsimp only;omega) ⟨rfl,rfl,rfl,rfl,rfl,trivial⟩ (fun _=>Wd.aM [0,1,2,3,4,5,6,7,8] [0,2,3,4,5,6,7,8,9] rfl rfl rfl)
   ·
    refine R.q (q.lss rfl rfl (decide_eq_false (by omega))) rfl<|R.nil ?_
    refine R.aI rfl rfl ?_
    refine R.mp (B':=[ag.row 85 z4 (m.Held.filter (fun x => !(fun (h:Held)=>decide (bL m.ai h.aj<0)) x):List Held),ag.row 72 vn (ns:List Note),ag.row 3 vl (ls:List Int),ag.box b3 [v1] 60,ag.row 3 v1 ((aY m.ai):List Int),ag.box b2 aJ 32,ag.box b1 [vw,z2,z4,vn,iV m.ae,iV m.af] 32,ag.held w own]) (fun _ hw=>hw.di 3 _ rfl rfl) ?_
    refine R.mp (B':=[ag.row 72 vn (ns:List Note),ag.row 3 vl (ls:List Int),ag.box b3 [v1] 60,ag.row 3 v1 ((aY m.ai):List Int),ag.box b2 aJ 32,ag.box b1 [vw,z2,z4,vn,iV m.ae,iV m.af] 32,ag.held w own]) (fun _ hw=>hw.di 0 _ rfl rfl) ?_
    refine R.mp (B':=[ag.row 3 vl (ls:List Int),ag.box b3 [v1] 60,ag.row 3 v1 ((aY m.ai):List Int),ag.box b2 aJ 32,ag.box b1 [vw,z2,z4,vn,iV m.ae,iV m.af] 32,ag.held w own]) (fun _ hw=>hw.di 0 _ rfl rfl) ?_
    refine R.back ((⟨ws,m.Things.filter (fun x => !(fun (t:ah) => !decide (t.ID∈(aY m.ai))) x),m.Held.filter (fun x => !(fun (h:Held)=>decide (bL m.ai h.aj<0)) x),ns,m.ae,m.af⟩:ap),vw,z2,z4,vn) rfl (by (rw [List.take_of_length_le (by omega)] at HN HL;rw [List.take_of_length_le (by omega)] at HW;have hl:jU m=ls:=HL.symm;have e:jD m=(⟨ws,m.Things.filter (fun t => !!decide (t.ID∈aY m.ai)),m.Held.filter (fun h => !decide (bL m.ai h.aj<0)),ns,m.ae,m.af⟩:ap):=(by unfold jD;rw [hl,← HW];unfold ew;rw [← HN]);exact Eq.mp (congrArg (fun q:ap=>Ok q∧bq q=bq r) e) ⟨hok.jD,(rq (by rw [hl];assumption)).symm.trans HS⟩)) (by dsimp only;omega) ⟨rfl,rfl,trivial⟩ (fun _=>Wd.aM [3,4,5] [3,2,1,0,8,9,10,11] rfl rfl rfl)
end Go.Proofs.YtbkfhjaibhnkmaaGreatDoor
