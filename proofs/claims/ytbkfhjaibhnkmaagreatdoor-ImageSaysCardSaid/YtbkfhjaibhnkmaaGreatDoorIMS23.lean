import Derived.Test.YtbkfhjaibhnkmaaGreatDoorIMS22
namespace Go.Proofs.YtbkfhjaibhnkmaaGreatDoor
open Go Go.RowKit
set_option linter.unusedVariables false
set_option linter.unusedSimpArgs false
set_option maxRecDepth 100000
set_option maxHeartbeats 400000 in
theorem nP (aD az aB aC:Value)(r:ar)(w:World)(own:List Nat)(H:Wd w (blks []++own) ([]++[ag.held w own]) [ag.ls aD (r.ai:List ak),ag.ls az (r.Things:List ao),ag.ls aB (r.Held:List Held),ag.ls aC (r.Notes:List Note)] w)(hk:Ok r):Calls Tryz.prog 63 #[.agg #[aD,az,aB,aC,iV r.ae,iV r.af]] w fun e w' => ∃z:Value×Value×Value×Value,e = .returned (.agg #[z.1,z.2.1,z.2.2.1,z.2.2.2,iV (((aY r)).ae),iV (((aY r)).af)])∧Wd w (blks []++own) ([]++[ag.held w own]) [ag.ls z.1 (((aY r)).ai:List ak),ag.ls z.2.1 (((aY r)).Things:List ao),ag.ls z.2.2.1 (((aY r)).Held:List Held),ag.ls z.2.2.2 (((aY r)).Notes:List Note)] w':=by
 have cS:=H.ct 0 rfl
 have cy:=H.ct 1 rfl
 have dq:=H.ct 2 rfl
 have cT:=H.ct 3 rfl
 refine R.da (n:=74) (vs:=[.agg #[aD,az,aB,aC,iV r.ae,iV r.af]]) (B:=[ag.held w own]) [(0,.agg #[aD,az,aB,aC,iV r.ae,iV r.af])] Tryz.func63 O O O O H ?_
 refine R.reg O<|R.s O (s.box (cs:=[aD,az,aB,aC,iV r.ae,iV r.af]) O O O) fun b1=>R.s O (s.alloc (cs:=aG) cp O O) fun b2=>R.nil ?_
 refine R.loop (fun g_:ar×Value×Value×Value×Value=>[(1,.pointer (some ⟨b1,0,none⟩)),(2,.pointer (some ⟨b2,0,none⟩))]) (fun g_=>[ag.box b2 aG 32,ag.box b1 [g_.2.1,g_.2.2.1,g_.2.2.2.1,g_.2.2.2.2,iV g_.1.ae,iV g_.1.af] 32,ag.held w own]) (fun g_=>[ag.ls g_.2.1 g_.1.ai,ag.ls g_.2.2.1 g_.1.Things,ag.ls g_.2.2.2.1 g_.1.Held,ag.ls g_.2.2.2.2 g_.1.Notes,ag.ls aD r.ai,ag.ls az r.Things,ag.ls aB r.Held,ag.ls aC r.Notes]) (fun g_=>Ok g_.1∧aY g_.1=aY r) (fun g_=>g_.1.Notes.length) (r,aD,az,aB,aC) O (by exact ⟨hk,rfl⟩) ⟨rfl,rfl,trivial⟩ (fun _=>Wd.pick [0,1,2] [0,1,2,3,0,1,2,3] O O O) ?_
 rintro ⟨m,jg,pn,mZ,oU⟩ ⟨hok,HS⟩
 dsimp only at *
 have o1:=hok.wl;have o2:=hok.tl;have o3:=hok.hl;have o4:=hok.nl
 refine R.reg O<|R.q (q.aT (off':=0) O bf O) O<|R.q (q.ld 1 O O bE O) O<|R.s O (s.lR EA O O (fun w hw=>p5 _ (m.ai) w (hw.bq 0 O) (by omega)) O) fun v1=>R.s O (s.alloc (cs:=[nS]) uZ O O) fun b3=>R.s O (s.dy (us:=[v1]) (cs':=[v1]) 0 _ O O O (fun w hw=>Sl.cm (hw.row 1 O)) (.inr ⟨mM,rfl⟩) (fun w hw=>(ah (Sl.one (hw.row 1 O)) aL)) O O O) fun _=>R.nil ?_
 refine R.reg O<|R.q (q.aT (off':=1) O bM O) O<|R.q (q.ld 3 O O cq O) O<|R.s (B':=(fun aN:Value=>[ag.row 62 aN m.Things,ag.box b3 [v1] 60,ag.row 3 v1 (aX m.ai),ag.box b2 aG 32,ag.box b1 [jg,pn,mZ,oU,iV m.ae,iV m.af] 32,ag.held w own])) (F':=(fun aN:Value=>[ag.ls jg m.ai,ag.ls pn m.Things,ag.ls mZ m.Held,ag.ls oU m.Notes,ag.ls aD r.ai,ag.ls az r.Things,ag.ls aB r.Held,ag.ls aC r.Notes])) O (s.bP (B0:=[]) (Br:=[ag.box b3 [v1] 60,ag.row 3 v1 (aX m.ai),ag.box b2 aG 32,ag.box b1 [jg,pn,mZ,oU,iV m.ae,iV m.af] 32,ag.held w own]) (F0:=[ag.ls pn m.Things]) cZ [1] (fun aN:Value=>aN) (fun aN:Value=>[ag.row 62 aN m.Things]) (fun aN:Value=>[]) O O O yu O O (fun w own hw H=>iq pn (m.Things) w own H (by omega)) O) fun z1=>R.q (q.Gf (cap:=[.pointer (some ⟨b3,0,none⟩)]) O O) O<|R.s (B':=(fun aN:Value=>[ag.row 62 aN (m.Things.filter (fun x => !(fun (t:ao) => !decide (t.ID∈(aX m.ai))) x)),ag.box b3 [v1] 60,ag.row 3 v1 (aX m.ai),ag.box b2 aG 32,ag.box b1 [jg,pn,mZ,oU,iV m.ae,iV m.af] 32,ag.held w own])) (F':=(fun aN:Value=>[ag.ls jg m.ai,ag.ls pn m.Things,ag.ls mZ m.Held,ag.ls oU m.Notes,ag.ls aD r.ai,ag.ls az r.Things,ag.ls aB r.Held,ag.ls aC r.Notes])) O (s.bP (B0:=[ag.row 62 z1 m.Things]) (Br:=[ag.box b3 [v1] 60,ag.row 3 v1 (aX m.ai),ag.box b2 aG 32,ag.box b1 [jg,pn,mZ,oU,iV m.ae,iV m.af] 32,ag.held w own]) (F0:=[]) ia [] (fun aN:Value=>aN) (fun aN:Value=>[ag.row 62 aN (m.Things.filter (fun x => !(fun (t:ao) => !decide (t.ID∈(aX m.ai))) x))]) (fun aN:Value=>[]) O O O E9 O O (fun w own hw H=>pk z1 (m.Things) (fun (t:ao) => !decide (t.ID∈(aX m.ai))) _ _ Fa w own H (fun W t hU=>sA t _ ((aX m.ai)) _ W (hw.qY 1 0 O O (by decide) hU) (Own.sl (hw.qY 2 0 O O (by decide) hU)) ) (by omega)) O) fun z2=>R.q (q.aT (off':=1) O bM O) O<|R.s O (s.dy (us:=[z2]) (cs':=[jg,z2,mZ,oU,iV m.ae,iV m.af]) 4 _ O O O (fun w hw=>Sl.cm (hw.row 0 O)) (.inr ⟨cq,rfl⟩) (fun w hw=>(ah (Sl.one (hw.row 0 O)) aL)) O O O) fun _=>R.nil ?_
 refine R.reg O<|R.u 1 O<|R.nil ?_
 refine R.reg O<|R.u 1 O<|R.nil ?_
 refine R.reg O<|R.q (q.aT (off':=3) O br O) O<|R.q (q.ld 4 O O bN O) O<|R.q (q.len' (bJ 3 O) O Tryz.underlying30) O<|R.u 1 O<|R.nil ?_
 refine R.row0 (α:=Int) 3 ?_
 refine R.row0 (α:=Note) 72 ?_
 refine R.loop (fun g_:Nat×Value×(List Note)×Value×(List Int)=>[(1,.pointer (some ⟨b1,0,none⟩)),(2,.pointer (some ⟨b2,0,none⟩)),(3,.pointer (some ⟨b3,0,none⟩)),(4,g_.2.2.2.1),(5,g_.2.1),(20,oU),(21,iV (m.Notes.length:Int)),(22,iV (g_.1:Int))]) (fun g_=>[ag.row 72 g_.2.1 g_.2.2.1,ag.row 3 g_.2.2.2.1 g_.2.2.2.2,ag.row 62 z2 (m.Things.filter (fun x => !(fun (t:ao) => !decide (t.ID∈(aX m.ai))) x)),ag.box b3 [v1] 60,ag.row 3 v1 (aX m.ai),ag.box b2 aG 32,ag.box b1 [jg,z2,mZ,oU,iV m.ae,iV m.af] 32,ag.held w own]) (fun g_=>[ag.ls jg m.ai,ag.ls pn m.Things,ag.ls mZ m.Held,ag.ls oU m.Notes,ag.ls aD r.ai,ag.ls az r.Things,ag.ls aB r.Held,ag.ls aC r.Notes]) (fun g_=>g_.1≤m.Notes.length∧g_.2.2.1=fH m.ai (aX m.ai) (m.Notes.take g_.1)∧g_.2.2.2.2=f5 m.ai (aX m.ai) (m.Notes.take g_.1)) (fun g_=>m.Notes.length-g_.1) (0,(nS),[],(nS),[]) O (by exact ⟨by omega,by simp [fH],by simp [f5]⟩) ⟨rfl,rfl,rfl,rfl,rfl,rfl,rfl,rfl,trivial⟩ (fun _=>Wd.pick bS bS O O O) ?_
 rintro ⟨k,vn,ns,vl,ls⟩ ⟨hk1,HN,HL⟩
 dsimp only at *
 have hkl:=kN m.ai (aX m.ai) (m.Notes.take k);rw [← HN,← HL,List.length_take] at hkl
 refine R.reg O<|?_
 by_cases h1:k<m.Notes.length
 ·
  refine R.q (q.lss O O (decide_eq_true (by omega))) O<|R.nil ?_
  refine R.aE O O ?_
  refine R.reg O<|?_
  obtain ⟨x1,hx1⟩:∃z,m.Notes[k]? = some z:=⟨_,List.getElem?_eq_getElem (by omega)⟩
  refine R.q (q.idx (i:=k) (bJ 3 O) O O du O hx1) O<|R.q (q.cY (ds:=bg x1) (bJ 3 O) hx1 O bO O) O<|R.s O (s.alloc (cs:=[iV 0,.string (⟨#[]⟩),iV 0,iV 0]) dv O O) fun b4=>R.s O (s.st (us:=bg x1) (cs':=bg x1) 0 _ O O O O (.inl bO) O O O O) fun _=>R.nil ?_
  refine R.reg O<|R.q (q.aT (off':=0) O bf O) O<|R.q (q.ld 7 O O bE O) O<|R.q (q.aT (off':=3) O dE O) O<|R.q (q.ld 0 O O aA O) O<|?_
  rcases dR m.ai x1.ak with ⟨eU,ug⟩ | ⟨lW,hZ,eU,oT,EK⟩
  ·
   refine R.c (q.call lT O O (fun w hw=>(cv (congrArg (Value.int .i64) eU) (f4 _ (m.ai) (x1.ak) w (hw.bq 0 O) )))) O<|R.q (q.lss (b:=true) O O (by decide)) O<|R.nil ?_
   refine R.aE O O ?_
   refine R.reg O<|R.q (q.aT (off':=3) O dE O) O<|R.s O (s.st (us:=[iV 0]) (cs':=[iV x1.Port,.string x1.Data,iV x1.aI,iV 0]) 0 _ O O O O (.inr ⟨aA,rfl⟩) O O O O) fun _=>R.nil ?_
   refine R.reg O<|R.q (q.ld 4 O O mM O) O<|R.q (q.aT (off':=0) O gH O) O<|R.q (q.ld 0 O O aA O) O<|?_
   rcases Bool.eq_false_or_eq_true (decide (x1.Port∈(aX m.ai))) with h2|h2
   ·
    refine R.c (q.call pQ O O (fun w hw=>(cv (congrArg Value.bool h2) (e5 _ ((aX m.ai)) (x1.Port) w (hw.row 5 O) )))) O<|R.nil ?_
    refine R.aE O O ?_
    refine R.reg O<|R.u 1 O<|R.q (q.cj 0 O O bO) O<|R.s O (s.bs (l:=([(⟨x1.Port,x1.Data,x1.aI,0⟩:Note)]:List Note)) du dv O O O O O O O) fun b5=>R.s O (s.app (l2:=[(⟨x1.Port,x1.Data,x1.aI,0⟩:Note)]) 2 _ O O O (cJ 0 O) dL (by (simp;omega)) (by (simp;omega)) (fun _=>rfl) O) fun v2=>R.u 1 O<|R.nil ?_
    refine R.reg O<|R.q (q.add (r:=((k+1:Nat):Int)) O O (wr (by omega))) O<|R.u 1 O<|R.nil ?_
    refine R.back (k+1,v2,(ns++([(⟨x1.Port,x1.Data,x1.aI,0⟩:Note)])),vl,ls) O (by (have e0:=hx1;(have e1:=qv (ws:=m.ai) eU;have e2:=mV e0 (by rw [e1];exact of_decide_eq_true ‹_›);rw [e1] at e2;exact ⟨by omega,by rw [e2.1,HN],by rw [e2.2,HL]⟩))) (by dsimp only;omega) ⟨rfl,rfl,rfl,rfl,rfl,rfl,rfl,rfl,trivial⟩ (aK uQ bS O O O)
   ·
    refine R.c (q.call pQ O O (fun w hw=>(cv (congrArg Value.bool h2) (e5 _ ((aX m.ai)) (x1.Port) w (hw.row 5 O) )))) O<|R.nil ?_
    refine R.aF O O ?_
    refine R.reg O<|R.q (q.aT (off':=3) O dE O) O<|R.q (q.ld 0 O O aA O) O<|R.q (q.gtr (b:=false) O O (by decide)) O<|R.nil ?_
    refine R.aF O O ?_
    refine R.reg O<|R.q (q.add (r:=((k+1:Nat):Int)) O O (wr (by omega))) O<|R.u 1 O<|R.nil ?_
    refine R.back (k+1,vn,ns,vl,ls) O (by (have e0:=hx1;(have e1:=qv (ws:=m.ai) eU;have e2:=mW e0 (by rw [e1];exact of_decide_eq_false ‹_›) (by rw [e1];simp);exact ⟨by omega,by rw [e2.1,HN],by rw [e2.2,HL]⟩))) (by dsimp only;omega) ⟨rfl,rfl,rfl,rfl,rfl,rfl,rfl,rfl,trivial⟩ (aK uR bS O O O)
  ·
   refine R.c (q.call lT O O (fun w hw=>(cv (congrArg (Value.int .i64) eU) (f4 _ (m.ai) (x1.ak) w (hw.bq 0 O) )))) O<|R.q (q.lss O O (decide_eq_false (by omega))) O<|R.nil ?_
   refine R.aF O O ?_
   refine R.reg O<|R.q (q.ld 4 O O mM O) O<|R.q (q.aT (off':=0) O gH O) O<|R.q (q.ld 0 O O aA O) O<|?_
   rcases Bool.eq_false_or_eq_true (decide (x1.Port∈(aX m.ai))) with h3|h3
   ·
    refine R.c (q.call pQ O O (fun w hw=>(cv (congrArg Value.bool h3) (e5 _ ((aX m.ai)) (x1.Port) w (hw.row 5 O) )))) O<|R.nil ?_
    refine R.aE O O ?_
    refine R.reg O<|R.u 1 O<|R.q (q.cj 0 O O bO) O<|R.s O (s.bs (l:=([x1]:List Note)) du dv O O O O O O O) fun b6=>R.s O (s.app (l2:=[x1]) 2 _ O O O (cJ 0 O) dL (by (simp;omega)) (by (simp;omega)) (fun _=>rfl) O) fun v3=>R.u 1 O<|R.nil ?_
    refine R.reg O<|R.q (q.add (r:=((k+1:Nat):Int)) O O (wr (by omega))) O<|R.u 1 O<|R.nil ?_
    refine R.back (k+1,v3,(ns++([x1])),vl,ls) O (by (have e0:=hx1;(have e1:=kO (ws:=m.ai) eU;have e2:=mV e0 (by rw [e1];exact of_decide_eq_true ‹_›);rw [e1] at e2;exact ⟨by omega,by rw [e2.1,HN],by rw [e2.2,HL]⟩))) (by dsimp only;omega) ⟨rfl,rfl,rfl,rfl,rfl,rfl,rfl,rfl,trivial⟩ (aK uQ bS O O O)
   ·
    refine R.c (q.call pQ O O (fun w hw=>(cv (congrArg Value.bool h3) (e5 _ ((aX m.ai)) (x1.Port) w (hw.row 5 O) )))) O<|R.nil ?_
    refine R.aF O O ?_
    refine R.reg O<|R.q (q.aT (off':=3) O dE O) O<|R.q (q.ld 0 O O aA O) O<|?_
    by_cases h4:0<x1.ak
    ·
     refine R.q (q.gtr O O (decide_eq_true (by omega))) O<|R.nil ?_
     refine R.aE O O ?_
     refine R.reg O<|R.u 1 O<|R.q (q.aT (off':=3) O dE O) O<|R.q (q.ld 0 O O aA O) O<|R.s O (s.bs (l:=([x1.ak]:List Int)) dK iO O O O O O O O) fun b7=>R.s O (s.app (l2:=[x1.ak]) 3 _ O O O (cJ 0 O) jq (by (simp;omega)) (by (simp;omega)) (fun _=>rfl) O) fun v4=>R.u 1 O<|R.nil ?_
     refine R.reg O<|R.q (q.add (r:=((k+1:Nat):Int)) O O (wr (by omega))) O<|R.u 1 O<|R.nil ?_
     refine R.back (k+1,vn,ns,v4,(ls++([x1.ak]))) O (by (have e0:=hx1;(have e1:=kO (ws:=m.ai) eU;have e2:=s9 e0 (by rw [e1];exact of_decide_eq_false ‹_›) (by rw [e1];assumption);rw [e1] at e2;exact ⟨by omega,by rw [e2.1,HN],by rw [e2.2,HL]⟩))) (by dsimp only;omega) ⟨rfl,rfl,rfl,rfl,rfl,rfl,rfl,rfl,trivial⟩ (aK uQ bS O O O)
    ·
     refine R.q (q.gtr O O (decide_eq_false (by omega))) O<|R.nil ?_
     refine R.aF O O ?_
     refine R.reg O<|R.q (q.add (r:=((k+1:Nat):Int)) O O (wr (by omega))) O<|R.u 1 O<|R.nil ?_
     refine R.back (k+1,vn,ns,vl,ls) O (by (have e0:=hx1;(have e1:=kO (ws:=m.ai) eU;have e2:=mW e0 (by rw [e1];exact of_decide_eq_false ‹_›) (by rw [e1];assumption);exact ⟨by omega,by rw [e2.1,HN],by rw [e2.2,HL]⟩))) (by dsimp only;omega) ⟨rfl,rfl,rfl,rfl,rfl,rfl,rfl,rfl,trivial⟩ (aK uR bS O O O)
 ·
  refine R.q (q.lss O O (decide_eq_false (by omega))) O<|R.nil ?_
  refine R.aF O O ?_
  refine R.reg O<|R.u 1 O<|R.q (q.aT (off':=3) O br O) O<|R.s O (s.dy (us:=[vn]) (cs':=[jg,z2,mZ,vn,iV m.ae,iV m.af]) 6 _ O O O (fun w hw=>Sl.cm (hw.row 0 O)) (.inr ⟨bN,rfl⟩) (fun w hw=>(ah (Sl.one (hw.row 0 O)) aL)) O O O) fun _=>R.nil ?_
  refine R.reg O<|R.q (q.aT (off':=2) O bB O) O<|R.q (q.ld 6 O O bZ O) O<|R.s (B':=(fun aN:Value=>[ag.row 85 aN m.Held,ag.row 72 vn ns,ag.row 3 vl ls,ag.row 62 z2 (m.Things.filter (fun x => !(fun (t:ao) => !decide (t.ID∈(aX m.ai))) x)),ag.box b3 [v1] 60,ag.row 3 v1 (aX m.ai),ag.box b2 aG 32,ag.box b1 [jg,z2,mZ,vn,iV m.ae,iV m.af] 32,ag.held w own])) (F':=(fun aN:Value=>[ag.ls jg m.ai,ag.ls pn m.Things,ag.ls mZ m.Held,ag.ls oU m.Notes,ag.ls aD r.ai,ag.ls az r.Things,ag.ls aB r.Held,ag.ls aC r.Notes])) O (s.bP (B0:=[]) (Br:=[ag.row 72 vn ns,ag.row 3 vl ls,ag.row 62 z2 (m.Things.filter (fun x => !(fun (t:ao) => !decide (t.ID∈(aX m.ai))) x)),ag.box b3 [v1] 60,ag.row 3 v1 (aX m.ai),ag.box b2 aG 32,ag.box b1 [jg,z2,mZ,vn,iV m.ae,iV m.af] 32,ag.held w own]) (F0:=[ag.ls mZ m.Held]) bS [2] (fun aN:Value=>aN) (fun aN:Value=>[ag.row 85 aN m.Held]) (fun aN:Value=>[]) O O O AO O O (fun w own hw H=>nz mZ (m.Held) w own H (by omega)) O) fun z3=>R.q (q.Gf (cap:=[.pointer (some ⟨b1,0,none⟩)]) O O) O<|R.s (B':=(fun aN:Value=>[ag.row 85 aN (m.Held.filter (fun x => !(fun (h:Held)=>decide (cB m.ai h.ak<0)) x)),ag.row 72 vn ns,ag.row 3 vl ls,ag.row 62 z2 (m.Things.filter (fun x => !(fun (t:ao) => !decide (t.ID∈(aX m.ai))) x)),ag.box b3 [v1] 60,ag.row 3 v1 (aX m.ai),ag.box b2 aG 32,ag.box b1 [jg,z2,mZ,vn,iV m.ae,iV m.af] 32,ag.held w own])) (F':=(fun aN:Value=>[ag.ls jg m.ai,ag.ls pn m.Things,ag.ls mZ m.Held,ag.ls oU m.Notes,ag.ls aD r.ai,ag.ls az r.Things,ag.ls aB r.Held,ag.ls aC r.Notes])) O (s.bP (B0:=[ag.row 85 z3 m.Held]) (Br:=[ag.row 72 vn ns,ag.row 3 vl ls,ag.row 62 z2 (m.Things.filter (fun x => !(fun (t:ao) => !decide (t.ID∈(aX m.ai))) x)),ag.box b3 [v1] 60,ag.row 3 v1 (aX m.ai),ag.box b2 aG 32,ag.box b1 [jg,z2,mZ,vn,iV m.ae,iV m.af] 32,ag.held w own]) (F0:=[]) cU [] (fun aN:Value=>aN) (fun aN:Value=>[ag.row 85 aN (m.Held.filter (fun x => !(fun (h:Held)=>decide (cB m.ai h.ak<0)) x))]) (fun aN:Value=>[]) O O O Fb O O (fun w own hw H=>qk z3 (m.Held) (fun (h:Held)=>decide (cB (⟨m.ai,m.Things.filter (fun x => !(fun (t:ao) => !decide (t.ID∈(aX m.ai))) x),m.Held,ns,m.ae,m.af⟩:ar).ai h.ak<0)) _ _ Fc w own H (fun W h hU=>sB h _ _ _ _ ((⟨m.ai,m.Things.filter (fun x => !(fun (t:ao) => !decide (t.ID∈(aX m.ai))) x),m.Held,ns,m.ae,m.af⟩:ar)) _ W (hw.qY 7 0 O O (by decide) hU) (hw.Es 0 0 O O hU) (Own.sl (hw.qY 3 0 O O (by decide) hU)) (hw.Es 2 0 O O hU) (Own.sl (hw.qY 1 0 O O (by decide) hU)) ) (by omega)) O) fun z4=>R.q (q.aT (off':=2) O bB O) O<|R.s O (s.dy (us:=[z4]) (cs':=[jg,z2,z4,vn,iV m.ae,iV m.af]) 7 _ O O O (fun w hw=>Sl.cm (hw.row 0 O)) (.inr ⟨bZ,rfl⟩) (fun w hw=>(ah (Sl.one (hw.row 0 O)) aL)) O O O) fun _=>R.nil ?_
  refine R.reg O<|R.u 1 O<|R.q (q.len' (cJ 2 O) O Tryz.underlying60) O<|?_
  by_cases h5:ls.length=0
  ·
   refine R.q (q.eql O O (beq_iff_eq.2 (by omega))) O<|R.nil ?_
   refine R.aE O O ?_
   refine R.reg O<|R.q (q.cj 7 O O ap) O<|R.s O (s.dy (us:=[jg,z2,z4,vn,iV m.ae,iV m.af]) (cs':=[jg,z2,z4,vn,iV m.ae,iV m.af]) 6 _ O O O (fun _ _=>rfl) (.inl ap) (fun w hw=>(ah (Sl.one (hw.bq 0 O)) (ah (Sl.one (hw.row 3 O)) (ah (Sl.one (hw.row 0 O)) (ah (Sl.one (hw.row 1 O)) (ah O (ah O aL))))))) O O O) fun _=>R.nil ?_
   refine R.mp (B':=[ag.row 85 z4 (m.Held.filter (fun x => !(fun (h:Held)=>decide (cB m.ai h.ak<0)) x)),ag.row 72 vn ns,ag.row 3 vl ls,ag.box b3 [v1] 60,ag.row 3 v1 (aX m.ai),ag.box b2 [jg,z2,z4,vn,iV m.ae,iV m.af] 32,ag.box b1 [jg,z2,z4,vn,iV m.ae,iV m.af] 32,ag.held w own]) (fun _ hw=>hw.bH 3 _ O O) ?_
   refine R.mp (B':=[ag.row 72 vn ns,ag.row 3 vl ls,ag.box b3 [v1] 60,ag.row 3 v1 (aX m.ai),ag.box b2 [jg,z2,z4,vn,iV m.ae,iV m.af] 32,ag.box b1 [jg,z2,z4,vn,iV m.ae,iV m.af] 32,ag.held w own]) (fun _ hw=>hw.bH 0 _ O O) ?_
   refine R.mp (B':=[ag.row 3 vl ls,ag.box b3 [v1] 60,ag.row 3 v1 (aX m.ai),ag.box b2 [jg,z2,z4,vn,iV m.ae,iV m.af] 32,ag.box b1 [jg,z2,z4,vn,iV m.ae,iV m.af] 32,ag.held w own]) (fun _ hw=>hw.bH 0 _ O O) ?_
   have hz:aY r=(⟨m.ai,m.Things.filter (fun x => !(fun (t:ao) => !decide (t.ID∈(aX m.ai))) x),m.Held.filter (fun x => !(fun (h:Held)=>decide (cB m.ai h.ak<0)) x),ns,m.ae,m.af⟩:ar):=by (rw [List.take_of_length_le (by omega)] at HN HL;rw [← HS,kb (by show (f5 _ _ _).length=0;rw [← HL];assumption)];unfold eS;rw [← HN])
   rw [hz]
   exact R.w1 (jg,z2,z4,vn) [5] dj O Tryz.results63 (RV.cell 3 O O ap) O O O O
  ·
   refine R.q (q.eql O O (beq_eq_false_iff_ne.2 (by omega))) O<|R.nil ?_
   refine R.aF O O ?_
   refine R.reg O<|R.u 1 O<|R.q (q.len' (cJ 2 O) O Tryz.underlying60) O<|R.u 1 O<|R.nil ?_
   refine R.loop (fun g_:Nat×Value×(List ak)=>[(1,.pointer (some ⟨b1,0,none⟩)),(2,.pointer (some ⟨b2,0,none⟩)),(62,vl),(63,iV (ls.length:Int)),(64,iV (g_.1:Int))]) (fun g_=>[ag.row 85 z4 (m.Held.filter (fun x => !(fun (h:Held)=>decide (cB m.ai h.ak<0)) x)),ag.row 72 vn ns,ag.row 3 vl ls,ag.row 62 z2 (m.Things.filter (fun x => !(fun (t:ao) => !decide (t.ID∈(aX m.ai))) x)),ag.box b3 [v1] 60,ag.row 3 v1 (aX m.ai),ag.box b2 aG 32,ag.box b1 [g_.2.1,z2,z4,vn,iV m.ae,iV m.af] 32,ag.held w own]) (fun g_=>[ag.ls g_.2.1 g_.2.2,ag.ls jg m.ai,ag.ls pn m.Things,ag.ls mZ m.Held,ag.ls oU m.Notes,ag.ls aD r.ai,ag.ls az r.Things,ag.ls aB r.Held,ag.ls aC r.Notes]) (fun g_=>g_.1≤ls.length∧g_.2.2=(ls.take g_.1).foldl without m.ai) (fun g_=>ls.length-g_.1) (0,jg,m.ai) O (by exact ⟨by omega,rfl⟩) ⟨rfl,rfl,rfl,rfl,rfl,trivial⟩ (fun _=>Wd.pick cU [0,0,1,2,3,4,5,6,7] O O O) ?_
   rintro ⟨j,vw,ws⟩ ⟨hj1,HW⟩
   dsimp only at *
   have hws:ws.length≤2000:=by rw [HW];exact Nat.le_trans (my _ _) hok.wl
   refine R.reg O<|?_
   by_cases h6:j<ls.length
   ·
    refine R.q (q.lss O O (decide_eq_true (by omega))) O<|R.nil ?_
    refine R.aE O O ?_
    refine R.reg O<|?_
    obtain ⟨x2,hx2⟩:∃z,ls[j]? = some z:=⟨_,List.getElem?_eq_getElem (by omega)⟩
    refine R.q (q.idx (i:=j) (cJ 2 O) O O dK O hx2) O<|R.q (q.fb (cJ 2 O) hx2 O aA O) O<|R.u 1 O<|R.nil ?_
    refine R.reg O<|R.q (q.aT (off':=0) O bf O) O<|R.q (q.ld 7 O O bE O) O<|R.u 1 O<|R.s O (s.lR AF O O (fun w hw=>mj _ (ws) (x2) w (hw.bq 0 O) (by omega)) O) fun v5=>R.q (q.aT (off':=0) O bf O) O<|R.s O (s.dy (us:=[v5]) (cs':=[v5,z2,z4,vn,iV m.ae,iV m.af]) 8 _ O O O (fun w hw=>Sl.cm (hw.row 0 O)) (.inr ⟨bE,rfl⟩) (fun w hw=>(ah (Sl.one (hw.row 0 O)) aL)) O O O) fun _=>R.nil ?_
    refine R.reg O<|R.q (q.add (r:=((j+1:Nat):Int)) O O (wr (by omega))) O<|R.u 1 O<|R.nil ?_
    refine R.mp (B':=[ag.row 85 z4 (m.Held.filter (fun x => !(fun (h:Held)=>decide (cB m.ai h.ak<0)) x)),ag.row 72 vn ns,ag.row 3 vl ls,ag.row 62 z2 (m.Things.filter (fun x => !(fun (t:ao) => !decide (t.ID∈(aX m.ai))) x)),ag.box b3 [v1] 60,ag.row 3 v1 (aX m.ai),ag.box b2 aG 32,ag.box b1 [v5,z2,z4,vn,iV m.ae,iV m.af] 32,ag.held w own]) (fun _ hw=>hw.bH 0 _ O O) ?_
    refine R.back (j+1,v5,(without ws x2)) O (by (exact ⟨by omega,by rw [List.take_add_one,hx2,HW];simp⟩)) (by dsimp only;omega) ⟨rfl,rfl,rfl,rfl,rfl,trivial⟩ (aK cU [0,2,3,4,5,6,7,8,9] O O O)
   ·
    refine R.q (q.lss O O (decide_eq_false (by omega))) O<|R.nil ?_
    refine R.aF O O ?_
    refine R.mp (B':=[ag.row 85 z4 (m.Held.filter (fun x => !(fun (h:Held)=>decide (cB m.ai h.ak<0)) x)),ag.row 72 vn ns,ag.row 3 vl ls,ag.box b3 [v1] 60,ag.row 3 v1 (aX m.ai),ag.box b2 aG 32,ag.box b1 [vw,z2,z4,vn,iV m.ae,iV m.af] 32,ag.held w own]) (fun _ hw=>hw.bH 3 _ O O) ?_
    refine R.mp (B':=[ag.row 72 vn ns,ag.row 3 vl ls,ag.box b3 [v1] 60,ag.row 3 v1 (aX m.ai),ag.box b2 aG 32,ag.box b1 [vw,z2,z4,vn,iV m.ae,iV m.af] 32,ag.held w own]) (fun _ hw=>hw.bH 0 _ O O) ?_
    refine R.mp (B':=[ag.row 3 vl ls,ag.box b3 [v1] 60,ag.row 3 v1 (aX m.ai),ag.box b2 aG 32,ag.box b1 [vw,z2,z4,vn,iV m.ae,iV m.af] 32,ag.held w own]) (fun _ hw=>hw.bH 0 _ O O) ?_
    refine R.back ((⟨ws,m.Things.filter (fun x => !(fun (t:ao) => !decide (t.ID∈(aX m.ai))) x),m.Held.filter (fun x => !(fun (h:Held)=>decide (cB m.ai h.ak<0)) x),ns,m.ae,m.af⟩:ar),vw,z2,z4,vn) O (by (rw [List.take_of_length_le (by omega)] at HN HL;rw [List.take_of_length_le (by omega)] at HW;have hl:ka m=ls:=HL.symm;have e:jm m=(⟨ws,m.Things.filter (fun t => !!decide (t.ID∈aX m.ai)),m.Held.filter (fun h => !decide (cB m.ai h.ak<0)),ns,m.ae,m.af⟩:ar):=(by unfold jm;rw [hl,← HW];unfold eS;rw [← HN]);exact Eq.mp (congrArg (fun q:ar=>Ok q∧aY q=aY r) e) ⟨hok.jm,(pY (by rw [hl];assumption)).symm.trans HS⟩)) (by dsimp only;omega) ⟨rfl,rfl,trivial⟩ (aK [3,4,5] [3,2,1,0,8,9,10,11] O O O)
end Go.Proofs.YtbkfhjaibhnkmaaGreatDoor
