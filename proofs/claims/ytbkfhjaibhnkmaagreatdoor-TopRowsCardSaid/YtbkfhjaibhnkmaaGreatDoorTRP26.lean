import Derived.Test.YtbkfhjaibhnkmaaGreatDoorTRP25
namespace Go.Proofs.YtbkfhjaibhnkmaaGreatDoor
open Go Go.RowKit
set_option linter.unusedVariables false
set_option linter.unusedSimpArgs false
set_option maxRecDepth 100000
set_option maxHeartbeats 400000 in
theorem kz (aD az aC aB:Value)(r:au)(w:World)(own:List Nat)(H:Wd w (blks []++own) ([]++[ah.held w own]) [ah.ls aD (r.aj:List ak),ah.ls az (r.Things:List ai),ah.ls aC (r.Held:List Held),ah.ls aB (r.Notes:List Note)] w)(hk:Ok r):Calls Tryz.prog 63 #[.agg #[aD,az,aC,aB,.int .i64 r.ae,.int .i64 r.af]] w fun e w' => ∃z:Value×Value×Value×Value,e = .returned (.agg #[z.1,z.2.1,z.2.2.1,z.2.2.2,.int .i64 (((a8 r)).ae),.int .i64 (((a8 r)).af)])∧Wd w (blks []++own) ([]++[ah.held w own]) [ah.ls z.1 (((a8 r)).aj:List ak),ah.ls z.2.1 (((a8 r)).Things:List ai),ah.ls z.2.2.1 (((a8 r)).Held:List Held),ah.ls z.2.2.2 (((a8 r)).Notes:List Note)] w':=by
  have dF:=H.cL 0 rfl
  have cX:=H.cL 1 rfl
  have ej:=H.cL 2 rfl
  have dG:=H.cL 3 rfl
  refine R.cQ (n:=74) (vs:=[.agg #[aD,az,aC,aB,.int .i64 r.ae,.int .i64 r.af]]) (B:=[ah.held w own]) [(0,.agg #[aD,az,aC,aB,.int .i64 r.ae,.int .i64 r.af])] Tryz.func63 rfl rfl rfl rfl H ?_
  refine R.reg rfl<|?_
  refine R.s rfl (s.box (cs:=[aD,az,aC,aB,.int .i64 r.ae,.int .i64 r.af]) rfl rfl rfl) fun b1=>?_
  refine R.s rfl (s.alloc (cs:=[.slice none 0 0,.slice none 0 0,.slice none 0 0,.slice none 0 0,.int .i64 0,.int .i64 0]) cj rfl rfl) fun b2=>?_
  refine R.nil ?_
  refine R.loop (fun g_:au×Value×Value×Value×Value=>[(1,.pointer (some ⟨b1,0,none⟩)),(2,.pointer (some ⟨b2,0,none⟩))]) (fun g_:au×Value×Value×Value×Value=>[ah.box b2 [.slice none 0 0,.slice none 0 0,.slice none 0 0,.slice none 0 0,.int .i64 0,.int .i64 0] 32,ah.box b1 [g_.2.1,g_.2.2.1,g_.2.2.2.1,g_.2.2.2.2,.int .i64 g_.1.ae,.int .i64 g_.1.af] 32,ah.held w own]) (fun g_:au×Value×Value×Value×Value=>[ah.ls g_.2.1 (g_.1.aj:List ak),ah.ls g_.2.2.1 (g_.1.Things:List ai),ah.ls g_.2.2.2.1 (g_.1.Held:List Held),ah.ls g_.2.2.2.2 (g_.1.Notes:List Note),ah.ls aD (r.aj:List ak),ah.ls az (r.Things:List ai),ah.ls aC (r.Held:List Held),ah.ls aB (r.Notes:List Note)]) (fun g_:au×Value×Value×Value×Value=>Ok g_.1∧a8 g_.1=a8 r) (fun g_:au×Value×Value×Value×Value=>g_.1.Notes.length) (r,aD,az,aC,aB) rfl (by exact ⟨hk,rfl⟩) ⟨rfl,rfl,trivial⟩ (fun _=>Wd.pick [0,1,2] [0,1,2,3,0,1,2,3] rfl rfl rfl) ?_
  rintro ⟨m,gV,kL,jm,kA⟩ ⟨hok,HS⟩
  dsimp only at *
  have o1:=hok.wl;have o2:=hok.tl;have o3:=hok.hl;have o4:=hok.nl
  refine R.reg rfl<|R.q (q.aX (off':=0) rfl aY rfl) rfl<|R.q (q.ld 1 rfl rfl bq rfl) rfl<|?_
  refine R.s rfl (s.od xL rfl rfl (fun w hw=>l9 _ (m.aj) w ((fun _=>Wd.aS 0 rfl) w hw) (by first|omega|assumption)) rfl) fun v1=>?_
  refine R.s rfl (s.alloc (cs:=[.slice none 0 0]) pL rfl rfl) fun b3=>?_
  refine R.s rfl (s.eH (us:=[v1]) (cs':=[v1]) 0 _ rfl rfl rfl (fun w hw=>Sl.cr ((fun _=>Wd.row 1 rfl) w hw)) (.inr ⟨jQ,rfl⟩) (fun w hw=>(ao (Sl.one ((fun _=>Wd.row 1 rfl) w hw)) aO)) rfl rfl rfl) fun _=>?_
  refine R.nil ?_
  refine R.reg rfl<|R.q (q.aX (off':=1) rfl bI rfl) rfl<|R.q (q.ld 3 rfl rfl cu rfl) rfl<|?_
  refine R.s (B':=(fun aG:Value=>[ah.row 62 aG (m.Things:List ai),ah.box b3 [v1] 60,ah.row 3 v1 ((aR m.aj):List Int),ah.box b2 [.slice none 0 0,.slice none 0 0,.slice none 0 0,.slice none 0 0,.int .i64 0,.int .i64 0] 32,ah.box b1 [gV,kL,jm,kA,.int .i64 m.ae,.int .i64 m.af] 32,ah.held w own])) (F':=(fun aG:Value=>[ah.ls gV (m.aj:List ak),ah.ls kL (m.Things:List ai),ah.ls jm (m.Held:List Held),ah.ls kA (m.Notes:List Note),ah.ls aD (r.aj:List ak),ah.ls az (r.Things:List ai),ah.ls aC (r.Held:List Held),ah.ls aB (r.Notes:List Note)])) rfl (s.bA (B0:=[]) (Br:=[ah.box b3 [v1] 60,ah.row 3 v1 ((aR m.aj):List Int),ah.box b2 [.slice none 0 0,.slice none 0 0,.slice none 0 0,.slice none 0 0,.int .i64 0,.int .i64 0] 32,ah.box b1 [gV,kL,jm,kA,.int .i64 m.ae,.int .i64 m.af] 32,ah.held w own]) (F0:=[ah.ls kL (m.Things:List ai)]) [0,1,2,3,4] [1] (fun aG:Value=>aG) (fun aG:Value=>[ah.row 62 aG (m.Things:List ai)]) (fun aG:Value=>[]) rfl rfl rfl sq rfl rfl (fun w own hw H=>fO kL (m.Things) w own H (by first|omega|assumption|(simp;done)|(simp;omega))) rfl) fun z1=>?_
  refine R.q (q.zq (cap:=[.pointer (some ⟨b3,0,none⟩)]) rfl rfl) rfl<|?_
  refine R.s (B':=(fun aG:Value=>[ah.row 62 aG ((m.Things.filter (fun x => !(fun (t:ai) => !decide (t.ID∈(aR m.aj))) x)):List ai),ah.box b3 [v1] 60,ah.row 3 v1 ((aR m.aj):List Int),ah.box b2 [.slice none 0 0,.slice none 0 0,.slice none 0 0,.slice none 0 0,.int .i64 0,.int .i64 0] 32,ah.box b1 [gV,kL,jm,kA,.int .i64 m.ae,.int .i64 m.af] 32,ah.held w own])) (F':=(fun aG:Value=>[ah.ls gV (m.aj:List ak),ah.ls kL (m.Things:List ai),ah.ls jm (m.Held:List Held),ah.ls kA (m.Notes:List Note),ah.ls aD (r.aj:List ak),ah.ls az (r.Things:List ai),ah.ls aC (r.Held:List Held),ah.ls aB (r.Notes:List Note)])) rfl (s.bA (B0:=[ah.row 62 z1 (m.Things:List ai)]) (Br:=[ah.box b3 [v1] 60,ah.row 3 v1 ((aR m.aj):List Int),ah.box b2 [.slice none 0 0,.slice none 0 0,.slice none 0 0,.slice none 0 0,.int .i64 0,.int .i64 0] 32,ah.box b1 [gV,kL,jm,kA,.int .i64 m.ae,.int .i64 m.af] 32,ah.held w own]) (F0:=[]) [0,1,2,3,4,5] [] (fun aG:Value=>aG) (fun aG:Value=>[ah.row 62 aG ((m.Things.filter (fun x => !(fun (t:ai) => !decide (t.ID∈(aR m.aj))) x)):List ai)]) (fun aG:Value=>[]) rfl rfl rfl yr rfl rfl (fun w own hw H=>lK z1 (m.Things) (fun (t:ai) => !decide (t.ID∈(aR m.aj))) _ _ yt w own H (fun W t hU=>nW t _ ((aR m.aj)) _ W (hw.m8 1 0 rfl rfl (by decide) hU) (Own.sl (hw.m8 2 0 rfl rfl (by decide) hU)) ) (by first|omega|assumption|(simp;done)|(simp;omega))) rfl) fun z2=>?_
  refine R.q (q.aX (off':=1) rfl bI rfl) rfl<|?_
  refine R.s rfl (s.eH (us:=[z2]) (cs':=[gV,z2,jm,kA,.int .i64 m.ae,.int .i64 m.af]) 4 _ rfl rfl rfl (fun w hw=>Sl.cr ((fun _=>Wd.row 0 rfl) w hw)) (.inr ⟨cu,rfl⟩) (fun w hw=>(ao (Sl.one ((fun _=>Wd.row 0 rfl) w hw)) aO)) rfl rfl rfl) fun _=>?_
  refine R.nil ?_
  refine R.reg rfl<|R.u 1 rfl<|R.nil ?_
  refine R.reg rfl<|R.u 1 rfl<|R.nil ?_
  refine R.reg rfl<|R.q (q.aX (off':=3) rfl bK rfl) rfl<|R.q (q.ld 4 rfl rfl bX rfl) rfl<|R.q (q.len' (fun _=>Wd.aS 3 rfl) rfl Tryz.underlying30) rfl<|R.u 1 rfl<|R.nil ?_
  refine R.row0 (α:=Int) 3 ?_
  refine R.row0 (α:=Note) 72 ?_
  refine R.loop (fun g_:Nat×Value×(List Note)×Value×(List Int)=>[(1,.pointer (some ⟨b1,0,none⟩)),(2,.pointer (some ⟨b2,0,none⟩)),(3,.pointer (some ⟨b3,0,none⟩)),(4,g_.2.2.2.1),(5,g_.2.1),(20,kA),(21,.int .i64 (m.Notes.length:Int)),(22,.int .i64 (g_.1:Int))]) (fun g_:Nat×Value×(List Note)×Value×(List Int)=>[ah.row 72 g_.2.1 (g_.2.2.1:List Note),ah.row 3 g_.2.2.2.1 (g_.2.2.2.2:List Int),ah.row 62 z2 (m.Things.filter (fun x => !(fun (t:ai) => !decide (t.ID∈(aR m.aj))) x):List ai),ah.box b3 [v1] 60,ah.row 3 v1 ((aR m.aj):List Int),ah.box b2 [.slice none 0 0,.slice none 0 0,.slice none 0 0,.slice none 0 0,.int .i64 0,.int .i64 0] 32,ah.box b1 [gV,z2,jm,kA,.int .i64 m.ae,.int .i64 m.af] 32,ah.held w own]) (fun g_:Nat×Value×(List Note)×Value×(List Int)=>[ah.ls gV (m.aj:List ak),ah.ls kL (m.Things:List ai),ah.ls jm (m.Held:List Held),ah.ls kA (m.Notes:List Note),ah.ls aD (r.aj:List ak),ah.ls az (r.Things:List ai),ah.ls aC (r.Held:List Held),ah.ls aB (r.Notes:List Note)]) (fun g_:Nat×Value×(List Note)×Value×(List Int)=>g_.1≤m.Notes.length∧g_.2.2.1=eI m.aj (aR m.aj) (m.Notes.take g_.1)∧g_.2.2.2.2=fS m.aj (aR m.aj) (m.Notes.take g_.1)) (fun g_:Nat×Value×(List Note)×Value×(List Int)=>m.Notes.length-g_.1) (0,(.slice none 0 0),[],(.slice none 0 0),[]) rfl (by exact ⟨by omega,by simp [eI],by simp [fS]⟩) ⟨rfl,rfl,rfl,rfl,rfl,rfl,rfl,rfl,trivial⟩ (fun _=>Wd.pick [0,1,2,3,4,5,6,7] [0,1,2,3,4,5,6,7] rfl rfl rfl) ?_
  rintro ⟨k,vn,ns,vl,ls⟩ ⟨hk1,HN,HL⟩
  dsimp only at *
  have hkl:=jW m.aj (aR m.aj) (m.Notes.take k);rw [← HN,← HL,List.length_take] at hkl
  refine R.reg rfl<|?_
  by_cases h1:k<m.Notes.length
  ·
    refine R.q (q.lss rfl rfl (decide_eq_true (by omega))) rfl<|R.nil ?_
    refine R.aE rfl rfl ?_
    refine R.reg rfl<|?_
    obtain ⟨x1,hx1⟩:∃z,m.Notes[k]? = some z:=⟨_,List.getElem?_eq_getElem (by omega)⟩
    refine R.q (q.idx (i:=k) (fun _=>Wd.aS 3 rfl) rfl rfl dH rfl hx1) rfl<|R.q (q.dY (ds:=[.int .i64 x1.Port,.string x1.Data,.int .i64 x1.ar,.int .i64 x1.ak]) (fun _=>Wd.aS 3 rfl) hx1 rfl bT rfl) rfl<|?_
    refine R.s rfl (s.alloc (cs:=[.int .i64 0,.string (⟨#[]⟩),.int .i64 0,.int .i64 0]) dq rfl rfl) fun b4=>?_
    refine R.s rfl (s.st (us:=[.int .i64 x1.Port,.string x1.Data,.int .i64 x1.ar,.int .i64 x1.ak]) (cs':=[.int .i64 x1.Port,.string x1.Data,.int .i64 x1.ar,.int .i64 x1.ak]) 0 _ rfl rfl rfl rfl (.inl bT) rfl rfl rfl rfl) fun _=>?_
    refine R.nil ?_
    refine R.reg rfl<|R.q (q.aX (off':=0) rfl aY rfl) rfl<|R.q (q.ld 7 rfl rfl bq rfl) rfl<|R.q (q.aX (off':=3) rfl eP rfl) rfl<|R.q (q.ld 0 rfl rfl aA rfl) rfl<|?_
    rcases dB m.aj x1.ak with ⟨du,kx⟩ | ⟨jV,dZ,du,fr,AB⟩
    ·
      refine R.c (q.call jh rfl rfl (fun w hw=>(cv (congrArg (Value.int .i64) du) (eL _ (m.aj) (x1.ak) w ((fun _=>Wd.aS 0 rfl) w hw) )))) rfl<|R.q (q.lss (b:=true) rfl rfl (by decide)) rfl<|R.nil ?_
      refine R.aE rfl rfl ?_
      refine R.reg rfl<|R.q (q.aX (off':=3) rfl eP rfl) rfl<|?_
      refine R.s rfl (s.st (us:=[.int .i64 0]) (cs':=[.int .i64 x1.Port,.string x1.Data,.int .i64 x1.ar,.int .i64 0]) 0 _ rfl rfl rfl rfl (.inr ⟨aA,rfl⟩) rfl rfl rfl rfl) fun _=>?_
      refine R.nil ?_
      refine R.reg rfl<|R.q (q.ld 4 rfl rfl jQ rfl) rfl<|R.q (q.aX (off':=0) rfl jS rfl) rfl<|R.q (q.ld 0 rfl rfl aA rfl) rfl<|?_
      rcases Bool.eq_false_or_eq_true (decide (x1.Port∈(aR m.aj))) with h2|h2
      ·
        refine R.c (q.call lY rfl rfl (fun w hw=>(cv (congrArg Value.bool h2) (dO _ ((aR m.aj)) (x1.Port) w ((fun _=>Wd.row 5 rfl) w hw) )))) rfl<|R.nil ?_
        refine R.aE rfl rfl ?_
        refine R.reg rfl<|R.u 1 rfl<|R.q (q.cF 0 rfl rfl bT) rfl<|?_
        refine R.s rfl (s.bs (l:=([(⟨x1.Port,x1.Data,x1.ar,0⟩:Note)]:List Note)) dH dq rfl rfl rfl rfl rfl rfl rfl) fun b5=>?_
        refine R.s rfl (s.app (l2:=[(⟨x1.Port,x1.Data,x1.ar,0⟩:Note)]) 2 _ rfl rfl rfl (fun _=>Wd.row 0 rfl) fF (by first|omega|(simp;omega)) (by first|omega|(simp;omega)) (fun _=>rfl) rfl) fun v2=>?_
        refine R.u 1 rfl<|R.nil ?_
        refine R.reg rfl<|R.q (q.add (r:=((k+1:Nat):Int)) rfl rfl (wr (by omega))) rfl<|R.u 1 rfl<|R.nil ?_
        refine R.back (k+1,v2,(ns++([(⟨x1.Port,x1.Data,x1.ar,0⟩:Note)])),vl,ls) rfl (by (have e0:=hx1;first|(have e1:=mI (ws:=m.aj) du;have e2:=jY e0 (by rw [e1];exact of_decide_eq_true (by assumption));rw [e1] at e2;exact ⟨by omega,by rw [e2.1,HN],by rw [e2.2,HL]⟩)|(have e1:=jI (ws:=m.aj) du;have e2:=jY e0 (by rw [e1];exact of_decide_eq_true (by assumption));rw [e1] at e2;exact ⟨by omega,by rw [e2.1,HN],by rw [e2.2,HL]⟩))) (by dsimp only;omega) ⟨rfl,rfl,rfl,rfl,rfl,rfl,rfl,rfl,trivial⟩ (fun _=>Wd.aK [2,3,4,5,6,7,8,9] [0,1,2,3,4,5,6,7] rfl rfl rfl)
      ·
        refine R.c (q.call lY rfl rfl (fun w hw=>(cv (congrArg Value.bool h2) (dO _ ((aR m.aj)) (x1.Port) w ((fun _=>Wd.row 5 rfl) w hw) )))) rfl<|R.nil ?_
        refine R.aH rfl rfl ?_
        refine R.reg rfl<|R.q (q.aX (off':=3) rfl eP rfl) rfl<|R.q (q.ld 0 rfl rfl aA rfl) rfl<|R.q (q.gtr (b:=false) rfl rfl (by decide)) rfl<|R.nil ?_
        refine R.aH rfl rfl ?_
        refine R.reg rfl<|R.q (q.add (r:=((k+1:Nat):Int)) rfl rfl (wr (by omega))) rfl<|R.u 1 rfl<|R.nil ?_
        refine R.back (k+1,vn,ns,vl,ls) rfl (by (have e0:=hx1;first|(have e1:=mI (ws:=m.aj) du;have e2:=jZ e0 (by rw [e1];exact of_decide_eq_false (by assumption)) (by rw [e1];simp);exact ⟨by omega,by rw [e2.1,HN],by rw [e2.2,HL]⟩)|(have e1:=jI (ws:=m.aj) du;have e2:=jZ e0 (by rw [e1];exact of_decide_eq_false (by assumption)) (by rw [e1];assumption);exact ⟨by omega,by rw [e2.1,HN],by rw [e2.2,HL]⟩))) (by dsimp only;omega) ⟨rfl,rfl,rfl,rfl,rfl,rfl,rfl,rfl,trivial⟩ (fun _=>Wd.aK [1,2,3,4,5,6,7,8] [0,1,2,3,4,5,6,7] rfl rfl rfl)
    ·
      refine R.c (q.call jh rfl rfl (fun w hw=>(cv (congrArg (Value.int .i64) du) (eL _ (m.aj) (x1.ak) w ((fun _=>Wd.aS 0 rfl) w hw) )))) rfl<|R.q (q.lss rfl rfl (decide_eq_false (by omega))) rfl<|R.nil ?_
      refine R.aH rfl rfl ?_
      refine R.reg rfl<|R.q (q.ld 4 rfl rfl jQ rfl) rfl<|R.q (q.aX (off':=0) rfl jS rfl) rfl<|R.q (q.ld 0 rfl rfl aA rfl) rfl<|?_
      rcases Bool.eq_false_or_eq_true (decide (x1.Port∈(aR m.aj))) with h3|h3
      ·
        refine R.c (q.call lY rfl rfl (fun w hw=>(cv (congrArg Value.bool h3) (dO _ ((aR m.aj)) (x1.Port) w ((fun _=>Wd.row 5 rfl) w hw) )))) rfl<|R.nil ?_
        refine R.aE rfl rfl ?_
        refine R.reg rfl<|R.u 1 rfl<|R.q (q.cF 0 rfl rfl bT) rfl<|?_
        refine R.s rfl (s.bs (l:=([x1]:List Note)) dH dq rfl rfl rfl rfl rfl rfl rfl) fun b6=>?_
        refine R.s rfl (s.app (l2:=[x1]) 2 _ rfl rfl rfl (fun _=>Wd.row 0 rfl) fF (by first|omega|(simp;omega)) (by first|omega|(simp;omega)) (fun _=>rfl) rfl) fun v3=>?_
        refine R.u 1 rfl<|R.nil ?_
        refine R.reg rfl<|R.q (q.add (r:=((k+1:Nat):Int)) rfl rfl (wr (by omega))) rfl<|R.u 1 rfl<|R.nil ?_
        refine R.back (k+1,v3,(ns++([x1])),vl,ls) rfl (by (have e0:=hx1;first|(have e1:=mI (ws:=m.aj) du;have e2:=jY e0 (by rw [e1];exact of_decide_eq_true (by assumption));rw [e1] at e2;exact ⟨by omega,by rw [e2.1,HN],by rw [e2.2,HL]⟩)|(have e1:=jI (ws:=m.aj) du;have e2:=jY e0 (by rw [e1];exact of_decide_eq_true (by assumption));rw [e1] at e2;exact ⟨by omega,by rw [e2.1,HN],by rw [e2.2,HL]⟩))) (by dsimp only;omega) ⟨rfl,rfl,rfl,rfl,rfl,rfl,rfl,rfl,trivial⟩ (fun _=>Wd.aK [2,3,4,5,6,7,8,9] [0,1,2,3,4,5,6,7] rfl rfl rfl)
      ·
        refine R.c (q.call lY rfl rfl (fun w hw=>(cv (congrArg Value.bool h3) (dO _ ((aR m.aj)) (x1.Port) w ((fun _=>Wd.row 5 rfl) w hw) )))) rfl<|R.nil ?_
        refine R.aH rfl rfl ?_
        refine R.reg rfl<|R.q (q.aX (off':=3) rfl eP rfl) rfl<|R.q (q.ld 0 rfl rfl aA rfl) rfl<|?_
        by_cases h4:0<x1.ak
        ·
          refine R.q (q.gtr rfl rfl (decide_eq_true (by omega))) rfl<|R.nil ?_
          refine R.aE rfl rfl ?_
          refine R.reg rfl<|R.u 1 rfl<|R.q (q.aX (off':=3) rfl eP rfl) rfl<|R.q (q.ld 0 rfl rfl aA rfl) rfl<|?_
          refine R.s rfl (s.bs (l:=([x1.ak]:List Int)) cG iR rfl rfl rfl rfl rfl rfl rfl) fun b7=>?_
          refine R.s rfl (s.app (l2:=[x1.ak]) 3 _ rfl rfl rfl (fun _=>Wd.row 0 rfl) jT (by first|omega|(simp;omega)) (by first|omega|(simp;omega)) (fun _=>rfl) rfl) fun v4=>?_
          refine R.u 1 rfl<|R.nil ?_
          refine R.reg rfl<|R.q (q.add (r:=((k+1:Nat):Int)) rfl rfl (wr (by omega))) rfl<|R.u 1 rfl<|R.nil ?_
          refine R.back (k+1,vn,ns,v4,(ls++([x1.ak]))) rfl (by (have e0:=hx1;first|(have e1:=jI (ws:=m.aj) du;have e2:=tw e0 (by rw [e1];exact of_decide_eq_false (by assumption)) (by rw [e1];assumption);rw [e1] at e2;exact ⟨by omega,by rw [e2.1,HN],by rw [e2.2,HL]⟩)|(exfalso;omega))) (by dsimp only;omega) ⟨rfl,rfl,rfl,rfl,rfl,rfl,rfl,rfl,trivial⟩ (fun _=>Wd.aK [2,3,4,5,6,7,8,9] [0,1,2,3,4,5,6,7] rfl rfl rfl)
        ·
          refine R.q (q.gtr rfl rfl (decide_eq_false (by omega))) rfl<|R.nil ?_
          refine R.aH rfl rfl ?_
          refine R.reg rfl<|R.q (q.add (r:=((k+1:Nat):Int)) rfl rfl (wr (by omega))) rfl<|R.u 1 rfl<|R.nil ?_
          refine R.back (k+1,vn,ns,vl,ls) rfl (by (have e0:=hx1;first|(have e1:=mI (ws:=m.aj) du;have e2:=jZ e0 (by rw [e1];exact of_decide_eq_false (by assumption)) (by rw [e1];simp);exact ⟨by omega,by rw [e2.1,HN],by rw [e2.2,HL]⟩)|(have e1:=jI (ws:=m.aj) du;have e2:=jZ e0 (by rw [e1];exact of_decide_eq_false (by assumption)) (by rw [e1];assumption);exact ⟨by omega,by rw [e2.1,HN],by rw [e2.2,HL]⟩))) (by dsimp only;omega) ⟨rfl,rfl,rfl,rfl,rfl,rfl,rfl,rfl,trivial⟩ (fun _=>Wd.aK [1,2,3,4,5,6,7,8] [0,1,2,3,4,5,6,7] rfl rfl rfl)
  ·
    refine R.q (q.lss rfl rfl (decide_eq_false (by omega))) rfl<|R.nil ?_
    refine R.aH rfl rfl ?_
    refine R.reg rfl<|R.u 1 rfl<|R.q (q.aX (off':=3) rfl bK rfl) rfl<|?_
    refine R.s rfl (s.eH (us:=[vn]) (cs':=[gV,z2,jm,vn,.int .i64 m.ae,.int .i64 m.af]) 6 _ rfl rfl rfl (fun w hw=>Sl.cr ((fun _=>Wd.row 0 rfl) w hw)) (.inr ⟨bX,rfl⟩) (fun w hw=>(ao (Sl.one ((fun _=>Wd.row 0 rfl) w hw)) aO)) rfl rfl rfl) fun _=>?_
    refine R.nil ?_
    refine R.reg rfl<|R.q (q.aX (off':=2) rfl bJ rfl) rfl<|R.q (q.ld 6 rfl rfl cw rfl) rfl<|?_
    refine R.s (B':=(fun aG:Value=>[ah.row 85 aG (m.Held:List Held),ah.row 72 vn (ns:List Note),ah.row 3 vl (ls:List Int),ah.row 62 z2 (m.Things.filter (fun x => !(fun (t:ai) => !decide (t.ID∈(aR m.aj))) x):List ai),ah.box b3 [v1] 60,ah.row 3 v1 ((aR m.aj):List Int),ah.box b2 [.slice none 0 0,.slice none 0 0,.slice none 0 0,.slice none 0 0,.int .i64 0,.int .i64 0] 32,ah.box b1 [gV,z2,jm,vn,.int .i64 m.ae,.int .i64 m.af] 32,ah.held w own])) (F':=(fun aG:Value=>[ah.ls gV (m.aj:List ak),ah.ls kL (m.Things:List ai),ah.ls jm (m.Held:List Held),ah.ls kA (m.Notes:List Note),ah.ls aD (r.aj:List ak),ah.ls az (r.Things:List ai),ah.ls aC (r.Held:List Held),ah.ls aB (r.Notes:List Note)])) rfl (s.bA (B0:=[]) (Br:=[ah.row 72 vn (ns:List Note),ah.row 3 vl (ls:List Int),ah.row 62 z2 (m.Things.filter (fun x => !(fun (t:ai) => !decide (t.ID∈(aR m.aj))) x):List ai),ah.box b3 [v1] 60,ah.row 3 v1 ((aR m.aj):List Int),ah.box b2 [.slice none 0 0,.slice none 0 0,.slice none 0 0,.slice none 0 0,.int .i64 0,.int .i64 0] 32,ah.box b1 [gV,z2,jm,vn,.int .i64 m.ae,.int .i64 m.af] 32,ah.held w own]) (F0:=[ah.ls jm (m.Held:List Held)]) [0,1,2,3,4,5,6,7] [2] (fun aG:Value=>aG) (fun aG:Value=>[ah.row 85 aG (m.Held:List Held)]) (fun aG:Value=>[]) rfl rfl rfl uG rfl rfl (fun w own hw H=>kg jm (m.Held) w own H (by first|omega|assumption|(simp;done)|(simp;omega))) rfl) fun z3=>?_
    refine R.q (q.zq (cap:=[.pointer (some ⟨b1,0,none⟩)]) rfl rfl) rfl<|?_
    refine R.s (B':=(fun aG:Value=>[ah.row 85 aG ((m.Held.filter (fun x => !(fun (h:Held)=>decide (bC m.aj h.ak<0)) x)):List Held),ah.row 72 vn (ns:List Note),ah.row 3 vl (ls:List Int),ah.row 62 z2 (m.Things.filter (fun x => !(fun (t:ai) => !decide (t.ID∈(aR m.aj))) x):List ai),ah.box b3 [v1] 60,ah.row 3 v1 ((aR m.aj):List Int),ah.box b2 [.slice none 0 0,.slice none 0 0,.slice none 0 0,.slice none 0 0,.int .i64 0,.int .i64 0] 32,ah.box b1 [gV,z2,jm,vn,.int .i64 m.ae,.int .i64 m.af] 32,ah.held w own])) (F':=(fun aG:Value=>[ah.ls gV (m.aj:List ak),ah.ls kL (m.Things:List ai),ah.ls jm (m.Held:List Held),ah.ls kA (m.Notes:List Note),ah.ls aD (r.aj:List ak),ah.ls az (r.Things:List ai),ah.ls aC (r.Held:List Held),ah.ls aB (r.Notes:List Note)])) rfl (s.bA (B0:=[ah.row 85 z3 (m.Held:List Held)]) (Br:=[ah.row 72 vn (ns:List Note),ah.row 3 vl (ls:List Int),ah.row 62 z2 (m.Things.filter (fun x => !(fun (t:ai) => !decide (t.ID∈(aR m.aj))) x):List ai),ah.box b3 [v1] 60,ah.row 3 v1 ((aR m.aj):List Int),ah.box b2 [.slice none 0 0,.slice none 0 0,.slice none 0 0,.slice none 0 0,.int .i64 0,.int .i64 0] 32,ah.box b1 [gV,z2,jm,vn,.int .i64 m.ae,.int .i64 m.af] 32,ah.held w own]) (F0:=[]) [0,1,2,3,4,5,6,7,8] [] (fun aG:Value=>aG) (fun aG:Value=>[ah.row 85 aG ((m.Held.filter (fun x => !(fun (h:Held)=>decide (bC m.aj h.ak<0)) x)):List Held)]) (fun aG:Value=>[]) rfl rfl rfl yu rfl rfl (fun w own hw H=>mA z3 (m.Held) (fun (h:Held)=>decide (bC (⟨m.aj,m.Things.filter (fun x => !(fun (t:ai) => !decide (t.ID∈(aR m.aj))) x),m.Held,ns,m.ae,m.af⟩:au).aj h.ak<0)) _ _ yv w own H (fun W h hU=>nX h _ _ _ _ ((⟨m.aj,m.Things.filter (fun x => !(fun (t:ai) => !decide (t.ID∈(aR m.aj))) x),m.Held,ns,m.ae,m.af⟩:au)) _ W (hw.m8 7 0 rfl rfl (by decide) hU) (hw.xE 0 0 rfl rfl hU) (Own.sl (hw.m8 3 0 rfl rfl (by decide) hU)) (hw.xE 2 0 rfl rfl hU) (Own.sl (hw.m8 1 0 rfl rfl (by decide) hU)) ) (by first|omega|assumption|(simp;done)|(simp;omega))) rfl) fun z4=>?_
    refine R.q (q.aX (off':=2) rfl bJ rfl) rfl<|?_
    refine R.s rfl (s.eH (us:=[z4]) (cs':=[gV,z2,z4,vn,.int .i64 m.ae,.int .i64 m.af]) 7 _ rfl rfl rfl (fun w hw=>Sl.cr ((fun _=>Wd.row 0 rfl) w hw)) (.inr ⟨cw,rfl⟩) (fun w hw=>(ao (Sl.one ((fun _=>Wd.row 0 rfl) w hw)) aO)) rfl rfl rfl) fun _=>?_
    refine R.nil ?_
    refine R.reg rfl<|R.u 1 rfl<|R.q (q.len' (fun _=>Wd.row 2 rfl) rfl Tryz.underlying60) rfl<|?_
    by_cases h5:ls.length=0
    ·
      refine R.q (q.eql rfl rfl (beq_iff_eq.2 (by omega))) rfl<|R.nil ?_
      refine R.aE rfl rfl ?_
      refine R.reg rfl<|R.q (q.cF 7 rfl rfl av) rfl<|?_
      refine R.s rfl (s.eH (us:=[gV,z2,z4,vn,.int .i64 m.ae,.int .i64 m.af]) (cs':=[gV,z2,z4,vn,.int .i64 m.ae,.int .i64 m.af]) 6 _ rfl rfl rfl (fun _ _=>rfl) (.inl av) (fun w hw=>(ao (Sl.one ((fun _=>Wd.aS 0 rfl) w hw)) (ao (Sl.one ((fun _=>Wd.row 3 rfl) w hw)) (ao (Sl.one ((fun _=>Wd.row 0 rfl) w hw)) (ao (Sl.one ((fun _=>Wd.row 1 rfl) w hw)) (ao rfl (ao rfl aO))))))) rfl rfl rfl) fun _=>?_
      refine R.nil ?_
      refine R.mp (B':=[ah.row 85 z4 (m.Held.filter (fun x => !(fun (h:Held)=>decide (bC m.aj h.ak<0)) x):List Held),ah.row 72 vn (ns:List Note),ah.row 3 vl (ls:List Int),ah.box b3 [v1] 60,ah.row 3 v1 ((aR m.aj):List Int),ah.box b2 [gV,z2,z4,vn,.int .i64 m.ae,.int .i64 m.af] 32,ah.box b1 [gV,z2,z4,vn,.int .i64 m.ae,.int .i64 m.af] 32,ah.held w own]) (fun _ hw=>hw.dh 3 _ rfl rfl) ?_
      refine R.mp (B':=[ah.row 72 vn (ns:List Note),ah.row 3 vl (ls:List Int),ah.box b3 [v1] 60,ah.row 3 v1 ((aR m.aj):List Int),ah.box b2 [gV,z2,z4,vn,.int .i64 m.ae,.int .i64 m.af] 32,ah.box b1 [gV,z2,z4,vn,.int .i64 m.ae,.int .i64 m.af] 32,ah.held w own]) (fun _ hw=>hw.dh 0 _ rfl rfl) ?_
      refine R.mp (B':=[ah.row 3 vl (ls:List Int),ah.box b3 [v1] 60,ah.row 3 v1 ((aR m.aj):List Int),ah.box b2 [gV,z2,z4,vn,.int .i64 m.ae,.int .i64 m.af] 32,ah.box b1 [gV,z2,z4,vn,.int .i64 m.ae,.int .i64 m.af] 32,ah.held w own]) (fun _ hw=>hw.dh 0 _ rfl rfl) ?_
      have hz:a8 r=(⟨m.aj,m.Things.filter (fun x => !(fun (t:ai) => !decide (t.ID∈(aR m.aj))) x),m.Held.filter (fun x => !(fun (h:Held)=>decide (bC m.aj h.ak<0)) x),ns,m.ae,m.af⟩:au):=by (rw [List.take_of_length_le (by omega)] at HN HL;rw [← HS,jG (by show (fS _ _ _).length=0;rw [← HL];assumption)];unfold dS;rw [← HN])
      rw [hz]
      exact R.w1 (gV,z2,z4,vn) [5] [3,2,1,0] rfl Tryz.results63 (RV.cell 3 rfl rfl av) rfl rfl rfl rfl
    ·
      refine R.q (q.eql rfl rfl (beq_eq_false_iff_ne.2 (by omega))) rfl<|R.nil ?_
      refine R.aH rfl rfl ?_
      refine R.reg rfl<|R.u 1 rfl<|R.q (q.len' (fun _=>Wd.row 2 rfl) rfl Tryz.underlying60) rfl<|R.u 1 rfl<|R.nil ?_
      refine R.loop (fun g_:Nat×Value×(List ak)=>[(1,.pointer (some ⟨b1,0,none⟩)),(2,.pointer (some ⟨b2,0,none⟩)),(62,vl),(63,.int .i64 (ls.length:Int)),(64,.int .i64 (g_.1:Int))]) (fun g_:Nat×Value×(List ak)=>[ah.row 85 z4 (m.Held.filter (fun x => !(fun (h:Held)=>decide (bC m.aj h.ak<0)) x):List Held),ah.row 72 vn (ns:List Note),ah.row 3 vl (ls:List Int),ah.row 62 z2 (m.Things.filter (fun x => !(fun (t:ai) => !decide (t.ID∈(aR m.aj))) x):List ai),ah.box b3 [v1] 60,ah.row 3 v1 ((aR m.aj):List Int),ah.box b2 [.slice none 0 0,.slice none 0 0,.slice none 0 0,.slice none 0 0,.int .i64 0,.int .i64 0] 32,ah.box b1 [g_.2.1,z2,z4,vn,.int .i64 m.ae,.int .i64 m.af] 32,ah.held w own]) (fun g_:Nat×Value×(List ak)=>[ah.ls g_.2.1 (g_.2.2:List ak),ah.ls gV (m.aj:List ak),ah.ls kL (m.Things:List ai),ah.ls jm (m.Held:List Held),ah.ls kA (m.Notes:List Note),ah.ls aD (r.aj:List ak),ah.ls az (r.Things:List ai),ah.ls aC (r.Held:List Held),ah.ls aB (r.Notes:List Note)]) (fun g_:Nat×Value×(List ak)=>g_.1≤ls.length∧g_.2.2=(ls.take g_.1).foldl without m.aj) (fun g_:Nat×Value×(List ak)=>ls.length-g_.1) (0,gV,m.aj) rfl (by exact ⟨by omega,rfl⟩) ⟨rfl,rfl,rfl,rfl,rfl,trivial⟩ (fun _=>Wd.pick [0,1,2,3,4,5,6,7,8] [0,0,1,2,3,4,5,6,7] rfl rfl rfl) ?_
      rintro ⟨j,vw,ws⟩ ⟨hj1,HW⟩
      dsimp only at *
      have hws:ws.length≤2000:=by rw [HW];exact Nat.le_trans (lg _ _) hok.wl
      refine R.reg rfl<|?_
      by_cases h6:j<ls.length
      ·
        refine R.q (q.lss rfl rfl (decide_eq_true (by omega))) rfl<|R.nil ?_
        refine R.aE rfl rfl ?_
        refine R.reg rfl<|?_
        obtain ⟨x2,hx2⟩:∃z,ls[j]? = some z:=⟨_,List.getElem?_eq_getElem (by omega)⟩
        refine R.q (q.idx (i:=j) (fun _=>Wd.row 2 rfl) rfl rfl cG rfl hx2) rfl<|R.q (q.hZ (fun _=>Wd.row 2 rfl) hx2 rfl aA rfl) rfl<|R.u 1 rfl<|R.nil ?_
        refine R.reg rfl<|R.q (q.aX (off':=0) rfl aY rfl) rfl<|R.q (q.ld 7 rfl rfl bq rfl) rfl<|R.u 1 rfl<|?_
        refine R.s rfl (s.od uC rfl rfl (fun w hw=>jE _ (ws) (x2) w ((fun _=>Wd.aS 0 rfl) w hw) (by first|omega|assumption)) rfl) fun v5=>?_
        refine R.q (q.aX (off':=0) rfl aY rfl) rfl<|?_
        refine R.s rfl (s.eH (us:=[v5]) (cs':=[v5,z2,z4,vn,.int .i64 m.ae,.int .i64 m.af]) 8 _ rfl rfl rfl (fun w hw=>Sl.cr ((fun _=>Wd.row 0 rfl) w hw)) (.inr ⟨bq,rfl⟩) (fun w hw=>(ao (Sl.one ((fun _=>Wd.row 0 rfl) w hw)) aO)) rfl rfl rfl) fun _=>?_
        refine R.nil ?_
        refine R.reg rfl<|R.q (q.add (r:=((j+1:Nat):Int)) rfl rfl (wr (by omega))) rfl<|R.u 1 rfl<|R.nil ?_
        refine R.mp (B':=[ah.row 85 z4 (m.Held.filter (fun x => !(fun (h:Held)=>decide (bC m.aj h.ak<0)) x):List Held),ah.row 72 vn (ns:List Note),ah.row 3 vl (ls:List Int),ah.row 62 z2 (m.Things.filter (fun x => !(fun (t:ai) => !decide (t.ID∈(aR m.aj))) x):List ai),ah.box b3 [v1] 60,ah.row 3 v1 ((aR m.aj):List Int),ah.box b2 [.slice none 0 0,.slice none 0 0,.slice none 0 0,.slice none 0 0,.int .i64 0,.int .i64 0] 32,ah.box b1 [v5,z2,z4,vn,.int .i64 m.ae,.int .i64 m.af] 32,ah.held w own]) (fun _ hw=>hw.dh 0 _ rfl rfl) ?_
        refine R.back (j+1,v5,(without ws x2)) rfl (by (exact ⟨by omega,by rw [List.take_add_one,hx2,HW];simp⟩)) (by dsimp only;omega) ⟨rfl,rfl,rfl,rfl,rfl,trivial⟩ (fun _=>Wd.aK [0,1,2,3,4,5,6,7,8] [0,2,3,4,5,6,7,8,9] rfl rfl rfl)
      ·
        refine R.q (q.lss rfl rfl (decide_eq_false (by omega))) rfl<|R.nil ?_
        refine R.aH rfl rfl ?_
        refine R.mp (B':=[ah.row 85 z4 (m.Held.filter (fun x => !(fun (h:Held)=>decide (bC m.aj h.ak<0)) x):List Held),ah.row 72 vn (ns:List Note),ah.row 3 vl (ls:List Int),ah.box b3 [v1] 60,ah.row 3 v1 ((aR m.aj):List Int),ah.box b2 [.slice none 0 0,.slice none 0 0,.slice none 0 0,.slice none 0 0,.int .i64 0,.int .i64 0] 32,ah.box b1 [vw,z2,z4,vn,.int .i64 m.ae,.int .i64 m.af] 32,ah.held w own]) (fun _ hw=>hw.dh 3 _ rfl rfl) ?_
        refine R.mp (B':=[ah.row 72 vn (ns:List Note),ah.row 3 vl (ls:List Int),ah.box b3 [v1] 60,ah.row 3 v1 ((aR m.aj):List Int),ah.box b2 [.slice none 0 0,.slice none 0 0,.slice none 0 0,.slice none 0 0,.int .i64 0,.int .i64 0] 32,ah.box b1 [vw,z2,z4,vn,.int .i64 m.ae,.int .i64 m.af] 32,ah.held w own]) (fun _ hw=>hw.dh 0 _ rfl rfl) ?_
        refine R.mp (B':=[ah.row 3 vl (ls:List Int),ah.box b3 [v1] 60,ah.row 3 v1 ((aR m.aj):List Int),ah.box b2 [.slice none 0 0,.slice none 0 0,.slice none 0 0,.slice none 0 0,.int .i64 0,.int .i64 0] 32,ah.box b1 [vw,z2,z4,vn,.int .i64 m.ae,.int .i64 m.af] 32,ah.held w own]) (fun _ hw=>hw.dh 0 _ rfl rfl) ?_
        refine R.back ((⟨ws,m.Things.filter (fun x => !(fun (t:ai) => !decide (t.ID∈(aR m.aj))) x),m.Held.filter (fun x => !(fun (h:Held)=>decide (bC m.aj h.ak<0)) x),ns,m.ae,m.af⟩:au),vw,z2,z4,vn) rfl (by (rw [List.take_of_length_le (by omega)] at HN HL;rw [List.take_of_length_le (by omega)] at HW;have hl:jj m=ls:=HL.symm;have e:iW m=(⟨ws,m.Things.filter (fun t => !!decide (t.ID∈aR m.aj)),m.Held.filter (fun h => !decide (bC m.aj h.ak<0)),ns,m.ae,m.af⟩:au):=(by unfold iW;rw [hl,← HW];unfold dS;rw [← HN]);exact Eq.mp (congrArg (fun q:au=>Ok q∧a8 q=a8 r) e) ⟨hok.iW,(p6 (by rw [hl];assumption)).symm.trans HS⟩)) (by dsimp only;omega) ⟨rfl,rfl,trivial⟩ (fun _=>Wd.aK [3,4,5] [3,2,1,0,8,9,10,11] rfl rfl rfl)
end Go.Proofs.YtbkfhjaibhnkmaaGreatDoor
