import Derived.Test.YtbkfhjaibhnkmaaGreatDoorIMS42
namespace Go.Proofs.YtbkfhjaibhnkmaaGreatDoor
open Go Go.RowKit
set_option linter.unusedVariables false
set_option linter.unusedSimpArgs false
set_option maxRecDepth 100000
set_option maxRecDepth 100000 in
set_option maxHeartbeats 1000000 in
theorem Ad (aD az aB aC:Value)(r:ar)(p:Place)(d:ByteArray)(slot:Int)(rights:Int)(w:World)(own:List Nat)(H:Wd w (blks []++own) ([]++[ag.held w own]) [ag.ls aD (r.ai:List ak),ag.ls az (r.Things:List ao),ag.ls aB (r.Held:List Held),ag.ls aC (r.Notes:List Note)] w)(hk:Ok r)(hI:Inv r):Calls Tryz.prog 44 #[.agg #[aD,az,aB,aC,iV r.ae,iV r.af],.agg #[iV p.aj,iV p.Slot],.string d,iV slot,iV rights] w fun e w' => ∃z:Value×Value×Value×Value,e = .returned (.tuple #[.agg #[z.1,z.2.1,z.2.2.1,z.2.2.2,iV ((((bU r p d slot rights)).1).ae),iV ((((bU r p d slot rights)).1).af)],iV (((bU r p d slot rights)).2)])∧Wd w (blks []++own) ([]++[ag.held w own]) [ag.ls z.1 ((((bU r p d slot rights)).1).ai:List ak),ag.ls z.2.1 ((((bU r p d slot rights)).1).Things:List ao),ag.ls z.2.2.1 ((((bU r p d slot rights)).1).Held:List Held),ag.ls z.2.2.2 ((((bU r p d slot rights)).1).Notes:List Note)] w':=by
 have cS:=H.ct 0 rfl
 have cy:=H.ct 1 rfl
 have dq:=H.ct 2 rfl
 have cT:=H.ct 3 rfl
 have bw:=hk.wl;have bt:=hk.tl;have bh:=hk.hl;have bn:=hk.nl;have rL:=hk.w0;have rM:=hk.w1;have rN:=hk.t0;have rO:=hk.t1
 have Js:=gx r p 2 2;have KC:=eC r (⟨p.aj,slot⟩:Place);have dc:=f8 (au r (⟨p.aj,slot⟩:Place)).1 r.ae rights 0
 refine R.da (n:=113) (vs:=[.agg #[aD,az,aB,aC,iV r.ae,iV r.af],.agg #[iV p.aj,iV p.Slot],.string d,iV slot,iV rights]) (B:=[ag.held w own]) [(0,.agg #[aD,az,aB,aC,iV r.ae,iV r.af]),(1,.agg #[iV p.aj,iV p.Slot]),(2,.string d),(3,iV slot),(4,iV rights)] Tryz.func44 O O O O H ?_
 refine R.reg O<|R.s O (s.box (cs:=[aD,az,aB,aC,iV r.ae,iV r.af]) O O O) fun b1=>R.s O (s.box (cs:=av p) O O O) fun b2=>R.s O (s.alloc (cs:=aG) cp O O) fun b3=>R.u 1 O<|R.nil ?_
 refine R.reg O<|R.q (q.cj 2 O O ap) O<|R.q (q.cj 1 O O aS) O<|R.c (q.call AK O O (fun w hw=>(sj _ _ _ _ (r) (p) (2) (2) w (hw.bq 0 O) (hw.bq 1 O) (hw.bq 2 O) (hw.bq 3 O) ‹_› ‹_› (by omega)))) O<|R.u 4 O<|R.s O (s.alloc (cs:=cC) bF O O) fun b4=>R.s O (s.st (us:=ay ((aM r p 2 2).1)) (cs':=ay ((aM r p 2 2).1)) 0 _ O O O O (.inl aP) O O O O) fun _=>R.u 2 O<|R.nil ?_
 refine R.reg O<|R.u 1 O<|?_
 by_cases h1:0<(aM r p 2 2).2.2
 ·
  refine R.q (q.gtr O O (decide_eq_true (by omega))) O<|R.nil ?_
  refine R.aE O O ?_
  refine R.reg O<|R.q (q.build (cs:=aG) cz O O) O<|R.u 1 O<|R.s O (s.st (us:=aG) (cs':=aG) 1 _ O O O O (.inl ap) O O O O) fun _=>R.u 1 O<|R.nil ?_
  refine R.mp (fun _ hw=>hw.aR (α:=ak)) ?_
  refine R.mp (fun _ hw=>hw.aR (α:=ao)) ?_
  refine R.mp (fun _ hw=>hw.aR (α:=Held)) ?_
  refine R.mp (fun _ hw=>hw.aR (α:=Note)) ?_
  have hz:bU r p d slot rights=((⟨[],[],[],[],0,0⟩:ar),(aM r p 2 2).2.2):=by (unfold bU;rw [if_neg (by omega)];(try rfl))
  rw [hz]
  exact R.w2 ((nS),(nS),(nS),(nS)) [4] dj O Tryz.results44 (RV.cell 1 O O ap) (RV.tmp O) O O O (cD O O)
 ·
  have mq:(aM r p 2 2).2.2=0:=by omega
  have mz:=iJ mq;have mr:=hk.get mz.1;rw [← mz.2.1] at mr
  refine R.q (q.gtr O O (decide_eq_false (by omega))) O<|R.nil ?_
  refine R.aF O O ?_
  refine R.reg O<|R.u 1 O<|R.q (q.lV O Tryz.underlying9) O<|?_
  by_cases h2:8<d.size
  ·
   refine R.q (q.gtr O O (decide_eq_true (by omega))) O<|R.nil ?_
   refine R.aE O O ?_
   refine R.reg O<|R.q (q.build (cs:=aG) cz O O) O<|R.s O (s.st (us:=aG) (cs':=aG) 1 _ O O O O (.inl ap) O O O O) fun _=>R.u 1 O<|R.nil ?_
   refine R.mp (fun _ hw=>hw.aR (α:=ak)) ?_
   refine R.mp (fun _ hw=>hw.aR (α:=ao)) ?_
   refine R.mp (fun _ hw=>hw.aR (α:=Held)) ?_
   refine R.mp (fun _ hw=>hw.aR (α:=Note)) ?_
   have hz:bU r p d slot rights=((⟨[],[],[],[],0,0⟩:ar),2):=by (unfold bU;rw [if_pos mq,if_pos (by omega)];(try rfl))
   rw [hz]
   exact R.w2 ((nS),(nS),(nS),(nS)) [4] dj O Tryz.results44 (RV.cell 1 O O ap) (RV.tmp O) O O O (cD O O)
  ·
   refine R.q (q.gtr O O (decide_eq_false (by omega))) O<|R.nil ?_
   refine R.aF O O ?_
   refine R.reg O<|R.u 1 O<|R.nil ?_
   refine R.reg O<|R.u 1 O<|R.nil ?_
   refine R.loop (fun g_:Nat×Nat=>[(2,.string d),(3,iV slot),(4,iV rights),(5,.pointer (some ⟨b1,0,none⟩)),(6,.pointer (some ⟨b2,0,none⟩)),(10,.pointer (some ⟨b3,0,none⟩)),(12,.pointer (some ⟨b4,0,none⟩)),(15,iV (g_.2:Int)),(16,iV (g_.1:Int))]) (fun g_=>[ag.box b4 (ay ((aM r p 2 2).1)) 88,ag.box b3 aG 32,ag.box b2 (av p) 39,ag.box b1 [aD,az,aB,aC,iV r.ae,iV r.af] 32,ag.held w own]) (fun g_=>[ag.ls aD r.ai,ag.ls az r.Things,ag.ls aB r.Held,ag.ls aC r.Notes]) (fun g_=>g_.1≤r.Notes.length∧g_.2=eM (r.Notes.take g_.1) (aM r p 2 2).1.ao) (fun g_=>r.Notes.length-g_.1) (0,0) O (by exact ⟨by omega,by simp [eM]⟩) ⟨rfl,rfl,rfl,rfl,rfl,rfl,rfl,rfl,rfl,trivial⟩ (fun _=>Wd.pick cZ bm O O O) ?_
   rintro ⟨k,c⟩ ⟨hk1,HC⟩
   dsimp only at *
   have hc1:c≤k:=by rw [HC];exact yD
   refine R.reg O<|R.u 1 O<|R.q (q.aT (off':=3) O br O) O<|R.q (q.ld 3 O O bN O) O<|R.q (q.len' (bJ 3 O) O Tryz.underlying30) O<|?_
   by_cases h3:k<r.Notes.length
   ·
    refine R.q (q.lss O O (decide_eq_true (by omega))) O<|R.nil ?_
    refine R.aE O O ?_
    obtain ⟨x1,hx1⟩:∃z,r.Notes[k]? = some z:=⟨_,List.getElem?_eq_getElem (by omega)⟩
    by_cases h4:x1.Port=((aM r p 2 2).1).ao
    ·
     refine R.dP O mixed (by kernel_rfl)<|Q.q (q.aT (off':=3) O br O) O<|Q.q (q.ld 3 O O bN O) O<|Q.u 1 O<|Q.q (q.idx (i:=k) (bJ 3 O) O O du O hx1) O<|Q.q (q.dF (j':=0) (bJ 3 O) hx1 O gH O) O<|Q.q (q.fb (bJ 3 O) hx1 O aA O) O<|Q.q (q.aT (off':=1) O dw O) O<|Q.q (q.ld 0 O O aA O) O<|Q.q (q.eql O O (beq_iff_eq.2 (by omega))) O<|Q.nil ?_
     refine R.aE O O ?_
     refine R.reg O<|R.u 1 O<|R.q (q.add (r:=((c+1:Nat):Int)) O O (wr (by omega))) O<|R.u 1 O<|R.nil ?_
     refine R.reg O<|R.u 1 O<|R.q (q.add (r:=((k+1:Nat):Int)) O O (wr (by omega))) O<|R.u 1 O<|R.nil ?_
     refine R.back (k+1,c+1) O (by (exact ⟨by omega,by rw [vG hx1 ‹_›,HC]⟩)) (by dsimp only;omega) ⟨rfl,rfl,rfl,rfl,rfl,rfl,rfl,rfl,rfl,trivial⟩ (aK cZ bm O O O)
    ·
     refine R.dP O mixed (by kernel_rfl)<|Q.q (q.aT (off':=3) O br O) O<|Q.q (q.ld 3 O O bN O) O<|Q.u 1 O<|Q.q (q.idx (i:=k) (bJ 3 O) O O du O hx1) O<|Q.q (q.dF (j':=0) (bJ 3 O) hx1 O gH O) O<|Q.q (q.fb (bJ 3 O) hx1 O aA O) O<|Q.q (q.aT (off':=1) O dw O) O<|Q.q (q.ld 0 O O aA O) O<|Q.q (q.eql O O (beq_eq_false_iff_ne.2 (by omega))) O<|Q.nil ?_
     refine R.aF O O ?_
     refine R.reg O<|R.u 1 O<|R.q (q.add (r:=((k+1:Nat):Int)) O O (wr (by omega))) O<|R.u 1 O<|R.nil ?_
     refine R.back (k+1,c) O (by (exact ⟨by omega,by rw [ta hx1 ‹_›,HC]⟩)) (by dsimp only;omega) ⟨rfl,rfl,rfl,rfl,rfl,rfl,rfl,rfl,rfl,trivial⟩ (aK cZ bm O O O)
   ·
    refine R.q (q.lss O O (decide_eq_false (by omega))) O<|R.nil ?_
    refine R.aF O O ?_
    rw [List.take_of_length_le (by omega)] at HC
    refine R.reg O<|R.u 1 O<|?_
    by_cases h5:c=3
    ·
     refine R.q (q.eql O O (beq_iff_eq.2 (by omega))) O<|R.nil ?_
     refine R.aE O O ?_
     refine R.reg O<|R.q (q.build (cs:=aG) cz O O) O<|R.s O (s.st (us:=aG) (cs':=aG) 1 _ O O O O (.inl ap) O O O O) fun _=>R.u 1 O<|R.nil ?_
     refine R.mp (fun _ hw=>hw.aR (α:=ak)) ?_
     refine R.mp (fun _ hw=>hw.aR (α:=ao)) ?_
     refine R.mp (fun _ hw=>hw.aR (α:=Held)) ?_
     refine R.mp (fun _ hw=>hw.aR (α:=Note)) ?_
     have hz:bU r p d slot rights=((⟨[],[],[],[],0,0⟩:ar),9):=by (unfold bU;rw [if_pos mq,if_neg (by omega),if_pos (by omega)];(try rfl))
     rw [hz]
     exact R.w2 ((nS),(nS),(nS),(nS)) [4] dj O Tryz.results44 (RV.cell 1 O O ap) (RV.tmp O) O O O (cD O O)
    ·
     refine R.q (q.eql O O (beq_eq_false_iff_ne.2 (by omega))) O<|R.nil ?_
     refine R.aF O O ?_
     refine R.reg O<|R.q (q.aT (off':=1) O dw O) O<|R.q (q.ld 0 O O aA O) O<|R.u 1 O<|R.q (q.aT (off':=3) O ei O) O<|R.q (q.ld 0 O O aA O) O<|R.q (q.build (cs:=[iV (((aM r p 2 2).1).ao),.string d,iV (((aM r p 2 2).1).aI),iV 0]) pN O O) O<|R.s O (s.alloc (cs:=[iV 0,.string (⟨#[]⟩),iV 0,iV 0]) dv O O) fun b5=>R.s O (s.st (us:=[iV (((aM r p 2 2).1).ao),.string d,iV (((aM r p 2 2).1).aI),iV 0]) (cs':=[iV (((aM r p 2 2).1).ao),.string d,iV (((aM r p 2 2).1).aI),iV 0]) 0 _ O O O O (.inl bO) O O O O) fun _=>R.nil ?_
     refine R.reg O<|R.q (q.cj 4 O O ap) O<|R.s (B':=(fun g_:Value×Value×Value×Value=>[ag.row 88 g_.1 (r).ai,ag.row 62 g_.2.1 (r).Things,ag.row 85 g_.2.2.1 (r).Held,ag.row 72 g_.2.2.2 (r).Notes,ag.box b5 [iV (((aM r p 2 2).1).ao),.string d,iV (((aM r p 2 2).1).aI),iV 0] 72,ag.box b4 (ay ((aM r p 2 2).1)) 88,ag.box b3 aG 32,ag.box b2 (av p) 39,ag.box b1 [aD,az,aB,aC,iV r.ae,iV r.af] 32,ag.held w own])) (F':=(fun g_=>[ag.ls aD r.ai,ag.ls az r.Things,ag.ls aB r.Held,ag.ls aC r.Notes])) O (s.bP (B0:=[]) (Br:=[ag.box b5 [iV (((aM r p 2 2).1).ao),.string d,iV (((aM r p 2 2).1).aI),iV 0] 72,ag.box b4 (ay ((aM r p 2 2).1)) 88,ag.box b3 aG 32,ag.box b2 (av p) 39,ag.box b1 [aD,az,aB,aC,iV r.ae,iV r.af] 32,ag.held w own]) (F0:=[ag.ls aD r.ai,ag.ls az r.Things,ag.ls aB r.Held,ag.ls aC r.Notes]) ia bm (fun g_:Value×Value×Value×Value => .agg #[g_.1,g_.2.1,g_.2.2.1,g_.2.2.2,iV ((r).ae),iV ((r).af)]) (fun g_=>[ag.row 88 g_.1 (r).ai,ag.row 62 g_.2.1 (r).Things,ag.row 85 g_.2.2.1 (r).Held,ag.row 72 g_.2.2.2 (r).Notes]) (fun g_=>[]) O O O vf O O (fun w own hw H=>k6 aD az aB aC (r) w own H ‹_›) O) ?_
     rintro ⟨z1,z2,z3,z4⟩
     dsimp only
     refine R.s O (s.dy (us:=[z1,z2,z3,z4,iV r.ae,iV r.af]) (cs':=[z1,z2,z3,z4,iV r.ae,iV r.af]) 8 _ O O O (fun _ _=>rfl) (.inl ap) (fun w hw=>(ah (Sl.one (hw.row 0 O)) (ah (Sl.one (hw.row 1 O)) (ah (Sl.one (hw.row 2 O)) (ah (Sl.one (hw.row 3 O)) (ah O (ah O aL))))))) O O O) fun _=>R.nil ?_
     refine R.reg O<|R.u 1 O<|?_
     by_cases h6:slot<0
     ·
      refine R.q (q.geq O O (decide_eq_false (by omega))) O<|R.nil ?_
      refine R.aF O O ?_
      refine R.reg O<|R.q (q.aT (off':=3) O br O) O<|R.q (q.ld 8 O O bN O) O<|R.q (q.cj 4 O O bO) O<|R.s O (s.bs (l:=([(⟨((aM r p 2 2).1).ao,d,((aM r p 2 2).1).aI,0⟩:Note)]:List Note)) du dv O O O O O O O) fun b6=>R.s O (s.app (l2:=[(⟨((aM r p 2 2).1).ao,d,((aM r p 2 2).1).aI,0⟩:Note)]) 4 _ O O O (cJ 0 O) dL (by (simp;omega)) (by (simp;omega)) (fun _=>rfl) O) fun v1=>R.q (q.aT (off':=3) O br O) O<|R.s O (s.dy (us:=[v1]) (cs':=[z1,z2,z3,v1,iV r.ae,iV r.af]) 9 _ O O O (fun w hw=>Sl.cm (hw.row 4 O)) (.inr ⟨bN,rfl⟩) (fun w hw=>(ah (Sl.one (hw.row 4 O)) aL)) O O O) fun _=>R.nil ?_
      have hcn:¬ eM r.Notes (aM r p 2 2).1.ao=3:=by omega
      refine R.reg O<|R.q (q.cj 9 O O ap) O<|R.s O (s.dy (us:=[z1,z2,z3,v1,iV r.ae,iV r.af]) (cs':=[z1,z2,z3,v1,iV r.ae,iV r.af]) 7 _ O O O (fun _ _=>rfl) (.inl ap) (fun w hw=>(ah (Sl.one (hw.row 1 O)) (ah (Sl.one (hw.row 2 O)) (ah (Sl.one (hw.row 3 O)) (ah (Sl.one (hw.row 4 O)) (ah O (ah O aL))))))) O O O) fun _=>R.u 1 O<|R.nil ?_
      refine R.mp (B':=[ag.row 72 (.slice (some ⟨b6,0,none⟩) 1 1) ([(⟨((aM r p 2 2).1).ao,d,((aM r p 2 2).1).aI,0⟩:Note)]:List Note),ag.row 62 z2 r.Things,ag.row 85 z3 r.Held,ag.row 72 v1 (r.Notes++([(⟨((aM r p 2 2).1).ao,d,((aM r p 2 2).1).aI,0⟩:Note)])),ag.box b5 [iV (((aM r p 2 2).1).ao),.string d,iV (((aM r p 2 2).1).aI),iV 0] 72,ag.box b4 (ay ((aM r p 2 2).1)) 88,ag.box b3 [z1,z2,z3,v1,iV r.ae,iV r.af] 32,ag.box b2 (av p) 39,ag.box b1 [z1,z2,z3,v1,iV r.ae,iV r.af] 32,ag.held w own]) (fun _ hw=>hw.bH 1 _ O O) ?_
      refine R.mp (B':=[ag.row 72 (.slice (some ⟨b6,0,none⟩) 1 1) ([(⟨((aM r p 2 2).1).ao,d,((aM r p 2 2).1).aI,0⟩:Note)]:List Note),ag.row 85 z3 r.Held,ag.row 72 v1 (r.Notes++([(⟨((aM r p 2 2).1).ao,d,((aM r p 2 2).1).aI,0⟩:Note)])),ag.box b5 [iV (((aM r p 2 2).1).ao),.string d,iV (((aM r p 2 2).1).aI),iV 0] 72,ag.box b4 (ay ((aM r p 2 2).1)) 88,ag.box b3 [z1,z2,z3,v1,iV r.ae,iV r.af] 32,ag.box b2 (av p) 39,ag.box b1 [z1,z2,z3,v1,iV r.ae,iV r.af] 32,ag.held w own]) (fun _ hw=>hw.bH 1 _ O O) ?_
      refine R.mp (B':=[ag.row 72 (.slice (some ⟨b6,0,none⟩) 1 1) ([(⟨((aM r p 2 2).1).ao,d,((aM r p 2 2).1).aI,0⟩:Note)]:List Note),ag.row 72 v1 (r.Notes++([(⟨((aM r p 2 2).1).ao,d,((aM r p 2 2).1).aI,0⟩:Note)])),ag.box b5 [iV (((aM r p 2 2).1).ao),.string d,iV (((aM r p 2 2).1).aI),iV 0] 72,ag.box b4 (ay ((aM r p 2 2).1)) 88,ag.box b3 [z1,z2,z3,v1,iV r.ae,iV r.af] 32,ag.box b2 (av p) 39,ag.box b1 [z1,z2,z3,v1,iV r.ae,iV r.af] 32,ag.held w own]) (fun _ hw=>hw.bH 1 _ O O) ?_
      refine R.mp (B':=[ag.row 72 (.slice (some ⟨b6,0,none⟩) 1 1) ([(⟨((aM r p 2 2).1).ao,d,((aM r p 2 2).1).aI,0⟩:Note)]:List Note),ag.box b5 [iV (((aM r p 2 2).1).ao),.string d,iV (((aM r p 2 2).1).aI),iV 0] 72,ag.box b4 (ay ((aM r p 2 2).1)) 88,ag.box b3 [z1,z2,z3,v1,iV r.ae,iV r.af] 32,ag.box b2 (av p) 39,ag.box b1 [z1,z2,z3,v1,iV r.ae,iV r.af] 32,ag.held w own]) (fun _ hw=>hw.bH 1 _ O O) ?_
      have hz:bU r p d slot rights=((⟨r.ai,r.Things,r.Held,(r.Notes++([(⟨((aM r p 2 2).1).ao,d,((aM r p 2 2).1).aI,0⟩:Note)])),r.ae,r.af⟩:ar),0):=by (unfold bU;rw [if_pos mq,if_neg (by omega),if_neg (by omega),if_pos (by omega)];(try rfl))
      rw [hz]
      exact R.w2 (z1,z2,z3,v1) [6] dj O Tryz.results44 (RV.cell 3 O O ap) (RV.tmp O) O O O (cD O O)
     ·
      refine R.q (q.geq O O (decide_eq_true (by omega))) O<|R.nil ?_
      refine R.aE O O ?_
      refine R.reg O<|R.q (q.aT (off':=2) O fj O) O<|R.q (q.ld 5 O O aA O) O<|?_
      by_cases h7:((aM r p 2 2).1).Rights<4
      ·
       refine R.q (q.lss O O (decide_eq_true (by omega))) O<|R.nil ?_
       refine R.aE O O ?_
       refine R.reg O<|R.q (q.build (cs:=aG) cz O O) O<|R.s O (s.st (us:=aG) (cs':=aG) 6 _ O O O O (.inl ap) O O O O) fun _=>R.u 1 O<|R.nil ?_
       refine R.mp (fun _ hw=>hw.aR (α:=ak)) ?_
       refine R.mp (fun _ hw=>hw.aR (α:=ao)) ?_
       refine R.mp (fun _ hw=>hw.aR (α:=Held)) ?_
       refine R.mp (fun _ hw=>hw.aR (α:=Note)) ?_
       have hz:bU r p d slot rights=((⟨[],[],[],[],0,0⟩:ar),7):=by (unfold bU;rw [if_pos mq,if_neg (by omega),if_neg (by omega),if_neg (by omega),if_neg (by rw [yZ mr (by omega)];decide)];(try rfl))
       rw [hz]
       exact R.w2 ((nS),(nS),(nS),(nS)) [9] dj O Tryz.results44 (RV.cell 6 O O ap) (RV.tmp O) O O O (cD O O)
      ·
       refine R.q (q.lss O O (decide_eq_false (by omega))) O<|R.nil ?_
       refine R.aF O O ?_
       refine R.reg O<|R.q (q.cj 8 O O ap) O<|R.q (q.aT (off':=0) O cF O) O<|R.q (q.ld 7 O O aA O) O<|R.u 1 O<|R.q (q.build (cs:=[iV p.aj,iV slot]) nu O O) O<|R.c (q.call sV O O (fun w hw=>(k5 _ _ _ _ (r) ((⟨p.aj,slot⟩:Place)) w (hw.row 0 O) (hw.row 1 O) (hw.row 2 O) (hw.row 3 O) ‹_› ‹_›))) O<|R.u 3 O<|R.s O (s.alloc (cs:=cC) bF O O) fun b7=>R.s O (s.st (us:=ay ((au r (⟨p.aj,slot⟩:Place)).1)) (cs':=ay ((au r (⟨p.aj,slot⟩:Place)).1)) 0 _ O O O O (.inl aP) O O O O) fun _=>R.u 1 O<|R.nil ?_
       refine R.reg O<|R.u 1 O<|?_
       by_cases h8:0<(au r (⟨p.aj,slot⟩:Place)).2
       ·
        refine R.q (q.gtr O O (decide_eq_true (by omega))) O<|R.nil ?_
        refine R.aE O O ?_
        refine R.reg O<|R.q (q.build (cs:=aG) cz O O) O<|R.u 1 O<|R.s O (s.st (us:=aG) (cs':=aG) 7 _ O O O O (.inl ap) O O O O) fun _=>R.u 1 O<|R.nil ?_
        refine R.mp (fun _ hw=>hw.aR (α:=ak)) ?_
        refine R.mp (fun _ hw=>hw.aR (α:=ao)) ?_
        refine R.mp (fun _ hw=>hw.aR (α:=Held)) ?_
        refine R.mp (fun _ hw=>hw.aR (α:=Note)) ?_
        have hz:bU r p d slot rights=((⟨[],[],[],[],0,0⟩:ar),(au r (⟨p.aj,slot⟩:Place)).2):=by (unfold bU;rw [if_pos mq,if_neg (by omega),if_neg (by omega),if_neg (by omega),if_pos (jV mr (by omega)),if_neg (by omega)];(try rfl))
        rw [hz]
        exact R.w2 ((nS),(nS),(nS),(nS)) [10] dj O Tryz.results44 (RV.cell 7 O O ap) (RV.tmp O) O O O (cD O O)
       ·
        have gz:(au r (⟨p.aj,slot⟩:Place)).2=0:=by omega
        have gr:=hk.get gz
        refine R.q (q.gtr O O (decide_eq_false (by omega))) O<|R.nil ?_
        refine R.aF O O ?_
        refine R.reg O<|R.q (q.aT (off':=4) O bW O) O<|R.q (q.ld 9 O O aA O) O<|?_
        by_cases h9:999<r.ae
        ·
         refine R.q (q.gtr O O (decide_eq_true (by omega))) O<|R.nil ?_
         refine R.aE O O ?_
         refine R.reg O<|R.q (q.build (cs:=aG) cz O O) O<|R.s O (s.st (us:=aG) (cs':=aG) 7 _ O O O O (.inl ap) O O O O) fun _=>R.u 1 O<|R.nil ?_
         refine R.mp (fun _ hw=>hw.aR (α:=ak)) ?_
         refine R.mp (fun _ hw=>hw.aR (α:=ao)) ?_
         refine R.mp (fun _ hw=>hw.aR (α:=Held)) ?_
         refine R.mp (fun _ hw=>hw.aR (α:=Note)) ?_
         have hz:bU r p d slot rights=((⟨[],[],[],[],0,0⟩:ar),9):=by (unfold bU;rw [if_pos mq,if_neg (by omega),if_neg (by omega),if_neg (by omega),if_pos (jV mr (by omega)),if_pos gz,if_pos (by omega)];(try rfl))
         rw [hz]
         exact R.w2 ((nS),(nS),(nS),(nS)) [10] dj O Tryz.results44 (RV.cell 7 O O ap) (RV.tmp O) O O O (cD O O)
        ·
         refine R.q (q.gtr O O (decide_eq_false (by omega))) O<|R.nil ?_
         refine R.aF O O ?_
         refine R.reg O<|R.q (q.cj 0 O O aP) O<|R.q (q.aT (off':=4) O bW O) O<|R.q (q.ld 9 O O aA O) O<|R.u 1 O<|R.c (q.call AJ O O (fun w hw=>(jJ (((au r (⟨p.aj,slot⟩:Place)).1)) (r.ae) (rights) (0) w  (by omega)))) O<|R.u 3 O<|R.s O (s.alloc (cs:=cC) bF O O) fun b8=>R.s O (s.st (us:=ay ((derived ((au r (⟨p.aj,slot⟩:Place)).1) r.ae rights 0).1)) (cs':=ay ((derived ((au r (⟨p.aj,slot⟩:Place)).1) r.ae rights 0).1)) 0 _ O O O O (.inl aP) O O O O) fun _=>R.u 1 O<|R.nil ?_
         refine R.reg O<|R.u 1 O<|?_
         by_cases h10:0<(derived ((au r (⟨p.aj,slot⟩:Place)).1) r.ae rights 0).2
         ·
          refine R.q (q.gtr O O (decide_eq_true (by omega))) O<|R.nil ?_
          refine R.aE O O ?_
          refine R.reg O<|R.q (q.build (cs:=aG) cz O O) O<|R.u 1 O<|R.s O (s.st (us:=aG) (cs':=aG) 8 _ O O O O (.inl ap) O O O O) fun _=>R.u 1 O<|R.nil ?_
          refine R.mp (fun _ hw=>hw.aR (α:=ak)) ?_
          refine R.mp (fun _ hw=>hw.aR (α:=ao)) ?_
          refine R.mp (fun _ hw=>hw.aR (α:=Held)) ?_
          refine R.mp (fun _ hw=>hw.aR (α:=Note)) ?_
          have hz:bU r p d slot rights=((⟨[],[],[],[],0,0⟩:ar),(derived ((au r (⟨p.aj,slot⟩:Place)).1) r.ae rights 0).2):=by (unfold bU;rw [if_pos mq,if_neg (by omega),if_neg (by omega),if_neg (by omega),if_pos (jV mr (by omega)),if_pos gz,if_neg (by omega),if_neg (by omega)];(try rfl))
          rw [hz]
          exact R.w2 ((nS),(nS),(nS),(nS)) [11] dj O Tryz.results44 (RV.cell 8 O O ap) (RV.tmp O) O O O (cD O O)
         ·
          have dz:(derived ((au r (⟨p.aj,slot⟩:Place)).1) r.ae rights 0).2=0:=by omega
          refine R.q (q.gtr O O (decide_eq_false (by omega))) O<|R.nil ?_
          refine R.aF O O ?_
          refine R.reg O<|R.q (q.cj 10 O O ap) O<|R.q (q.cj 0 O O aP) O<|R.s (B':=(fun g_:Value×Value×Value×Value=>[ag.row 88 g_.1 ((aQ r ((derived ((au r (⟨p.aj,slot⟩:Place)).1) r.ae rights 0).1))).ai,ag.row 62 g_.2.1 ((aQ r ((derived ((au r (⟨p.aj,slot⟩:Place)).1) r.ae rights 0).1))).Things,ag.row 85 g_.2.2.1 ((aQ r ((derived ((au r (⟨p.aj,slot⟩:Place)).1) r.ae rights 0).1))).Held,ag.row 72 g_.2.2.2 ((aQ r ((derived ((au r (⟨p.aj,slot⟩:Place)).1) r.ae rights 0).1))).Notes,ag.box b8 (ay ((derived ((au r (⟨p.aj,slot⟩:Place)).1) r.ae rights 0).1)) 88,ag.box b7 (ay ((au r (⟨p.aj,slot⟩:Place)).1)) 88,ag.box b5 [iV (((aM r p 2 2).1).ao),.string d,iV (((aM r p 2 2).1).aI),iV 0] 72,ag.box b4 (ay ((aM r p 2 2).1)) 88,ag.box b3 aG 32,ag.box b2 (av p) 39,ag.box b1 [z1,z2,z3,z4,iV r.ae,iV r.af] 32,ag.held w own])) (F':=(fun g_=>[ag.ls z4 r.Notes,ag.ls z3 r.Held,ag.ls z2 r.Things,ag.ls z1 r.ai,ag.ls aD r.ai,ag.ls az r.Things,ag.ls aB r.Held,ag.ls aC r.Notes])) O (s.pre (B2:=[ag.box b8 (ay ((derived ((au r (⟨p.aj,slot⟩:Place)).1) r.ae rights 0).1)) 88,ag.box b7 (ay ((au r (⟨p.aj,slot⟩:Place)).1)) 88,ag.row 62 z2 r.Things,ag.row 85 z3 r.Held,ag.row 72 z4 r.Notes,ag.box b5 [iV (((aM r p 2 2).1).ao),.string d,iV (((aM r p 2 2).1).aI),iV 0] 72,ag.box b4 (ay ((aM r p 2 2).1)) 88,ag.box b3 aG 32,ag.box b2 (av p) 39,ag.box b1 [z1,z2,z3,z4,iV r.ae,iV r.af] 32,ag.held w own]) (F2:=[ag.ls z1 r.ai,ag.ls aD r.ai,ag.ls az r.Things,ag.ls aB r.Held,ag.ls aC r.Notes]) (fun _ hw=>hw.bH 2 _ O O) (s.pre (B2:=[ag.box b8 (ay ((derived ((au r (⟨p.aj,slot⟩:Place)).1) r.ae rights 0).1)) 88,ag.box b7 (ay ((au r (⟨p.aj,slot⟩:Place)).1)) 88,ag.row 85 z3 r.Held,ag.row 72 z4 r.Notes,ag.box b5 [iV (((aM r p 2 2).1).ao),.string d,iV (((aM r p 2 2).1).aI),iV 0] 72,ag.box b4 (ay ((aM r p 2 2).1)) 88,ag.box b3 aG 32,ag.box b2 (av p) 39,ag.box b1 [z1,z2,z3,z4,iV r.ae,iV r.af] 32,ag.held w own]) (F2:=[ag.ls z2 r.Things,ag.ls z1 r.ai,ag.ls aD r.ai,ag.ls az r.Things,ag.ls aB r.Held,ag.ls aC r.Notes]) (fun _ hw=>hw.bH 2 _ O O) (s.pre (B2:=[ag.box b8 (ay ((derived ((au r (⟨p.aj,slot⟩:Place)).1) r.ae rights 0).1)) 88,ag.box b7 (ay ((au r (⟨p.aj,slot⟩:Place)).1)) 88,ag.row 72 z4 r.Notes,ag.box b5 [iV (((aM r p 2 2).1).ao),.string d,iV (((aM r p 2 2).1).aI),iV 0] 72,ag.box b4 (ay ((aM r p 2 2).1)) 88,ag.box b3 aG 32,ag.box b2 (av p) 39,ag.box b1 [z1,z2,z3,z4,iV r.ae,iV r.af] 32,ag.held w own]) (F2:=[ag.ls z3 r.Held,ag.ls z2 r.Things,ag.ls z1 r.ai,ag.ls aD r.ai,ag.ls az r.Things,ag.ls aB r.Held,ag.ls aC r.Notes]) (fun _ hw=>hw.bH 2 _ O O) (s.pre (B2:=[ag.box b8 (ay ((derived ((au r (⟨p.aj,slot⟩:Place)).1) r.ae rights 0).1)) 88,ag.box b7 (ay ((au r (⟨p.aj,slot⟩:Place)).1)) 88,ag.box b5 [iV (((aM r p 2 2).1).ao),.string d,iV (((aM r p 2 2).1).aI),iV 0] 72,ag.box b4 (ay ((aM r p 2 2).1)) 88,ag.box b3 aG 32,ag.box b2 (av p) 39,ag.box b1 [z1,z2,z3,z4,iV r.ae,iV r.af] 32,ag.held w own]) (F2:=[ag.ls z4 r.Notes,ag.ls z3 r.Held,ag.ls z2 r.Things,ag.ls z1 r.ai,ag.ls aD r.ai,ag.ls az r.Things,ag.ls aB r.Held,ag.ls aC r.Notes]) (fun _ hw=>hw.bH 2 _ O O) (s.bP (B0:=[]) (Br:=[ag.box b8 (ay ((derived ((au r (⟨p.aj,slot⟩:Place)).1) r.ae rights 0).1)) 88,ag.box b7 (ay ((au r (⟨p.aj,slot⟩:Place)).1)) 88,ag.box b5 [iV (((aM r p 2 2).1).ao),.string d,iV (((aM r p 2 2).1).aI),iV 0] 72,ag.box b4 (ay ((aM r p 2 2).1)) 88,ag.box b3 aG 32,ag.box b2 (av p) 39,ag.box b1 [z1,z2,z3,z4,iV r.ae,iV r.af] 32,ag.held w own]) (F0:=[ag.ls z1 r.ai,ag.ls z2 r.Things,ag.ls z3 r.Held,ag.ls z4 r.Notes]) bS dj (fun g_:Value×Value×Value×Value => .agg #[g_.1,g_.2.1,g_.2.2.1,g_.2.2.2,iV (((aQ r ((derived ((au r (⟨p.aj,slot⟩:Place)).1) r.ae rights 0).1))).ae),iV (((aQ r ((derived ((au r (⟨p.aj,slot⟩:Place)).1) r.ae rights 0).1))).af)]) (fun g_=>[ag.row 88 g_.1 ((aQ r ((derived ((au r (⟨p.aj,slot⟩:Place)).1) r.ae rights 0).1))).ai,ag.row 62 g_.2.1 ((aQ r ((derived ((au r (⟨p.aj,slot⟩:Place)).1) r.ae rights 0).1))).Things,ag.row 85 g_.2.2.1 ((aQ r ((derived ((au r (⟨p.aj,slot⟩:Place)).1) r.ae rights 0).1))).Held,ag.row 72 g_.2.2.2 ((aQ r ((derived ((au r (⟨p.aj,slot⟩:Place)).1) r.ae rights 0).1))).Notes]) (fun g_=>[]) O O O ve O O (fun w own hw H=>mK z1 z2 z3 z4 (r) (((derived ((au r (⟨p.aj,slot⟩:Place)).1) r.ae rights 0).1)) w own H ‹_›) O))))) ?_
          rintro ⟨z5,z6,z7,z8⟩
          dsimp only
          refine R.s O (s.dy (us:=[z5,z6,z7,z8,iV ((aQ r ((derived ((au r (⟨p.aj,slot⟩:Place)).1) r.ae rights 0).1)).ae),iV ((aQ r ((derived ((au r (⟨p.aj,slot⟩:Place)).1) r.ae rights 0).1)).af)]) (cs':=[z5,z6,z7,z8,iV ((aQ r ((derived ((au r (⟨p.aj,slot⟩:Place)).1) r.ae rights 0).1)).ae),iV ((aQ r ((derived ((au r (⟨p.aj,slot⟩:Place)).1) r.ae rights 0).1)).af)]) 10 _ O O O (fun _ _=>rfl) (.inl ap) (fun w hw=>(ah (Sl.one (hw.row 0 O)) (ah (Sl.one (hw.row 1 O)) (ah (Sl.one (hw.row 2 O)) (ah (Sl.one (hw.row 3 O)) (ah O (ah O aL))))))) O O O) fun _=>R.nil ?_
          refine R.reg O<|R.q (q.aT (off':=0) O bI O) O<|R.q (q.ld 4 O O aA O) O<|R.q (q.aT (off':=3) O dE O) O<|R.s O (s.st (us:=[iV (((derived ((au r (⟨p.aj,slot⟩:Place)).1) r.ae rights 0).1).ID)]) (cs':=[iV (((aM r p 2 2).1).ao),.string d,iV (((aM r p 2 2).1).aI),iV (((derived ((au r (⟨p.aj,slot⟩:Place)).1) r.ae rights 0).1).ID)]) 6 _ O O O O (.inr ⟨aA,rfl⟩) O O O O) fun _=>R.nil ?_
          refine R.reg O<|R.q (q.aT (off':=3) O br O) O<|R.q (q.ld 10 O O bN O) O<|R.q (q.cj 6 O O bO) O<|R.s O (s.bs (l:=([(⟨((aM r p 2 2).1).ao,d,((aM r p 2 2).1).aI,((derived ((au r (⟨p.aj,slot⟩:Place)).1) r.ae rights 0).1).ID⟩:Note)]:List Note)) du dv O O O O O O O) fun b9=>R.s O (s.app (l2:=[(⟨((aM r p 2 2).1).ao,d,((aM r p 2 2).1).aI,((derived ((au r (⟨p.aj,slot⟩:Place)).1) r.ae rights 0).1).ID⟩:Note)]) 4 _ O O O (cJ 0 O) dL (by (simp [aQ];omega)) (by (simp [aQ];omega)) (fun _=>rfl) O) fun v2=>R.q (q.aT (off':=3) O br O) O<|R.s O (s.dy (us:=[v2]) (cs':=[z5,z6,z7,v2,iV ((aQ r ((derived ((au r (⟨p.aj,slot⟩:Place)).1) r.ae rights 0).1)).ae),iV ((aQ r ((derived ((au r (⟨p.aj,slot⟩:Place)).1) r.ae rights 0).1)).af)]) 11 _ O O O (fun w hw=>Sl.cm (hw.row 4 O)) (.inr ⟨bN,rfl⟩) (fun w hw=>(ah (Sl.one (hw.row 4 O)) aL)) O O O) fun _=>R.nil ?_
          have hcn:¬ eM r.Notes (aM r p 2 2).1.ao=3:=by omega
          refine R.reg O<|R.q (q.cj 11 O O ap) O<|R.s O (s.dy (us:=[z5,z6,z7,v2,iV ((aQ r ((derived ((au r (⟨p.aj,slot⟩:Place)).1) r.ae rights 0).1)).ae),iV ((aQ r ((derived ((au r (⟨p.aj,slot⟩:Place)).1) r.ae rights 0).1)).af)]) (cs':=[z5,z6,z7,v2,iV ((aQ r ((derived ((au r (⟨p.aj,slot⟩:Place)).1) r.ae rights 0).1)).ae),iV ((aQ r ((derived ((au r (⟨p.aj,slot⟩:Place)).1) r.ae rights 0).1)).af)]) 9 _ O O O (fun _ _=>rfl) (.inl ap) (fun w hw=>(ah (Sl.one (hw.row 1 O)) (ah (Sl.one (hw.row 2 O)) (ah (Sl.one (hw.row 3 O)) (ah (Sl.one (hw.row 4 O)) (ah O (ah O aL))))))) O O O) fun _=>R.u 1 O<|R.nil ?_
          refine R.mp (B':=[ag.row 72 (.slice (some ⟨b9,0,none⟩) 1 1) ([(⟨((aM r p 2 2).1).ao,d,((aM r p 2 2).1).aI,((derived ((au r (⟨p.aj,slot⟩:Place)).1) r.ae rights 0).1).ID⟩:Note)]:List Note),ag.row 62 z6 (aQ r ((derived ((au r (⟨p.aj,slot⟩:Place)).1) r.ae rights 0).1)).Things,ag.row 85 z7 (aQ r ((derived ((au r (⟨p.aj,slot⟩:Place)).1) r.ae rights 0).1)).Held,ag.row 72 v2 (((aQ r ((derived ((au r (⟨p.aj,slot⟩:Place)).1) r.ae rights 0).1)).Notes)++([(⟨((aM r p 2 2).1).ao,d,((aM r p 2 2).1).aI,((derived ((au r (⟨p.aj,slot⟩:Place)).1) r.ae rights 0).1).ID⟩:Note)])),ag.box b8 (ay ((derived ((au r (⟨p.aj,slot⟩:Place)).1) r.ae rights 0).1)) 88,ag.box b7 (ay ((au r (⟨p.aj,slot⟩:Place)).1)) 88,ag.box b5 [iV (((aM r p 2 2).1).ao),.string d,iV (((aM r p 2 2).1).aI),iV (((derived ((au r (⟨p.aj,slot⟩:Place)).1) r.ae rights 0).1).ID)] 72,ag.box b4 (ay ((aM r p 2 2).1)) 88,ag.box b3 [z5,z6,z7,v2,iV ((aQ r ((derived ((au r (⟨p.aj,slot⟩:Place)).1) r.ae rights 0).1)).ae),iV ((aQ r ((derived ((au r (⟨p.aj,slot⟩:Place)).1) r.ae rights 0).1)).af)] 32,ag.box b2 (av p) 39,ag.box b1 [z5,z6,z7,v2,iV ((aQ r ((derived ((au r (⟨p.aj,slot⟩:Place)).1) r.ae rights 0).1)).ae),iV ((aQ r ((derived ((au r (⟨p.aj,slot⟩:Place)).1) r.ae rights 0).1)).af)] 32,ag.held w own]) (fun _ hw=>hw.bH 1 _ O O) ?_
          refine R.mp (B':=[ag.row 72 (.slice (some ⟨b9,0,none⟩) 1 1) ([(⟨((aM r p 2 2).1).ao,d,((aM r p 2 2).1).aI,((derived ((au r (⟨p.aj,slot⟩:Place)).1) r.ae rights 0).1).ID⟩:Note)]:List Note),ag.row 85 z7 (aQ r ((derived ((au r (⟨p.aj,slot⟩:Place)).1) r.ae rights 0).1)).Held,ag.row 72 v2 (((aQ r ((derived ((au r (⟨p.aj,slot⟩:Place)).1) r.ae rights 0).1)).Notes)++([(⟨((aM r p 2 2).1).ao,d,((aM r p 2 2).1).aI,((derived ((au r (⟨p.aj,slot⟩:Place)).1) r.ae rights 0).1).ID⟩:Note)])),ag.box b8 (ay ((derived ((au r (⟨p.aj,slot⟩:Place)).1) r.ae rights 0).1)) 88,ag.box b7 (ay ((au r (⟨p.aj,slot⟩:Place)).1)) 88,ag.box b5 [iV (((aM r p 2 2).1).ao),.string d,iV (((aM r p 2 2).1).aI),iV (((derived ((au r (⟨p.aj,slot⟩:Place)).1) r.ae rights 0).1).ID)] 72,ag.box b4 (ay ((aM r p 2 2).1)) 88,ag.box b3 [z5,z6,z7,v2,iV ((aQ r ((derived ((au r (⟨p.aj,slot⟩:Place)).1) r.ae rights 0).1)).ae),iV ((aQ r ((derived ((au r (⟨p.aj,slot⟩:Place)).1) r.ae rights 0).1)).af)] 32,ag.box b2 (av p) 39,ag.box b1 [z5,z6,z7,v2,iV ((aQ r ((derived ((au r (⟨p.aj,slot⟩:Place)).1) r.ae rights 0).1)).ae),iV ((aQ r ((derived ((au r (⟨p.aj,slot⟩:Place)).1) r.ae rights 0).1)).af)] 32,ag.held w own]) (fun _ hw=>hw.bH 1 _ O O) ?_
          refine R.mp (B':=[ag.row 72 (.slice (some ⟨b9,0,none⟩) 1 1) ([(⟨((aM r p 2 2).1).ao,d,((aM r p 2 2).1).aI,((derived ((au r (⟨p.aj,slot⟩:Place)).1) r.ae rights 0).1).ID⟩:Note)]:List Note),ag.row 72 v2 (((aQ r ((derived ((au r (⟨p.aj,slot⟩:Place)).1) r.ae rights 0).1)).Notes)++([(⟨((aM r p 2 2).1).ao,d,((aM r p 2 2).1).aI,((derived ((au r (⟨p.aj,slot⟩:Place)).1) r.ae rights 0).1).ID⟩:Note)])),ag.box b8 (ay ((derived ((au r (⟨p.aj,slot⟩:Place)).1) r.ae rights 0).1)) 88,ag.box b7 (ay ((au r (⟨p.aj,slot⟩:Place)).1)) 88,ag.box b5 [iV (((aM r p 2 2).1).ao),.string d,iV (((aM r p 2 2).1).aI),iV (((derived ((au r (⟨p.aj,slot⟩:Place)).1) r.ae rights 0).1).ID)] 72,ag.box b4 (ay ((aM r p 2 2).1)) 88,ag.box b3 [z5,z6,z7,v2,iV ((aQ r ((derived ((au r (⟨p.aj,slot⟩:Place)).1) r.ae rights 0).1)).ae),iV ((aQ r ((derived ((au r (⟨p.aj,slot⟩:Place)).1) r.ae rights 0).1)).af)] 32,ag.box b2 (av p) 39,ag.box b1 [z5,z6,z7,v2,iV ((aQ r ((derived ((au r (⟨p.aj,slot⟩:Place)).1) r.ae rights 0).1)).ae),iV ((aQ r ((derived ((au r (⟨p.aj,slot⟩:Place)).1) r.ae rights 0).1)).af)] 32,ag.held w own]) (fun _ hw=>hw.bH 1 _ O O) ?_
          refine R.mp (B':=[ag.row 72 (.slice (some ⟨b9,0,none⟩) 1 1) ([(⟨((aM r p 2 2).1).ao,d,((aM r p 2 2).1).aI,((derived ((au r (⟨p.aj,slot⟩:Place)).1) r.ae rights 0).1).ID⟩:Note)]:List Note),ag.box b8 (ay ((derived ((au r (⟨p.aj,slot⟩:Place)).1) r.ae rights 0).1)) 88,ag.box b7 (ay ((au r (⟨p.aj,slot⟩:Place)).1)) 88,ag.box b5 [iV (((aM r p 2 2).1).ao),.string d,iV (((aM r p 2 2).1).aI),iV (((derived ((au r (⟨p.aj,slot⟩:Place)).1) r.ae rights 0).1).ID)] 72,ag.box b4 (ay ((aM r p 2 2).1)) 88,ag.box b3 [z5,z6,z7,v2,iV ((aQ r ((derived ((au r (⟨p.aj,slot⟩:Place)).1) r.ae rights 0).1)).ae),iV ((aQ r ((derived ((au r (⟨p.aj,slot⟩:Place)).1) r.ae rights 0).1)).af)] 32,ag.box b2 (av p) 39,ag.box b1 [z5,z6,z7,v2,iV ((aQ r ((derived ((au r (⟨p.aj,slot⟩:Place)).1) r.ae rights 0).1)).ae),iV ((aQ r ((derived ((au r (⟨p.aj,slot⟩:Place)).1) r.ae rights 0).1)).af)] 32,ag.held w own]) (fun _ hw=>hw.bH 1 _ O O) ?_
          have hz:bU r p d slot rights=((⟨(aQ r ((derived ((au r (⟨p.aj,slot⟩:Place)).1) r.ae rights 0).1)).ai,(aQ r ((derived ((au r (⟨p.aj,slot⟩:Place)).1) r.ae rights 0).1)).Things,(aQ r ((derived ((au r (⟨p.aj,slot⟩:Place)).1) r.ae rights 0).1)).Held,(((aQ r ((derived ((au r (⟨p.aj,slot⟩:Place)).1) r.ae rights 0).1)).Notes)++([(⟨((aM r p 2 2).1).ao,d,((aM r p 2 2).1).aI,((derived ((au r (⟨p.aj,slot⟩:Place)).1) r.ae rights 0).1).ID⟩:Note)])),(aQ r ((derived ((au r (⟨p.aj,slot⟩:Place)).1) r.ae rights 0).1)).ae,(aQ r ((derived ((au r (⟨p.aj,slot⟩:Place)).1) r.ae rights 0).1)).af⟩:ar),0):=by (unfold bU;rw [if_pos mq,if_neg (by omega),if_neg (by omega),if_neg (by omega),if_pos (jV mr (by omega)),if_pos gz,if_neg (by omega),if_pos dz];(try rfl))
          rw [hz]
          exact R.w2 (z5,z6,z7,v2) [8] dj O Tryz.results44 (RV.cell 5 O O ap) (RV.tmp O) O O O (cD O O)
set_option maxRecDepth 100000 in
set_option maxHeartbeats 1000000 in
theorem Ae (aD az aB aC:Value)(r:ar)(p:Place)(w:World)(own:List Nat)(H:Wd w (blks []++own) ([]++[ag.held w own]) [ag.ls aD (r.ai:List ak),ag.ls az (r.Things:List ao),ag.ls aB (r.Held:List Held),ag.ls aC (r.Notes:List Note)] w)(hk:Ok r)(hI:Inv r):Calls Tryz.prog 45 #[.agg #[aD,az,aB,aC,iV r.ae,iV r.af],.agg #[iV p.aj,iV p.Slot]] w fun e w' => ∃z:Value×Value×Value×Value,e = .returned (.tuple #[.agg #[z.1,z.2.1,z.2.2.1,z.2.2.2,iV ((((bC r p)).1).ae),iV ((((bC r p)).1).af)],.agg #[iV ((((bC r p)).2.1).Port),.string ((((bC r p)).2.1).Data),iV ((((bC r p)).2.1).aI),iV ((((bC r p)).2.1).ak)],iV (((bC r p)).2.2.1),iV (((bC r p)).2.2.2)])∧Wd w (blks []++own) ([]++[ag.held w own]) [ag.ls z.1 ((((bC r p)).1).ai:List ak),ag.ls z.2.1 ((((bC r p)).1).Things:List ao),ag.ls z.2.2.1 ((((bC r p)).1).Held:List Held),ag.ls z.2.2.2 ((((bC r p)).1).Notes:List Note)] w':=by
 have cS:=H.ct 0 rfl
 have cy:=H.ct 1 rfl
 have dq:=H.ct 2 rfl
 have cT:=H.ct 3 rfl
 have bw:=hk.wl;have bt:=hk.tl;have bh:=hk.hl;have bn:=hk.nl;have rL:=hk.w0;have rM:=hk.w1;have rN:=hk.t0;have rO:=hk.t1
 have Js:=gx r p 2 1
 refine R.da (n:=84) (vs:=[.agg #[aD,az,aB,aC,iV r.ae,iV r.af],.agg #[iV p.aj,iV p.Slot]]) (B:=[ag.held w own]) [(0,.agg #[aD,az,aB,aC,iV r.ae,iV r.af]),(1,.agg #[iV p.aj,iV p.Slot])] Tryz.func45 O O O O H ?_
 refine R.reg O<|R.s O (s.box (cs:=[aD,az,aB,aC,iV r.ae,iV r.af]) O O O) fun b1=>R.s O (s.box (cs:=av p) O O O) fun b2=>R.s O (s.alloc (cs:=aG) cp O O) fun b3=>R.s O (s.alloc (cs:=[iV 0,.string (⟨#[]⟩),iV 0,iV 0]) dv O O) fun b4=>R.u 2 O<|R.nil ?_
 refine R.reg O<|R.q (q.cj 3 O O ap) O<|R.q (q.cj 2 O O aS) O<|R.c (q.call AK O O (fun w hw=>(sj _ _ _ _ (r) (p) (2) (1) w (hw.bq 0 O) (hw.bq 1 O) (hw.bq 2 O) (hw.bq 3 O) ‹_› ‹_› (by omega)))) O<|R.u 4 O<|R.s O (s.alloc (cs:=cC) bF O O) fun b5=>R.s O (s.st (us:=ay ((aM r p 2 1).1)) (cs':=ay ((aM r p 2 1).1)) 0 _ O O O O (.inl aP) O O O O) fun _=>R.u 2 O<|R.nil ?_
 refine R.reg O<|R.u 1 O<|?_
 by_cases h1:0<(aM r p 2 1).2.2
 ·
  refine R.q (q.gtr O O (decide_eq_true (by omega))) O<|R.nil ?_
  refine R.aE O O ?_
  refine R.reg O<|R.q (q.build (cs:=aG) cz O O) O<|R.q (q.build (cs:=[iV 0,.string (⟨#[]⟩),iV 0,iV 0]) pN O O) O<|R.u 1 O<|R.s O (s.st (us:=aG) (cs':=aG) 2 _ O O O O (.inl ap) O O O O) fun _=>R.s O (s.st (us:=[iV 0,.string (⟨#[]⟩),iV 0,iV 0]) (cs':=[iV 0,.string (⟨#[]⟩),iV 0,iV 0]) 1 _ O O O O (.inl bO) O O O O) fun _=>R.u 2 O<|R.nil ?_
  refine R.mp (fun _ hw=>hw.aR (α:=ak)) ?_
  refine R.mp (fun _ hw=>hw.aR (α:=ao)) ?_
  refine R.mp (fun _ hw=>hw.aR (α:=Held)) ?_
  refine R.mp (fun _ hw=>hw.aR (α:=Note)) ?_
  have hz:bC r p=((⟨[],[],[],[],0,0⟩:ar),(⟨0,⟨#[]⟩,0,0⟩:Note),0,(aM r p 2 1).2.2):=by (unfold bC;rw [if_neg (by omega)];(try rfl))
  rw [hz]
  exact R.w4 ((nS),(nS),(nS),(nS)) [5] dj O Tryz.results45 (RV.cell 2 O O ap) (RV.cell 1 O O bO) (RV.tmp O) (RV.tmp O) O O O (oq O O O O)
 ·
  have mq:(aM r p 2 1).2.2=0:=by omega
  have mz:=iJ mq
  refine R.q (q.gtr O O (decide_eq_false (by omega))) O<|R.nil ?_
  refine R.aF O O ?_
  refine R.reg O<|R.q (q.cj 4 O O ap) O<|R.s (B':=(fun g_:Value×Value×Value×Value=>[ag.row 88 g_.1 (r).ai,ag.row 62 g_.2.1 (r).Things,ag.row 85 g_.2.2.1 (r).Held,ag.row 72 g_.2.2.2 (r).Notes,ag.box b5 (ay ((aM r p 2 1).1)) 88,ag.box b4 [iV 0,.string (⟨#[]⟩),iV 0,iV 0] 72,ag.box b3 aG 32,ag.box b2 (av p) 39,ag.box b1 [aD,az,aB,aC,iV r.ae,iV r.af] 32,ag.held w own])) (F':=(fun g_=>[ag.ls aD r.ai,ag.ls az r.Things,ag.ls aB r.Held,ag.ls aC r.Notes])) O (s.bP (B0:=[]) (Br:=[ag.box b5 (ay ((aM r p 2 1).1)) 88,ag.box b4 [iV 0,.string (⟨#[]⟩),iV 0,iV 0] 72,ag.box b3 aG 32,ag.box b2 (av p) 39,ag.box b1 [aD,az,aB,aC,iV r.ae,iV r.af] 32,ag.held w own]) (F0:=[ag.ls aD r.ai,ag.ls az r.Things,ag.ls aB r.Held,ag.ls aC r.Notes]) ia bm (fun g_:Value×Value×Value×Value => .agg #[g_.1,g_.2.1,g_.2.2.1,g_.2.2.2,iV ((r).ae),iV ((r).af)]) (fun g_=>[ag.row 88 g_.1 (r).ai,ag.row 62 g_.2.1 (r).Things,ag.row 85 g_.2.2.1 (r).Held,ag.row 72 g_.2.2.2 (r).Notes]) (fun g_=>[]) O O O vf O O (fun w own hw H=>k6 aD az aB aC (r) w own H ‹_›) O) ?_
  rintro ⟨z1,z2,z3,z4⟩
  dsimp only
  refine R.s O (s.dy (us:=[z1,z2,z3,z4,iV r.ae,iV r.af]) (cs':=[z1,z2,z3,z4,iV r.ae,iV r.af]) 8 _ O O O (fun _ _=>rfl) (.inl ap) (fun w hw=>(ah (Sl.one (hw.row 0 O)) (ah (Sl.one (hw.row 1 O)) (ah (Sl.one (hw.row 2 O)) (ah (Sl.one (hw.row 3 O)) (ah O (ah O aL))))))) O O O) fun _=>R.nil ?_
  refine R.reg O<|R.u 1 O<|R.nil ?_
  refine R.loop (fun k:Nat=>[(2,.pointer (some ⟨b1,0,none⟩)),(3,.pointer (some ⟨b2,0,none⟩)),(4,.pointer (some ⟨b3,0,none⟩)),(5,.pointer (some ⟨b4,0,none⟩)),(8,.pointer (some ⟨b5,0,none⟩)),(11,iV (k:Int))]) (fun k:Nat=>[ag.row 88 z1 r.ai,ag.row 62 z2 r.Things,ag.row 85 z3 r.Held,ag.row 72 z4 r.Notes,ag.box b5 (ay ((aM r p 2 1).1)) 88,ag.box b4 [iV 0,.string (⟨#[]⟩),iV 0,iV 0] 72,ag.box b3 aG 32,ag.box b2 (av p) 39,ag.box b1 [z1,z2,z3,z4,iV r.ae,iV r.af] 32,ag.held w own]) (fun k:Nat=>[ag.ls aD r.ai,ag.ls az r.Things,ag.ls aB r.Held,ag.ls aC r.Notes]) (fun k:Nat=>k≤r.Notes.length ∧ ∀ (j:Nat) y,j<k→r.Notes[j]? = some y→(y.Port==(aM r p 2 1).1.ao)=false) (fun k:Nat=>r.Notes.length-k) 0 O (by exact ⟨by omega,fun j x hj=>absurd hj (Nat.not_lt_zero _)⟩) ⟨rfl,rfl,rfl,rfl,rfl,rfl,trivial⟩ (fun _=>Wd.pick xY bm O O O) ?_
  rintro k ⟨hk1,HA⟩
  refine R.reg O<|R.u 1 O<|R.q (q.aT (off':=3) O br O) O<|R.q (q.ld 8 O O bN O) O<|R.q (q.len' (cJ 3 O) O Tryz.underlying30) O<|?_
  by_cases h2:k<r.Notes.length
  ·
   refine R.q (q.lss O O (decide_eq_true (by omega))) O<|R.nil ?_
   refine R.aE O O ?_
   refine R.reg O<|R.q (q.aT (off':=3) O br O) O<|R.q (q.ld 8 O O bN O) O<|R.u 1 O<|?_
   obtain ⟨x1,hx1⟩:∃z,r.Notes[k]? = some z:=⟨_,List.getElem?_eq_getElem (by omega)⟩
   refine R.q (q.idx (i:=k) (cJ 3 O) O O du O hx1) O<|R.q (q.cY (ds:=bg x1) (cJ 3 O) hx1 O bO O) O<|R.s O (s.alloc (cs:=[iV 0,.string (⟨#[]⟩),iV 0,iV 0]) dv O O) fun b6=>R.s O (s.st (us:=bg x1) (cs':=bg x1) 0 _ O O O O (.inl bO) O O O O) fun _=>R.nil ?_
   refine R.reg O<|R.q (q.aT (off':=0) O gH O) O<|R.q (q.ld 0 O O aA O) O<|R.q (q.aT (off':=1) O dw O) O<|R.q (q.ld 5 O O aA O) O<|?_
   by_cases h3:x1.Port=((aM r p 2 1).1).ao
   ·
    refine R.q (q.neq O O (bne_eq_false_iff_eq.2 (by omega))) O<|R.nil ?_
    refine R.aF O O ?_
    have hix:idxOf (fun n:Note=>n.Port==(aM r p 2 1).1.ao) r.Notes=(k:Int):=idxOf_hit hx1 (beq_iff_eq.2 (by omega)) HA
    have hfs:=free_spec r.Held p.aj
    refine R.reg O<|R.u 1 O<|R.nil ?_
    refine R.reg O<|R.q (q.aT (off':=3) O dE O) O<|R.q (q.ld 0 O O aA O) O<|?_
    by_cases h4:0<x1.ak
    ·
     refine R.q (q.gtr O O (decide_eq_true (by omega))) O<|R.nil ?_
     refine R.aE O O ?_
     refine R.reg O<|R.q (q.aT (off':=2) O bB O) O<|R.q (q.ld 9 O O bZ O) O<|R.q (q.aT (off':=0) O cF O) O<|R.q (q.ld 8 O O aA O) O<|R.c (q.call Hw O O (fun w hw=>(zY _ (r.Held) (p.aj) w (hw.row 3 O) (by exact hI.good)))) O<|R.u 1 O<|R.nil ?_
     refine R.reg O<|R.u 1 O<|?_
     by_cases h5:dA r.Held p.aj<0
     ·
      refine R.q (q.lss O O (decide_eq_true (by omega))) O<|R.nil ?_
      refine R.aE O O ?_
      refine R.reg O<|R.q (q.build (cs:=aG) cz O O) O<|R.q (q.build (cs:=[iV 0,.string (⟨#[]⟩),iV 0,iV 0]) pN O O) O<|R.s O (s.st (us:=aG) (cs':=aG) 7 _ O O O O (.inl ap) O O O O) fun _=>R.s O (s.st (us:=[iV 0,.string (⟨#[]⟩),iV 0,iV 0]) (cs':=[iV 0,.string (⟨#[]⟩),iV 0,iV 0]) 6 _ O O O O (.inl bO) O O O O) fun _=>R.u 2 O<|R.nil ?_
      refine R.mp (fun _ hw=>hw.aR (α:=ak)) ?_
      refine R.mp (fun _ hw=>hw.aR (α:=ao)) ?_
      refine R.mp (fun _ hw=>hw.aR (α:=Held)) ?_
      refine R.mp (fun _ hw=>hw.aR (α:=Note)) ?_
      have hz:bC r p=((⟨[],[],[],[],0,0⟩:ar),(⟨0,⟨#[]⟩,0,0⟩:Note),0,9):=by (unfold bC;rw [if_pos mq,hix,Int.toNat_natCast,hx1,decide_eq_true (by omega)];dsimp only;rw [if_pos (by omega),if_pos (by omega)];rfl)
      rw [hz]
      exact R.w4 ((nS),(nS),(nS),(nS)) [10] dj O Tryz.results45 (RV.cell 7 O O ap) (RV.cell 6 O O bO) (RV.tmp O) (RV.tmp O) O O O (oq O O O O)
     ·
      refine R.q (q.lss O O (decide_eq_false (by omega))) O<|R.nil ?_
      refine R.aF O O ?_
      refine R.reg O<|R.q (q.aT (off':=2) O bB O) O<|R.q (q.ld 9 O O bZ O) O<|R.q (q.aT (off':=0) O cF O) O<|R.q (q.ld 8 O O aA O) O<|R.u 1 O<|R.q (q.build (cs:=[iV p.aj,iV (dA r.Held p.aj)]) nu O O) O<|R.q (q.aT (off':=3) O dE O) O<|R.q (q.ld 0 O O aA O) O<|R.s (B':=(fun aN:Value=>[ag.row 85 aN (cw r.Held (⟨p.aj,dA r.Held p.aj⟩:Place) x1.ak),ag.box b6 (bg x1) 72,ag.row 88 z1 r.ai,ag.row 62 z2 r.Things,ag.row 72 z4 r.Notes,ag.box b5 (ay ((aM r p 2 1).1)) 88,ag.box b4 [iV 0,.string (⟨#[]⟩),iV 0,iV 0] 72,ag.box b3 aG 32,ag.box b2 (av p) 39,ag.box b1 [z1,z2,z3,z4,iV r.ae,iV r.af] 32,ag.held w own])) (F':=(fun aN:Value=>[ag.ls z3 r.Held,ag.ls aD r.ai,ag.ls az r.Things,ag.ls aB r.Held,ag.ls aC r.Notes])) O (s.pre (B2:=[ag.box b6 (bg x1) 72,ag.row 88 z1 r.ai,ag.row 62 z2 r.Things,ag.row 72 z4 r.Notes,ag.box b5 (ay ((aM r p 2 1).1)) 88,ag.box b4 [iV 0,.string (⟨#[]⟩),iV 0,iV 0] 72,ag.box b3 aG 32,ag.box b2 (av p) 39,ag.box b1 [z1,z2,z3,z4,iV r.ae,iV r.af] 32,ag.held w own]) (F2:=[ag.ls z3 r.Held,ag.ls aD r.ai,ag.ls az r.Things,ag.ls aB r.Held,ag.ls aC r.Notes]) (fun _ hw=>hw.bH 3 _ O O) (s.bP (B0:=[]) (Br:=[ag.box b6 (bg x1) 72,ag.row 88 z1 r.ai,ag.row 62 z2 r.Things,ag.row 72 z4 r.Notes,ag.box b5 (ay ((aM r p 2 1).1)) 88,ag.box b4 [iV 0,.string (⟨#[]⟩),iV 0,iV 0] 72,ag.box b3 aG 32,ag.box b2 (av p) 39,ag.box b1 [z1,z2,z3,z4,iV r.ae,iV r.af] 32,ag.held w own]) (F0:=[ag.ls z3 r.Held]) xY [0] (fun aN:Value=>aN) (fun aN:Value=>[ag.row 85 aN (cw r.Held (⟨p.aj,dA r.Held p.aj⟩:Place) x1.ak)]) (fun aN:Value=>[]) O O O ra O O (fun w own hw H=>jX z3 (r.Held) ((⟨p.aj,dA r.Held p.aj⟩:Place)) (x1.ak) w own H (by omega) (by exact hI.good)) O)) fun z5=>R.q (q.aT (off':=2) O bB O) O<|R.s O (s.dy (us:=[z5]) (cs':=[z1,z2,z5,z4,iV r.ae,iV r.af]) 9 _ O O O (fun w hw=>Sl.cm (hw.row 0 O)) (.inr ⟨bZ,rfl⟩) (fun w hw=>(ah (Sl.one (hw.row 0 O)) aL)) O O O) fun _=>R.nil ?_
      refine R.e8 (fuel:=13) (Wd w (blks []++own) [ag.row 85 z5 (cw r.Held (⟨p.aj,dA r.Held p.aj⟩:Place) x1.ak),ag.box b6 (bg x1) 72,ag.row 88 z1 r.ai,ag.row 62 z2 r.Things,ag.row 72 z4 r.Notes,ag.box b5 (ay ((aM r p 2 1).1)) 88,ag.box b4 [iV 0,.string (⟨#[]⟩),iV 0,iV 0] 72,ag.box b3 aG 32,ag.box b2 (av p) 39,ag.held w own] [ag.ls z3 r.Held,ag.ls aD r.ai,ag.ls az r.Things,ag.ls aB r.Held,ag.ls aC r.Notes]) O mixed O ?_
      refine D.q (i:=0) O (by kernel_rfl) (aK iY cZ O O O) O (q.aT (off':=3) O br O) O<|D.q (i:=2) O (by kernel_rfl) (aK iY cZ O O O) O (q.mv O) O<|D.q (i:=5) O (by kernel_rfl) (aK iY cZ O O O) O (q.aT (off':=3) O br O) O<|D.q (i:=7) O (by kernel_rfl) (aK iY cZ O O O) O (q.mv O) O<|D.q (i:=8) O (by kernel_rfl) (aK iY cZ O O O) O (q.add (r:=((k+1:Nat):Int)) O O (wr (by omega))) O<|D.two (i:=1) (j:=6) (by kernel_rfl) O O ?_ ?_
      ·
       refine Do.s (s.c (Qt.a (q.ld 9 O O bN O)) O) (fun _=>(aK iY cZ O O O)) O fun _=>D.q (i:=3) O (by kernel_rfl) (aK iY cZ O O O) O (q.jj (i:=k) (cJ 4 O) O O Tryz.underlying30 mP O (by omega)) O<|D.two (i:=4) (j:=6) (by kernel_rfl) O O ?_ ?_
       ·
        refine Do.s (s.app0 (l2:=(r.Notes.take k)) O O (fun w hw=>Sl.to (hw.row 4 O) (by omega)) dL (by (simp;omega)) (by (simp;omega)) O) (fun _=>(aK iz cZ O O O)) O fun v1=>D.one (i:=6) (by kernel_rfl) O ?_
        refine Do.s (s.c (Qt.a (q.ld 10 O O bN O)) O) (fun _=>(aK iz cZ O O O)) O fun _=>D.q (i:=9) O (by kernel_rfl) (aK iz cZ O O O) O (q.eh (i:=(k+1)) (cJ 4 O) O O du O (by omega)) O<|D.one (i:=10) (by kernel_rfl) O ?_
        refine Do.s (s.app (l2:=(r.Notes.drop (k+1))) 0 _ O O O (fun w hw=>Sl.from (hw.row 5 O) (by omega)) dL (by (simp;omega)) (by (simp;omega)) (fun _=>rfl) O) (fun _=>(aK iz cZ O O O)) O fun v2=>D.q (i:=11) O (by kernel_rfl) (aK iz cZ O O O) O (q.aT (off':=3) O br O) O<|D.one (i:=12) (by kernel_rfl) O ?_
        refine Do.s (s.dy (us:=[v2]) (cs':=[z1,z2,z5,v2,iV r.ae,iV r.af]) 10 _ O O O (fun w hw=>Sl.cm (hw.row 0 O)) (.inr ⟨bN,rfl⟩) (fun w hw=>(ah (Sl.one (hw.row 0 O)) aL)) O O O) (fun _=>(aK iz cZ O O O)) O fun _=>D.done (by kernel_rfl)<|R.e8 (fuel:=7) (Wd w (blks []++own) [ag.row 72 v2 ((r.Notes.take k)++(r.Notes.drop (k+1))),ag.row 85 z5 (cw r.Held (⟨p.aj,dA r.Held p.aj⟩:Place) x1.ak),ag.box b6 (bg x1) 72,ag.row 88 z1 r.ai,ag.row 62 z2 r.Things,ag.row 72 z4 r.Notes,ag.box b5 (ay ((aM r p 2 1).1)) 88,ag.box b2 (av p) 39,ag.box b1 [z1,z2,z5,v2,iV r.ae,iV r.af] 32,ag.held w own] [ag.ls z3 r.Held,ag.ls aD r.ai,ag.ls az r.Things,ag.ls aB r.Held,ag.ls aC r.Notes]) O mixed O ?_
        refine D.q (i:=0) O (by kernel_rfl) (aK fI cZ O O O) O (q.cj 8 O O ap) O<|D.q (i:=1) O (by kernel_rfl) (aK fI cZ O O O) O (q.cj 2 O O bO) O<|D.q (i:=2) O (by kernel_rfl) (aK fI cZ O O O) O (q.mv O) O<|D.one (i:=3) (by kernel_rfl) O ?_
        refine Do.s (s.dy (us:=[z1,z2,z5,v2,iV r.ae,iV r.af]) (cs':=[z1,z2,z5,v2,iV r.ae,iV r.af]) 8 _ O O O (fun _ _=>rfl) (.inl ap) (fun w hw=>(ah (Sl.one (hw.row 3 O)) (ah (Sl.one (hw.row 4 O)) (ah (Sl.one (hw.row 1 O)) (ah (Sl.one (hw.row 0 O)) (ah O (ah O aL))))))) O O O) (fun _=>(aK fI cZ O O O)) O fun _=>D.one (i:=4) (by kernel_rfl) O ?_
        refine Do.s (s.st (us:=bg x1) (cs':=bg x1) 7 _ O O O O (.inl bO) O O O O) (fun _=>(aK fI cZ O O O)) O fun _=>D.q (i:=5) O (by kernel_rfl) (aK fI cZ O O O) O (q.as O) O<|D.q (i:=6) O (by kernel_rfl) (aK fI cZ O O O) O (q.as O) O<|D.done (by kernel_rfl)<|R.mp (B':=[ag.row 72 v2 ((r.Notes.take k)++(r.Notes.drop (k+1))),ag.row 85 z5 (cw r.Held (⟨p.aj,dA r.Held p.aj⟩:Place) x1.ak),ag.box b6 (bg x1) 72,ag.row 62 z2 r.Things,ag.row 72 z4 r.Notes,ag.box b5 (ay ((aM r p 2 1).1)) 88,ag.box b4 (bg x1) 72,ag.box b3 [z1,z2,z5,v2,iV r.ae,iV r.af] 32,ag.box b2 (av p) 39,ag.box b1 [z1,z2,z5,v2,iV r.ae,iV r.af] 32,ag.held w own]) (fun _ hw=>hw.bH 3 _ O O) ?_
        refine R.mp (B':=[ag.row 72 v2 ((r.Notes.take k)++(r.Notes.drop (k+1))),ag.row 85 z5 (cw r.Held (⟨p.aj,dA r.Held p.aj⟩:Place) x1.ak),ag.box b6 (bg x1) 72,ag.row 72 z4 r.Notes,ag.box b5 (ay ((aM r p 2 1).1)) 88,ag.box b4 (bg x1) 72,ag.box b3 [z1,z2,z5,v2,iV r.ae,iV r.af] 32,ag.box b2 (av p) 39,ag.box b1 [z1,z2,z5,v2,iV r.ae,iV r.af] 32,ag.held w own]) (fun _ hw=>hw.bH 3 _ O O) ?_
        refine R.mp (B':=[ag.row 72 v2 ((r.Notes.take k)++(r.Notes.drop (k+1))),ag.box b6 (bg x1) 72,ag.row 72 z4 r.Notes,ag.box b5 (ay ((aM r p 2 1).1)) 88,ag.box b4 (bg x1) 72,ag.box b3 [z1,z2,z5,v2,iV r.ae,iV r.af] 32,ag.box b2 (av p) 39,ag.box b1 [z1,z2,z5,v2,iV r.ae,iV r.af] 32,ag.held w own]) (fun _ hw=>hw.bH 1 _ O O) ?_
        refine R.mp (B':=[ag.box b6 (bg x1) 72,ag.row 72 z4 r.Notes,ag.box b5 (ay ((aM r p 2 1).1)) 88,ag.box b4 (bg x1) 72,ag.box b3 [z1,z2,z5,v2,iV r.ae,iV r.af] 32,ag.box b2 (av p) 39,ag.box b1 [z1,z2,z5,v2,iV r.ae,iV r.af] 32,ag.held w own]) (fun _ hw=>hw.bH 0 _ O O) ?_
        have hz:bC r p=((⟨r.ai,r.Things,cw r.Held (⟨p.aj,dA r.Held p.aj⟩:Place) x1.ak,((r.Notes.take k)++(r.Notes.drop (k+1))),r.ae,r.af⟩:ar),x1,dA r.Held p.aj,0):=by (unfold bC;rw [if_pos mq,hix,Int.toNat_natCast,hx1,decide_eq_true (by omega)];dsimp only;rw [if_pos (by omega),if_neg (by omega)];rfl)
        rw [hz]
        exact R.w4 (z1,z2,z5,v2) [7] dj O Tryz.results45 (RV.cell 4 O O ap) (RV.cell 3 O O bO) (RV.tmp O) (RV.tmp O) O O O (oq O O O O)
       ·
        refine Do.s (s.c (Qt.a (q.ld 9 O O bN O)) O) (fun _=>(aK iY cZ O O O)) O fun _=>D.q (i:=9) O (by kernel_rfl) (aK iY cZ O O O) O (q.eh (i:=(k+1)) (cJ 4 O) O O du O (by omega)) O<|D.one (i:=4) (by kernel_rfl) O ?_
        refine Do.s (s.app0 (l2:=(r.Notes.take k)) O O (fun w hw=>Sl.to (hw.row 4 O) (by omega)) dL (by (simp;omega)) (by (simp;omega)) O) (fun _=>(aK iz cZ O O O)) O fun v3=>D.one (i:=10) (by kernel_rfl) O ?_
        refine Do.s (s.app (l2:=(r.Notes.drop (k+1))) 0 _ O O O (fun w hw=>Sl.from (hw.row 5 O) (by omega)) dL (by (simp;omega)) (by (simp;omega)) (fun _=>rfl) O) (fun _=>(aK iz cZ O O O)) O fun v4=>D.q (i:=11) O (by kernel_rfl) (aK iz cZ O O O) O (q.aT (off':=3) O br O) O<|D.one (i:=12) (by kernel_rfl) O ?_
        refine Do.s (s.dy (us:=[v4]) (cs':=[z1,z2,z5,v4,iV r.ae,iV r.af]) 10 _ O O O (fun w hw=>Sl.cm (hw.row 0 O)) (.inr ⟨bN,rfl⟩) (fun w hw=>(ah (Sl.one (hw.row 0 O)) aL)) O O O) (fun _=>(aK iz cZ O O O)) O fun _=>D.done (by kernel_rfl)<|R.e8 (fuel:=7) (Wd w (blks []++own) [ag.row 72 v4 ((r.Notes.take k)++(r.Notes.drop (k+1))),ag.row 85 z5 (cw r.Held (⟨p.aj,dA r.Held p.aj⟩:Place) x1.ak),ag.box b6 (bg x1) 72,ag.row 88 z1 r.ai,ag.row 62 z2 r.Things,ag.row 72 z4 r.Notes,ag.box b5 (ay ((aM r p 2 1).1)) 88,ag.box b2 (av p) 39,ag.box b1 [z1,z2,z5,v4,iV r.ae,iV r.af] 32,ag.held w own] [ag.ls z3 r.Held,ag.ls aD r.ai,ag.ls az r.Things,ag.ls aB r.Held,ag.ls aC r.Notes]) O mixed O ?_
        refine D.q (i:=0) O (by kernel_rfl) (aK fI cZ O O O) O (q.cj 8 O O ap) O<|D.q (i:=1) O (by kernel_rfl) (aK fI cZ O O O) O (q.cj 2 O O bO) O<|D.q (i:=2) O (by kernel_rfl) (aK fI cZ O O O) O (q.mv O) O<|D.one (i:=3) (by kernel_rfl) O ?_
        refine Do.s (s.dy (us:=[z1,z2,z5,v4,iV r.ae,iV r.af]) (cs':=[z1,z2,z5,v4,iV r.ae,iV r.af]) 8 _ O O O (fun _ _=>rfl) (.inl ap) (fun w hw=>(ah (Sl.one (hw.row 3 O)) (ah (Sl.one (hw.row 4 O)) (ah (Sl.one (hw.row 1 O)) (ah (Sl.one (hw.row 0 O)) (ah O (ah O aL))))))) O O O) (fun _=>(aK fI cZ O O O)) O fun _=>D.one (i:=4) (by kernel_rfl) O ?_
        refine Do.s (s.st (us:=bg x1) (cs':=bg x1) 7 _ O O O O (.inl bO) O O O O) (fun _=>(aK fI cZ O O O)) O fun _=>D.q (i:=5) O (by kernel_rfl) (aK fI cZ O O O) O (q.as O) O<|D.q (i:=6) O (by kernel_rfl) (aK fI cZ O O O) O (q.as O) O<|D.done (by kernel_rfl)<|R.mp (B':=[ag.row 72 v4 ((r.Notes.take k)++(r.Notes.drop (k+1))),ag.row 85 z5 (cw r.Held (⟨p.aj,dA r.Held p.aj⟩:Place) x1.ak),ag.box b6 (bg x1) 72,ag.row 62 z2 r.Things,ag.row 72 z4 r.Notes,ag.box b5 (ay ((aM r p 2 1).1)) 88,ag.box b4 (bg x1) 72,ag.box b3 [z1,z2,z5,v4,iV r.ae,iV r.af] 32,ag.box b2 (av p) 39,ag.box b1 [z1,z2,z5,v4,iV r.ae,iV r.af] 32,ag.held w own]) (fun _ hw=>hw.bH 3 _ O O) ?_
        refine R.mp (B':=[ag.row 72 v4 ((r.Notes.take k)++(r.Notes.drop (k+1))),ag.row 85 z5 (cw r.Held (⟨p.aj,dA r.Held p.aj⟩:Place) x1.ak),ag.box b6 (bg x1) 72,ag.row 72 z4 r.Notes,ag.box b5 (ay ((aM r p 2 1).1)) 88,ag.box b4 (bg x1) 72,ag.box b3 [z1,z2,z5,v4,iV r.ae,iV r.af] 32,ag.box b2 (av p) 39,ag.box b1 [z1,z2,z5,v4,iV r.ae,iV r.af] 32,ag.held w own]) (fun _ hw=>hw.bH 3 _ O O) ?_
        refine R.mp (B':=[ag.row 72 v4 ((r.Notes.take k)++(r.Notes.drop (k+1))),ag.box b6 (bg x1) 72,ag.row 72 z4 r.Notes,ag.box b5 (ay ((aM r p 2 1).1)) 88,ag.box b4 (bg x1) 72,ag.box b3 [z1,z2,z5,v4,iV r.ae,iV r.af] 32,ag.box b2 (av p) 39,ag.box b1 [z1,z2,z5,v4,iV r.ae,iV r.af] 32,ag.held w own]) (fun _ hw=>hw.bH 1 _ O O) ?_
        refine R.mp (B':=[ag.box b6 (bg x1) 72,ag.row 72 z4 r.Notes,ag.box b5 (ay ((aM r p 2 1).1)) 88,ag.box b4 (bg x1) 72,ag.box b3 [z1,z2,z5,v4,iV r.ae,iV r.af] 32,ag.box b2 (av p) 39,ag.box b1 [z1,z2,z5,v4,iV r.ae,iV r.af] 32,ag.held w own]) (fun _ hw=>hw.bH 0 _ O O) ?_
        have hz:bC r p=((⟨r.ai,r.Things,cw r.Held (⟨p.aj,dA r.Held p.aj⟩:Place) x1.ak,((r.Notes.take k)++(r.Notes.drop (k+1))),r.ae,r.af⟩:ar),x1,dA r.Held p.aj,0):=by (unfold bC;rw [if_pos mq,hix,Int.toNat_natCast,hx1,decide_eq_true (by omega)];dsimp only;rw [if_pos (by omega),if_neg (by omega)];rfl)
        rw [hz]
        exact R.w4 (z1,z2,z5,v4) [7] dj O Tryz.results45 (RV.cell 4 O O ap) (RV.cell 3 O O bO) (RV.tmp O) (RV.tmp O) O O O (oq O O O O)
      ·
       refine Do.s (s.c (Qt.a (q.ld 9 O O bN O)) O) (fun _=>(aK iY cZ O O O)) O fun _=>D.q (i:=9) O (by kernel_rfl) (aK iY cZ O O O) O (q.eh (i:=(k+1)) (cJ 4 O) O O du O (by omega)) O<|D.one (i:=1) (by kernel_rfl) O ?_
       refine Do.s (s.c (Qt.a (q.ld 9 O O bN O)) O) (fun _=>(aK iY cZ O O O)) O fun _=>D.q (i:=3) O (by kernel_rfl) (aK iY cZ O O O) O (q.jj (i:=k) (cJ 4 O) O O Tryz.underlying30 mP O (by omega)) O<|D.one (i:=4) (by kernel_rfl) O ?_
       refine Do.s (s.app0 (l2:=(r.Notes.take k)) O O (fun w hw=>Sl.to (hw.row 4 O) (by omega)) dL (by (simp;omega)) (by (simp;omega)) O) (fun _=>(aK iz cZ O O O)) O fun v5=>D.one (i:=10) (by kernel_rfl) O ?_
       refine Do.s (s.app (l2:=(r.Notes.drop (k+1))) 0 _ O O O (fun w hw=>Sl.from (hw.row 5 O) (by omega)) dL (by (simp;omega)) (by (simp;omega)) (fun _=>rfl) O) (fun _=>(aK iz cZ O O O)) O fun v6=>D.q (i:=11) O (by kernel_rfl) (aK iz cZ O O O) O (q.aT (off':=3) O br O) O<|D.one (i:=12) (by kernel_rfl) O ?_
       refine Do.s (s.dy (us:=[v6]) (cs':=[z1,z2,z5,v6,iV r.ae,iV r.af]) 10 _ O O O (fun w hw=>Sl.cm (hw.row 0 O)) (.inr ⟨bN,rfl⟩) (fun w hw=>(ah (Sl.one (hw.row 0 O)) aL)) O O O) (fun _=>(aK iz cZ O O O)) O fun _=>D.done (by kernel_rfl)<|R.e8 (fuel:=7) (Wd w (blks []++own) [ag.row 72 v6 ((r.Notes.take k)++(r.Notes.drop (k+1))),ag.row 85 z5 (cw r.Held (⟨p.aj,dA r.Held p.aj⟩:Place) x1.ak),ag.box b6 (bg x1) 72,ag.row 88 z1 r.ai,ag.row 62 z2 r.Things,ag.row 72 z4 r.Notes,ag.box b5 (ay ((aM r p 2 1).1)) 88,ag.box b2 (av p) 39,ag.box b1 [z1,z2,z5,v6,iV r.ae,iV r.af] 32,ag.held w own] [ag.ls z3 r.Held,ag.ls aD r.ai,ag.ls az r.Things,ag.ls aB r.Held,ag.ls aC r.Notes]) O mixed O ?_
       refine D.q (i:=0) O (by kernel_rfl) (aK fI cZ O O O) O (q.cj 8 O O ap) O<|D.q (i:=1) O (by kernel_rfl) (aK fI cZ O O O) O (q.cj 2 O O bO) O<|D.q (i:=2) O (by kernel_rfl) (aK fI cZ O O O) O (q.mv O) O<|D.one (i:=3) (by kernel_rfl) O ?_
       refine Do.s (s.dy (us:=[z1,z2,z5,v6,iV r.ae,iV r.af]) (cs':=[z1,z2,z5,v6,iV r.ae,iV r.af]) 8 _ O O O (fun _ _=>rfl) (.inl ap) (fun w hw=>(ah (Sl.one (hw.row 3 O)) (ah (Sl.one (hw.row 4 O)) (ah (Sl.one (hw.row 1 O)) (ah (Sl.one (hw.row 0 O)) (ah O (ah O aL))))))) O O O) (fun _=>(aK fI cZ O O O)) O fun _=>D.one (i:=4) (by kernel_rfl) O ?_
       refine Do.s (s.st (us:=bg x1) (cs':=bg x1) 7 _ O O O O (.inl bO) O O O O) (fun _=>(aK fI cZ O O O)) O fun _=>D.q (i:=5) O (by kernel_rfl) (aK fI cZ O O O) O (q.as O) O<|D.q (i:=6) O (by kernel_rfl) (aK fI cZ O O O) O (q.as O) O<|D.done (by kernel_rfl)<|R.mp (B':=[ag.row 72 v6 ((r.Notes.take k)++(r.Notes.drop (k+1))),ag.row 85 z5 (cw r.Held (⟨p.aj,dA r.Held p.aj⟩:Place) x1.ak),ag.box b6 (bg x1) 72,ag.row 62 z2 r.Things,ag.row 72 z4 r.Notes,ag.box b5 (ay ((aM r p 2 1).1)) 88,ag.box b4 (bg x1) 72,ag.box b3 [z1,z2,z5,v6,iV r.ae,iV r.af] 32,ag.box b2 (av p) 39,ag.box b1 [z1,z2,z5,v6,iV r.ae,iV r.af] 32,ag.held w own]) (fun _ hw=>hw.bH 3 _ O O) ?_
       refine R.mp (B':=[ag.row 72 v6 ((r.Notes.take k)++(r.Notes.drop (k+1))),ag.row 85 z5 (cw r.Held (⟨p.aj,dA r.Held p.aj⟩:Place) x1.ak),ag.box b6 (bg x1) 72,ag.row 72 z4 r.Notes,ag.box b5 (ay ((aM r p 2 1).1)) 88,ag.box b4 (bg x1) 72,ag.box b3 [z1,z2,z5,v6,iV r.ae,iV r.af] 32,ag.box b2 (av p) 39,ag.box b1 [z1,z2,z5,v6,iV r.ae,iV r.af] 32,ag.held w own]) (fun _ hw=>hw.bH 3 _ O O) ?_
       refine R.mp (B':=[ag.row 72 v6 ((r.Notes.take k)++(r.Notes.drop (k+1))),ag.box b6 (bg x1) 72,ag.row 72 z4 r.Notes,ag.box b5 (ay ((aM r p 2 1).1)) 88,ag.box b4 (bg x1) 72,ag.box b3 [z1,z2,z5,v6,iV r.ae,iV r.af] 32,ag.box b2 (av p) 39,ag.box b1 [z1,z2,z5,v6,iV r.ae,iV r.af] 32,ag.held w own]) (fun _ hw=>hw.bH 1 _ O O) ?_
       refine R.mp (B':=[ag.box b6 (bg x1) 72,ag.row 72 z4 r.Notes,ag.box b5 (ay ((aM r p 2 1).1)) 88,ag.box b4 (bg x1) 72,ag.box b3 [z1,z2,z5,v6,iV r.ae,iV r.af] 32,ag.box b2 (av p) 39,ag.box b1 [z1,z2,z5,v6,iV r.ae,iV r.af] 32,ag.held w own]) (fun _ hw=>hw.bH 0 _ O O) ?_
       have hz:bC r p=((⟨r.ai,r.Things,cw r.Held (⟨p.aj,dA r.Held p.aj⟩:Place) x1.ak,((r.Notes.take k)++(r.Notes.drop (k+1))),r.ae,r.af⟩:ar),x1,dA r.Held p.aj,0):=by (unfold bC;rw [if_pos mq,hix,Int.toNat_natCast,hx1,decide_eq_true (by omega)];dsimp only;rw [if_pos (by omega),if_neg (by omega)];rfl)
       rw [hz]
       exact R.w4 (z1,z2,z5,v6) [7] dj O Tryz.results45 (RV.cell 4 O O ap) (RV.cell 3 O O bO) (RV.tmp O) (RV.tmp O) O O O (oq O O O O)
    ·
     refine R.q (q.gtr O O (decide_eq_false (by omega))) O<|R.nil ?_
     refine R.aF O O ?_
     refine R.e8 (fuel:=13) (Wd w (blks []++own) [ag.box b6 (bg x1) 72,ag.row 88 z1 r.ai,ag.row 62 z2 r.Things,ag.row 85 z3 r.Held,ag.row 72 z4 r.Notes,ag.box b5 (ay ((aM r p 2 1).1)) 88,ag.box b4 [iV 0,.string (⟨#[]⟩),iV 0,iV 0] 72,ag.box b3 aG 32,ag.box b2 (av p) 39,ag.held w own] [ag.ls aD r.ai,ag.ls az r.Things,ag.ls aB r.Held,ag.ls aC r.Notes]) O mixed O ?_
     refine D.q (i:=0) O (by kernel_rfl) (aK iY bm O O O) O (q.aT (off':=3) O br O) O<|D.q (i:=2) O (by kernel_rfl) (aK iY bm O O O) O (q.mv O) O<|D.q (i:=5) O (by kernel_rfl) (aK iY bm O O O) O (q.aT (off':=3) O br O) O<|D.q (i:=7) O (by kernel_rfl) (aK iY bm O O O) O (q.mv O) O<|D.q (i:=8) O (by kernel_rfl) (aK iY bm O O O) O (q.add (r:=((k+1:Nat):Int)) O O (wr (by omega))) O<|D.two (i:=1) (j:=6) (by kernel_rfl) O O ?_ ?_
     ·
      refine Do.s (s.c (Qt.a (q.ld 9 O O bN O)) O) (fun _=>(aK iY bm O O O)) O fun _=>D.q (i:=3) O (by kernel_rfl) (aK iY bm O O O) O (q.jj (i:=k) (cJ 4 O) O O Tryz.underlying30 mP O (by omega)) O<|D.two (i:=4) (j:=6) (by kernel_rfl) O O ?_ ?_
      ·
       refine Do.s (s.app0 (l2:=(r.Notes.take k)) O O (fun w hw=>Sl.to (hw.row 4 O) (by omega)) dL (by (simp;omega)) (by (simp;omega)) O) (fun _=>(aK iz bm O O O)) O fun v7=>D.one (i:=6) (by kernel_rfl) O ?_
       refine Do.s (s.c (Qt.a (q.ld 10 O O bN O)) O) (fun _=>(aK iz bm O O O)) O fun _=>D.q (i:=9) O (by kernel_rfl) (aK iz bm O O O) O (q.eh (i:=(k+1)) (cJ 4 O) O O du O (by omega)) O<|D.one (i:=10) (by kernel_rfl) O ?_
       refine Do.s (s.app (l2:=(r.Notes.drop (k+1))) 0 _ O O O (fun w hw=>Sl.from (hw.row 5 O) (by omega)) dL (by (simp;omega)) (by (simp;omega)) (fun _=>rfl) O) (fun _=>(aK iz bm O O O)) O fun v8=>D.q (i:=11) O (by kernel_rfl) (aK iz bm O O O) O (q.aT (off':=3) O br O) O<|D.one (i:=12) (by kernel_rfl) O ?_
       refine Do.s (s.dy (us:=[v8]) (cs':=[z1,z2,z3,v8,iV r.ae,iV r.af]) 10 _ O O O (fun w hw=>Sl.cm (hw.row 0 O)) (.inr ⟨bN,rfl⟩) (fun w hw=>(ah (Sl.one (hw.row 0 O)) aL)) O O O) (fun _=>(aK iz bm O O O)) O fun _=>D.done (by kernel_rfl)<|R.e8 (fuel:=7) (Wd w (blks []++own) [ag.row 72 v8 ((r.Notes.take k)++(r.Notes.drop (k+1))),ag.box b6 (bg x1) 72,ag.row 88 z1 r.ai,ag.row 62 z2 r.Things,ag.row 85 z3 r.Held,ag.row 72 z4 r.Notes,ag.box b5 (ay ((aM r p 2 1).1)) 88,ag.box b2 (av p) 39,ag.box b1 [z1,z2,z3,v8,iV r.ae,iV r.af] 32,ag.held w own] [ag.ls aD r.ai,ag.ls az r.Things,ag.ls aB r.Held,ag.ls aC r.Notes]) O mixed O ?_
       refine D.q (i:=0) O (by kernel_rfl) (aK fI bm O O O) O (q.cj 8 O O ap) O<|D.q (i:=1) O (by kernel_rfl) (aK fI bm O O O) O (q.cj 1 O O bO) O<|D.q (i:=2) O (by kernel_rfl) (aK fI bm O O O) O (q.mv O) O<|D.one (i:=3) (by kernel_rfl) O ?_
       refine Do.s (s.dy (us:=[z1,z2,z3,v8,iV r.ae,iV r.af]) (cs':=[z1,z2,z3,v8,iV r.ae,iV r.af]) 8 _ O O O (fun _ _=>rfl) (.inl ap) (fun w hw=>(ah (Sl.one (hw.row 2 O)) (ah (Sl.one (hw.row 3 O)) (ah (Sl.one (hw.row 4 O)) (ah (Sl.one (hw.row 0 O)) (ah O (ah O aL))))))) O O O) (fun _=>(aK fI bm O O O)) O fun _=>D.one (i:=4) (by kernel_rfl) O ?_
       refine Do.s (s.st (us:=bg x1) (cs':=bg x1) 7 _ O O O O (.inl bO) O O O O) (fun _=>(aK fI bm O O O)) O fun _=>D.q (i:=5) O (by kernel_rfl) (aK fI bm O O O) O (q.as O) O<|D.q (i:=6) O (by kernel_rfl) (aK fI bm O O O) O (q.as O) O<|D.done (by kernel_rfl)<|R.mp (B':=[ag.row 72 v8 ((r.Notes.take k)++(r.Notes.drop (k+1))),ag.box b6 (bg x1) 72,ag.row 62 z2 r.Things,ag.row 85 z3 r.Held,ag.row 72 z4 r.Notes,ag.box b5 (ay ((aM r p 2 1).1)) 88,ag.box b4 (bg x1) 72,ag.box b3 [z1,z2,z3,v8,iV r.ae,iV r.af] 32,ag.box b2 (av p) 39,ag.box b1 [z1,z2,z3,v8,iV r.ae,iV r.af] 32,ag.held w own]) (fun _ hw=>hw.bH 2 _ O O) ?_
       refine R.mp (B':=[ag.row 72 v8 ((r.Notes.take k)++(r.Notes.drop (k+1))),ag.box b6 (bg x1) 72,ag.row 85 z3 r.Held,ag.row 72 z4 r.Notes,ag.box b5 (ay ((aM r p 2 1).1)) 88,ag.box b4 (bg x1) 72,ag.box b3 [z1,z2,z3,v8,iV r.ae,iV r.af] 32,ag.box b2 (av p) 39,ag.box b1 [z1,z2,z3,v8,iV r.ae,iV r.af] 32,ag.held w own]) (fun _ hw=>hw.bH 2 _ O O) ?_
       refine R.mp (B':=[ag.row 72 v8 ((r.Notes.take k)++(r.Notes.drop (k+1))),ag.box b6 (bg x1) 72,ag.row 72 z4 r.Notes,ag.box b5 (ay ((aM r p 2 1).1)) 88,ag.box b4 (bg x1) 72,ag.box b3 [z1,z2,z3,v8,iV r.ae,iV r.af] 32,ag.box b2 (av p) 39,ag.box b1 [z1,z2,z3,v8,iV r.ae,iV r.af] 32,ag.held w own]) (fun _ hw=>hw.bH 2 _ O O) ?_
       refine R.mp (B':=[ag.box b6 (bg x1) 72,ag.row 72 z4 r.Notes,ag.box b5 (ay ((aM r p 2 1).1)) 88,ag.box b4 (bg x1) 72,ag.box b3 [z1,z2,z3,v8,iV r.ae,iV r.af] 32,ag.box b2 (av p) 39,ag.box b1 [z1,z2,z3,v8,iV r.ae,iV r.af] 32,ag.held w own]) (fun _ hw=>hw.bH 0 _ O O) ?_
       have hz:bC r p=((⟨r.ai,r.Things,r.Held,((r.Notes.take k)++(r.Notes.drop (k+1))),r.ae,r.af⟩:ar),x1,-1,0):=by (unfold bC;rw [if_pos mq,hix,Int.toNat_natCast,hx1,decide_eq_true (by omega)];dsimp only;rw [if_neg (by omega)];rfl)
       rw [hz]
       exact R.w4 (z1,z2,z3,v8) [7] dj O Tryz.results45 (RV.cell 4 O O ap) (RV.cell 3 O O bO) (RV.tmp O) (RV.tmp O) O O O (oq O O O O)
      ·
       refine Do.s (s.c (Qt.a (q.ld 9 O O bN O)) O) (fun _=>(aK iY bm O O O)) O fun _=>D.q (i:=9) O (by kernel_rfl) (aK iY bm O O O) O (q.eh (i:=(k+1)) (cJ 4 O) O O du O (by omega)) O<|D.one (i:=4) (by kernel_rfl) O ?_
       refine Do.s (s.app0 (l2:=(r.Notes.take k)) O O (fun w hw=>Sl.to (hw.row 4 O) (by omega)) dL (by (simp;omega)) (by (simp;omega)) O) (fun _=>(aK iz bm O O O)) O fun v9=>D.one (i:=10) (by kernel_rfl) O ?_
       refine Do.s (s.app (l2:=(r.Notes.drop (k+1))) 0 _ O O O (fun w hw=>Sl.from (hw.row 5 O) (by omega)) dL (by (simp;omega)) (by (simp;omega)) (fun _=>rfl) O) (fun _=>(aK iz bm O O O)) O fun v10=>D.q (i:=11) O (by kernel_rfl) (aK iz bm O O O) O (q.aT (off':=3) O br O) O<|D.one (i:=12) (by kernel_rfl) O ?_
       refine Do.s (s.dy (us:=[v10]) (cs':=[z1,z2,z3,v10,iV r.ae,iV r.af]) 10 _ O O O (fun w hw=>Sl.cm (hw.row 0 O)) (.inr ⟨bN,rfl⟩) (fun w hw=>(ah (Sl.one (hw.row 0 O)) aL)) O O O) (fun _=>(aK iz bm O O O)) O fun _=>D.done (by kernel_rfl)<|R.e8 (fuel:=7) (Wd w (blks []++own) [ag.row 72 v10 ((r.Notes.take k)++(r.Notes.drop (k+1))),ag.box b6 (bg x1) 72,ag.row 88 z1 r.ai,ag.row 62 z2 r.Things,ag.row 85 z3 r.Held,ag.row 72 z4 r.Notes,ag.box b5 (ay ((aM r p 2 1).1)) 88,ag.box b2 (av p) 39,ag.box b1 [z1,z2,z3,v10,iV r.ae,iV r.af] 32,ag.held w own] [ag.ls aD r.ai,ag.ls az r.Things,ag.ls aB r.Held,ag.ls aC r.Notes]) O mixed O ?_
       refine D.q (i:=0) O (by kernel_rfl) (aK fI bm O O O) O (q.cj 8 O O ap) O<|D.q (i:=1) O (by kernel_rfl) (aK fI bm O O O) O (q.cj 1 O O bO) O<|D.q (i:=2) O (by kernel_rfl) (aK fI bm O O O) O (q.mv O) O<|D.one (i:=3) (by kernel_rfl) O ?_
       refine Do.s (s.dy (us:=[z1,z2,z3,v10,iV r.ae,iV r.af]) (cs':=[z1,z2,z3,v10,iV r.ae,iV r.af]) 8 _ O O O (fun _ _=>rfl) (.inl ap) (fun w hw=>(ah (Sl.one (hw.row 2 O)) (ah (Sl.one (hw.row 3 O)) (ah (Sl.one (hw.row 4 O)) (ah (Sl.one (hw.row 0 O)) (ah O (ah O aL))))))) O O O) (fun _=>(aK fI bm O O O)) O fun _=>D.one (i:=4) (by kernel_rfl) O ?_
       refine Do.s (s.st (us:=bg x1) (cs':=bg x1) 7 _ O O O O (.inl bO) O O O O) (fun _=>(aK fI bm O O O)) O fun _=>D.q (i:=5) O (by kernel_rfl) (aK fI bm O O O) O (q.as O) O<|D.q (i:=6) O (by kernel_rfl) (aK fI bm O O O) O (q.as O) O<|D.done (by kernel_rfl)<|R.mp (B':=[ag.row 72 v10 ((r.Notes.take k)++(r.Notes.drop (k+1))),ag.box b6 (bg x1) 72,ag.row 62 z2 r.Things,ag.row 85 z3 r.Held,ag.row 72 z4 r.Notes,ag.box b5 (ay ((aM r p 2 1).1)) 88,ag.box b4 (bg x1) 72,ag.box b3 [z1,z2,z3,v10,iV r.ae,iV r.af] 32,ag.box b2 (av p) 39,ag.box b1 [z1,z2,z3,v10,iV r.ae,iV r.af] 32,ag.held w own]) (fun _ hw=>hw.bH 2 _ O O) ?_
       refine R.mp (B':=[ag.row 72 v10 ((r.Notes.take k)++(r.Notes.drop (k+1))),ag.box b6 (bg x1) 72,ag.row 85 z3 r.Held,ag.row 72 z4 r.Notes,ag.box b5 (ay ((aM r p 2 1).1)) 88,ag.box b4 (bg x1) 72,ag.box b3 [z1,z2,z3,v10,iV r.ae,iV r.af] 32,ag.box b2 (av p) 39,ag.box b1 [z1,z2,z3,v10,iV r.ae,iV r.af] 32,ag.held w own]) (fun _ hw=>hw.bH 2 _ O O) ?_
       refine R.mp (B':=[ag.row 72 v10 ((r.Notes.take k)++(r.Notes.drop (k+1))),ag.box b6 (bg x1) 72,ag.row 72 z4 r.Notes,ag.box b5 (ay ((aM r p 2 1).1)) 88,ag.box b4 (bg x1) 72,ag.box b3 [z1,z2,z3,v10,iV r.ae,iV r.af] 32,ag.box b2 (av p) 39,ag.box b1 [z1,z2,z3,v10,iV r.ae,iV r.af] 32,ag.held w own]) (fun _ hw=>hw.bH 2 _ O O) ?_
       refine R.mp (B':=[ag.box b6 (bg x1) 72,ag.row 72 z4 r.Notes,ag.box b5 (ay ((aM r p 2 1).1)) 88,ag.box b4 (bg x1) 72,ag.box b3 [z1,z2,z3,v10,iV r.ae,iV r.af] 32,ag.box b2 (av p) 39,ag.box b1 [z1,z2,z3,v10,iV r.ae,iV r.af] 32,ag.held w own]) (fun _ hw=>hw.bH 0 _ O O) ?_
       have hz:bC r p=((⟨r.ai,r.Things,r.Held,((r.Notes.take k)++(r.Notes.drop (k+1))),r.ae,r.af⟩:ar),x1,-1,0):=by (unfold bC;rw [if_pos mq,hix,Int.toNat_natCast,hx1,decide_eq_true (by omega)];dsimp only;rw [if_neg (by omega)];rfl)
       rw [hz]
       exact R.w4 (z1,z2,z3,v10) [7] dj O Tryz.results45 (RV.cell 4 O O ap) (RV.cell 3 O O bO) (RV.tmp O) (RV.tmp O) O O O (oq O O O O)
     ·
      refine Do.s (s.c (Qt.a (q.ld 9 O O bN O)) O) (fun _=>(aK iY bm O O O)) O fun _=>D.q (i:=9) O (by kernel_rfl) (aK iY bm O O O) O (q.eh (i:=(k+1)) (cJ 4 O) O O du O (by omega)) O<|D.one (i:=1) (by kernel_rfl) O ?_
      refine Do.s (s.c (Qt.a (q.ld 9 O O bN O)) O) (fun _=>(aK iY bm O O O)) O fun _=>D.q (i:=3) O (by kernel_rfl) (aK iY bm O O O) O (q.jj (i:=k) (cJ 4 O) O O Tryz.underlying30 mP O (by omega)) O<|D.one (i:=4) (by kernel_rfl) O ?_
      refine Do.s (s.app0 (l2:=(r.Notes.take k)) O O (fun w hw=>Sl.to (hw.row 4 O) (by omega)) dL (by (simp;omega)) (by (simp;omega)) O) (fun _=>(aK iz bm O O O)) O fun v11=>D.one (i:=10) (by kernel_rfl) O ?_
      refine Do.s (s.app (l2:=(r.Notes.drop (k+1))) 0 _ O O O (fun w hw=>Sl.from (hw.row 5 O) (by omega)) dL (by (simp;omega)) (by (simp;omega)) (fun _=>rfl) O) (fun _=>(aK iz bm O O O)) O fun v12=>D.q (i:=11) O (by kernel_rfl) (aK iz bm O O O) O (q.aT (off':=3) O br O) O<|D.one (i:=12) (by kernel_rfl) O ?_
      refine Do.s (s.dy (us:=[v12]) (cs':=[z1,z2,z3,v12,iV r.ae,iV r.af]) 10 _ O O O (fun w hw=>Sl.cm (hw.row 0 O)) (.inr ⟨bN,rfl⟩) (fun w hw=>(ah (Sl.one (hw.row 0 O)) aL)) O O O) (fun _=>(aK iz bm O O O)) O fun _=>D.done (by kernel_rfl)<|R.e8 (fuel:=7) (Wd w (blks []++own) [ag.row 72 v12 ((r.Notes.take k)++(r.Notes.drop (k+1))),ag.box b6 (bg x1) 72,ag.row 88 z1 r.ai,ag.row 62 z2 r.Things,ag.row 85 z3 r.Held,ag.row 72 z4 r.Notes,ag.box b5 (ay ((aM r p 2 1).1)) 88,ag.box b2 (av p) 39,ag.box b1 [z1,z2,z3,v12,iV r.ae,iV r.af] 32,ag.held w own] [ag.ls aD r.ai,ag.ls az r.Things,ag.ls aB r.Held,ag.ls aC r.Notes]) O mixed O ?_
      refine D.q (i:=0) O (by kernel_rfl) (aK fI bm O O O) O (q.cj 8 O O ap) O<|D.q (i:=1) O (by kernel_rfl) (aK fI bm O O O) O (q.cj 1 O O bO) O<|D.q (i:=2) O (by kernel_rfl) (aK fI bm O O O) O (q.mv O) O<|D.one (i:=3) (by kernel_rfl) O ?_
      refine Do.s (s.dy (us:=[z1,z2,z3,v12,iV r.ae,iV r.af]) (cs':=[z1,z2,z3,v12,iV r.ae,iV r.af]) 8 _ O O O (fun _ _=>rfl) (.inl ap) (fun w hw=>(ah (Sl.one (hw.row 2 O)) (ah (Sl.one (hw.row 3 O)) (ah (Sl.one (hw.row 4 O)) (ah (Sl.one (hw.row 0 O)) (ah O (ah O aL))))))) O O O) (fun _=>(aK fI bm O O O)) O fun _=>D.one (i:=4) (by kernel_rfl) O ?_
      refine Do.s (s.st (us:=bg x1) (cs':=bg x1) 7 _ O O O O (.inl bO) O O O O) (fun _=>(aK fI bm O O O)) O fun _=>D.q (i:=5) O (by kernel_rfl) (aK fI bm O O O) O (q.as O) O<|D.q (i:=6) O (by kernel_rfl) (aK fI bm O O O) O (q.as O) O<|D.done (by kernel_rfl)<|R.mp (B':=[ag.row 72 v12 ((r.Notes.take k)++(r.Notes.drop (k+1))),ag.box b6 (bg x1) 72,ag.row 62 z2 r.Things,ag.row 85 z3 r.Held,ag.row 72 z4 r.Notes,ag.box b5 (ay ((aM r p 2 1).1)) 88,ag.box b4 (bg x1) 72,ag.box b3 [z1,z2,z3,v12,iV r.ae,iV r.af] 32,ag.box b2 (av p) 39,ag.box b1 [z1,z2,z3,v12,iV r.ae,iV r.af] 32,ag.held w own]) (fun _ hw=>hw.bH 2 _ O O) ?_
      refine R.mp (B':=[ag.row 72 v12 ((r.Notes.take k)++(r.Notes.drop (k+1))),ag.box b6 (bg x1) 72,ag.row 85 z3 r.Held,ag.row 72 z4 r.Notes,ag.box b5 (ay ((aM r p 2 1).1)) 88,ag.box b4 (bg x1) 72,ag.box b3 [z1,z2,z3,v12,iV r.ae,iV r.af] 32,ag.box b2 (av p) 39,ag.box b1 [z1,z2,z3,v12,iV r.ae,iV r.af] 32,ag.held w own]) (fun _ hw=>hw.bH 2 _ O O) ?_
      refine R.mp (B':=[ag.row 72 v12 ((r.Notes.take k)++(r.Notes.drop (k+1))),ag.box b6 (bg x1) 72,ag.row 72 z4 r.Notes,ag.box b5 (ay ((aM r p 2 1).1)) 88,ag.box b4 (bg x1) 72,ag.box b3 [z1,z2,z3,v12,iV r.ae,iV r.af] 32,ag.box b2 (av p) 39,ag.box b1 [z1,z2,z3,v12,iV r.ae,iV r.af] 32,ag.held w own]) (fun _ hw=>hw.bH 2 _ O O) ?_
      refine R.mp (B':=[ag.box b6 (bg x1) 72,ag.row 72 z4 r.Notes,ag.box b5 (ay ((aM r p 2 1).1)) 88,ag.box b4 (bg x1) 72,ag.box b3 [z1,z2,z3,v12,iV r.ae,iV r.af] 32,ag.box b2 (av p) 39,ag.box b1 [z1,z2,z3,v12,iV r.ae,iV r.af] 32,ag.held w own]) (fun _ hw=>hw.bH 0 _ O O) ?_
      have hz:bC r p=((⟨r.ai,r.Things,r.Held,((r.Notes.take k)++(r.Notes.drop (k+1))),r.ae,r.af⟩:ar),x1,-1,0):=by (unfold bC;rw [if_pos mq,hix,Int.toNat_natCast,hx1,decide_eq_true (by omega)];dsimp only;rw [if_neg (by omega)];rfl)
      rw [hz]
      exact R.w4 (z1,z2,z3,v12) [7] dj O Tryz.results45 (RV.cell 4 O O ap) (RV.cell 3 O O bO) (RV.tmp O) (RV.tmp O) O O O (oq O O O O)
   ·
    refine R.q (q.neq O O (bne_iff_ne.2 (by omega))) O<|R.nil ?_
    refine R.aE O O ?_
    refine R.reg O<|R.u 1 O<|R.q (q.add (r:=((k+1:Nat):Int)) O O (wr (by omega))) O<|R.u 1 O<|R.nil ?_
    refine R.back (k+1) O (by (exact ⟨by omega,hG (p:=fun y:Note=>y.Port==(aM r p 2 1).1.ao) HA hx1 (beq_eq_false_iff_ne.2 (by omega))⟩)) (by omega) ⟨rfl,rfl,rfl,rfl,rfl,rfl,trivial⟩ (aK [1,2,3,4,5,6,7,8,9,10] bm O O O)
  ·
   refine R.q (q.lss O O (decide_eq_false (by omega))) O<|R.nil ?_
   refine R.aF O O ?_
   refine R.reg O<|R.q (q.build (cs:=aG) cz O O) O<|R.q (q.build (cs:=[iV 0,.string (⟨#[]⟩),iV 0,iV 0]) pN O O) O<|R.s O (s.st (us:=aG) (cs':=aG) 6 _ O O O O (.inl ap) O O O O) fun _=>R.s O (s.st (us:=[iV 0,.string (⟨#[]⟩),iV 0,iV 0]) (cs':=[iV 0,.string (⟨#[]⟩),iV 0,iV 0]) 5 _ O O O O (.inl bO) O O O O) fun _=>R.u 2 O<|R.nil ?_
   refine R.mp (fun _ hw=>hw.aR (α:=ak)) ?_
   refine R.mp (fun _ hw=>hw.aR (α:=ao)) ?_
   refine R.mp (fun _ hw=>hw.aR (α:=Held)) ?_
   refine R.mp (fun _ hw=>hw.aR (α:=Note)) ?_
   have hz:bC r p=((⟨[],[],[],[],0,0⟩:ar),(⟨0,⟨#[]⟩,0,0⟩:Note),0,5):=by (have hix:idxOf (fun n:Note=>n.Port==(aM r p 2 1).1.ao) r.Notes = -1:=idxOf_miss (by omega) HA;unfold bC;rw [if_pos mq,hix,show decide ((0:Int) ≤ -1)=false from rfl];cases r.Notes[(-1:Int).toNat]? <;> rfl)
   rw [hz]
   exact R.w4 ((nS),(nS),(nS),(nS)) [9] dj O Tryz.results45 (RV.cell 6 O O ap) (RV.cell 5 O O bO) (RV.tmp O) (RV.tmp O) O O O (oq O O O O)
end Go.Proofs.YtbkfhjaibhnkmaaGreatDoor
