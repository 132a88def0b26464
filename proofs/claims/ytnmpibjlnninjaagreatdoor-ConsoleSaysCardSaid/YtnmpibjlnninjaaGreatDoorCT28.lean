import Derived.Test.YtnmpibjlnninjaaGreatDoorCT27
namespace Go.Proofs.YtnmpibjlnninjaaGreatDoor
set_option linter.unusedVariables false
set_option linter.unusedSimpArgs false
set_option maxRecDepth 100000
set_option maxHeartbeats 90000000
section
open Go Go.RowKit
attribute [local irreducible] Run Rg Rq Qt Qa Stp Dg Do Dm bQ
attribute [local irreducible] bL cC bf jE eA dNew dU kb fB mM bY bu spl
theorem abm {b:Bool}(h:(!b)=true):¬ b=true:=by cases b <;> simp_all
theorem abn {b:Bool}(h:(!b)=false):b=true:=by cases b <;> simp_all
theorem JK {w:List ByteArray}{i:Nat}(h:i+1<w.length):nth ((w.drop 1).map bu) i=bu (wd w (i+1)):=by
 unfold nth wd
 rw [List.getElem?_map,List.getElem?_drop,Nat.add_comm 1 i,List.getElem?_eq_getElem h];rfl
theorem QH {w:List ByteArray}(h:3<=w.length):(⟨nth ((w.drop 1).map bu) 0,nth ((w.drop 1).map bu) 1⟩:Place)=JH w:=by
 rw [JK ae,JK ae];rfl
theorem Tt {w:List ByteArray}(h:3<=w.length):(⟨nth (((w.drop 1).take 2).map bu) 0,nth (((w.drop 1).take 2).map bu) 1⟩:Place)=JH w:=by
 rw [<- QH h,List.map_take]
 unfold nth
 rw [List.getElem?_take_of_lt ae,List.getElem?_take_of_lt ae]
theorem Lb {w:List ByteArray}{i:Nat}{x:Int}(hb:fP (w.drop 1)=true)(hx:((w.drop 1).map bu)[i]? = some x):x=bu (wd w (i+1))/\0<=x/\x<=999:=by
 rw [List.getElem?_map] at hx
 obtain ⟨y,hy,rfl⟩:=Option.map_eq_some_iff.1 hx
 have h1:0<=bu y:=by
  unfold fP at hb
  rw [List.all_eq_true] at hb
  simpa using hb y (List.mem_of_getElem? hy)
 rw [List.getElem?_drop,Nat.add_comm 1 i] at hy
 exact ⟨by rw [dR hy],h1,(JF h1).2⟩
theorem um {p:Prop}(h:p:=by unfold dL;(repeat first|rewrite [dR (by assumption)] | rewrite [if_pos (by assumption)] | rewrite [if_neg (by assumption)] | rewrite [if_pos (by omega)] | rewrite [if_neg (by omega)]);(try rewrite [<- Tt (by omega)]);rfl):p:=h
theorem Zone {p:Prop}(h:p:=by unfold wC;(repeat first|rewrite [dR (by assumption)] | rewrite [if_pos (by assumption)] | rewrite [if_neg (by assumption)] | rewrite [if_pos (by omega)] | rewrite [if_neg (by omega)]);(try (rewrite [<- (Lb (by assumption) (by assumption)).1]));(try rewrite [<- QH (by omega)]);(try rewrite [<- JK (by omega)]);rfl):p:=h
theorem tX {p:Prop}(h:p:=by unfold jo iu;(repeat first|rewrite [dR (by assumption)] | rewrite [if_pos (by assumption)] | rewrite [if_neg (by assumption)] | rewrite [if_pos (by omega)] | rewrite [if_neg (by omega)]);(try unfold Z4);(try first|rewrite [if_pos (abn (by assumption))] | rewrite [if_neg (abm (by assumption))]);rfl):p:=h
theorem tJ (gH:Nat)(se:Unit)(fQ:Value)(ws:List ByteArray)(b_k:Nat)(dw dx dy dA:Value)(k:fI)(bB:Nat)(aE:Value)(st:fu)(aF:Nat)(au av ao:Value)(dk:cq)(aZ:Nat)(lg:Lg)(w:World)(own:List Nat)(H:HN w own [ag.box gH [pV aF,pV b_k] 106,ag.box b_k [pV bB,dw,dx,dy,dA,iV k.R.ah,iV k.R.ai] 78,ag.box bB [pV aF,iV st.Epoch,iV st.Side,iV st.Size,iV st.First,pV aZ,aE] 132,ag.box aF [au,av,ao,iV dk.Fuse,.bool dk.Down] 120,ag.row 9 au dk.Kept,ag.row 9 av dk.Now,ag.row 196 ao dk.Wait,ag.box aZ [pV aF,iV lg.From,iV lg.Many,iV lg.First,iV lg.Next] 193] [ag.ls fQ ws,ag.ls dw k.R.aj,ag.ls dx k.R.Things,ag.ls dy k.R.Held,ag.ls dA k.R.Notes,ag.ls aE st.Rows,bJ])(hC:CJ k st dk lg)(hw:(ws.length<=200 /\ ∀x∈ws,x.size<=100)/\4<=ws.length):RS Tryz.prog 111 #[pV gH,fQ] H (gG k st dk lg (dL ws)) (fun s (_:Value×Value×Value×Value×Value×Value×Value×Value×Nat) => .tuple #[.string s.2.2.2.2.1,.bool s.2.2.2.2.2]) (fun s z=>[ag.box gH [pV aF,pV b_k] 106,ag.box b_k [pV bB,z.1,z.2.1,z.2.2.1,z.2.2.2.1,iV s.1.R.ah,iV s.1.R.ai] 78,ag.box bB [pV aF,iV s.2.1.Epoch,iV s.2.1.Side,iV s.2.1.Size,iV s.2.1.First,pV z.2.2.2.2.2.2.2.2,z.2.2.2.2.1] 132,ag.box aF [z.2.2.2.2.2.1,z.2.2.2.2.2.2.1,z.2.2.2.2.2.2.2.1,iV s.2.2.1.Fuse,.bool s.2.2.1.Down] 120,ag.row 9 z.2.2.2.2.2.1 s.2.2.1.Kept,ag.row 9 z.2.2.2.2.2.2.1 s.2.2.1.Now,ag.row 196 z.2.2.2.2.2.2.2.1 s.2.2.1.Wait,ag.box z.2.2.2.2.2.2.2.2 [pV aF,iV s.2.2.2.1.From,iV s.2.2.2.1.Many,iV s.2.2.2.1.First,iV s.2.2.2.1.Next] 193]) (fun s z=>[ag.ls z.1 s.1.R.aj,ag.ls z.2.1 s.1.R.Things,ag.ls z.2.2.1 s.1.R.Held,ag.ls z.2.2.2.1 s.1.R.Notes,ag.ls z.2.2.2.2.1 s.2.1.Rows]):=by
 have dD:=H.cap 4 rfl;have dE:=H.ck 4 rfl
 have ew:=H.cap 5 rfl;have ey:=H.ck 5 rfl
 have dF:=H.cap 6 rfl;have dG:=H.ck 6 rfl
 have MY:=H.aL 0 rfl
 have hG:=H.aL 1 rfl
 have gi:=H.aL 2 rfl
 have jd:=H.aL 3 rfl
 have hX:=H.aL 4 rfl
 have j1:=H.aL 5 rfl
 have hC0:=hC;obtain ⟨j,hj,hC⟩:=hC;have hE:=fun a=>hC.err ae a;obtain ⟨hf,⟨u,hV⟩,hS⟩:=hC;have hI:=hV.inv;have hk:=hS.ok ae;have g1:=hV.pre ae;obtain ⟨g2,g3,g4,g5⟩:=g1;have hz:=fun a=>DC hS a ae
 obtain ⟨⟨hw1,hw2⟩,hw3⟩:=hw;have hcw:=Sl.lH (Wd.cy 0 rfl H)
 refine R.eN H ?_
 refine R.q (q.sl2 (i:=1) (j:=3) (vu 0 O) O O O dN O O ae (by exact Nat.le_trans ae (Nat.le_refl _))) O<|C (fP ((ws.drop 1).take 2)=true) ?_ ?_ <;> intro h1
 .
  refine R.s O (s.pre (fun w hw=>hw.nQ 0 _ (ag.ls (sl2 fQ 1 3 1) ((ws.drop 1).take 2)) O sR (Sl.sl2 (α:=ByteArray) (l:=ws) (i:=1) (j:=3) (hw.cy 0 O) ae ae)) (s.aH bZ [0,7] _ _ _ O O O mV O O (fun w own hw H=>qe (sl2 fQ 1 3 1) ((ws.drop 1).take 2) w own H (by exact ⟨aG,fun x hx=>hw2 x (List.mem_of_mem_drop (List.mem_of_mem_take hx))⟩) af) O)) fun z1=>U ?_
  obtain ⟨x1,hx1⟩:=gE ws 3
  have Tq:=hw2 x1 (List.mem_of_getElem? hx1);have QI:=dR hx1
  refine U ?_
  refine C (x1=⟨#[]⟩) ?_ ?_ <;> intro h2
  .
   refine R.qg O (q.dZ O O h2) O<|U ?_
   rw [show gG k st dk lg (dL ws)=_ from um]
   exact R.x2 (dw,dx,dy,dA,aE,au,av,ao,aZ) iF [2,3,4,5,6]
  refine R.qg O (q.dQ O O h2) O<|U ?_
  refine R.cut 1 (fun g_:Nat×Nat=>[(0,pV gH),(1,fQ),(8,pV g_.1),(9,pV g_.2)]) (fun g_:Nat×Nat=>[ag.box g_.2 [.string (sP x1)] 9,ag.box g_.1 (iD (⟨nth (((ws.drop 1).take 2).map bu) 0,nth (((ws.drop 1).take 2).map bu) 1⟩:Place)) 32,ag.row 3 z1 (((ws.drop 1).take 2).map bu),ag.box gH [pV aF,pV b_k] 106,ag.box b_k [pV bB,dw,dx,dy,dA,iV k.R.ah,iV k.R.ai] 78,ag.box bB [pV aF,iV st.Epoch,iV st.Side,iV st.Size,iV st.First,pV aZ,aE] 132,ag.box aF [au,av,ao,iV dk.Fuse,.bool dk.Down] 120,ag.row 9 au dk.Kept,ag.row 9 av dk.Now,ag.row 196 ao dk.Wait,ag.box aZ [pV aF,iV lg.From,iV lg.Many,iV lg.First,iV lg.Next] 193,ag.held w own]) (fun g_:Nat×Nat=>[ag.ls (sl2 fQ 1 3 1) ((ws.drop 1).take 2),ag.ls fQ ws,ag.ls dw k.R.aj,ag.ls dx k.R.Things,ag.ls dy k.R.Held,ag.ls dA k.R.Notes,ag.ls aE st.Rows,bJ]) (fun g_:Nat×Nat=>True) O O O ?_ ?_
  .
   refine R.cO (fuel:=10) jH O O mixed O<|D.l [0,2,3,4] jH a8 O<|U ?_
   refine D.three (i:=1) (j:=6) (m:=7) O O O ?_ ?_ ?_
   .
    refine Do.p jH a8 (s.c (q.call sC O O (fun w hw=>je _ (((ws.drop 1).take 2).map bu) w (hw.row 0 O) aG)) O) fun _=>?_
    refine D.three (i:=5) (j:=6) (m:=7) O O O ?_ ?_ ?_
    .
     refine Do.p jH a8 (s.c (q.call oo O O (fun w hw=>iR x1 w)) O) fun _=>?_
     refine D.two (i:=6) (j:=7) O O ?_ ?_
     .
      refine Do.p oN a8 (s.alloc ji O O) fun b5=>?_
      refine D.p 7 O gB a8 (s.alloc e8 O O) fun b6=>?_
      refine D.p 8 O gB a8 (s.st 1 _ O O O O (.inl gY) O O O O) fun _=>?_
      refine D.p 9 O gB a8 (s.st 0 _ O O O O (.inr ⟨jN,rfl⟩) O O O O) fun _=>?_
      exact D.done<|R.meet (b5,b6) O kP (sF O) (dX xF a8 O)
     refine Do.p oN a8 (s.alloc e8 O O) fun b7=>?_
     refine D.p 6 O gB a8 (s.alloc ji O O) fun b8=>?_
     refine D.p 8 O gB a8 (s.st 0 _ O O O O (.inl gY) O O O O) fun _=>?_
     refine D.p 9 O gB a8 (s.st 1 _ O O O O (.inr ⟨jN,rfl⟩) O O O O) fun _=>?_
     exact D.done<|R.meet (b8,b7) O kP (sF O) (cw zf a8 O)
    .
     refine Do.p oN a8 (s.alloc ji O O) fun b9=>?_
     refine D.two (i:=5) (j:=7) O O ?_ ?_
     .
      refine Do.p oN a8 (s.c (q.call oo O O (fun w hw=>iR x1 w)) O) fun _=>?_
      refine D.p 7 O gB a8 (s.alloc e8 O O) fun b10=>?_
      refine D.p 8 O gB a8 (s.st 1 _ O O O O (.inl gY) O O O O) fun _=>?_
      refine D.p 9 O gB a8 (s.st 0 _ O O O O (.inr ⟨jN,rfl⟩) O O O O) fun _=>?_
      exact D.done<|R.meet (b9,b10) O kP (sF O) (dX xF a8 O)
     refine Do.p gB a8 (s.alloc e8 O O) fun b11=>?_
     refine D.p 5 O gB a8 (s.c (q.call oo O O (fun w hw=>iR x1 w)) O) fun _=>?_
     refine D.p 8 O gB a8 (s.st 1 _ O O O O (.inl gY) O O O O) fun _=>?_
     refine D.p 9 O gB a8 (s.st 0 _ O O O O (.inr ⟨jN,rfl⟩) O O O O) fun _=>?_
     exact D.done<|R.meet (b9,b11) O kP (sF O) (dX xF a8 O)
    refine Do.p oN a8 (s.alloc e8 O O) fun b12=>?_
    refine D.two (i:=5) (j:=6) O O ?_ ?_
    .
     refine Do.p oN a8 (s.c (q.call oo O O (fun w hw=>iR x1 w)) O) fun _=>?_
     refine D.p 6 O gB a8 (s.alloc ji O O) fun b13=>?_
     refine D.p 8 O gB a8 (s.st 0 _ O O O O (.inl gY) O O O O) fun _=>?_
     refine D.p 9 O gB a8 (s.st 1 _ O O O O (.inr ⟨jN,rfl⟩) O O O O) fun _=>?_
     exact D.done<|R.meet (b13,b12) O kP (sF O) (cw zf a8 O)
    refine Do.p gB a8 (s.alloc ji O O) fun b14=>?_
    refine D.p 5 O gB a8 (s.c (q.call oo O O (fun w hw=>iR x1 w)) O) fun _=>?_
    refine D.p 8 O gB a8 (s.st 0 _ O O O O (.inl gY) O O O O) fun _=>?_
    refine D.p 9 O gB a8 (s.st 1 _ O O O O (.inr ⟨jN,rfl⟩) O O O O) fun _=>?_
    exact D.done<|R.meet (b14,b12) O kP (sF O) (cw zf a8 O)
   .
    refine Do.p oN a8 (s.alloc ji O O) fun b15=>?_
    refine D.two (i:=1) (j:=7) O O ?_ ?_
    .
     refine Do.p oN a8 (s.c (q.call sC O O (fun w hw=>je _ (((ws.drop 1).take 2).map bu) w (hw.row 1 O) aG)) O) fun _=>?_
     refine D.two (i:=5) (j:=7) O O ?_ ?_
     .
      refine Do.p oN a8 (s.c (q.call oo O O (fun w hw=>iR x1 w)) O) fun _=>?_
      refine D.p 7 O gB a8 (s.alloc e8 O O) fun b16=>?_
      refine D.p 8 O gB a8 (s.st 1 _ O O O O (.inl gY) O O O O) fun _=>?_
      refine D.p 9 O gB a8 (s.st 0 _ O O O O (.inr ⟨jN,rfl⟩) O O O O) fun _=>?_
      exact D.done<|R.meet (b15,b16) O kP (sF O) (dX xF a8 O)
     refine Do.p gB a8 (s.alloc e8 O O) fun b17=>?_
     refine D.p 5 O gB a8 (s.c (q.call oo O O (fun w hw=>iR x1 w)) O) fun _=>?_
     refine D.p 8 O gB a8 (s.st 1 _ O O O O (.inl gY) O O O O) fun _=>?_
     refine D.p 9 O gB a8 (s.st 0 _ O O O O (.inr ⟨jN,rfl⟩) O O O O) fun _=>?_
     exact D.done<|R.meet (b15,b17) O kP (sF O) (dX xF a8 O)
    refine Do.p gB a8 (s.alloc e8 O O) fun b18=>?_
    refine D.p 1 O gB a8 (s.c (q.call sC O O (fun w hw=>je _ (((ws.drop 1).take 2).map bu) w (hw.row 2 O) aG)) O) fun _=>?_
    refine D.p 5 O gB a8 (s.c (q.call oo O O (fun w hw=>iR x1 w)) O) fun _=>?_
    refine D.p 8 O gB a8 (s.st 1 _ O O O O (.inl gY) O O O O) fun _=>?_
    refine D.p 9 O gB a8 (s.st 0 _ O O O O (.inr ⟨jN,rfl⟩) O O O O) fun _=>?_
    exact D.done<|R.meet (b15,b18) O kP (sF O) (dX xF a8 O)
   refine Do.p oN a8 (s.alloc e8 O O) fun b19=>?_
   refine D.two (i:=1) (j:=6) O O ?_ ?_
   .
    refine Do.p oN a8 (s.c (q.call sC O O (fun w hw=>je _ (((ws.drop 1).take 2).map bu) w (hw.row 1 O) aG)) O) fun _=>?_
    refine D.two (i:=5) (j:=6) O O ?_ ?_
    .
     refine Do.p oN a8 (s.c (q.call oo O O (fun w hw=>iR x1 w)) O) fun _=>?_
     refine D.p 6 O gB a8 (s.alloc ji O O) fun b20=>?_
     refine D.p 8 O gB a8 (s.st 0 _ O O O O (.inl gY) O O O O) fun _=>?_
     refine D.p 9 O gB a8 (s.st 1 _ O O O O (.inr ⟨jN,rfl⟩) O O O O) fun _=>?_
     exact D.done<|R.meet (b20,b19) O kP (sF O) (cw zf a8 O)
    refine Do.p gB a8 (s.alloc ji O O) fun b21=>?_
    refine D.p 5 O gB a8 (s.c (q.call oo O O (fun w hw=>iR x1 w)) O) fun _=>?_
    refine D.p 8 O gB a8 (s.st 0 _ O O O O (.inl gY) O O O O) fun _=>?_
    refine D.p 9 O gB a8 (s.st 1 _ O O O O (.inr ⟨jN,rfl⟩) O O O O) fun _=>?_
    exact D.done<|R.meet (b21,b19) O kP (sF O) (cw zf a8 O)
   refine Do.p gB a8 (s.alloc ji O O) fun b22=>?_
   refine D.p 1 O gB a8 (s.c (q.call sC O O (fun w hw=>je _ (((ws.drop 1).take 2).map bu) w (hw.row 2 O) aG)) O) fun _=>?_
   refine D.p 5 O gB a8 (s.c (q.call oo O O (fun w hw=>iR x1 w)) O) fun _=>?_
   refine D.p 8 O gB a8 (s.st 0 _ O O O O (.inl gY) O O O O) fun _=>?_
   refine D.p 9 O gB a8 (s.st 1 _ O O O O (.inr ⟨jN,rfl⟩) O O O O) fun _=>?_
   exact D.done<|R.meet (b22,b19) O kP (sF O) (cw zf a8 O)
  rintro ⟨b1,b2⟩ _
  dsimp only
  refine U ?_
  obtain ⟨x2,hx2⟩:=gE ws 0
  have Z9:=hw2 x2 (List.mem_of_getElem? hx2);have Tv:=dR hx2
  refine U ?_
  refine C (x2=⟨#[119,114,105,116,101]⟩) ?_ ?_ <;> intro h3
  .
   refine R.q (q.dZ O O h3) O<|U ?_
   refine C (ws.length=4) ?_ ?_ <;> intro h4
   .
    refine R.q (q.D3 (cap:=[pV b1,pV b2]) O O) O<|R.s O (s.pre (fun _ hw=>(hw.Q8 [1,0] gB O O O).Q9 [] O) (s.aH FD [3,4,5,6,0,7,8] _ _ _ O O O uc O O (fun w own hw H=>kr b_k dw dx dy dA k _ _ _ _ _ (uW (⟨nth (((ws.drop 1).take 2).map bu) 0,nth (((ws.drop 1).take 2).map bu) 1⟩:Place) (sP x1)) bB aE st aF au av ao dk aZ lg w own H VQ (pB fun v1 v2 v3 v4 w own H=>Tr v1 v2 v3 v4 _ b1 (⟨nth (((ws.drop 1).take 2).map bu) 0,nth (((ws.drop 1).take 2).map bu) 1⟩:Place) b2 (sP x1) w own H af) af af ae af af af (by exact hz _)) O)) ?_
    rintro ⟨z2,z3,z4,z5,z6,z7,z8,z9,kM⟩
    dsimp only
    refine R.kc O O (fun w hw=>iQ (kb k st dk lg (dU k.R (uW (⟨nth (((ws.drop 1).take 2).map bu) 0,nth (((ws.drop 1).take 2).map bu) 1⟩:Place) (sP x1)))).2.2.2.2 w (by exact hw.okF bJ gy) (by exact ⟨(hE _).1,Int.le_trans (hE _).2 aC⟩)) ?_
    refine U ?_
    rw [show gG k st dk lg (dL ws)=_ from um]
    exact R.x2 (z2,z3,z4,z5,z6,z7,z8,z9,kM) Cr [0,1,2,3,4]
   have h5:¬ x2=⟨#[115,101,110,100]⟩:=(by rw [h3];decide)
   refine R.q (q.dQ O O h5) O<|U ?_
   refine R.q (q.dQ O O h5) O<|U ?_
   rw [show gG k st dk lg (dL ws)=_ from um]
   exact R.x2 (dw,dx,dy,dA,aE,au,av,ao,aZ) Cq [2,3,4,5,6]
  refine R.q (q.dQ O O h3) O<|U ?_
  refine C (x2=⟨#[115,101,110,100]⟩) ?_ ?_ <;> intro h6
  .
   refine R.q (q.dZ O O h6) O<|U ?_
   refine C (ws.length=4) ?_ ?_ <;> intro h7
   .
    refine R.q (q.D3 (cap:=[pV b1,pV b2]) O O) O<|R.s O (s.pre (fun _ hw=>(hw.Q8 [1,0] gB O O O).Q9 [] O) (s.aH FD [3,4,5,6,0,7,8] _ _ _ O O O uc O O (fun w own hw H=>kr b_k dw dx dy dA k _ _ _ _ _ (rz (⟨nth (((ws.drop 1).take 2).map bu) 0,nth (((ws.drop 1).take 2).map bu) 1⟩:Place) (sP x1) (-1) 0) bB aE st aF au av ao dk aZ lg w own H VR (pB fun v1 v2 v3 v4 w own H=>Xm v1 v2 v3 v4 _ b1 (⟨nth (((ws.drop 1).take 2).map bu) 0,nth (((ws.drop 1).take 2).map bu) 1⟩:Place) b2 (sP x1) w own H af) af af ae af af af (by exact hz _)) O)) ?_
    rintro ⟨lA,z12,mW,tQ,xl,wG,z17,uX,wH⟩
    dsimp only
    refine R.kc O O (fun w hw=>iQ (kb k st dk lg (dU k.R (rz (⟨nth (((ws.drop 1).take 2).map bu) 0,nth (((ws.drop 1).take 2).map bu) 1⟩:Place) (sP x1) (-1) 0))).2.2.2.2 w (by exact hw.okF bJ gy) (by exact ⟨(hE _).1,Int.le_trans (hE _).2 aC⟩)) ?_
    refine U ?_
    rw [show gG k st dk lg (dL ws)=_ from um]
    exact R.x2 (lA,z12,mW,tQ,xl,wG,z17,uX,wH) Cr [0,1,2,3,4]
   refine R.q (q.dZ O O h6) O<|U ?_
   refine C (ws.length=6) ?_ ?_ <;> intro h8
   .
    obtain ⟨x3,hx3⟩:=gE ws 4
    have abo:=hw2 x3 (List.mem_of_getElem? hx3);have abp:=dR hx3
    refine U ?_
    refine R.s O (s.bs (l:=([x3]:List ByteArray)) dN e8 O O O O O O O) fun b23=>?_
    refine C (fP ([x3])=true) ?_ ?_ <;> intro h9
    .
     refine R.s O (s.pre (fun _ hw=>hw.aO 0 _ O O) (s.aH xF [0,8] _ _ _ O O O mV O O (fun w own hw H=>qe (.slice (some ⟨b23,0,none⟩) 1 1) ([x3]) w own H (by exact ⟨bA,aG⟩) af) O)) fun z20=>U ?_
     refine R.nb fun b24=>?_
     obtain ⟨x4,hx4⟩:=gE ws 5
     have aac:=hw2 x4 (List.mem_of_getElem? hx4);have Xr:=dR hx4
     refine U ?_
     refine R.kc O O (fun w hw=>qU x4 w)<|U ?_
     refine R.nb fun b25=>?_
     refine C (Q7 x4=0) ?_ ?_ <;> intro h10
     .
      refine R.q (q.D3 (cap:=[pV b1,pV b2,pV b24,pV b25]) O O) O<|R.s O (s.pre (fun _ hw=>hw.aO 2 _ O O) (s.pre (fun _ hw=>(hw.Q8 [3,2,1,0] [4,5,6,7,8,9,10,11,12,13] O O O).Q9 [0] O) (s.aH FD [5,6,7,8,0,9,10] _ _ _ O O O uc O O (fun w own hw H=>kr b_k dw dx dy dA k _ _ _ _ _ (rz (⟨nth (((ws.drop 1).take 2).map bu) 0,nth (((ws.drop 1).take 2).map bu) 1⟩:Place) (sP x1) (nth (([x3]).map bu) 0) (Nc x4)) bB aE st aF au av ao dk aZ lg w own H VT (pB fun v1 v2 v3 v4 w own H=>Ts v1 v2 v3 v4 _ b1 (⟨nth (((ws.drop 1).take 2).map bu) 0,nth (((ws.drop 1).take 2).map bu) 1⟩:Place) b2 (sP x1) b24 z20 (([x3]).map bu) b25 (Nc x4) w own H af (by simp;done)) af af ae af af af (by exact hz _)) O))) ?_
      rintro ⟨z21,z22,z23,z24,z25,z26,z27,z28,z29⟩
      dsimp only
      refine R.kc O O (fun w hw=>iQ (kb k st dk lg (dU k.R (rz (⟨nth (((ws.drop 1).take 2).map bu) 0,nth (((ws.drop 1).take 2).map bu) 1⟩:Place) (sP x1) (nth (([x3]).map bu) 0) (Nc x4)))).2.2.2.2 w (by exact hw.okF bJ gy) (by exact ⟨(hE _).1,Int.le_trans (hE _).2 aC⟩)) ?_
      refine U ?_
      rw [show gG k st dk lg (dL ws)=_ from um]
      exact R.x2 (z21,z22,z23,z24,z25,z26,z27,z28,z29) Cr [0,1,2,3,4]
     rw [show gG k st dk lg (dL ws)=_ from um]
     exact R.x2 (dw,dx,dy,dA,aE,au,av,ao,aZ) [6,7,8,9,10,11,12,13,14] [3,4,5,6,7]
    refine R.s O (s.pre (fun _ hw=>hw.aO 0 _ O O) (s.aH xF [0,8] _ _ _ O O O mV O O (fun w own hw H=>qf (.slice (some ⟨b23,0,none⟩) 1 1) ([x3]) w own H (by exact ⟨bA,aG⟩) af) O)) fun z30=>U ?_
    refine R.nb fun b26=>?_
    obtain ⟨x5,hx5⟩:=gE ws 5
    have aae:=hw2 x5 (List.mem_of_getElem? hx5);have Xs:=dR hx5
    refine U ?_
    refine R.kc O O (fun w hw=>qU x5 w)<|U ?_
    refine R.nb fun b27=>?_
    rw [show gG k st dk lg (dL ws)=_ from um]
    exact R.x2 (dw,dx,dy,dA,aE,au,av,ao,aZ) [6,7,8,9,10,11,12,13,14] [3,4,5,6,7]
   rw [show gG k st dk lg (dL ws)=_ from um]
   exact R.x2 (dw,dx,dy,dA,aE,au,av,ao,aZ) Cq [2,3,4,5,6]
  refine R.q (q.dQ O O h6) O<|U ?_
  refine R.q (q.dQ O O h6) O<|U ?_
  rw [show gG k st dk lg (dL ws)=_ from um]
  exact R.x2 (dw,dx,dy,dA,aE,au,av,ao,aZ) Cq [2,3,4,5,6]
 refine R.s O (s.pre (fun w hw=>hw.nQ 0 _ (ag.ls (sl2 fQ 1 3 1) ((ws.drop 1).take 2)) O sR (Sl.sl2 (α:=ByteArray) (l:=ws) (i:=1) (j:=3) (hw.cy 0 O) ae ae)) (s.aH bZ [0,7] _ _ _ O O O mV O O (fun w own hw H=>qf (sl2 fQ 1 3 1) ((ws.drop 1).take 2) w own H (by exact ⟨aG,fun x hx=>hw2 x (List.mem_of_mem_drop (List.mem_of_mem_take hx))⟩) af) O)) fun z31=>U ?_
 rw [show gG k st dk lg (dL ws)=_ from um]
 exact R.x2 (dw,dx,dy,dA,aE,au,av,ao,aZ) iF [2,3,4,5,6]
theorem M1 (gH:Nat)(se:Unit)(fQ:Value)(ws:List ByteArray)(b_k:Nat)(dw dx dy dA:Value)(k:fI)(bB:Nat)(aE:Value)(st:fu)(aF:Nat)(au av ao:Value)(dk:cq)(aZ:Nat)(lg:Lg)(w:World)(own:List Nat)(H:HN w own [ag.box gH [pV aF,pV b_k] 106,ag.box b_k [pV bB,dw,dx,dy,dA,iV k.R.ah,iV k.R.ai] 78,ag.box bB [pV aF,iV st.Epoch,iV st.Side,iV st.Size,iV st.First,pV aZ,aE] 132,ag.box aF [au,av,ao,iV dk.Fuse,.bool dk.Down] 120,ag.row 9 au dk.Kept,ag.row 9 av dk.Now,ag.row 196 ao dk.Wait,ag.box aZ [pV aF,iV lg.From,iV lg.Many,iV lg.First,iV lg.Next] 193] [ag.ls fQ ws,ag.ls dw k.R.aj,ag.ls dx k.R.Things,ag.ls dy k.R.Held,ag.ls dA k.R.Notes,ag.ls aE st.Rows,bJ])(hC:CJ k st dk lg)(hw:(ws.length<=200 /\ ∀x∈ws,x.size<=100)/\7<=ws.length):RS Tryz.prog 112 #[pV gH,fQ] H (gG k st dk lg (lM ws)) (fun s (_:Value×Value×Value×Value×Value×Value×Value×Value×Nat) => .tuple #[.string s.2.2.2.2.1,.bool s.2.2.2.2.2]) (fun s z=>[ag.box gH [pV aF,pV b_k] 106,ag.box b_k [pV bB,z.1,z.2.1,z.2.2.1,z.2.2.2.1,iV s.1.R.ah,iV s.1.R.ai] 78,ag.box bB [pV aF,iV s.2.1.Epoch,iV s.2.1.Side,iV s.2.1.Size,iV s.2.1.First,pV z.2.2.2.2.2.2.2.2,z.2.2.2.2.1] 132,ag.box aF [z.2.2.2.2.2.1,z.2.2.2.2.2.2.1,z.2.2.2.2.2.2.2.1,iV s.2.2.1.Fuse,.bool s.2.2.1.Down] 120,ag.row 9 z.2.2.2.2.2.1 s.2.2.1.Kept,ag.row 9 z.2.2.2.2.2.2.1 s.2.2.1.Now,ag.row 196 z.2.2.2.2.2.2.2.1 s.2.2.1.Wait,ag.box z.2.2.2.2.2.2.2.2 [pV aF,iV s.2.2.2.1.From,iV s.2.2.2.1.Many,iV s.2.2.2.1.First,iV s.2.2.2.1.Next] 193]) (fun s z=>[ag.ls z.1 s.1.R.aj,ag.ls z.2.1 s.1.R.Things,ag.ls z.2.2.1 s.1.R.Held,ag.ls z.2.2.2.1 s.1.R.Notes,ag.ls z.2.2.2.2.1 s.2.1.Rows]):=by
 have dD:=H.cap 4 rfl;have dE:=H.ck 4 rfl
 have ew:=H.cap 5 rfl;have ey:=H.ck 5 rfl
 have dF:=H.cap 6 rfl;have dG:=H.ck 6 rfl
 have MY:=H.aL 0 rfl
 have hG:=H.aL 1 rfl
 have gi:=H.aL 2 rfl
 have jd:=H.aL 3 rfl
 have hX:=H.aL 4 rfl
 have j1:=H.aL 5 rfl
 have hC0:=hC;obtain ⟨j,hj,hC⟩:=hC;have hE:=fun a=>hC.err ae a;obtain ⟨hf,⟨u,hV⟩,hS⟩:=hC;have hI:=hV.inv;have hk:=hS.ok ae;have g1:=hV.pre ae;obtain ⟨g2,g3,g4,g5⟩:=g1;have hz:=fun a=>DC hS a ae
 obtain ⟨⟨hw1,hw2⟩,hw3⟩:=hw
 refine R.eN H ?_
 obtain ⟨x1,hx1⟩:=gE ws 1
 have Tq:=hw2 x1 (List.mem_of_getElem? hx1);have QI:=dR hx1
 obtain ⟨x2,hx2⟩:=gE ws 2
 have Z9:=hw2 x2 (List.mem_of_getElem? hx2);have Tv:=dR hx2
 obtain ⟨x3,hx3⟩:=gE ws 3
 have abo:=hw2 x3 (List.mem_of_getElem? hx3);have abp:=dR hx3
 obtain ⟨x4,hx4⟩:=gE ws 4
 have aac:=hw2 x4 (List.mem_of_getElem? hx4);have Xr:=dR hx4
 obtain ⟨x5,hx5⟩:=gE ws 6
 have aae:=hw2 x5 (List.mem_of_getElem? hx5);have Xs:=dR hx5
 refine C (fP ([x1,x2,x3,x4,x5])=true) ?_ ?_ <;> intro h1
 .
  refine R.cut 1 (fun g_:Nat×Value×Nat=>[(0,pV gH),(1,fQ),(6,pV g_.2.2),(7,.bool true)]) (fun g_:Nat×Value×Nat=>[ag.box g_.2.2 [g_.2.1] 110,ag.row 3 g_.2.1 (([x1,x2,x3,x4,x5]).map bu:List Int),ag.box gH [pV aF,pV b_k] 106,ag.box b_k [pV bB,dw,dx,dy,dA,iV k.R.ah,iV k.R.ai] 78,ag.box bB [pV aF,iV st.Epoch,iV st.Side,iV st.Size,iV st.First,pV aZ,aE] 132,ag.box aF [au,av,ao,iV dk.Fuse,.bool dk.Down] 120,ag.row 9 au dk.Kept,ag.row 9 av dk.Now,ag.row 196 ao dk.Wait,ag.box aZ [pV aF,iV lg.From,iV lg.Many,iV lg.First,iV lg.Next] 193,ag.held w own]) (fun g_:Nat×Value×Nat=>[ag.ls (.slice (some ⟨g_.1,0,none⟩) 5 5) ([x1,x2,x3,x4,x5]:List ByteArray),ag.ls fQ ws,ag.ls dw k.R.aj,ag.ls dx k.R.Things,ag.ls dy k.R.Held,ag.ls dA k.R.Notes,ag.ls aE st.Rows,bJ]) (fun g_:Nat×Value×Nat=>True) O O O ?_ ?_
  .
   refine R.cO (fuel:=23) bZ O O mixed O<|D.l m4 bZ du O<|U ?_
   refine D.two (i:=15) (j:=20) O O ?_ ?_
   .
    refine Do.p iF du (s.bs (l:=([x1,x2,x3,x4,x5]:List ByteArray)) dN e8 O O O O O O O) fun b5=>?_
    refine D.two (i:=16) (j:=20) O O ?_ ?_
    .
     refine Do.p iF fj (s.pre (fun _ hw=>hw.aO 0 _ O O) (s.aH bZ [0,7] _ _ _ O O O mV O O (fun w own hw H=>qe (.slice (some ⟨b5,0,none⟩) 5 5) ([x1,x2,x3,x4,x5]) w own H (by exact ⟨bA,aG⟩) af) O)) fun z4=>?_
     refine D.l [17,18,19] iF fj O<|U ?_
     refine D.p 20 O gj fj (s.alloc nH O O) fun b6=>?_
     refine D.p 21 O gj fj (s.lq 0 _ O O O (fun w hw=>Sl.cL (hw.row 1 O)) (.inr ⟨mK,rfl⟩) (fun w hw=>bD (Sl.one (hw.row 1 O)) cd) O O O) fun _=>?_
     refine D.l [22] gj fj O<|U ?_
     exact D.done<|R.meet (b5,z4,b6) O kP (sF O) (dX uZ a8 O)
    refine Do.p gj du (s.alloc nH O O) fun b7=>?_
    refine D.p 16 O gj fj (s.pre (fun _ hw=>hw.aO 1 _ O O) (s.aH jH [0,7] _ _ _ O O O mV O O (fun w own hw H=>qe (.slice (some ⟨b5,0,none⟩) 5 5) ([x1,x2,x3,x4,x5]) w own H (by exact ⟨bA,aG⟩) af) O)) fun z5=>?_
    refine D.l [17,18,19] gj fj O<|U ?_
    refine D.p 21 O gj fj (s.lq 1 _ O O O (fun w hw=>Sl.cL (hw.row 0 O)) (.inr ⟨mK,rfl⟩) (fun w hw=>bD (Sl.one (hw.row 0 O)) cd) O O O) fun _=>?_
    refine D.l [22] gj fj O<|U ?_
    exact D.done<|R.meet (b5,z5,b7) O kP (sF O) (cw JR a8 O)
   refine Do.p iF du (s.alloc nH O O) fun b8=>?_
   refine D.p 15 O gj du (s.bs (l:=([x1,x2,x3,x4,x5]:List ByteArray)) dN e8 O O O O O O O) fun b9=>?_
   refine D.p 16 O gj fj (s.pre (fun _ hw=>hw.aO 0 _ O O) (s.aH jH [0,7] _ _ _ O O O mV O O (fun w own hw H=>qe (.slice (some ⟨b9,0,none⟩) 5 5) ([x1,x2,x3,x4,x5]) w own H (by exact ⟨bA,aG⟩) af) O)) fun z6=>?_
   refine D.l [17,18,19] gj fj O<|U ?_
   refine D.p 21 O gj fj (s.lq 1 _ O O O (fun w hw=>Sl.cL (hw.row 0 O)) (.inr ⟨mK,rfl⟩) (fun w hw=>bD (Sl.one (hw.row 0 O)) cd) O O O) fun _=>?_
   refine D.l [22] gj fj O<|U ?_
   exact D.done<|R.meet (b9,z6,b8) O kP (sF O) (cw JR a8 O)
  rintro ⟨b1,z2,b3⟩ _
  dsimp only
  refine U ?_
  obtain ⟨x6,hx6⟩:=gE ws 5
  have ab8:=hw2 x6 (List.mem_of_getElem? hx6);have abq:=dR hx6
  refine U ?_
  refine R.kc O O (fun w hw=>qU x6 w)<|U ?_
  refine R.nb fun b10=>?_
  refine C (Q7 x6=0) ?_ ?_ <;> intro h2
  .
   refine R.q (q.D3 (cap:=[pV b3,pV b10]) O O) O<|R.s O (s.pre (fun _ hw=>hw.aO 2 _ O O) (s.pre (fun _ hw=>(hw.Q8 [1,0] gj O O O).Q9 [0] O) (s.aH FC [4,5,6,7,0,8,9] _ _ _ O O O uc O O (fun w own hw H=>kr b_k dw dx dy dA k _ _ _ _ _ (yp ⟨nth (([x1,x2,x3,x4,x5]).map bu) 0,nth (([x1,x2,x3,x4,x5]).map bu) 1⟩ ⟨nth (([x1,x2,x3,x4,x5]).map bu) 2,nth (([x1,x2,x3,x4,x5]).map bu) 3⟩ (Nc x6) (nth (([x1,x2,x3,x4,x5]).map bu) 4)) bB aE st aF au av ao dk aZ lg w own H VU (pB fun v1 v2 v3 v4 w own H=>Xo v1 v2 v3 v4 _ b3 z2 (([x1,x2,x3,x4,x5]).map bu) b10 (Nc x6) w own H af (by simp;done)) af af ae af af af (by exact hz _)) O))) ?_
   rintro ⟨z7,z8,z9,kM,lA,z12,mW,tQ,xl⟩
   dsimp only
   refine R.kc O O (fun w hw=>iQ (kb k st dk lg (dU k.R (yp ⟨nth (([x1,x2,x3,x4,x5]).map bu) 0,nth (([x1,x2,x3,x4,x5]).map bu) 1⟩ ⟨nth (([x1,x2,x3,x4,x5]).map bu) 2,nth (([x1,x2,x3,x4,x5]).map bu) 3⟩ (Nc x6) (nth (([x1,x2,x3,x4,x5]).map bu) 4)))).2.2.2.2 w (by exact hw.okF bJ gy) (by exact ⟨(hE _).1,Int.le_trans (hE _).2 aC⟩)) ?_
   refine U ?_
   rw [show gG k st dk lg (lM ws)=_ from by unfold lM JH;exact Z7]
   exact R.x2 (z7,z8,z9,kM,lA,z12,mW,tQ,xl) JQ [0,1,2,3,4]
  rw [show gG k st dk lg (lM ws)=_ from by unfold lM JH;exact Z7]
  exact R.x2 (dw,dx,dy,dA,aE,au,av,ao,aZ) Cq [2,3,4,5,6]
 refine R.cut 1 (fun g_:Nat×Value×Nat=>[(0,pV gH),(1,fQ),(6,pV g_.2.2),(7,.bool false)]) (fun g_:Nat×Value×Nat=>[ag.box g_.2.2 [g_.2.1] 110,ag.row 3 g_.2.1 (([]:List Int):List Int),ag.box gH [pV aF,pV b_k] 106,ag.box b_k [pV bB,dw,dx,dy,dA,iV k.R.ah,iV k.R.ai] 78,ag.box bB [pV aF,iV st.Epoch,iV st.Side,iV st.Size,iV st.First,pV aZ,aE] 132,ag.box aF [au,av,ao,iV dk.Fuse,.bool dk.Down] 120,ag.row 9 au dk.Kept,ag.row 9 av dk.Now,ag.row 196 ao dk.Wait,ag.box aZ [pV aF,iV lg.From,iV lg.Many,iV lg.First,iV lg.Next] 193,ag.held w own]) (fun g_:Nat×Value×Nat=>[ag.ls (.slice (some ⟨g_.1,0,none⟩) 5 5) ([x1,x2,x3,x4,x5]:List ByteArray),ag.ls fQ ws,ag.ls dw k.R.aj,ag.ls dx k.R.Things,ag.ls dy k.R.Held,ag.ls dA k.R.Notes,ag.ls aE st.Rows,bJ]) (fun g_:Nat×Value×Nat=>True) O O O ?_ ?_
 .
  refine R.cO (fuel:=23) bZ O O mixed O<|D.l m4 bZ du O<|U ?_
  refine D.two (i:=15) (j:=20) O O ?_ ?_
  .
   refine Do.p iF du (s.bs (l:=([x1,x2,x3,x4,x5]:List ByteArray)) dN e8 O O O O O O O) fun b15=>?_
   refine D.two (i:=16) (j:=20) O O ?_ ?_
   .
    refine Do.p iF fj (s.pre (fun _ hw=>hw.aO 0 _ O O) (s.aH bZ [0,7] _ _ _ O O O mV O O (fun w own hw H=>qf (.slice (some ⟨b15,0,none⟩) 5 5) ([x1,x2,x3,x4,x5]) w own H (by exact ⟨bA,aG⟩) af) O)) fun wH=>?_
    refine D.l [17,18,19] iF fj O<|U ?_
    refine D.p 20 O gj fj (s.alloc nH O O) fun b16=>?_
    refine D.p 21 O gj fj (s.lq 0 _ O O O (fun w hw=>Sl.cL (hw.row 1 O)) (.inr ⟨mK,rfl⟩) (fun w hw=>bD (Sl.one (hw.row 1 O)) cd) O O O) fun _=>?_
    refine D.l [22] gj fj O<|U ?_
    exact D.done<|R.meet (b15,wH,b16) O kP (sF O) (dX uZ a8 O)
   refine Do.p gj du (s.alloc nH O O) fun b17=>?_
   refine D.p 16 O gj fj (s.pre (fun _ hw=>hw.aO 1 _ O O) (s.aH jH [0,7] _ _ _ O O O mV O O (fun w own hw H=>qf (.slice (some ⟨b15,0,none⟩) 5 5) ([x1,x2,x3,x4,x5]) w own H (by exact ⟨bA,aG⟩) af) O)) fun z20=>?_
   refine D.l [17,18,19] gj fj O<|U ?_
   refine D.p 21 O gj fj (s.lq 1 _ O O O (fun w hw=>Sl.cL (hw.row 0 O)) (.inr ⟨mK,rfl⟩) (fun w hw=>bD (Sl.one (hw.row 0 O)) cd) O O O) fun _=>?_
   refine D.l [22] gj fj O<|U ?_
   exact D.done<|R.meet (b15,z20,b17) O kP (sF O) (cw JR a8 O)
  refine Do.p iF du (s.alloc nH O O) fun b18=>?_
  refine D.p 15 O gj du (s.bs (l:=([x1,x2,x3,x4,x5]:List ByteArray)) dN e8 O O O O O O O) fun b19=>?_
  refine D.p 16 O gj fj (s.pre (fun _ hw=>hw.aO 0 _ O O) (s.aH jH [0,7] _ _ _ O O O mV O O (fun w own hw H=>qf (.slice (some ⟨b19,0,none⟩) 5 5) ([x1,x2,x3,x4,x5]) w own H (by exact ⟨bA,aG⟩) af) O)) fun z21=>?_
  refine D.l [17,18,19] gj fj O<|U ?_
  refine D.p 21 O gj fj (s.lq 1 _ O O O (fun w hw=>Sl.cL (hw.row 0 O)) (.inr ⟨mK,rfl⟩) (fun w hw=>bD (Sl.one (hw.row 0 O)) cd) O O O) fun _=>?_
  refine D.l [22] gj fj O<|U ?_
  exact D.done<|R.meet (b19,z21,b18) O kP (sF O) (cw JR a8 O)
 rintro ⟨b11,z17,b13⟩ _
 dsimp only
 refine U ?_
 obtain ⟨x7,hx7⟩:=gE ws 5
 have ab9:=hw2 x7 (List.mem_of_getElem? hx7);have abr:=dR hx7
 refine U ?_
 refine R.kc O O (fun w hw=>qU x7 w)<|U ?_
 refine R.nb fun b20=>?_
 rw [show gG k st dk lg (lM ws)=_ from by unfold lM JH;exact Z7]
 exact R.x2 (dw,dx,dy,dA,aE,au,av,ao,aZ) Cq [2,3,4,5,6]
theorem QJ (gH:Nat)(se:Unit)(fQ:Value)(ws:List ByteArray)(b_k:Nat)(dw dx dy dA:Value)(k:fI)(bB:Nat)(aE:Value)(st:fu)(aF:Nat)(au av ao:Value)(dk:cq)(aZ:Nat)(lg:Lg)(w:World)(own:List Nat)(H:HN w own [ag.box gH [pV aF,pV b_k] 106,ag.box b_k [pV bB,dw,dx,dy,dA,iV k.R.ah,iV k.R.ai] 78,ag.box bB [pV aF,iV st.Epoch,iV st.Side,iV st.Size,iV st.First,pV aZ,aE] 132,ag.box aF [au,av,ao,iV dk.Fuse,.bool dk.Down] 120,ag.row 9 au dk.Kept,ag.row 9 av dk.Now,ag.row 196 ao dk.Wait,ag.box aZ [pV aF,iV lg.From,iV lg.Many,iV lg.First,iV lg.Next] 193] [ag.ls fQ ws,ag.ls dw k.R.aj,ag.ls dx k.R.Things,ag.ls dy k.R.Held,ag.ls dA k.R.Notes,ag.ls aE st.Rows,bJ])(hC:CJ k st dk lg)(hw:(ws.length<=200 /\ ∀x∈ws,x.size<=100)/\1<=ws.length)(ha:ws.length=2->¬ wd ws 0=⟨#[97,114,109]⟩):RS Tryz.prog 113 #[pV gH,fQ] H (gG k st dk lg (wC ws)) (fun s (_:Nat×Value×Value×Value×Value×Nat×Value×Value×Value×Value×Nat) => .tuple #[.string s.2.2.2.2.1,.bool s.2.2.2.2.2]) (fun s z=>[ag.box gH [pV aF,pV z.1] 106,ag.box z.1 [pV z.2.2.2.2.2.1,z.2.1,z.2.2.1,z.2.2.2.1,z.2.2.2.2.1,iV s.1.R.ah,iV s.1.R.ai] 78,ag.box z.2.2.2.2.2.1 [pV aF,iV s.2.1.Epoch,iV s.2.1.Side,iV s.2.1.Size,iV s.2.1.First,pV z.2.2.2.2.2.2.2.2.2.2,z.2.2.2.2.2.2.1] 132,ag.box aF [z.2.2.2.2.2.2.2.1,z.2.2.2.2.2.2.2.2.1,z.2.2.2.2.2.2.2.2.2.1,iV s.2.2.1.Fuse,.bool s.2.2.1.Down] 120,ag.row 9 z.2.2.2.2.2.2.2.1 s.2.2.1.Kept,ag.row 9 z.2.2.2.2.2.2.2.2.1 s.2.2.1.Now,ag.row 196 z.2.2.2.2.2.2.2.2.2.1 s.2.2.1.Wait,ag.box z.2.2.2.2.2.2.2.2.2.2 [pV aF,iV s.2.2.2.1.From,iV s.2.2.2.1.Many,iV s.2.2.2.1.First,iV s.2.2.2.1.Next] 193]) (fun s z=>[ag.ls z.2.1 s.1.R.aj,ag.ls z.2.2.1 s.1.R.Things,ag.ls z.2.2.2.1 s.1.R.Held,ag.ls z.2.2.2.2.1 s.1.R.Notes,ag.ls z.2.2.2.2.2.2.1 s.2.1.Rows]):=by
 have dD:=H.cap 4 rfl;have dE:=H.ck 4 rfl
 have ew:=H.cap 5 rfl;have ey:=H.ck 5 rfl
 have dF:=H.cap 6 rfl;have dG:=H.ck 6 rfl
 have MY:=H.aL 0 rfl
 have hG:=H.aL 1 rfl
 have gi:=H.aL 2 rfl
 have jd:=H.aL 3 rfl
 have hX:=H.aL 4 rfl
 have j1:=H.aL 5 rfl
 have hC0:=hC;obtain ⟨j,hj,hC⟩:=hC;have hE:=fun a=>hC.err ae a;obtain ⟨hf,⟨u,hV⟩,hS⟩:=hC;have hI:=hV.inv;have hk:=hS.ok ae;have g1:=hV.pre ae;obtain ⟨g2,g3,g4,g5⟩:=g1;have hz:=fun a=>DC hS a ae
 obtain ⟨⟨hw1,hw2⟩,hw3⟩:=hw;have hnl:((ws.drop 1).map bu).length=ws.length-1:=bA;have hsv:=(hV.save ae hf).1;have hrs:=hV.sv.rest.ok.rest ae;have han:=fun z=>(hV.again z).anew ae;have tl:=hk.tl;have wl:=hk.wl;have nl:=hk.nl;have i1:=dH (n:=((k.R.aj.length:Nat):Int)) ae;have i2:=dH (n:=((k.R.Things.length:Nat):Int)) ae;have i3:=dH (n:=((k.R.Notes.length:Nat):Int)) ae
 refine R.eN H ?_
 refine R.q (q.cz (i:=1) (vu 0 O) O O dN O ae) O<|C (fP (ws.drop 1)=true) ?_ ?_ <;> intro h1
 .
  refine R.s O (s.pre (fun w hw=>hw.nQ 0 _ (ag.ls (cz fQ 1 1) (ws.drop 1)) O yK (Sl.from (α:=ByteArray) (l:=ws) (i:=1) (hw.cy 0 O) ae)) (s.aH bZ [0,7] _ _ _ O O O mV O O (fun w own hw H=>qe (cz fQ 1 1) (ws.drop 1) w own H (by exact ⟨aG,fun x hx=>hw2 x (List.mem_of_mem_drop hx)⟩) af) O)) fun z1=>U ?_
  refine R.nb fun b1=>?_
  refine C (((ws.drop 1).map bu).length=0) ?_ ?_ <;> intro h2
  .
   obtain ⟨x1,hx1⟩:=gE ws 0
   have Tq:=hw2 x1 (List.mem_of_getElem? hx1);have QI:=dR hx1
   refine U ?_
   refine C (x1=⟨#[97,108,108]⟩) ?_ ?_ <;> intro h3
   .
    refine R.qg O (q.dZ O O h3) O<|U ?_
    refine R.s O (s.aH [3,0,1,2,4,5,6,7,8,9,10] eO _ _ _ O O O OI O O (fun w own hw H=>uU b_k dw dx dy dA bB k w own H af) O) ?_
    rintro ⟨z2,z3,z4,z5,z6,z7,z8,z9⟩
    dsimp only
    refine R.nb fun b2=>?_
    refine R.c6 O mixed ay<|U ?_
    refine Q.c (q.call mT O O (fun w hw=>gF (k.R.aj.length:Int) w (by exact hw.okF bJ gy) ae)) O ?_
    refine Q.q (q.cat O O (by simp only [ByteArray.size_append,bg,List.length_cons,List.length_nil];omega)) O<|U ?_
    refine Q.c (q.call mT O O (fun w hw=>gF (k.R.Things.length:Int) w (by exact hw.okF bJ gy) ae)) O ?_
    refine Q.q (q.cat O O (by simp only [ByteArray.size_append,bg,List.length_cons,List.length_nil];omega)) O<|Q.q (q.cat O O (by simp only [ByteArray.size_append,bg,List.length_cons,List.length_nil];omega)) O<|U ?_
    refine Q.c (q.call mT O O (fun w hw=>gF (k.R.Notes.length:Int) w (by exact hw.okF bJ gy) ae)) O ?_
    refine Q.q (q.cat O O (by simp only [ByteArray.size_append,bg,List.length_cons,List.length_nil];omega)) O<|U ?_
    rw [show gG k st dk lg (wC ws)=_ from Zone]
    exact R.x2 (b_k,z2,z3,z4,z5,bB,aE,au,av,ao,aZ) [4,1,5,6,7,8,9,10,11] [0,1,2,3,14]
   refine R.qg O (q.dQ O O h3) O<|U ?_
   refine C (x1=⟨#[115,97,118,101]⟩) ?_ ?_ <;> intro h4
   .
    refine R.qg O (q.dZ O O h4) O<|U ?_
    refine R.s O (s.aH [3,4,5,6,7,8,9,0,1,2,10] [2,3,4,5,6] _ _ _ O O O aaY O O (fun w own hw H=>MG b_k dw dx dy dA k bB aE st aF au av ao dk aZ lg w own H af af ae af) O) ?_
    rintro ⟨kM,lA,z12,mW,tQ,xl,wG,z17,uX⟩
    dsimp only
    refine R.kc O O (fun w hw=>iQ (cC (mkS st lg) dk).2.2 w (by exact hw.okF bJ gy) ae) ?_
    refine U ?_
    rw [show gG k st dk lg (wC ws)=_ from Zone]
    exact R.x2 (b_k,kM,lA,z12,mW,bB,tQ,xl,wG,z17,uX) Cr [0,1,2,3,4]
   refine R.qg O (q.dQ O O h4) O<|U ?_
   rw [show gG k st dk lg (wC ws)=_ from Zone]
   exact R.x2 (b_k,dw,dx,dy,dA,bB,aE,au,av,ao,aZ) gj [2,3,4,5,6]
  refine C (((ws.drop 1).map bu).length=1) ?_ ?_ <;> intro h5
  .
   obtain ⟨x2,hx2⟩:=gE ws 0
   have Z9:=hw2 x2 (List.mem_of_getElem? hx2);have Tv:=dR hx2
   refine U ?_
   by_cases h6:x2=⟨#[97,114,109]⟩
   .exfalso;exact ha ae (by rw [Tv];assumption)
   refine R.qg O (q.dQ O O h6) O<|U ?_
   refine C (x2=⟨#[114,101,115,116,97,114,116]⟩) ?_ ?_ <;> intro h7
   .
    refine R.qg O (q.dZ O O h7) O<|U ?_
    obtain ⟨x3,hx3⟩:=gE ((ws.drop 1).map bu) 0
    have aca:=Lb af hx3
    refine R.cO (fuel:=9) [0,1,2,3,4,9,10] O O mixed O<|D.l a8 [0,1,2,3,4,9,10] a8 O<|U ?_
    refine Dm.yy O O (q.ny (r:=x3) O (by rw [Tryz.underlying3];rfl) Tryz.underlying33 (zq ae)) O<|U ?_
    refine D.p 8 O iU a8 (s.aH [5,6,7,8,0,1,2,3,4,9,10] [] _ _ _ O O O VW O O (fun w own hw H=>EX aF au av ao dk x3 w own H af ae) O) ?_
    rintro ⟨z22,z23,z24⟩
    dsimp only
    refine D.done<|U ?_
    refine R.s O (s.aH [6,0,1,2,3,4,5,7,8,9,10] [7] _ _ _ O O O Ud O O (fun w own hw H=>DX gH (⟨pV b_k⟩:Xq) aF z22 z23 z24 (eo dk x3) w own H (by exact (han _).1) (by exact (han _).2.1) (by exact (han _).2.2.1) (by exact (han _).2.2.2.1) (by exact (han _).2.2.2.2.1)) O) ?_
    rintro ⟨z25,z26,z27,z28,z29,z30,z31,z32,z33,z34,z35⟩
    dsimp only
    refine R.kc O O (fun w hw=>(by have h_:=(iQ 0 w (by exact hw.okF bJ gy) ae);rw [BP] at h_;exact h_)) ?_
    refine U ?_
    rw [show gG k st dk lg (wC ws)=_ from Zone]
    exact R.x2 (z28,z29,z30,z31,z32,z33,z34,z25,z26,z27,z35) [0,5,6,1,2,3,4,7,13] [0,1,2,3,4]
   refine R.qg O (q.dQ O O h7) O<|U ?_
   rw [show gG k st dk lg (wC ws)=_ from Zone]
   exact R.x2 (b_k,dw,dx,dy,dA,bB,aE,au,av,ao,aZ) gj [2,3,4,5,6]
  refine C (((ws.drop 1).map bu).length=2) ?_ ?_ <;> intro h8
  .
   obtain ⟨x4,hx4⟩:=gE ws 0
   have aac:=hw2 x4 (List.mem_of_getElem? hx4);have Xr:=dR hx4
   refine R.cO (fuel:=10) [0,2,10] O O mixed O<|D.l bV [0,2,10] a8 O<|U ?_
   refine D.p 5 O [8,0,9] [6,7,8,9,10,11,12,13] (s.pre (fun _ hw=>hw.aO 1 _ O O) (s.aH [1,2,3,4,5,6,7,8,0,9] [0,3,4,5,6,7,8] _ _ _ O O O VX O O (fun w own hw H=>QG gH () x4 z1 ((ws.drop 1).map bu) b_k dw dx dy dA k bB aE st aF au av ao dk aZ lg w own H af ae) O)) ?_
   rintro ⟨z45,z46,z47,z48,z49,z50,z51,z52,z53⟩
   dsimp only
   refine D.l [6,7,8,9] [8,0,9] [6,7,8,9,10,11,12,13] O<|U ?_
   refine D.done ?_
   rw [show gG k st dk lg (wC ws)=_ from Zone]
   exact R.x2 (b_k,z45,z46,z47,z48,bB,z49,z50,z51,z52,z53) [0,1,2,3,4,5,6,7,9] [0,1,2,3,4]
  refine C (((ws.drop 1).map bu).length=3) ?_ ?_ <;> intro h9
  .
   obtain ⟨x5,hx5⟩:=gE ws 0
   have aae:=hw2 x5 (List.mem_of_getElem? hx5);have Xs:=dR hx5
   refine U ?_
   refine C (x5=⟨#[109,111,118,101]⟩) ?_ ?_ <;> intro h10
   .
    refine R.qg O (q.dZ O O h10) O<|U ?_
    refine R.q (q.D3 (cap:=[pV b1]) O O) O<|R.s O (s.pre (fun _ hw=>hw.aO 1 _ O O) (s.pre (fun _ hw=>(hw.Q8 [0] iF O O O).Q9 [0] O) (s.aH FC [4,5,6,7,0,8,9] _ _ _ O O O uc O O (fun w own hw H=>kr b_k dw dx dy dA k _ _ _ _ _ (BM ⟨nth ((ws.drop 1).map bu) 0,nth ((ws.drop 1).map bu) 1⟩ (nth ((ws.drop 1).map bu) 2)) bB aE st aF au av ao dk aZ lg w own H VY (pB fun v1 v2 v3 v4 w own H=>Xp v1 v2 v3 v4 _ b1 z1 ((ws.drop 1).map bu) w own H af ae) af af ae af af af (by exact hz _)) O))) ?_
    rintro ⟨z54,z55,z56,z57,z58,z59,z60,z61,z62⟩
    dsimp only
    refine R.kc O O (fun w hw=>iQ (kb k st dk lg (dU k.R (BM ⟨nth ((ws.drop 1).map bu) 0,nth ((ws.drop 1).map bu) 1⟩ (nth ((ws.drop 1).map bu) 2)))).2.2.2.2 w (by exact hw.okF bJ gy) (by exact ⟨(hE _).1,Int.le_trans (hE _).2 aC⟩)) ?_
    refine U ?_
    rw [show gG k st dk lg (wC ws)=_ from Zone]
    exact R.x2 (b_k,z54,z55,z56,z57,bB,z58,z59,z60,z61,z62) JQ [0,1,2,3,4]
   refine R.qg O (q.dQ O O h10) O<|U ?_
   rw [show gG k st dk lg (wC ws)=_ from Zone]
   exact R.x2 (b_k,dw,dx,dy,dA,bB,aE,au,av,ao,aZ) gj [2,3,4,5,6]
  rw [show gG k st dk lg (wC ws)=_ from Zone]
  exact R.x2 (b_k,dw,dx,dy,dA,bB,aE,au,av,ao,aZ) gj [2,3,4,5,6]
 refine R.s O (s.pre (fun w hw=>hw.nQ 0 _ (ag.ls (cz fQ 1 1) (ws.drop 1)) O yK (Sl.from (α:=ByteArray) (l:=ws) (i:=1) (hw.cy 0 O) ae)) (s.aH bZ [0,7] _ _ _ O O O mV O O (fun w own hw H=>qf (cz fQ 1 1) (ws.drop 1) w own H (by exact ⟨aG,fun x hx=>hw2 x (List.mem_of_mem_drop hx)⟩) af) O)) fun z63=>U ?_
 refine R.nb fun b3=>?_
 rw [show gG k st dk lg (wC ws)=_ from Zone]
 exact R.x2 (b_k,dw,dx,dy,dA,bB,aE,au,av,ao,aZ) gj [2,3,4,5,6]
theorem QK (gH:Nat)(se:Unit)(line:ByteArray)(b_k:Nat)(dw dx dy dA:Value)(k:fI)(bB:Nat)(aE:Value)(st:fu)(aF:Nat)(au av ao:Value)(dk:cq)(aZ:Nat)(lg:Lg)(w:World)(own:List Nat)(H:HN w own [ag.box gH [pV aF,pV b_k] 106,ag.box b_k [pV bB,dw,dx,dy,dA,iV k.R.ah,iV k.R.ai] 78,ag.box bB [pV aF,iV st.Epoch,iV st.Side,iV st.Size,iV st.First,pV aZ,aE] 132,ag.box aF [au,av,ao,iV dk.Fuse,.bool dk.Down] 120,ag.row 9 au dk.Kept,ag.row 9 av dk.Now,ag.row 196 ao dk.Wait,ag.box aZ [pV aF,iV lg.From,iV lg.Many,iV lg.First,iV lg.Next] 193] [ag.ls dw k.R.aj,ag.ls dx k.R.Things,ag.ls dy k.R.Held,ag.ls dA k.R.Notes,ag.ls aE st.Rows,bJ])(hC:CJ k st dk lg)(ha:(spl line).length=2->¬ wd (spl line) 0=⟨#[97,114,109]⟩):RS Tryz.prog 49 #[pV gH,.string line] H (jo k st dk lg line) (fun s (_:Nat×Value×Value×Value×Value×Nat×Value×Value×Value×Value×Nat) => .string s.2.2.2.2) (fun s z=>[ag.box gH [pV aF,pV z.1] 106,ag.box z.1 [pV z.2.2.2.2.2.1,z.2.1,z.2.2.1,z.2.2.2.1,z.2.2.2.2.1,iV s.1.R.ah,iV s.1.R.ai] 78,ag.box z.2.2.2.2.2.1 [pV aF,iV s.2.1.Epoch,iV s.2.1.Side,iV s.2.1.Size,iV s.2.1.First,pV z.2.2.2.2.2.2.2.2.2.2,z.2.2.2.2.2.2.1] 132,ag.box aF [z.2.2.2.2.2.2.2.1,z.2.2.2.2.2.2.2.2.1,z.2.2.2.2.2.2.2.2.2.1,iV s.2.2.1.Fuse,.bool s.2.2.1.Down] 120,ag.row 9 z.2.2.2.2.2.2.2.1 s.2.2.1.Kept,ag.row 9 z.2.2.2.2.2.2.2.2.1 s.2.2.1.Now,ag.row 196 z.2.2.2.2.2.2.2.2.2.1 s.2.2.1.Wait,ag.box z.2.2.2.2.2.2.2.2.2.2 [pV aF,iV s.2.2.2.1.From,iV s.2.2.2.1.Many,iV s.2.2.2.1.First,iV s.2.2.2.1.Next] 193]) (fun s z=>[ag.ls z.2.1 s.1.R.aj,ag.ls z.2.2.1 s.1.R.Things,ag.ls z.2.2.2.1 s.1.R.Held,ag.ls z.2.2.2.2.1 s.1.R.Notes,ag.ls z.2.2.2.2.2.2.1 s.2.1.Rows]):=by
 have dD:=H.cap 4 rfl;have dE:=H.ck 4 rfl
 have ew:=H.cap 5 rfl;have ey:=H.ck 5 rfl
 have dF:=H.cap 6 rfl;have dG:=H.ck 6 rfl
 have hG:=H.aL 0 rfl
 have gi:=H.aL 1 rfl
 have jd:=H.aL 2 rfl
 have hX:=H.aL 3 rfl
 have j1:=H.aL 4 rfl
 have sl:=y8 line;have sz:=fun (h:line.size<=60)=>(fun x hx=>Nat.le_trans (Xb hx) (Nat.le_trans h aC):∀x∈spl line,x.size<=100)
 refine R.eN H ?_
 refine C (60<line.size) ?_ ?_ <;> intro h1
 .
  refine R.kc O O (fun w hw=>(by have h_:=(fc 4 w (by exact hw.okF bJ gy) ae ae);rw [gV (n:=4) aC] at h_;exact h_)) ?_
  refine U ?_
  rw [show jo k st dk lg line=_ from tX]
  exact R.x1 (b_k,dw,dx,dy,dA,bB,aE,au,av,ao,aZ) bZ [0,1,2,3,4]
 have hw2:=sz ae;have hw3:((spl line).length<=200 /\ ∀x∈spl line,x.size<=100):=⟨ae,hw2⟩
 refine U ?_
 refine R.s O (s.aH bZ [] _ _ _ O O O Vz O O (fun w own hw H=>JG line (⟨#[32]⟩) w own H ae O) O) fun z1=>U ?_
 obtain ⟨x1,hx1⟩:=gE (spl line) 0
 have Tq:=hw2 x1 (List.mem_of_getElem? hx1);have QI:=dR hx1
 refine U ?_
 refine C (x1=⟨#[119,114,105,116,101]⟩) ?_ ?_ <;> intro h2
 .
  refine R.q (q.dZ O O h2) O<|U ?_
  refine C ((spl line).length=4) ?_ ?_ <;> intro h3
  .
   refine R.s O (s.aH bZ du _ _ _ O O O EO O O (fun w own hw H=>tJ gH () z1 (spl line) b_k dw dx dy dA k bB aE st aF au av ao dk aZ lg w own H af (by exact ⟨af,ae⟩)) O) ?_
   rintro ⟨z2,z3,z4,z5,z6,z7,z8,z9,kM⟩
   dsimp only
   refine U ?_
   refine R.q (q.not O) O<|U ?_
   refine R.cond O O (fun h4=>?_) (fun h4=>?_)
   .
    refine U ?_
    refine R.kc O O (fun w hw=>(by have h_:=(fc 4 w (by exact hw.okF bJ gy) ae ae);rw [gV (n:=4) aC] at h_;exact h_)) ?_
    refine U ?_
    rw [show jo k st dk lg line=_ from tX]
    exact R.x1 (b_k,z2,z3,z4,z5,bB,z6,z7,z8,z9,kM) bZ [0,1,2,3,4]
   refine U ?_
   rw [show jo k st dk lg line=_ from tX]
   exact R.x1 (b_k,z2,z3,z4,z5,bB,z6,z7,z8,z9,kM) bZ [0,1,2,3,4]
  refine C ((spl line).length=6) ?_ ?_ <;> intro h5
  .
   refine R.s O (s.aH bZ du _ _ _ O O O EO O O (fun w own hw H=>tJ gH () z1 (spl line) b_k dw dx dy dA k bB aE st aF au av ao dk aZ lg w own H af (by exact ⟨af,ae⟩)) O) ?_
   rintro ⟨lA,z12,mW,tQ,xl,wG,z17,uX,wH⟩
   dsimp only
   refine U ?_
   refine R.q (q.not O) O<|U ?_
   refine R.cond O O (fun h6=>?_) (fun h6=>?_)
   .
    refine U ?_
    refine R.kc O O (fun w hw=>(by have h_:=(fc 4 w (by exact hw.okF bJ gy) ae ae);rw [gV (n:=4) aC] at h_;exact h_)) ?_
    refine U ?_
    rw [show jo k st dk lg line=_ from tX]
    exact R.x1 (b_k,lA,z12,mW,tQ,bB,xl,wG,z17,uX,wH) bZ [0,1,2,3,4]
   refine U ?_
   rw [show jo k st dk lg line=_ from tX]
   exact R.x1 (b_k,lA,z12,mW,tQ,bB,xl,wG,z17,uX,wH) bZ [0,1,2,3,4]
  refine R.kc O O (fun w hw=>(by have h_:=(fc 4 w (by exact hw.okF bJ gy) ae ae);rw [gV (n:=4) aC] at h_;exact h_)) ?_
  refine U ?_
  rw [show jo k st dk lg line=_ from tX]
  exact R.x1 (b_k,dw,dx,dy,dA,bB,aE,au,av,ao,aZ) bZ [1,2,3,4,5]
 refine R.q (q.dQ O O h2) O<|U ?_
 refine C (x1=⟨#[115,101,110,100]⟩) ?_ ?_ <;> intro h7
 .
  refine R.qg O (q.dZ O O h7) O<|U ?_
  refine C ((spl line).length=4) ?_ ?_ <;> intro h8
  .
   refine R.s O (s.aH bZ du _ _ _ O O O EO O O (fun w own hw H=>tJ gH () z1 (spl line) b_k dw dx dy dA k bB aE st aF au av ao dk aZ lg w own H af (by exact ⟨af,ae⟩)) O) ?_
   rintro ⟨z20,z21,z22,z23,z24,z25,z26,z27,z28⟩
   dsimp only
   refine U ?_
   refine R.q (q.not O) O<|U ?_
   refine R.cond O O (fun h9=>?_) (fun h9=>?_)
   .
    refine U ?_
    refine R.kc O O (fun w hw=>(by have h_:=(fc 4 w (by exact hw.okF bJ gy) ae ae);rw [gV (n:=4) aC] at h_;exact h_)) ?_
    refine U ?_
    rw [show jo k st dk lg line=_ from tX]
    exact R.x1 (b_k,z20,z21,z22,z23,bB,z24,z25,z26,z27,z28) bZ [0,1,2,3,4]
   refine U ?_
   rw [show jo k st dk lg line=_ from tX]
   exact R.x1 (b_k,z20,z21,z22,z23,bB,z24,z25,z26,z27,z28) bZ [0,1,2,3,4]
  refine C ((spl line).length=6) ?_ ?_ <;> intro h10
  .
   refine R.s O (s.aH bZ du _ _ _ O O O EO O O (fun w own hw H=>tJ gH () z1 (spl line) b_k dw dx dy dA k bB aE st aF au av ao dk aZ lg w own H af (by exact ⟨af,ae⟩)) O) ?_
   rintro ⟨z29,z30,z31,z32,z33,z34,z35,z36,z37⟩
   dsimp only
   refine U ?_
   refine R.q (q.not O) O<|U ?_
   refine R.cond O O (fun h11=>?_) (fun h11=>?_)
   .
    refine U ?_
    refine R.kc O O (fun w hw=>(by have h_:=(fc 4 w (by exact hw.okF bJ gy) ae ae);rw [gV (n:=4) aC] at h_;exact h_)) ?_
    refine U ?_
    rw [show jo k st dk lg line=_ from tX]
    exact R.x1 (b_k,z29,z30,z31,z32,bB,z33,z34,z35,z36,z37) bZ [0,1,2,3,4]
   refine U ?_
   rw [show jo k st dk lg line=_ from tX]
   exact R.x1 (b_k,z29,z30,z31,z32,bB,z33,z34,z35,z36,z37) bZ [0,1,2,3,4]
  refine R.kc O O (fun w hw=>(by have h_:=(fc 4 w (by exact hw.okF bJ gy) ae ae);rw [gV (n:=4) aC] at h_;exact h_)) ?_
  refine U ?_
  rw [show jo k st dk lg line=_ from tX]
  exact R.x1 (b_k,dw,dx,dy,dA,bB,aE,au,av,ao,aZ) bZ [1,2,3,4,5]
 refine R.qg O (q.dQ O O h7) O<|U ?_
 refine C (x1=⟨#[103,105,118,101]⟩) ?_ ?_ <;> intro h12
 .
  refine R.q (q.dZ O O h12) O<|U ?_
  refine C ((spl line).length=7) ?_ ?_ <;> intro Pf
  .
   refine R.s O (s.aH bZ du _ _ _ O O O VA O O (fun w own hw H=>M1 gH () z1 (spl line) b_k dw dx dy dA k bB aE st aF au av ao dk aZ lg w own H af (by exact ⟨af,ae⟩)) O) ?_
   rintro ⟨z38,z39,z40,z41,z42,z43,z44,z45,z46⟩
   dsimp only
   refine U ?_
   refine R.q (q.not O) O<|U ?_
   refine R.cond O O (fun Si=>?_) (fun Si=>?_)
   .
    refine U ?_
    refine R.kc O O (fun w hw=>(by have h_:=(fc 4 w (by exact hw.okF bJ gy) ae ae);rw [gV (n:=4) aC] at h_;exact h_)) ?_
    refine U ?_
    rw [show jo k st dk lg line=_ from tX]
    exact R.x1 (b_k,z38,z39,z40,z41,bB,z42,z43,z44,z45,z46) bZ [0,1,2,3,4]
   refine U ?_
   rw [show jo k st dk lg line=_ from tX]
   exact R.x1 (b_k,z38,z39,z40,z41,bB,z42,z43,z44,z45,z46) bZ [0,1,2,3,4]
  refine R.kc O O (fun w hw=>(by have h_:=(fc 4 w (by exact hw.okF bJ gy) ae ae);rw [gV (n:=4) aC] at h_;exact h_)) ?_
  refine U ?_
  rw [show jo k st dk lg line=_ from tX]
  exact R.x1 (b_k,dw,dx,dy,dA,bB,aE,au,av,ao,aZ) bZ [1,2,3,4,5]
 refine R.q (q.dQ O O h12) O<|U ?_
 refine R.s O (s.aH bZ du _ _ _ O O O VB O O (fun w own hw H=>QJ gH () z1 (spl line) b_k dw dx dy dA k bB aE st aF au av ao dk aZ lg w own H af (by exact ⟨af,ae⟩) af) O) ?_
 rintro ⟨z47,z48,z49,z50,z51,z52,z53,z54,z55,z56,z57⟩
 dsimp only
 refine U ?_
 refine R.q (q.not O) O<|U ?_
 refine R.cond O O (fun XJ=>?_) (fun XJ=>?_)
 .
  refine U ?_
  refine R.kc O O (fun w hw=>(by have h_:=(fc 4 w (by exact hw.okF bJ gy) ae ae);rw [gV (n:=4) aC] at h_;exact h_)) ?_
  refine U ?_
  rw [show jo k st dk lg line=_ from tX]
  exact R.x1 (z47,z48,z49,z50,z51,z52,z53,z54,z55,z56,z57) bZ [0,1,2,3,4]
 refine U ?_
 rw [show jo k st dk lg line=_ from tX]
 exact R.x1 (z47,z48,z49,z50,z51,z52,z53,z54,z55,z56,z57) bZ [0,1,2,3,4]
end
section
open Go Go.RowKit
attribute [local irreducible] Run Rg Rq Qt Qa Stp Dg Do Dm bQ
attribute [local irreducible] bL cC bf jE eA dNew dU kb fB mM bY bu spl jo iC
theorem Iq (JL:Value)(ls:List ByteArray)(w:World)(own:List Nat)(H:HN w own [] [ag.ls JL ls,bJ])(hl:ls.length<=80)(hn:∀s∈ls,(spl s).length=2->¬ wd (spl s) 0=⟨#[97,114,109]⟩):RC Tryz.prog 19 #[JL] H (fun z:Value => .tuple #[z,.nilIface]) (fun z=>[ag.row 9 z (iC nR ls)]) (fun _=>[]):=by
 have abt:=H.aL 0 rfl
 obtain ⟨w1,w2,w3,w4,w5,w6⟩:=wm;have w7:=w6.anew ae
 have x1:(tU (dNew (Int.toNat 200))).2.2=0:=w1;have x2:(tU (dNew (Int.toNat 200))).2.1.Down=false:=w7.1;have x3:jE (tU (dNew (Int.toNat 200))).2.1=0:=w7.2.1;have x4:gw (tU (dNew (Int.toNat 200))).2.1.Now.length 90000 (tU (dNew (Int.toNat 200))).2.1/\(tU (dNew (Int.toNat 200))).2.1.Now.length<=200:=w7.2.2.1;have x5:(bY (bf (tU (dNew (Int.toNat 200))).2.1).c.Rows).2=0:=w7.2.2.2.1;have x6:(bf (tU (dNew (Int.toNat 200))).2.1).c.Rows.length<=60 /\ ∀c∈(bf (tU (dNew (Int.toNat 200))).2.1).c.Rows,c.Key.size<=1000/\c.Val.size<=1000:=w7.2.2.2.2.1
 refine R.eN H ?_
 refine R.s O (s.aH [0] [] _ _ _ O O O YK O O (fun w own hw H=>Pd 200 w own H ae) O) ?_
 rintro ⟨z1,z2,z3,z4⟩
 dsimp only
 refine U ?_
 refine R.s O (s.aH bV [1] _ _ _ O O O YL O O (fun w own hw H=>Ic z1 z2 z3 z4 (dNew (Int.toNat 200)) w own H eH) O) ?_
 rintro ⟨z5,z6,z7⟩
 dsimp only
 refine U ?_
 refine R.nb fun b1=>?_
 refine R.s O (s.aH fw [1] _ _ _ O O O Ud O O (fun w own hw H=>DX b1 (⟨.pointer none⟩:Xq) z1 z5 z6 z7 (tU (dNew (Int.toNat 200))).2.1 w own H af af af af af) O) ?_
 rintro ⟨z8,z9,kM,lA,z12,mW,tQ,xl,wG,z17,uX⟩
 dsimp only
 refine U ?_
 refine R.row0 (α:=ByteArray) 9<|R.loop (fun g_:Nat×Value×(List ByteArray)×Unit×cq×Value×Value×Value×fI×Value×Value×Value×Value×Nat×fu×Value×Nat×Lg×Nat=>[(6,pV b1),(7,g_.2.1),(34,JL),(35,iV (ls.length:Int)),(36,iV (g_.1:Int))]) (fun g_=>[ag.row 9 g_.2.1 g_.2.2.1,ag.box b1 [pV z1,pV g_.2.2.2.2.2.2.2.2.2.2.2.2.2.1] 106,ag.box z1 [g_.2.2.2.2.2.1,g_.2.2.2.2.2.2.1,g_.2.2.2.2.2.2.2.1,iV g_.2.2.2.2.1.Fuse,.bool g_.2.2.2.2.1.Down] 120,ag.row 9 g_.2.2.2.2.2.1 g_.2.2.2.2.1.Kept,ag.row 9 g_.2.2.2.2.2.2.1 g_.2.2.2.2.1.Now,ag.row 196 g_.2.2.2.2.2.2.2.1 g_.2.2.2.2.1.Wait,ag.box g_.2.2.2.2.2.2.2.2.2.2.2.2.2.1 [pV g_.2.2.2.2.2.2.2.2.2.2.2.2.2.2.2.2.1,g_.2.2.2.2.2.2.2.2.2.1,g_.2.2.2.2.2.2.2.2.2.2.1,g_.2.2.2.2.2.2.2.2.2.2.2.1,g_.2.2.2.2.2.2.2.2.2.2.2.2.1,iV g_.2.2.2.2.2.2.2.2.1.R.ah,iV g_.2.2.2.2.2.2.2.2.1.R.ai] 78,ag.box g_.2.2.2.2.2.2.2.2.2.2.2.2.2.2.2.2.1 [pV z1,iV g_.2.2.2.2.2.2.2.2.2.2.2.2.2.2.1.Epoch,iV g_.2.2.2.2.2.2.2.2.2.2.2.2.2.2.1.Side,iV g_.2.2.2.2.2.2.2.2.2.2.2.2.2.2.1.Size,iV g_.2.2.2.2.2.2.2.2.2.2.2.2.2.2.1.First,pV g_.2.2.2.2.2.2.2.2.2.2.2.2.2.2.2.2.2.2,g_.2.2.2.2.2.2.2.2.2.2.2.2.2.2.2.1] 132,ag.box g_.2.2.2.2.2.2.2.2.2.2.2.2.2.2.2.2.2.2 [pV z1,iV g_.2.2.2.2.2.2.2.2.2.2.2.2.2.2.2.2.2.1.From,iV g_.2.2.2.2.2.2.2.2.2.2.2.2.2.2.2.2.2.1.Many,iV g_.2.2.2.2.2.2.2.2.2.2.2.2.2.2.2.2.2.1.First,iV g_.2.2.2.2.2.2.2.2.2.2.2.2.2.2.2.2.2.1.Next] 193,ag.held w own]) (fun g_=>[ag.ls g_.2.2.2.2.2.2.2.2.2.1 g_.2.2.2.2.2.2.2.2.1.R.aj,ag.ls g_.2.2.2.2.2.2.2.2.2.2.1 g_.2.2.2.2.2.2.2.2.1.R.Things,ag.ls g_.2.2.2.2.2.2.2.2.2.2.2.1 g_.2.2.2.2.2.2.2.2.1.R.Held,ag.ls g_.2.2.2.2.2.2.2.2.2.2.2.2.1 g_.2.2.2.2.2.2.2.2.1.R.Notes,ag.ls g_.2.2.2.2.2.2.2.2.2.2.2.2.2.2.2.1 g_.2.2.2.2.2.2.2.2.2.2.2.2.2.2.1.Rows,ag.ls z12 (⟨(bY (bf (tU (dNew (Int.toNat 200))).2.1).c.Rows).1⟩:fI).R.aj,ag.ls mW (⟨(bY (bf (tU (dNew (Int.toNat 200))).2.1).c.Rows).1⟩:fI).R.Things,ag.ls tQ (⟨(bY (bf (tU (dNew (Int.toNat 200))).2.1).c.Rows).1⟩:fI).R.Held,ag.ls xl (⟨(bY (bf (tU (dNew (Int.toNat 200))).2.1).c.Rows).1⟩:fI).R.Notes,ag.ls z17 (bf (tU (dNew (Int.toNat 200))).2.1).c.Rows,ag.ls JL ls,bJ]) (fun g_=>g_.1<=ls.length/\CI g_.1 g_.2.2.2.2.2.2.2.2.1 g_.2.2.2.2.2.2.2.2.2.2.2.2.2.2.1 g_.2.2.2.2.1 g_.2.2.2.2.2.2.2.2.2.2.2.2.2.2.2.2.2.1/\g_.2.2.1++iC g_.2.2.2.2.2.2.2.2.1.R (ls.drop g_.1)=iC nR ls) (fun g_=>ls.length-g_.1) (0,nS,[],(),(tU (dNew (Int.toNat 200))).2.1,z8,z9,kM,(⟨(bY (bf (tU (dNew (Int.toNat 200))).2.1).c.Rows).1⟩:fI),z12,mW,tQ,xl,lA,(bf (tU (dNew (Int.toNat 200))).2.1).c,z17,wG,(bf (tU (dNew (Int.toNat 200))).2.1).L,uX) O (by (try dsimp only);exact ⟨ae,Tn,by show []++iC KW.R (ls.drop 0)=_;rw [w5];rfl⟩) (sF O) (dX jH [0,1,2,3,4,0,1,2,3,4,5,6] O) ?_
 rintro ⟨i,v,out,se,em,Tw,Xt,Tx,kc,abu,abv,abw,abx,bk,sc,Tz,bs,lg,bl⟩ ⟨hi,hV,HO⟩
 dsimp only at *
 have hC:CJ kc sc em lg:=⟨i,ae,hV⟩;have hol:=K9 HO
 refine U ?_
 refine C (i<ls.length) ?_ ?_ <;> intro h1
 .
  obtain ⟨x1,hx1⟩:=gE ls i
  have acb:=hn x1 (List.mem_of_getElem? hx1)
  refine U ?_
  refine R.s O (s.aH [1,6,7,2,3,4,5,8,0,9] [0,1,2,3,4,11] _ _ _ O O O YV O O (fun w own hw H=>QK b1 () x1 bk abu abv abw abx kc bs Tz sc z1 Tw Xt Tx em bl lg w own H af af) O) ?_
  rintro ⟨wH,z20,z21,z22,z23,z24,z25,z26,z27,z28,z29⟩
  dsimp only
  refine R.s O (s.bs (l:=([(jo kc sc em lg x1).2.2.2.2]:List ByteArray)) dN e8 O O O O O O O) fun b2=>?_
  refine R.s O (s.app 9 _ O O O (cI 0 O) KJ aG aG (fun _=>rfl) O) fun v1=>U ?_
  refine R.back (i+1,v1,out++([(jo kc sc em lg x1).2.2.2.2]),(),(jo kc sc em lg x1).2.2.1,z26,z27,z28,(jo kc sc em lg x1).1,z20,z21,z22,z23,wH,(jo kc sc em lg x1).2.1,z25,z24,(jo kc sc em lg x1).2.2.2.1,z29) O (by ((try dsimp only);obtain ⟨q1,q2⟩:=Qz hV ae hx1 HO;exact ⟨ae,q1,q2⟩)) aJ (sF O) (cw [9,1,4,5,6,7,2,3,8,10] [0,1,2,3,4,10,11,12,13,14,15,16] O)
 rw [show iC nR ls=_ from run_end af HO]
 exact R.x2 v [0,9] []
theorem M3 (JL:Value)(ls:List ByteArray)(w:World)(own:List Nat)(H:HN w own [] [ag.ls JL ls])(hl:¬ ls.length<=80):RC Tryz.prog 19 #[JL] H (fun _:Unit => .tuple #[nS,bQ 2]) (fun _=>[]) (fun _=>[]):=by
 have abt:=H.aL 0 rfl
 refine R.eN H ?_
 exact R.x2 () [0] []
end
section
open Go
def w10:List ak:=[⟨1,1,7,0,0⟩,⟨2,2,7,0,0⟩,⟨3,1,2,7,1⟩]
def t10:List aA:=[⟨1,2,⟨#[]⟩⟩,⟨2,1,⟨#[104,97,121]⟩⟩]
def r9:aB:=⟨w10++[⟨4,2,1,0,2⟩],t10,[⟨⟨1,0⟩,1⟩,⟨⟨1,1⟩,2⟩,⟨⟨2,0⟩,3⟩,⟨⟨2,1⟩,4⟩],[],5,3⟩
def r10:aB:=⟨w10,t10,[⟨⟨1,0⟩,1⟩,⟨⟨1,1⟩,2⟩,⟨⟨2,0⟩,3⟩],[],5,3⟩
def stA (r:aB)(l:List ByteArray):aB:=l.foldl (fun r s=>(tW r (iu s)).1) r
theorem Ir:∀ (l m:List ByteArray) (r:aB),iC r (l++m)=iC r l++iC (stA r l) m
 | [],m,r=>rfl
 | s::l,m,r=>congrArg _ (Ir l m _)
theorem aby:br w10=[1,2]:=by unfold br;rw [sW (show eE w10=0 by decide +kernel)];decide +kernel
theorem aaf:dI r9 ⟨1,1⟩=(r10,0):=by
 unfold dI
 rw [if_pos (by decide +kernel),show Et r9.aj (aI r9 ⟨1,1⟩).1.ID=w10 by decide +kernel]
 unfold ez
 show (gI 1 _,(0:Int))=_
 unfold gI nZ fx
 dsimp only
 rw [aby]
 decide +kernel
theorem aag:iu ⟨#[114,101,118,111,107,101,32,49,32,49]⟩ = .act (Ii ⟨1,1⟩):=ay
abbrev Xu:List ByteArray:=[⟨#[112,111,114,116,32,49,32,48]⟩,⟨#[99,101,108,108,32,49,32,49]⟩,⟨#[103,105,118,101,32,49,32,48,32,50,32,48,32,97,32,55]⟩,⟨#[119,114,105,116,101,32,49,32,49,32,104,97,121]⟩,⟨#[115,101,110,100,32,50,32,48,32,104,105]⟩,⟨#[116,97,107,101,32,49,32,48]⟩,⟨#[103,105,118,101,32,49,32,49,32,50,32,49,32,108,32,48]⟩,⟨#[114,101,97,100,32,50,32,49]⟩,⟨#[119,114,105,116,101,32,50,32,49,32,120]⟩,⟨#[114,101,118,111,107,101,32,49,32,49]⟩,⟨#[114,101,97,100,32,50,32,49]⟩,⟨#[115,104,111,119,32,49,32,48]⟩,⟨#[97,108,108]⟩,⟨#[102,108,121]⟩]
abbrev hiA:List ByteArray:=[⟨#[111,107]⟩,⟨#[111,107]⟩,⟨#[111,107]⟩,⟨#[111,107]⟩,⟨#[111,107]⟩,⟨#[104,105,32,98,97,100,103,101,32,55,32,115,108,111,116,32,45,49]⟩,⟨#[111,107]⟩,⟨#[104,97,121]⟩,⟨#[101,114,114,111,114,32,55]⟩,⟨#[111,107]⟩,⟨#[101,114,114,111,114,32,53]⟩,⟨#[49,32,111,102,32,49,32,108,97,103,32,98,97,100,103,101,32,48,32,102,114,111,109,32,48,32,98,101,110,101,97,116,104,32,49]⟩,⟨#[51,32,50,32,48]⟩,⟨#[101,114,114,111,114,32,52]⟩]
abbrev hi9:List ByteArray:=[⟨#[111,107]⟩,⟨#[111,107]⟩,⟨#[111,107]⟩,⟨#[111,107]⟩,⟨#[111,107]⟩,⟨#[104,105,32,98,97,100,103,101,32,55,32,115,108,111,116,32,45,49]⟩,⟨#[111,107]⟩,⟨#[104,97,121]⟩,⟨#[101,114,114,111,114,32,55]⟩]
theorem QL:iC nR Xu=hiA:=by
 show iC nR ([⟨#[112,111,114,116,32,49,32,48]⟩,⟨#[99,101,108,108,32,49,32,49]⟩,⟨#[103,105,118,101,32,49,32,48,32,50,32,48,32,97,32,55]⟩,⟨#[119,114,105,116,101,32,49,32,49,32,104,97,121]⟩,⟨#[115,101,110,100,32,50,32,48,32,104,105]⟩,⟨#[116,97,107,101,32,49,32,48]⟩,⟨#[103,105,118,101,32,49,32,49,32,50,32,49,32,108,32,48]⟩,⟨#[114,101,97,100,32,50,32,49]⟩,⟨#[119,114,105,116,101,32,50,32,49,32,120]⟩]++[⟨#[114,101,118,111,107,101,32,49,32,49]⟩,⟨#[114,101,97,100,32,50,32,49]⟩,⟨#[115,104,111,119,32,49,32,48]⟩,⟨#[97,108,108]⟩,⟨#[102,108,121]⟩])=_
 rw [Ir,show stA nR _=r9 by decide +kernel,show iC nR _=hi9 by decide +kernel]
 show _++((tW r9 (iu ⟨#[114,101,118,111,107,101,32,49,32,49]⟩)).2::iC (tW r9 (iu ⟨#[114,101,118,111,107,101,32,49,32,49]⟩)).1 [⟨#[114,101,97,100,32,50,32,49]⟩,⟨#[115,104,111,119,32,49,32,48]⟩,⟨#[97,108,108]⟩,⟨#[102,108,121]⟩])=_
 rw [aag]
 show _++(oH (dI r9 ⟨1,1⟩).2::iC (if (dI r9 ⟨1,1⟩).2=0 then (dI r9 ⟨1,1⟩).1 else r9) _)=_
 rw [aaf]
 show hi9++(oH 0::iC r10 [⟨#[114,101,97,100,32,50,32,49]⟩,⟨#[115,104,111,119,32,49,32,48]⟩,⟨#[97,108,108]⟩,⟨#[102,108,121]⟩])=_
 decide +kernel
theorem QM:∀s∈Xu,(spl s).length=2->¬ wd (spl s) 0=⟨#[97,114,109]⟩:=by decide +kernel
theorem q.neg {P:Program}{n:Nat}{we:World}{X:List Nat}{L:Fm}{B F:List ag}{x:Operand}{xT ty:TypeId}{kd:IntKind}{m r:Int}(hx:ev L x=some (.int kd m))(hr:kd.wrap (-m)=r):Qt P n we X L B F (.unOp .neg xT x) ty (.int kd r):=fun _ _ _ _ a w ha hw=>by
 simp [execOp,ha.ev hx,Op.unary,Op.intArith,hr]
end
end Go.Proofs.YtnmpibjlnninjaaGreatDoor
