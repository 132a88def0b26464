import Derived.Test.YtnmpibjlnninjaaGreatDoorCT26
namespace Go.Proofs.YtnmpibjlnninjaaGreatDoor
set_option linter.unusedVariables false
set_option linter.unusedSimpArgs false
set_option maxRecDepth 100000
set_option maxHeartbeats 90000000
section
open Go Go.RowKit
attribute [local irreducible] Run Rg Rq Qt Qa Stp Dg Do Dm bQ
attribute [local irreducible] bL cC bf jE eA dNew dU kb fB mM bY bu spl
theorem fc (er:Int)(w:World)(ht:BD w)(he:0<=er/\er<=100)(h0:¬ er=0):Calls Tryz.prog 109 #[bQ er] w fun e w'=>e = .returned (.string (ke er))/\Ext w w':=by
 have ip:=dH (n:=er) ae
 refine R.enter [] [(0,bQ er)] Tryz.func109 O O O O<|R.pH (r:=bJ) ht (wt ht)<|U ?_
 refine R.q (q.Yc O ae Tryz.underlying95) O<|U ?_
 refine R.kc O O (fun w hw=>gF er w (by exact hw.okF bJ (by repeat (exact List.Mem.head _))) ae)<|R.q (q.cat O O (by simp only [ByteArray.size_append,bg,List.length_cons,List.length_nil];omega)) O<|U ?_
 refine R.rt ?_
 rfl
theorem iQ (er:Int)(w:World)(ht:BD w)(he:0<=er/\er<=100):Calls Tryz.prog 175 #[bQ er] w fun e w'=>e = .returned (.string (oH er))/\Ext w w':=by
 refine R.enter [] [(0,bQ er)] Tryz.func175 O O O O<|R.pH (r:=bJ) ht (wt ht)<|U ?_
 refine C (er=0) ?_ ?_ <;> intro h1
 .
  refine R.rt ?_
  (unfold oH;(rw [if_pos af];done))
 refine R.kc O O (fun w hw=>fc er w (by exact hw.okF bJ (by repeat (exact List.Mem.head _))) af af)<|U ?_
 refine R.rt ?_
 (unfold oH;(rw [if_neg af];done))
theorem Z7 {p:Prop}(h:p:=by (repeat first|rewrite [dR (by assumption)] | rewrite [if_pos (by assumption)] | rewrite [if_neg (by assumption)] | rewrite [if_pos (by omega)] | rewrite [if_neg (by omega)]);rfl):p:=h
def nn (w:List ByteArray):List Int:=if fP w=true then w.map bu else []
theorem abk {s:ByteArray} : -9223372036854775808<=aW s/\aW s<=9223372036854775807:=by
 unfold aW
 cases h:Lib.atoiAll s.data.toList with
 | ok n=>exact Lib.atoiAll_bounds h
 | _=>decide
theorem wE {w:List ByteArray}{i:Nat}{x:ByteArray}(hx:w[i]? = some x)(h:¬ 0<=bu x):(nn w,fP w)=([],false):=by
 have hb:fP w=false:=by
  unfold fP;rw [List.all_eq_false]
  exact ⟨x,List.mem_of_getElem? hx,by simpa using h⟩
 unfold nn;rw [hb];rfl
theorem La {w:List ByteArray}{i:Nat}{l:List Int}(hi:¬ i<w.length)(hl:l=(w.take i).map bu)(ha:∀j x,j<i->w[j]? = some x->0<=bu x):(nn w,fP w)=(l,true):=by
 have hb:fP w=true:=by
  unfold fP;rw [List.all_eq_true]
  intro x hx
  obtain ⟨j,hj⟩:=List.mem_iff_getElem?.1 hx
  have:=(List.getElem?_eq_some_iff.1 hj).1
  simpa using ha j x ae hj
 unfold nn;rw [hb,hl,List.take_of_length_le ae];rfl
theorem QB {w:List ByteArray}{i:Nat}{x:ByteArray}{l:List Int}(hx:w[i]? = some x)(hi:i<=w.length)(hl:l=(w.take i).map bu)(ha:∀j x,j<i->w[j]? = some x->0<=bu x)(h:bu x=aW x)(h0:¬ aW x<0) :
 i+1<=w.length/\l++[aW x]=(w.take (i+1)).map bu /\ ∀j x,j<i+1->w[j]? = some x->0<=bu x:=by
 have:=(List.getElem?_eq_some_iff.1 hx).1
 refine ⟨ae,by rw [hl,List.take_add_one,hx];simp [h],fun j y hj hy=>?_⟩
 by_cases e:j=i
 .subst e;rw [hx] at hy;injection hy with hy;subst hy;omega
 exact ha j y ae hy
theorem Ip (fQ:Value)(ws:List ByteArray)(w:World)(own:List Nat)(H:HN w own [] [ag.ls fQ ws,bJ])(hw:ws.length<=200 /\ ∀x∈ws,x.size<=100):RC Tryz.prog 172 #[fQ] H (fun z:Value => .tuple #[z,.bool (fP ws)]) (fun z=>[ag.row 3 z (nn ws)]) (fun _=>[]):=by
 have MY:=H.aL 0 rfl
 obtain ⟨hw1,hw2⟩:=hw
 refine R.eN H ?_
 refine R.row0 (α:=Int) 3<|R.loop (fun g_:Nat×Value×(List Int)=>[(4,g_.2.1),(9,fQ),(10,iV (ws.length:Int)),(11,iV (g_.1:Int))]) (fun g_=>[ag.row 3 g_.2.1 g_.2.2,ag.held w own]) (fun g_=>[ag.ls fQ ws,bJ]) (fun g_=>g_.1<=ws.length/\g_.2.2=(ws.take g_.1).map bu /\ ∀j x,j<g_.1->ws[j]? = some x->0<=bu x) (fun g_=>ws.length-g_.1) (0,nS,[]) O (by exact ⟨ae,rfl,fun j x hj=>absurd hj (Nat.not_lt_zero _)⟩) (sF O) (dX [0,1] [0,1] O) ?_
 rintro ⟨i,u,l⟩ ⟨hi,HL,HA⟩
 dsimp only at *
 have hll:l.length=i:=(by rw [HL];simp;omega)
 refine U ?_
 refine C (i<ws.length) ?_ ?_ <;> intro h1
 .
  obtain ⟨x1,hx1⟩:=gE ws i
  have Tq:=hw2 x1 (List.mem_of_getElem? hx1);have ab7:=abk (s:=x1)
  refine U ?_
  refine C (UK x1=true) ?_ ?_ <;> intro h2
  .
   refine R.kc O O (fun w hw=>Td x1 w af af)<|U ?_
   refine R.kc O O (fun w hw=>gF (aW x1) w (by exact hw.okF bJ gy) af) ?_
   refine U ?_
   refine C (bS (aW x1)=x1) ?_ ?_ <;> intro h3
   .
    refine R.qg O (q.oO O O h3) O<|U ?_
    refine C (aW x1<0) ?_ ?_ <;> intro h4
    .
     refine R.row0 (α:=Int) 3 ?_
     have hz:(nn ws,fP ws)=([],false):=by (exact wE hx1 (Fo (.inr (.inr (.inl af)))))
     have hz0:nn ws=[]:=congrArg (fun t_=>t_.1) hz
     rw [hz0]
     have hz1:fP ws=false:=congrArg (fun t_=>t_.2) hz
     rw [hz1]
     exact R.x2 nS [0,2] []
    refine C (999<aW x1) ?_ ?_ <;> intro h5
    .
     refine R.row0 (α:=Int) 3 ?_
     have hz:(nn ws,fP ws)=([],false):=by (exact wE hx1 (Fo (.inr (.inr (.inr af)))))
     have hz0:nn ws=[]:=congrArg (fun t_=>t_.1) hz
     rw [hz0]
     have hz1:fP ws=false:=congrArg (fun t_=>t_.2) hz
     rw [hz1]
     exact R.x2 nS [0,2] []
    refine R.s O (s.bs (l:=([aW x1]:List Int)) kx jW O O O O O O O) fun b1=>?_
    refine R.ap fun v1=>?_
    refine R.back (i+1,v1,(l++([aW x1]))) O (by exact QB hx1 ae HL HA (Tb af af af) af) aJ (sF O) (cw [1,2] [0,1] O)
   refine R.qg O (q.rh O O h3) O<|U ?_
   refine R.row0 (α:=Int) 3 ?_
   have hz:(nn ws,fP ws)=([],false):=by (exact wE hx1 (Fo (.inr (.inl af))))
   have hz0:nn ws=[]:=congrArg (fun t_=>t_.1) hz
   rw [hz0]
   have hz1:fP ws=false:=congrArg (fun t_=>t_.2) hz
   rw [hz1]
   exact R.x2 nS [0,2] []
  refine R.s O (s.aH [0,1] [1] _ _ _ O O O O5 O O (fun w own hw H=>Te x1 w own H af af) O) ?_
  rintro ⟨z1,z2⟩
  dsimp only
  refine U ?_
  refine R.row0 (α:=Int) 3 ?_
  have hz:(nn ws,fP ws)=([],false):=by (exact wE hx1 (Fo (.inl af)))
  have hz0:nn ws=[]:=congrArg (fun t_=>t_.1) hz
  rw [hz0]
  have hz1:fP ws=false:=congrArg (fun t_=>t_.2) hz
  rw [hz1]
  exact R.x2 nS [0,2] []
 have hz:(nn ws,fP ws)=(l,true):=by (exact La af HL HA)
 have hz0:nn ws=l:=congrArg (fun t_=>t_.1) hz
 rw [hz0]
 have hz1:fP ws=true:=congrArg (fun t_=>t_.2) hz
 rw [hz1]
 exact R.x2 u [0,1] []
theorem iR (t:ByteArray)(w:World):Calls Tryz.prog 174 #[.string t] w fun e w'=>e = .returned (.string (sP t))/\Ext w w':=by
 refine R.eV ?_
 refine C (t=⟨#[45]⟩) ?_ ?_ <;> intro h1
 .
  refine R.q (q.dZ O O h1) O<|U ?_
  refine R.rt ?_
  (unfold sP;(rw [if_pos af];done))
 refine R.q (q.dQ O O h1) O<|U ?_
 refine R.rt ?_
 (unfold sP;(rw [if_neg af];done))
theorem DV (t:ByteArray)(w:World):Calls Tryz.prog 226 #[.string t] w fun e w'=>e = .returned (.string (qc t))/\Ext w w':=by
 refine R.eV ?_
 refine C (t=⟨#[]⟩) ?_ ?_ <;> intro h1
 .
  refine R.q (q.dZ O O h1) O<|U ?_
  refine R.rt ?_
  (unfold qc;(rw [if_pos af];done))
 refine R.q (q.dQ O O h1) O<|U ?_
 refine R.rt ?_
 (unfold qc;(rw [if_neg af];done))
theorem je (QC:Value)(n:List Int)(w:World)(s_n:Sl w QC n)(hn:2<=n.length):Calls Tryz.prog 173 #[QC] w fun e w'=>e = .returned (Place.val (⟨nth n 0,nth n 1⟩:Place))/\Ext w w':=by
 have b_n:=s_n.fS
 refine R.eV ?_
 refine R.nb fun b1=>?_
 obtain ⟨x1,hx1⟩:=gE n 0
 obtain ⟨x2,hx2⟩:=gE n 1
 refine R.cO (fuel:=8) [] O O mixed O<|D.l du [] [] O<|U ?_
 refine D.p 7 O [] [] (s.st 0 _ O O O O (.inl gY) O O O O) fun _=>?_
 exact D.done<|R.rr1 O Tryz.results173 (RV.cell 0 O O gY) (congrArg Place.val (show (⟨x1,x2⟩:Place)=(⟨nth n 0,nth n 1⟩:Place) from by (simp only [nth, *,Option.getD_some])))
theorem kr (b_k:Nat)(dw dx dy dA:Value)(k:fI)(g_a:FuncId)(c_a:List Value)(X_a U_a Y_a:ag)(a:jy)(bB:Nat)(aE:Value)(st:fu)(aF:Nat)(au av ao:Value)(dk:cq)(aZ:Nat)(lg:Lg)(w:World)(own:List Nat)(H:HN w own [ag.box b_k [pV bB,dw,dx,dy,dA,iV k.R.ah,iV k.R.ai] 78,X_a,ag.box bB [pV aF,iV st.Epoch,iV st.Side,iV st.Size,iV st.First,pV aZ,aE] 132,ag.box aF [au,av,ao,iV dk.Fuse,.bool dk.Down] 120,ag.row 9 au dk.Kept,ag.row 9 av dk.Now,ag.row 196 ao dk.Wait,ag.box aZ [pV aF,iV lg.From,iV lg.Many,iV lg.First,iV lg.Next] 193] [ag.ls dw k.R.aj,ag.ls dx k.R.Things,ag.ls dy k.R.Held,ag.ls dA k.R.Notes,Y_a,ag.ls aE st.Rows,bJ])(abl:dv g_a)(C_a:Clo g_a c_a X_a U_a Y_a a k.R)(hD:gw dk.Now.length 60000 dk/\dk.Now.length<=200/\166<=dk.Now.length)(hS:0<=st.Epoch/\st.Epoch<=1000000000/\0<=st.Side/\st.Side<=1/\0<=lg.Many/\lg.Many<=1000/\1<=lg.First/\lg.First<=1000000000/\0<=lg.From/\lg.From<=1000/\0<=lg.Next/\lg.Next<=1000)(hl:st.Rows.length<=60)(hF:∀c∈st.Rows,iT c=0)(hk:Ok k.R)(hI:Inv k.R)(hz:(dU k.R a).2=0->Ok (dU k.R a).1):RS Tryz.prog 42 #[pV b_k,.func (.func g_a) #[] c_a.toArray] H (kb k st dk lg (dU k.R a)) (fun s (_:Value×Value×Value×Value×Value×Value×Value×Value×Nat)=>bQ s.2.2.2.2) (fun s z=>[ag.box b_k [pV bB,z.1,z.2.1,z.2.2.1,z.2.2.2.1,iV s.1.R.ah,iV s.1.R.ai] 78,ag.box bB [pV aF,iV s.2.1.Epoch,iV s.2.1.Side,iV s.2.1.Size,iV s.2.1.First,pV z.2.2.2.2.2.2.2.2,z.2.2.2.2.1] 132,ag.box aF [z.2.2.2.2.2.1,z.2.2.2.2.2.2.1,z.2.2.2.2.2.2.2.1,iV s.2.2.1.Fuse,.bool s.2.2.1.Down] 120,ag.row 9 z.2.2.2.2.2.1 s.2.2.1.Kept,ag.row 9 z.2.2.2.2.2.2.1 s.2.2.1.Now,ag.row 196 z.2.2.2.2.2.2.2.1 s.2.2.1.Wait,ag.box z.2.2.2.2.2.2.2.2 [pV aF,iV s.2.2.2.1.From,iV s.2.2.2.1.Many,iV s.2.2.2.1.First,iV s.2.2.2.1.Next] 193,U_a]) (fun s z=>[ag.ls z.1 s.1.R.aj,ag.ls z.2.1 s.1.R.Things,ag.ls z.2.2.1 s.1.R.Held,ag.ls z.2.2.2.1 s.1.R.Notes,ag.ls z.2.2.2.2.1 s.2.1.Rows]):=by
 have dD:=H.cap 4 rfl;have dE:=H.ck 4 rfl
 have ew:=H.cap 5 rfl;have ey:=H.ck 5 rfl
 have dF:=H.cap 6 rfl;have dG:=H.ck 6 rfl
 have hG:=H.aL 0 rfl
 have gi:=H.aL 1 rfl
 have jd:=H.aL 2 rfl
 have hX:=H.aL 3 rfl
 have j1:=H.aL 5 rfl
 have g0:=jt hI;have g1:=yY hI a;have g2:=p6 (r:=k.R) a;have g3:=fun (h:(dU k.R a).2=0)=>jt (g1 h).1
 refine R.eN H ?_
 refine R.s O (s.aH bZ bm _ _ _ O O O Uc O O (fun w own hw H=>DG dw dx dy dA k.R w own H af) O) ?_
 rintro ⟨z1,z2,z3,z4⟩
 dsimp only
 refine R.s O (s.aH [1,0,2,3,4,5,6,7,8] [0,1,2,3,8] _ _ _ O O O abl O O (fun w own hw H=>C_a _ _ _ _ w own H) O) ?_
 rintro ⟨z5,z6,z7,z8⟩
 dsimp only
 refine U ?_
 refine R.nb fun b1=>?_
 refine C ((dU k.R a).2=0) ?_ ?_ <;> intro h1
 .
  have hk2:=hz af;have hI2:=(g1 af).1;have g4:(lL (vT (aY k.R) (aY (dU k.R a).1))).length<=59:=(g1 af).2;have g5:=g3 af
  refine U ?_
  refine R.cO (fuel:=9) jH O O mixed O<|D.l rL jH m4 O<|U ?_
  refine D.p 4 O oN m4 (s.aH jH [8,9,10,11,14] _ _ _ O O O OM O O (fun w own hw H=>BF dw dx dy dA k.R w own H af af) O) fun z12=>?_
  refine D.p 6 O gB m4 (s.aH uZ [0,1,2,3,14] _ _ _ O O O OM O O (fun w own hw H=>BF z5 z6 z7 z8 (dU k.R a).1 w own H af af) O) fun mW=>?_
  refine D.p 7 O [3,4,5,6,7,8,9,10,11,12] m4 (s.Eb (Bl:=[ag.row 115 z12 (aY k.R),ag.row 115 mW (aY (dU k.R a).1)]) (Fl:=[ag.ls z12 (aY k.R),ag.ls mW (aY (dU k.R a).1)]) zf [0,1] (fun kJ:Value=>kJ) (fun kJ:Value=>[ag.row 115 kJ (lL (vT (aY k.R) (aY (dU k.R a).1)))]) O O (nC (nC vx)) O Zb O O (fun w own hw H=>Ib z12 (aY k.R) mW (aY (dU k.R a).1) w own H ae) O) fun tQ=>?_
  refine D.l [8] [3,4,5,6,7,8,9,10,11,12] m4 O<|U ?_
  refine D.done<|U ?_
  refine C (0<(lL (vT (aY k.R) (aY (dU k.R a).1))).length) ?_ ?_ <;> intro h2
  .
   refine R.s O (s.pre (fun _ hw=>hw.aO 0 _ O O) (s.aH [5,6,7,8,9,10,0,1,2,3,4,11] [14,0] _ _ _ O O O Ug O O (fun w own hw H=>Bm bB aE st tQ (lL (vT (aY k.R) (aY (dU k.R a).1))) aF au av ao dk aZ lg w own H af af ae af ae) O)) ?_
   rintro ⟨xl,wG,z17,uX,wH⟩
   dsimp only
   refine U ?_
   refine C ((bL (mkS st lg) dk (lL (vT (aY k.R) (aY (dU k.R a).1)))).2.2=0) ?_ ?_ <;> intro h3
   .
    rw [show kb k st dk lg (dU k.R a)=_ from by rewrite [PZ (k:=k) (sc:=st) (d:=dk) (lg:=lg) (z:=dU k.R a) af af af] <;> rfl]
    exact R.x1 (z5,z6,z7,z8,xl,wG,z17,uX,wH) [10,0,1,2,3,4,5,9,11] [2,3,4,5,0]
   rw [show kb k st dk lg (dU k.R a)=_ from by rewrite [P0 (k:=k) (sc:=st) (d:=dk) (lg:=lg) (z:=dU k.R a) af af af] <;> rfl]
   exact R.x1 (dw,dx,dy,dA,xl,wG,z17,uX,wH) [10,0,1,2,3,4,5,9,11] [10,11,12,13,0]
  rw [show kb k st dk lg (dU k.R a)=_ from by rewrite [PY (k:=k) (sc:=st) (d:=dk) (lg:=lg) (z:=dU k.R a) af af] <;> rfl]
  exact R.x1 (z5,z6,z7,z8,aE,au,av,ao,aZ) [5,6,7,8,9,10,11,4,12] [0,1,2,3,13]
 rw [show kb k st dk lg (dU k.R a)=_ from by rewrite [UB (k:=k) (sc:=st) (d:=dk) (lg:=lg) (z:=dU k.R a) af] <;> rfl]
 exact R.x1 (dw,dx,dy,dA,aE,au,av,ao,aZ) [2,3,4,5,6,7,8,1,9] [8,9,10,11,13]
theorem QD (aX aR aS aT:Value)(r:aB)(DW:Nat)(p:Place)(QE:Nat)(kind:Int)(w:World)(own:List Nat)(H:HN w own [ag.box DW (iD p) 32,ag.box QE [iV kind] 3] [ag.ls aX r.aj,ag.ls aR r.Things,ag.ls aS r.Held,ag.ls aT r.Notes])(hk:Ok r):RS Tryz.prog 222 #[.agg #[aX,aR,aS,aT,iV r.ah,iV r.ai],pV DW,pV QE] H (dU r (uj p kind)) (fun s (z:Value×Value×Value×Value) => .tuple #[.agg #[z.1,z.2.1,z.2.2.1,z.2.2.2,iV s.1.ah,iV s.1.ai],bQ s.2]) (fun _ _=>[]) (fun s z=>[ag.ls z.1 s.1.aj,ag.ls z.2.1 s.1.Things,ag.ls z.2.2.1 s.1.Held,ag.ls z.2.2.2 s.1.Notes]):=by
 have bT:=H.aL 0 rfl
 have bH:=H.aL 1 rfl
 have cr:=H.aL 2 rfl
 have bU:=H.aL 3 rfl
 refine R.eN H ?_
 refine R.nb fun b1=>?_
 refine R.nb fun b2=>?_
 refine R.s O (s.aH bV bm _ _ _ O O O Zc O O (fun w own hw H=>Mw aX aR aS aT r p kind w own H af) O) ?_
 rintro ⟨z1,z2,z3,z4⟩
 dsimp only
 refine U ?_
 rw [show dU r (uj p kind)=_ from by rewrite [Tf] <;> rfl]
 exact R.x2 (z1,z2,z3,z4) [4] [0,1,2,3]
theorem Xl (aX aR aS aT:Value)(r:aB)(DW:Nat)(p:Place)(w:World)(own:List Nat)(H:HN w own [ag.box DW (iD p) 32] [ag.ls aX r.aj,ag.ls aR r.Things,ag.ls aS r.Held,ag.ls aT r.Notes])(hk:Ok r):RS Tryz.prog 223 #[.agg #[aX,aR,aS,aT,iV r.ah,iV r.ai],pV DW] H (dU r (BN p)) (fun s (z:Value×Value×Value×Value) => .tuple #[.agg #[z.1,z.2.1,z.2.2.1,z.2.2.2,iV s.1.ah,iV s.1.ai],bQ s.2]) (fun _ _=>[]) (fun s z=>[ag.ls z.1 s.1.aj,ag.ls z.2.1 s.1.Things,ag.ls z.2.2.1 s.1.Held,ag.ls z.2.2.2 s.1.Notes]):=by
 have bT:=H.aL 0 rfl
 have bH:=H.aL 1 rfl
 have cr:=H.aL 2 rfl
 have bU:=H.aL 3 rfl
 refine R.eN H ?_
 refine R.nb fun b1=>?_
 refine R.nb fun b2=>?_
 refine R.s O (s.aH bm bm _ _ _ O O O Vv O O (fun w own hw H=>Mz aX aR aS aT r p w own H af) O) ?_
 rintro ⟨z1,z2,z3,z4⟩
 dsimp only
 refine U ?_
 rw [show dU r (BN p)=_ from by rewrite [Tj] <;> rfl]
 exact R.x2 (z1,z2,z3,z4) [3] [0,1,2,3]
theorem Z8 (aX aR aS aT:Value)(r:aB)(DW:Nat)(p:Place)(w:World)(own:List Nat)(H:HN w own [ag.box DW (iD p) 32] [ag.ls aX r.aj,ag.ls aR r.Things,ag.ls aS r.Held,ag.ls aT r.Notes])(hk:Ok r):RS Tryz.prog 224 #[.agg #[aX,aR,aS,aT,iV r.ah,iV r.ai],pV DW] H (dU r (Ii p)) (fun s (z:Value×Value×Value×Value) => .tuple #[.agg #[z.1,z.2.1,z.2.2.1,z.2.2.2,iV s.1.ah,iV s.1.ai],bQ s.2]) (fun _ _=>[]) (fun s z=>[ag.ls z.1 s.1.aj,ag.ls z.2.1 s.1.Things,ag.ls z.2.2.1 s.1.Held,ag.ls z.2.2.2 s.1.Notes]):=by
 have bT:=H.aL 0 rfl
 have bH:=H.aL 1 rfl
 have cr:=H.aL 2 rfl
 have bU:=H.aL 3 rfl
 refine R.eN H ?_
 refine R.nb fun b1=>?_
 refine R.nb fun b2=>?_
 refine R.s O (s.aH bm bm _ _ _ O O O Vw O O (fun w own hw H=>HV aX aR aS aT r p w own H af) O) ?_
 rintro ⟨z1,z2,z3,z4⟩
 dsimp only
 refine U ?_
 rw [show dU r (Ii p)=_ from by rewrite [Xf] <;> rfl]
 exact R.x2 (z1,z2,z3,z4) [3] [0,1,2,3]
theorem Tr (aX aR aS aT:Value)(r:aB)(DW:Nat)(p:Place)(UQ:Nat)(t:ByteArray)(w:World)(own:List Nat)(H:HN w own [ag.box DW (iD p) 32,ag.box UQ [.string t] 9] [ag.ls aX r.aj,ag.ls aR r.Things,ag.ls aS r.Held,ag.ls aT r.Notes])(hk:Ok r):RS Tryz.prog 176 #[.agg #[aX,aR,aS,aT,iV r.ah,iV r.ai],pV DW,pV UQ] H (dU r (uW p t)) (fun s (z:Value×Value×Value×Value) => .tuple #[.agg #[z.1,z.2.1,z.2.2.1,z.2.2.2,iV s.1.ah,iV s.1.ai],bQ s.2]) (fun _ _=>[]) (fun s z=>[ag.ls z.1 s.1.aj,ag.ls z.2.1 s.1.Things,ag.ls z.2.2.1 s.1.Held,ag.ls z.2.2.2 s.1.Notes]):=by
 have bT:=H.aL 0 rfl
 have bH:=H.aL 1 rfl
 have cr:=H.aL 2 rfl
 have bU:=H.aL 3 rfl
 refine R.eN H ?_
 refine R.nb fun b1=>?_
 refine R.nb fun b2=>?_
 refine R.s O (s.aH bV bm _ _ _ O O O Vx O O (fun w own hw H=>Jz aX aR aS aT r p t w own H af) O) ?_
 rintro ⟨z1,z2,z3,z4⟩
 dsimp only
 refine U ?_
 rw [show dU r (uW p t)=_ from by rewrite [Qq] <;> rfl]
 exact R.x2 (z1,z2,z3,z4) [4] [0,1,2,3]
theorem Xm (aX aR aS aT:Value)(r:aB)(DW:Nat)(p:Place)(UQ:Nat)(t:ByteArray)(w:World)(own:List Nat)(H:HN w own [ag.box DW (iD p) 32,ag.box UQ [.string t] 9] [ag.ls aX r.aj,ag.ls aR r.Things,ag.ls aS r.Held,ag.ls aT r.Notes])(hk:Ok r):RS Tryz.prog 177 #[.agg #[aX,aR,aS,aT,iV r.ah,iV r.ai],pV DW,pV UQ] H (dU r (rz p t (-1) 0)) (fun s (z:Value×Value×Value×Value) => .tuple #[.agg #[z.1,z.2.1,z.2.2.1,z.2.2.2,iV s.1.ah,iV s.1.ai],bQ s.2]) (fun _ _=>[]) (fun s z=>[ag.ls z.1 s.1.aj,ag.ls z.2.1 s.1.Things,ag.ls z.2.2.1 s.1.Held,ag.ls z.2.2.2 s.1.Notes]):=by
 have bT:=H.aL 0 rfl
 have bH:=H.aL 1 rfl
 have cr:=H.aL 2 rfl
 have bU:=H.aL 3 rfl
 refine R.eN H ?_
 refine R.nb fun b1=>?_
 refine R.nb fun b2=>?_
 refine R.s O (s.aH bV bm _ _ _ O O O OQ O O (fun w own hw H=>DF aX aR aS aT r p t (-1) 0 w own H af) O) ?_
 rintro ⟨z1,z2,z3,z4⟩
 dsimp only
 refine U ?_
 rw [show dU r (rz p t (-1) 0)=_ from by rewrite [K4] <;> rfl]
 exact R.x2 (z1,z2,z3,z4) [4] [0,1,2,3]
theorem Xn (aX aR aS aT:Value)(r:aB)(DW:Nat)(p:Place)(b_n:Nat)(n:Note)(JI:Nat)(slot:Int)(w:World)(own:List Nat)(H:HN w own [ag.box DW (iD p) 32,ag.box b_n (UT n) 91,ag.box JI [iV slot] 3] [ag.ls aX r.aj,ag.ls aR r.Things,ag.ls aS r.Held,ag.ls aT r.Notes])(hk:Ok r):RC Tryz.prog 260 #[.agg #[aX,aR,aS,aT,iV r.ah,iV r.ai],pV DW,pV b_n,pV JI] H (fun z:Value×Value×Value×Value => .tuple #[.agg #[z.1,z.2.1,z.2.2.1,z.2.2.2,iV (dU r (gM p)).1.ah,iV (dU r (gM p)).1.ai],bQ (dU r (gM p)).2]) (fun _=>[ag.box b_n [iV (bG r p).2.1.Port,.string (bG r p).2.1.Data,iV (bG r p).2.1.aM,iV (bG r p).2.1.ak] 91,ag.box JI [iV (bG r p).2.2.1] 3]) (fun z=>[ag.ls z.1 (dU r (gM p)).1.aj,ag.ls z.2.1 (dU r (gM p)).1.Things,ag.ls z.2.2.1 (dU r (gM p)).1.Held,ag.ls z.2.2.2 (dU r (gM p)).1.Notes]):=by
 have bT:=H.aL 0 rfl
 have bH:=H.aL 1 rfl
 have cr:=H.aL 2 rfl
 have bU:=H.aL 3 rfl
 refine R.eN H ?_
 refine R.nb fun b1=>?_
 refine R.nb fun b2=>?_
 refine R.s O (s.aH fw bm _ _ _ O O O Vy O O (fun w own hw H=>MB aX aR aS aT r p w own H af) O) ?_
 rintro ⟨z1,z2,z3,z4⟩
 dsimp only
 refine U ?_
 refine R.nb fun b3=>?_
 refine R.nb fun b4=>?_
 have hz:((dU r (gM p)).1,(dU r (gM p)).2,(bG r p).2.1,(bG r p).2.2.1)=(((bG r p).1),(bG r p).2.2.2,(bG r p).2.1,(bG r p).2.2.1):=by (rw [K5])
 have hz0:(dU r (gM p)).1=(bG r p).1:=congrArg (fun t_=>t_.1) hz
 rw [hz0]
 have hz1:(dU r (gM p)).2=(bG r p).2.2.2:=congrArg (fun t_=>t_.2.1) hz
 rw [hz1]
 exact R.x2 (z1,z2,z3,z4) [5,6,7] [0,1,2,3]
theorem qe (JJ:Value)(w:List ByteArray)(W:World)(own:List Nat)(H:HN W own [] [ag.ls JJ (w:List ByteArray),bJ])(hw:w.length<=200 /\ ∀x∈w,x.size<=100)(hb:fP w=true):RC Tryz.prog 172 #[JJ] H (fun z:Value => .tuple #[z,.bool true]) (fun z=>[ag.row 3 z (w.map bu:List Int)]) (fun _=>[]):=by
 have h:=Ip JJ w W own H hw
 rw [show nn w=w.map bu from if_pos hb,hb] at h;exact h
theorem qf (JJ:Value)(w:List ByteArray)(W:World)(own:List Nat)(H:HN W own [] [ag.ls JJ (w:List ByteArray),bJ])(hw:w.length<=200 /\ ∀x∈w,x.size<=100)(hb:¬ fP w=true):RC Tryz.prog 172 #[JJ] H (fun z:Value => .tuple #[z,.bool false]) (fun z=>[ag.row 3 z ([]:List Int)]) (fun _=>[]):=by
 have h:=Ip JJ w W own H hw
 rw [show nn w=[] from if_neg hb,Bool.eq_false_iff.2 hb] at h;exact h
theorem Ts (aX aR aS aT:Value)(r:aB)(DW:Nat)(p:Place)(UQ:Nat)(t:ByteArray)(mh:Nat)(v_m:Value)(m:List Int)(sS:Nat)(rights:Int)(w:World)(own:List Nat)(H:HN w own [ag.box DW (iD p) 32,ag.box UQ [.string t] 9,ag.box mh [v_m] 110,ag.box sS [iV rights] 3] [ag.ls aX r.aj,ag.ls aR r.Things,ag.ls aS r.Held,ag.ls aT r.Notes,ag.ls v_m m])(hk:Ok r)(hn:1<=m.length):RS Tryz.prog 179 #[.agg #[aX,aR,aS,aT,iV r.ah,iV r.ai],pV DW,pV UQ,pV mh,pV sS] H (dU r (rz p t (nth m 0) rights)) (fun s (z:Value×Value×Value×Value) => .tuple #[.agg #[z.1,z.2.1,z.2.2.1,z.2.2.2,iV s.1.ah,iV s.1.ai],bQ s.2]) (fun _ _=>[]) (fun s z=>[ag.ls z.1 s.1.aj,ag.ls z.2.1 s.1.Things,ag.ls z.2.2.1 s.1.Held,ag.ls z.2.2.2 s.1.Notes]):=by
 have bT:=H.aL 0 rfl
 have bH:=H.aL 1 rfl
 have cr:=H.aL 2 rfl
 have bU:=H.aL 3 rfl
 have m_m:=H.aL 4 rfl
 refine R.eN H ?_
 refine R.nb fun b1=>?_
 refine R.nb fun b2=>?_
 obtain ⟨x1,hx1⟩:=gE m 0
 refine R.cO (fuel:=12) m5 O O mixed O<|D.l du m5 bV O<|U ?_
 refine D.p 7 O m5 j5 (s.aH du bm _ _ _ O O O OQ O O (fun w own hw H=>DF aX aR aS aT r p t x1 rights w own H af) O) ?_
 rintro ⟨z5,z6,z7,z8⟩
 dsimp only
 refine D.l [8,9] m5 j5 O<|U ?_
 refine D.p 10 O m5 j5 (s.lq 0 _ O O O (fun _ _=>rfl) (.inl fN) (fun w hw=>yt (hw.cy 0 O) (hw.cy 1 O) (hw.cy 2 O) (hw.cy 3 O) O O) O O O) fun _=>?_
 refine D.l [11] m5 j5 O<|U ?_
 refine D.done ?_
 rw [show dU r (rz p t (nth m 0) rights)=_ from by (rewrite [K4];simp only [nth, *,Option.getD_some]) <;> rfl]
 exact R.x2 (z5,z6,z7,z8) [6] [0,1,2,3]
theorem Xo (aX aR aS aT:Value)(r:aB)(b_n:Nat)(QC:Value)(n:List Int)(sS:Nat)(rights:Int)(w:World)(own:List Nat)(H:HN w own [ag.box b_n [QC] 110,ag.box sS [iV rights] 3] [ag.ls aX r.aj,ag.ls aR r.Things,ag.ls aS r.Held,ag.ls aT r.Notes,ag.ls QC n])(hk:Ok r)(hn:5<=n.length):RS Tryz.prog 180 #[.agg #[aX,aR,aS,aT,iV r.ah,iV r.ai],pV b_n,pV sS] H (dU r (yp ⟨nth n 0,nth n 1⟩ ⟨nth n 2,nth n 3⟩ rights (nth n 4))) (fun s (z:Value×Value×Value×Value) => .tuple #[.agg #[z.1,z.2.1,z.2.2.1,z.2.2.2,iV s.1.ah,iV s.1.ai],bQ s.2]) (fun _ _=>[]) (fun s z=>[ag.ls z.1 s.1.aj,ag.ls z.2.1 s.1.Things,ag.ls z.2.2.1 s.1.Held,ag.ls z.2.2.2 s.1.Notes]):=by
 have bT:=H.aL 0 rfl
 have bH:=H.aL 1 rfl
 have cr:=H.aL 2 rfl
 have bU:=H.aL 3 rfl
 have m_n:=H.aL 4 rfl
 refine R.eN H ?_
 refine R.nb fun b1=>?_
 refine R.nb fun b2=>?_
 obtain ⟨x1,hx1⟩:=gE n 4
 refine R.cO (fuel:=15) j6 O O mixed O<|D.l [0,1,3,4,6,7,8,9] j6 bV O<|U ?_
 refine Dm.yy O O (q.cz (i:=2) (vu 4 O) O O kx O ae) O<|U ?_
 refine D.p 2 O j6 bV (s.c (q.call sC O O (fun w hw=>je _ n w (hw.cy 4 O) ae)) O) fun _=>?_
 refine D.p 5 O j6 bV (s.c (q.call sC O O (fun w hw=>je _ (n.drop 2) w ((fun w hw=>Sl.from (hw.cy 4 O) ae) w hw) aG)) O) fun _=>?_
 refine D.p 10 O j6 j5 (s.aH bV bm _ _ _ O O O Zd O O (fun w own hw H=>Mx aX aR aS aT r (⟨nth n 0,nth n 1⟩:Place) (⟨nth (n.drop 2) 0,nth (n.drop 2) 1⟩:Place) rights x1 w own H af) O) ?_
 rintro ⟨z5,z6,z7,z8⟩
 dsimp only
 refine D.l [11,12] j6 j5 O<|U ?_
 refine D.p 13 O j6 j5 (s.lq 0 _ O O O (fun _ _=>rfl) (.inl fN) (fun w hw=>yt (hw.cy 0 O) (hw.cy 1 O) (hw.cy 2 O) (hw.cy 3 O) O O) O O O) fun _=>?_
 refine D.l [14] j6 j5 O<|U ?_
 refine D.done ?_
 have hz:dU r (yp ⟨nth n 0,nth n 1⟩ ⟨nth n 2,nth n 3⟩ rights (nth n 4))=(((dt r (⟨nth n 0,nth n 1⟩:Place) (⟨nth (n.drop 2) 0,nth (n.drop 2) 1⟩:Place) rights x1).1),(dt r (⟨nth n 0,nth n 1⟩:Place) (⟨nth (n.drop 2) 0,nth (n.drop 2) 1⟩:Place) rights x1).2):=by (rw [Tg];simp only [nth,List.getElem?_drop, *,Option.getD_some])
 rw [hz]
 exact R.x2 (z5,z6,z7,z8) [4] [0,1,2,3]
theorem Xp (aX aR aS aT:Value)(r:aB)(b_n:Nat)(QC:Value)(n:List Int)(w:World)(own:List Nat)(H:HN w own [ag.box b_n [QC] 110] [ag.ls aX r.aj,ag.ls aR r.Things,ag.ls aS r.Held,ag.ls aT r.Notes,ag.ls QC n])(hk:Ok r)(hn:3<=n.length):RS Tryz.prog 184 #[.agg #[aX,aR,aS,aT,iV r.ah,iV r.ai],pV b_n] H (dU r (BM ⟨nth n 0,nth n 1⟩ (nth n 2))) (fun s (z:Value×Value×Value×Value) => .tuple #[.agg #[z.1,z.2.1,z.2.2.1,z.2.2.2,iV s.1.ah,iV s.1.ai],bQ s.2]) (fun _ _=>[]) (fun s z=>[ag.ls z.1 s.1.aj,ag.ls z.2.1 s.1.Things,ag.ls z.2.2.1 s.1.Held,ag.ls z.2.2.2 s.1.Notes]):=by
 have bT:=H.aL 0 rfl
 have bH:=H.aL 1 rfl
 have cr:=H.aL 2 rfl
 have bU:=H.aL 3 rfl
 have m_n:=H.aL 4 rfl
 refine R.eN H ?_
 refine R.nb fun b1=>?_
 refine R.nb fun b2=>?_
 obtain ⟨x1,hx1⟩:=gE n 2
 refine R.cO (fuel:=11) [1,2,3] O O mixed O<|D.l [0,1,3,4,5] [1,2,3] bV O<|U ?_
 refine D.p 2 O [1,2,3] bV (s.c (q.call sC O O (fun w hw=>je _ n w (hw.cy 4 O) ae)) O) fun _=>?_
 refine D.p 6 O [1,2,3] j5 (s.aH bm bm _ _ _ O O O Ze O O (fun w own hw H=>My aX aR aS aT r (⟨nth n 0,nth n 1⟩:Place) x1 w own H af) O) ?_
 rintro ⟨z5,z6,z7,z8⟩
 dsimp only
 refine D.l [7,8] [1,2,3] j5 O<|U ?_
 refine D.p 9 O [1,2,3] j5 (s.lq 0 _ O O O (fun _ _=>rfl) (.inl fN) (fun w hw=>yt (hw.cy 0 O) (hw.cy 1 O) (hw.cy 2 O) (hw.cy 3 O) O O) O O O) fun _=>?_
 refine D.l [10] [1,2,3] j5 O<|U ?_
 refine D.done ?_
 rw [show dU r (BM ⟨nth n 0,nth n 1⟩ (nth n 2))=_ from by (rewrite [Ti];simp only [nth, *,Option.getD_some]) <;> rfl]
 exact R.x2 (z5,z6,z7,z8) [3] [0,1,2,3]
end
section
open Go Go.RowKit
attribute [local irreducible] Run Rg Rq Qt Qa Stp Dg Do Dm bQ
attribute [local irreducible] bL cC bf jE eA dNew dU kb fB mM bY bu spl
theorem Fq {p:Prop}(h:p:=by unfold mY;(repeat first|rewrite [dR (by assumption)] | rewrite [if_pos (by assumption)] | rewrite [if_neg (by assumption)] | rewrite [if_pos (by omega)] | rewrite [if_neg (by omega)]);(try dsimp only [gG]) <;> (try (unfold DR;(repeat first|rewrite [dR (by assumption)] | rewrite [if_pos (by assumption)] | rewrite [if_neg (by assumption)] | rewrite [if_pos (by omega)] | rewrite [if_neg (by omega)]))) <;> rfl):p:=h
structure Xq where
  k:Value
def CJ (k:fI)(st:fu)(dk:cq)(lg:Lg):Prop:= ∃j,j<=100/\CI j k st dk lg
theorem DX (gH:Nat)(se:Xq)(aF:Nat)(au av ao:Value)(dk:cq)(w:World)(own:List Nat)(H:HN w own [ag.box gH [pV aF,se.k] 106,ag.box aF [au,av,ao,iV dk.Fuse,.bool dk.Down] 120,ag.row 9 au dk.Kept,ag.row 9 av dk.Now,ag.row 196 ao dk.Wait] [bJ])(hd:dk.Down=false)(ho:jE dk=0)(hD:gw dk.Now.length 90000 dk/\dk.Now.length<=200)(hp:(bY (bf dk).c.Rows).2=0)(hr:(bf dk).c.Rows.length<=60 /\ ∀c∈(bf dk).c.Rows,c.Key.size<=1000/\c.Val.size<=1000):RC Tryz.prog 48 #[pV gH] H (fun _:Value×Value×Value×Nat×Value×Value×Value×Value×Nat×Value×Nat => .nilIface) (fun z=>[ag.box gH [pV aF,pV z.2.2.2.1] 106,ag.box aF [z.1,z.2.1,z.2.2.1,iV dk.Fuse,.bool dk.Down] 120,ag.row 9 z.1 dk.Kept,ag.row 9 z.2.1 dk.Now,ag.row 196 z.2.2.1 dk.Wait,ag.box z.2.2.2.1 [pV z.2.2.2.2.2.2.2.2.1,z.2.2.2.2.1,z.2.2.2.2.2.1,z.2.2.2.2.2.2.1,z.2.2.2.2.2.2.2.1,iV (⟨(bY (bf dk).c.Rows).1⟩:fI).R.ah,iV (⟨(bY (bf dk).c.Rows).1⟩:fI).R.ai] 78,ag.box z.2.2.2.2.2.2.2.2.1 [pV aF,iV (bf dk).c.Epoch,iV (bf dk).c.Side,iV (bf dk).c.Size,iV (bf dk).c.First,pV z.2.2.2.2.2.2.2.2.2.2,z.2.2.2.2.2.2.2.2.2.1] 132,ag.box z.2.2.2.2.2.2.2.2.2.2 [pV aF,iV (bf dk).L.From,iV (bf dk).L.Many,iV (bf dk).L.First,iV (bf dk).L.Next] 193]) (fun z=>[ag.ls z.2.2.2.2.1 ((⟨(bY (bf dk).c.Rows).1⟩:fI).R.aj:List ak),ag.ls z.2.2.2.2.2.1 ((⟨(bY (bf dk).c.Rows).1⟩:fI).R.Things:List aA),ag.ls z.2.2.2.2.2.2.1 ((⟨(bY (bf dk).c.Rows).1⟩:fI).R.Held:List Held),ag.ls z.2.2.2.2.2.2.2.1 ((⟨(bY (bf dk).c.Rows).1⟩:fI).R.Notes:List Note),ag.ls z.2.2.2.2.2.2.2.2.2.1 (bf dk).c.Rows]):=by
 have dD:=H.cap 2 rfl;have dE:=H.ck 2 rfl
 have ew:=H.cap 3 rfl;have ey:=H.ck 3 rfl
 have dF:=H.cap 4 rfl;have dG:=H.ck 4 rfl
 refine R.eN H ?_
 refine R.s O (s.aH [1,2,3,4,0,5] [0] _ _ _ O O O YH O O (fun w own hw H=>MH aF au av ao dk w own H af af af af af) O) ?_
 rintro ⟨z1,z2,z3,z4,z5,z6,z7,z8,z9,kM,lA⟩
 dsimp only
 refine U ?_
 have hz:(dk,(⟨(bY (bf dk).c.Rows).1⟩:fI),(bf dk).c,(bf dk).L)=(dk,(⟨(bY (bf dk).c.Rows).1⟩:fI),(bf dk).c,(bf dk).L):=by (rfl)
 exact R.x1 (z1,z2,z3,z4,z5,z6,z7,z8,z9,kM,lA) [7,0,1,2,3,4,5,6,8] [0,1,2,3,4]
theorem MZ (gH:Nat)(QF:Nat)(se:Unit)(b_k:Nat)(dw dx dy dA:Value)(DK:Nat)(k:fI)(p:Place)(w:World)(own:List Nat)(H:HN w own [ag.box gH [pV QF,pV b_k] 106,ag.box b_k [pV DK,dw,dx,dy,dA,iV k.R.ah,iV k.R.ai] 78] [ag.ls dw k.R.aj,ag.ls dx k.R.Things,ag.ls dy k.R.Held,ag.ls dA k.R.Notes,bJ])(hk:Ok k.R)(hI:Inv k.R):RC Tryz.prog 228 #[pV gH,.agg #[iV p.aD,iV p.Slot]] H (fun _:Value×Value×Value×Value => .string (rA k.R p)) (fun z=>[ag.box gH [pV QF,pV b_k] 106,ag.box b_k [pV DK,z.1,z.2.1,z.2.2.1,z.2.2.2,iV k.R.ah,iV k.R.ai] 78]) (fun z=>[ag.ls z.1 k.R.aj,ag.ls z.2.1 k.R.Things,ag.ls z.2.2.1 k.R.Held,ag.ls z.2.2.2 k.R.Notes]):=by
 have hG:=H.aL 0 rfl
 have gi:=H.aL 1 rfl
 have jd:=H.aL 2 rfl
 have hX:=H.aL 3 rfl
 have hw:=hk.wl;have hbl:=zH (aI k.R p).1.ID k.R.aj
 refine R.eN H ?_
 refine R.nb fun b1=>?_
 refine R.s O (s.aH [2,0,1,3] bm _ _ _ O O O OI O O (fun w own hw H=>uU b_k dw dx dy dA DK k w own H af) O) ?_
 rintro ⟨z1,z2,z3,z4,z5,z6,z7,z8⟩
 dsimp only
 refine R.nb fun b2=>?_
 refine R.kc O O (fun w hw=>qR _ _ _ _ k.R p w (hw.cy 4 O) (hw.cy 5 O) (hw.cy 6 O) (hw.cy 7 O) af)<|U ?_
 refine R.nb fun b3=>?_
 refine C ((aI k.R p).2=0) ?_ ?_ <;> intro h1
 .
  obtain ⟨b1,b2,b3,b4,b5,b6⟩:=UO hI h1;have i1:=dH (n:=(aI k.R p).1.ID) ae;have i2:=dH (n:=(aI k.R p).1.aA) ae;have i3:=dH (n:=(aI k.R p).1.aM) ae;have i4:=dH (n:=(aI k.R p).1.From) ae;have i5:=dH (n:=(((gW (aI k.R p).1.ID k.R.aj).length:Nat):Int)) ae;have i6:=Im (aI k.R p).1.Rights.toNat
  refine U ?_
  refine R.cO (fuel:=33) fw O O mixed O<|D.l [0,1,4,5,9,10,14,15,19,20,24,25,26,27] fw nK O<|U ?_
  refine D.p 2 O fw nK (s.c (q.call mT O O (fun w hw=>gF (aI k.R p).1.ID w (by exact hw.okF bJ gy) ae)) O) fun _=>?_
  refine D.l [3] fw nK O<|Dm.yy O O (q.cat O O (by simp only [ByteArray.size_append,bg,List.length_cons,List.length_nil];omega)) O<|U ?_
  refine D.p 6 O fw nK (s.c (q.call mT O O (fun w hw=>gF (aI k.R p).1.aA w (by exact hw.okF bJ gy) ae)) O) fun _=>?_
  refine D.l [7,8] fw nK O<|Dm.yy O O (q.cat O O (by simp only [ByteArray.size_append,bg,List.length_cons,List.length_nil];omega)) O<|Dm.yy O O (q.cat O O (by simp only [ByteArray.size_append,bg,List.length_cons,List.length_nil];omega)) O<|U ?_
  refine D.p 11 O fw nK (s.c (q.call Wc O O (fun w hw=>MV (aI k.R p).1.Rights w ae)) O) fun _=>?_
  refine D.l [12,13] fw nK O<|Dm.yy O O (q.cat O O (by simp only [ByteArray.size_append,bg,List.length_cons,List.length_nil];omega)) O<|Dm.yy O O (q.cat O O (by simp only [ByteArray.size_append,bg,List.length_cons,List.length_nil];omega)) O<|U ?_
  refine D.p 16 O fw nK (s.c (q.call mT O O (fun w hw=>gF (aI k.R p).1.aM w (by exact hw.okF bJ gy) ae)) O) fun _=>?_
  refine D.l [17,18] fw nK O<|Dm.yy O O (q.cat O O (by simp only [ByteArray.size_append,bg,List.length_cons,List.length_nil];omega)) O<|Dm.yy O O (q.cat O O (by simp only [ByteArray.size_append,bg,List.length_cons,List.length_nil];omega)) O<|U ?_
  refine D.p 21 O fw nK (s.c (q.call mT O O (fun w hw=>gF (aI k.R p).1.From w (by exact hw.okF bJ gy) ae)) O) fun _=>?_
  refine D.l [22,23] fw nK O<|Dm.yy O O (q.cat O O (by simp only [ByteArray.size_append,bg,List.length_cons,List.length_nil];omega)) O<|Dm.yy O O (q.cat O O (by simp only [ByteArray.size_append,bg,List.length_cons,List.length_nil];omega)) O<|U ?_
  refine D.p 28 O m5 nK (s.nM O0 O O (fun w hw=>wn _ k.R.aj (aI k.R p).1.ID w (hw.cy 4 O) ae) O) fun v1=>?_
  refine D.k 29 O m5 nK (q.len' (cI 0 O) O Tryz.underlying110) ?_
  refine D.p 30 O m5 nK (s.c (q.call mT O O (fun w hw=>gF ((gW (aI k.R p).1.ID k.R.aj).length:Int) w (by exact hw.okF bJ gy) ae)) O) fun _=>?_
  refine D.l [31,32] m5 nK O<|Dm.yy O O (q.cat O O (by simp only [ByteArray.size_append,bg,List.length_cons,List.length_nil];omega)) O<|U ?_
  refine D.done ?_
  have hz:(k,rA k.R p)=(k,((((((((((bS (aI k.R p).1.ID++⟨#[32,111,102,32]⟩)++bS (aI k.R p).1.aA)++⟨#[32]⟩)++iP (aI k.R p).1.Rights.toNat)++⟨#[32,98,97,100,103,101,32]⟩)++bS (aI k.R p).1.aM)++⟨#[32,102,114,111,109,32]⟩)++bS (aI k.R p).1.From)++⟨#[32,98,101,110,101,97,116,104,32]⟩)++bS ((gW (aI k.R p).1.ID k.R.aj).length:Int))):=by (rw [look_ok af];done)
  have hz0:rA k.R p=((((((((((bS (aI k.R p).1.ID++⟨#[32,111,102,32]⟩)++bS (aI k.R p).1.aA)++⟨#[32]⟩)++iP (aI k.R p).1.Rights.toNat)++⟨#[32,98,97,100,103,101,32]⟩)++bS (aI k.R p).1.aM)++⟨#[32,102,114,111,109,32]⟩)++bS (aI k.R p).1.From)++⟨#[32,98,101,110,101,97,116,104,32]⟩)++bS ((gW (aI k.R p).1.ID k.R.aj).length:Int)):=congrArg (fun t_=>t_.2) hz
  rw [hz0]
  exact R.x1 (z1,z2,z3,z4) [5,3,6] [0,1,2,3]
 refine R.kc O O (fun w hw=>fc (aI k.R p).2 w (by exact hw.okF bJ gy) (by (have:=ef k.R p;have:=wD k.R p;omega)) af) ?_
 refine U ?_
 have hz:(k,rA k.R p)=(k,ke (aI k.R p).2):=by (unfold rA;rw [if_neg af];done)
 have hz0:rA k.R p=ke (aI k.R p).2:=congrArg (fun t_=>t_.2) hz
 rw [hz0]
 exact R.x1 (z1,z2,z3,z4) [4,2,5] [0,1,2,3]
theorem M0 (gH:Nat)(se:Unit)(p:Place)(b_k:Nat)(dw dx dy dA:Value)(k:fI)(bB:Nat)(aE:Value)(st:fu)(aF:Nat)(au av ao:Value)(dk:cq)(aZ:Nat)(lg:Lg)(w:World)(own:List Nat)(H:HN w own [ag.box gH [pV aF,pV b_k] 106,ag.box b_k [pV bB,dw,dx,dy,dA,iV k.R.ah,iV k.R.ai] 78,ag.box bB [pV aF,iV st.Epoch,iV st.Side,iV st.Size,iV st.First,pV aZ,aE] 132,ag.box aF [au,av,ao,iV dk.Fuse,.bool dk.Down] 120,ag.row 9 au dk.Kept,ag.row 9 av dk.Now,ag.row 196 ao dk.Wait,ag.box aZ [pV aF,iV lg.From,iV lg.Many,iV lg.First,iV lg.Next] 193] [ag.ls dw k.R.aj,ag.ls dx k.R.Things,ag.ls dy k.R.Held,ag.ls dA k.R.Notes,ag.ls aE st.Rows,bJ])(hC:CJ k st dk lg):RS Tryz.prog 227 #[pV gH,.agg #[iV p.aD,iV p.Slot]] H (DT k st dk lg p) (fun s (_:Value×Value×Value×Value×Value×Value×Value×Value×Nat) => .string s.2.2.2.2) (fun s z=>[ag.box gH [pV aF,pV b_k] 106,ag.box b_k [pV bB,z.1,z.2.1,z.2.2.1,z.2.2.2.1,iV s.1.R.ah,iV s.1.R.ai] 78,ag.box bB [pV aF,iV s.2.1.Epoch,iV s.2.1.Side,iV s.2.1.Size,iV s.2.1.First,pV z.2.2.2.2.2.2.2.2,z.2.2.2.2.1] 132,ag.box aF [z.2.2.2.2.2.1,z.2.2.2.2.2.2.1,z.2.2.2.2.2.2.2.1,iV s.2.2.1.Fuse,.bool s.2.2.1.Down] 120,ag.row 9 z.2.2.2.2.2.1 s.2.2.1.Kept,ag.row 9 z.2.2.2.2.2.2.1 s.2.2.1.Now,ag.row 196 z.2.2.2.2.2.2.2.1 s.2.2.1.Wait,ag.box z.2.2.2.2.2.2.2.2 [pV aF,iV s.2.2.2.1.From,iV s.2.2.2.1.Many,iV s.2.2.2.1.First,iV s.2.2.2.1.Next] 193]) (fun s z=>[ag.ls z.1 s.1.R.aj,ag.ls z.2.1 s.1.R.Things,ag.ls z.2.2.1 s.1.R.Held,ag.ls z.2.2.2.1 s.1.R.Notes,ag.ls z.2.2.2.2.1 s.2.1.Rows]):=by
 have dD:=H.cap 4 rfl;have dE:=H.ck 4 rfl
 have ew:=H.cap 5 rfl;have ey:=H.ck 5 rfl
 have dF:=H.cap 6 rfl;have dG:=H.ck 6 rfl
 have hG:=H.aL 0 rfl
 have gi:=H.aL 1 rfl
 have jd:=H.aL 2 rfl
 have hX:=H.aL 3 rfl
 have j1:=H.aL 4 rfl
 have hC0:=hC;obtain ⟨j,hj,hC⟩:=hC;have hE:=fun a=>hC.err ae a;obtain ⟨hf,⟨u,hV⟩,hS⟩:=hC;have hI:=hV.inv;have hk:=hS.ok ae;have g1:=hV.pre ae;obtain ⟨g2,g3,g4,g5⟩:=g1;have hz:=fun a=>DC hS a ae
 have tb:=QA (r:=k.R) (p:=p) hI;obtain ⟨tb1,tb2,tb3,tb4⟩:=tb;have tw:=Io tb1;have i1:=dH (n:=(bG k.R p).2.1.aM) ae;have i2:=dH (n:=(bG k.R p).2.2.1) ae
 refine R.eN H ?_
 refine R.nb fun b1=>?_
 refine R.nb fun b2=>?_
 refine R.nb fun b3=>?_
 refine R.q (q.D3 (cap:=[pV b1,pV b2,pV b3]) O O) O<|R.s O (s.pre (fun _ hw=>(hw.Q8 [2,1,0] Cq O O O).Q9 [] O) (s.aH FC [1,2,3,4,0,5,6] _ _ _ O O O uc O O (fun w own hw H=>kr b_k dw dx dy dA k _ _ _ _ _ (gM p) bB aE st aF au av ao dk aZ lg w own H Wn (pB fun v1 v2 v3 v4 w own H=>Xn v1 v2 v3 v4 _ b1 p b2 (⟨0,⟨#[]⟩,0,0⟩:Note) b3 0 w own H af) af af ae af af af (by exact hz _)) O)) ?_
 rintro ⟨z1,z2,z3,z4,z5,z6,z7,z8,z9⟩
 dsimp only
 refine Rg.mp (fun _ hw=>hw.Z5 7 [0,1,2,3,4,5,6,8,9] O O O)<|U ?_
 refine C ((kb k st dk lg (dU k.R (gM p))).2.2.2.2=0) ?_ ?_ <;> intro h1
 .
  refine R.c6 O mixed ay<|U ?_
  refine Q.c (q.call Wj O O (fun w hw=>DV (bG k.R p).2.1.Data w)) O<|Q.q (q.cat O O (by simp only [ByteArray.size_append,bg,List.length_cons,List.length_nil];omega)) O<|U ?_
  refine Q.c (q.call mT O O (fun w hw=>gF (bG k.R p).2.1.aM w (by exact hw.okF bJ gy) ae)) O ?_
  refine Q.q (q.cat O O (by simp only [ByteArray.size_append,bg,List.length_cons,List.length_nil];omega)) O<|Q.q (q.cat O O (by simp only [ByteArray.size_append,bg,List.length_cons,List.length_nil];omega)) O<|U ?_
  refine Q.c (q.call mT O O (fun w hw=>gF (bG k.R p).2.2.1 w (by exact hw.okF bJ gy) ae)) O ?_
  refine Q.q (q.cat O O (by simp only [ByteArray.size_append,bg,List.length_cons,List.length_nil];omega)) O<|U ?_
  rw [show DT k st dk lg p=_ from by unfold DT yq K6;exact Z7]
  exact R.x1 (z1,z2,z3,z4,z5,z6,z7,z8,z9) [9,2,3,4,5,6,7,8,10] [0,1,2,3,4]
 refine R.kc O O (fun w hw=>fc (kb k st dk lg (dU k.R (gM p))).2.2.2.2 w (by exact hw.okF bJ gy) (by (have:=hE (gM p);omega)) af) ?_
 refine U ?_
 rw [show DT k st dk lg p=_ from by unfold DT yq K6;exact Z7]
 exact R.x1 (z1,z2,z3,z4,z5,z6,z7,z8,z9) [9,2,3,4,5,6,7,8,10] [0,1,2,3,4]
theorem QG (gH:Nat)(se:Unit)(wo:ByteArray)(QC:Value)(n:List Int)(b_k:Nat)(dw dx dy dA:Value)(k:fI)(bB:Nat)(aE:Value)(st:fu)(aF:Nat)(au av ao:Value)(dk:cq)(aZ:Nat)(lg:Lg)(w:World)(own:List Nat)(H:HN w own [ag.box gH [pV aF,pV b_k] 106,ag.box b_k [pV bB,dw,dx,dy,dA,iV k.R.ah,iV k.R.ai] 78,ag.box bB [pV aF,iV st.Epoch,iV st.Side,iV st.Size,iV st.First,pV aZ,aE] 132,ag.box aF [au,av,ao,iV dk.Fuse,.bool dk.Down] 120,ag.row 9 au dk.Kept,ag.row 9 av dk.Now,ag.row 196 ao dk.Wait,ag.box aZ [pV aF,iV lg.From,iV lg.Many,iV lg.First,iV lg.Next] 193] [ag.ls QC n,ag.ls dw k.R.aj,ag.ls dx k.R.Things,ag.ls dy k.R.Held,ag.ls dA k.R.Notes,ag.ls aE st.Rows,bJ])(hC:CJ k st dk lg)(hn:2<=n.length):RS Tryz.prog 183 #[pV gH,.string wo,QC] H (gG k st dk lg (mY wo (⟨nth n 0,nth n 1⟩:Place))) (fun s (_:Value×Value×Value×Value×Value×Value×Value×Value×Nat) => .tuple #[.string s.2.2.2.2.1,.bool s.2.2.2.2.2]) (fun s z=>[ag.box gH [pV aF,pV b_k] 106,ag.box b_k [pV bB,z.1,z.2.1,z.2.2.1,z.2.2.2.1,iV s.1.R.ah,iV s.1.R.ai] 78,ag.box bB [pV aF,iV s.2.1.Epoch,iV s.2.1.Side,iV s.2.1.Size,iV s.2.1.First,pV z.2.2.2.2.2.2.2.2,z.2.2.2.2.1] 132,ag.box aF [z.2.2.2.2.2.1,z.2.2.2.2.2.2.1,z.2.2.2.2.2.2.2.1,iV s.2.2.1.Fuse,.bool s.2.2.1.Down] 120,ag.row 9 z.2.2.2.2.2.1 s.2.2.1.Kept,ag.row 9 z.2.2.2.2.2.2.1 s.2.2.1.Now,ag.row 196 z.2.2.2.2.2.2.2.1 s.2.2.1.Wait,ag.box z.2.2.2.2.2.2.2.2 [pV aF,iV s.2.2.2.1.From,iV s.2.2.2.1.Many,iV s.2.2.2.1.First,iV s.2.2.2.1.Next] 193]) (fun s z=>[ag.ls z.1 s.1.R.aj,ag.ls z.2.1 s.1.R.Things,ag.ls z.2.2.1 s.1.R.Held,ag.ls z.2.2.2.1 s.1.R.Notes,ag.ls z.2.2.2.2.1 s.2.1.Rows]):=by
 have dD:=H.cap 4 rfl;have dE:=H.ck 4 rfl
 have ew:=H.cap 5 rfl;have ey:=H.ck 5 rfl
 have dF:=H.cap 6 rfl;have dG:=H.ck 6 rfl
 have m_n:=H.aL 0 rfl
 have hG:=H.aL 1 rfl
 have gi:=H.aL 2 rfl
 have jd:=H.aL 3 rfl
 have hX:=H.aL 4 rfl
 have j1:=H.aL 5 rfl
 have hC0:=hC;obtain ⟨j,hj,hC⟩:=hC;have hE:=fun a=>hC.err ae a;obtain ⟨hf,⟨u,hV⟩,hS⟩:=hC;have hI:=hV.inv;have hk:=hS.ok ae;have g1:=hV.pre ae;obtain ⟨g2,g3,g4,g5⟩:=g1;have hz:=fun a=>DC hS a ae
 refine R.eN H ?_
 refine R.kc O O (fun w hw=>je _ n w (hw.cy 0 O) ae)<|R.nb fun b1=>?_
 refine C (wo=⟨#[99,101,108,108]⟩) ?_ ?_ <;> intro h1
 .
  refine R.q (q.dZ O O h1) O<|U ?_
  refine R.s O (s.mkS O) fun b2=>?_
  refine R.s O (s.minS 0 O O O O (by kernel_rfl:uk Tryz.prog 266=true) O) fun _=>?_
  refine R.s O (s.minS 0 O O O O (by kernel_rfl:uk Tryz.prog 266=true) O) fun _=>U ?_
  refine R.q (q.Om (z:=1) 0 O O O (by kernel_rfl:uk Tryz.prog 266=true) (by rw [h1];decide)) O<|R.nb fun b3=>?_
  refine R.q (q.D3 (cap:=[pV b1,pV b3]) O O) O<|R.s O (s.pre (fun _ hw=>(hw.Q8 [2,0] [1,3,4,5,6,7,8,9,10,11] O O O).Q9 [] O) (s.aH FD [2,3,4,5,0,6,7] _ _ _ O O O uc O O (fun w own hw H=>kr b_k dw dx dy dA k _ _ _ _ _ (uj (⟨nth n 0,nth n 1⟩:Place) 1) bB aE st aF au av ao dk aZ lg w own H O8 (pB fun v1 v2 v3 v4 w own H=>QD v1 v2 v3 v4 _ b1 (⟨nth n 0,nth n 1⟩:Place) b3 1 w own H af) af af ae af af af (by exact hz _)) O)) ?_
  rintro ⟨z1,z2,z3,z4,z5,z6,z7,z8,z9⟩
  dsimp only
  refine R.kc O O (fun w hw=>iQ (kb k st dk lg (dU k.R (uj (⟨nth n 0,nth n 1⟩:Place) 1))).2.2.2.2 w (by exact hw.okF bJ gy) (by exact ⟨(hE _).1,Int.le_trans (hE _).2 aC⟩)) ?_
  refine U ?_
  rw [show gG k st dk lg (mY wo (⟨nth n 0,nth n 1⟩:Place))=_ from Fq]
  exact R.x2 (z1,z2,z3,z4,z5,z6,z7,z8,z9) Cr [0,1,2,3,4]
 refine R.q (q.dQ O O h1) O<|U ?_
 refine C (wo=⟨#[112,111,114,116]⟩) ?_ ?_ <;> intro h2
 .
  refine R.q (q.dZ O O h2) O<|U ?_
  refine R.s O (s.mkS O) fun b4=>?_
  refine R.s O (s.minS 0 O O O O (by kernel_rfl:uk Tryz.prog 266=true) O) fun _=>?_
  refine R.s O (s.minS 0 O O O O (by kernel_rfl:uk Tryz.prog 266=true) O) fun _=>U ?_
  refine R.q (q.Om (z:=2) 0 O O O (by kernel_rfl:uk Tryz.prog 266=true) (by rw [h2];decide)) O<|R.nb fun b5=>?_
  refine R.q (q.D3 (cap:=[pV b1,pV b5]) O O) O<|R.s O (s.pre (fun _ hw=>(hw.Q8 [2,0] [1,3,4,5,6,7,8,9,10,11] O O O).Q9 [] O) (s.aH FD [2,3,4,5,0,6,7] _ _ _ O O O uc O O (fun w own hw H=>kr b_k dw dx dy dA k _ _ _ _ _ (uj (⟨nth n 0,nth n 1⟩:Place) 2) bB aE st aF au av ao dk aZ lg w own H O8 (pB fun v1 v2 v3 v4 w own H=>QD v1 v2 v3 v4 _ b1 (⟨nth n 0,nth n 1⟩:Place) b5 2 w own H af) af af ae af af af (by exact hz _)) O)) ?_
  rintro ⟨kM,lA,z12,mW,tQ,xl,wG,z17,uX⟩
  dsimp only
  refine R.kc O O (fun w hw=>iQ (kb k st dk lg (dU k.R (uj (⟨nth n 0,nth n 1⟩:Place) 2))).2.2.2.2 w (by exact hw.okF bJ gy) (by exact ⟨(hE _).1,Int.le_trans (hE _).2 aC⟩)) ?_
  refine U ?_
  rw [show gG k st dk lg (mY wo (⟨nth n 0,nth n 1⟩:Place))=_ from Fq]
  exact R.x2 (kM,lA,z12,mW,tQ,xl,wG,z17,uX) Cr [0,1,2,3,4]
 refine R.q (q.dQ O O h2) O<|U ?_
 refine C (wo=⟨#[100,114,111,112]⟩) ?_ ?_ <;> intro h3
 .
  refine R.q (q.dZ O O h3) O<|U ?_
  refine R.q (q.D3 (cap:=[pV b1]) O O) O<|R.s O (s.pre (fun _ hw=>(hw.Q8 [0] iF O O O).Q9 [] O) (s.aH FC [2,3,4,5,0,6,7] _ _ _ O O O uc O O (fun w own hw H=>kr b_k dw dx dy dA k _ _ _ _ _ (BN (⟨nth n 0,nth n 1⟩:Place)) bB aE st aF au av ao dk aZ lg w own H Wg (pB fun v1 v2 v3 v4 w own H=>Xl v1 v2 v3 v4 _ b1 (⟨nth n 0,nth n 1⟩:Place) w own H af) af af ae af af af (by exact hz _)) O)) ?_
  rintro ⟨wH,z20,z21,z22,z23,z24,z25,z26,z27⟩
  dsimp only
  refine R.kc O O (fun w hw=>iQ (kb k st dk lg (dU k.R (BN (⟨nth n 0,nth n 1⟩:Place)))).2.2.2.2 w (by exact hw.okF bJ gy) (by exact ⟨(hE _).1,Int.le_trans (hE _).2 aC⟩)) ?_
  refine U ?_
  rw [show gG k st dk lg (mY wo (⟨nth n 0,nth n 1⟩:Place))=_ from Fq]
  exact R.x2 (wH,z20,z21,z22,z23,z24,z25,z26,z27) JQ [0,1,2,3,4]
 refine R.q (q.dQ O O h3) O<|U ?_
 refine C (wo=⟨#[114,101,118,111,107,101]⟩) ?_ ?_ <;> intro h4
 .
  refine R.q (q.dZ O O h4) O<|U ?_
  refine R.q (q.D3 (cap:=[pV b1]) O O) O<|R.s O (s.pre (fun _ hw=>(hw.Q8 [0] iF O O O).Q9 [] O) (s.aH FC [2,3,4,5,0,6,7] _ _ _ O O O uc O O (fun w own hw H=>kr b_k dw dx dy dA k _ _ _ _ _ (Ii (⟨nth n 0,nth n 1⟩:Place)) bB aE st aF au av ao dk aZ lg w own H Wh (pB fun v1 v2 v3 v4 w own H=>Z8 v1 v2 v3 v4 _ b1 (⟨nth n 0,nth n 1⟩:Place) w own H af) af af ae af af af (by exact hz _)) O)) ?_
  rintro ⟨z28,z29,z30,z31,z32,z33,z34,z35,z36⟩
  dsimp only
  refine R.kc O O (fun w hw=>iQ (kb k st dk lg (dU k.R (Ii (⟨nth n 0,nth n 1⟩:Place)))).2.2.2.2 w (by exact hw.okF bJ gy) (by exact ⟨(hE _).1,Int.le_trans (hE _).2 aC⟩)) ?_
  refine U ?_
  rw [show gG k st dk lg (mY wo (⟨nth n 0,nth n 1⟩:Place))=_ from Fq]
  exact R.x2 (z28,z29,z30,z31,z32,z33,z34,z35,z36) JQ [0,1,2,3,4]
 refine R.q (q.dQ O O h4) O<|U ?_
 refine C (wo=⟨#[114,101,97,100]⟩) ?_ ?_ <;> intro h5
 .
  refine R.q (q.dZ O O h5) O<|U ?_
  refine R.cO (fuel:=12) [0,1,3,4,5,6,7,8,9] O O mixed O<|D.l rL [0,1,3,4,5,6,7,8,9] du O<|U ?_
  refine D.p 4 O iF [8,9,10,11,12,13,14] (s.aH [2,0,1,3,4,5,6,7,8,9] j6 _ _ _ O O O OI O O (fun w own hw H=>uU b_k dw dx dy dA bB k w own H af) O) ?_
  rintro ⟨z45,z46,z47,z48,z49,z50,z51,z52⟩
  dsimp only
  refine D.p 6 O iF [8,9,10,11,12,13,14] (s.c (q.call Wi O O (fun w hw=>MA _ _ _ _ k.R (⟨nth n 0,nth n 1⟩:Place) w (hw.cy 4 O) (hw.cy 5 O) (hw.cy 6 O) (hw.cy 7 O) af)) O) fun _=>?_
  refine D.l [7,8,9,10,11] iF [8,9,10,11,12,13,14] O<|U ?_
  refine D.done<|U ?_
  refine C ((iz k.R (⟨nth n 0,nth n 1⟩:Place)).2=0) ?_ ?_ <;> intro h6
  .
   refine R.kc O O (fun w hw=>DV (iz k.R (⟨nth n 0,nth n 1⟩:Place)).1 w)<|U ?_
   have hz:gG k st dk lg (mY wo (⟨nth n 0,nth n 1⟩:Place))=(k,st,dk,lg,qc (iz k.R (⟨nth n 0,nth n 1⟩:Place)).1,true):=by (exact Fq)
   rw [hz]
   exact R.x2 (z45,z46,z47,z48,aE,au,av,ao,aZ) [2,0,3,4,5,6,7,8,9] [0,1,2,3,13]
  refine R.kc O O (fun w hw=>fc (iz k.R (⟨nth n 0,nth n 1⟩:Place)).2 w (by exact hw.okF bJ gy) (by (have:=K8 k.R ⟨nth n 0,nth n 1⟩;omega)) af) ?_
  refine U ?_
  have hz:gG k st dk lg (mY wo (⟨nth n 0,nth n 1⟩:Place))=(k,st,dk,lg,ke (iz k.R (⟨nth n 0,nth n 1⟩:Place)).2,true):=by (exact Fq)
  rw [hz]
  exact R.x2 (z45,z46,z47,z48,aE,au,av,ao,aZ) [2,0,3,4,5,6,7,8,9] [0,1,2,3,13]
 refine R.q (q.dQ O O h5) O<|U ?_
 refine C (wo=⟨#[116,97,107,101]⟩) ?_ ?_ <;> intro h7
 .
  refine R.q (q.dZ O O h7) O<|U ?_
  refine R.s O (s.aH [1,2,3,4,5,6,7,8,0,9] m5 _ _ _ O O O Wk O O (fun w own hw H=>M0 gH () (⟨nth n 0,nth n 1⟩:Place) b_k dw dx dy dA k bB aE st aF au av ao dk aZ lg w own H af) O) ?_
  rintro ⟨z53,z54,z55,z56,z57,z58,z59,z60,z61⟩
  dsimp only
  refine U ?_
  rw [show gG k st dk lg (mY wo (⟨nth n 0,nth n 1⟩:Place))=_ from Fq]
  exact R.x2 (z53,z54,z55,z56,z57,z58,z59,z60,z61) [0,1,2,3,4,5,6,7,9] [0,1,2,3,4]
 refine R.q (q.dQ O O h7) O<|U ?_
 refine C (wo=⟨#[115,104,111,119]⟩) ?_ ?_ <;> intro h8
 .
  refine R.q (q.dZ O O h8) O<|U ?_
  refine R.s O (s.aH [1,2,0,3,4,5,6,7,8,9] t6 _ _ _ O O O Wl O O (fun w own hw H=>MZ gH aF () b_k dw dx dy dA bB k (⟨nth n 0,nth n 1⟩:Place) w own H af af) O) ?_
  rintro ⟨z62,z63,z64,z65⟩
  dsimp only
  refine U ?_
  rw [show gG k st dk lg (mY wo (⟨nth n 0,nth n 1⟩:Place))=_ from Fq]
  exact R.x2 (z62,z63,z64,z65,aE,au,av,ao,aZ) [0,1,3,4,5,6,7,8,9] [0,1,2,3,9]
 refine R.q (q.dQ O O h8) O<|U ?_
 rw [show gG k st dk lg (mY wo (⟨nth n 0,nth n 1⟩:Place))=_ from Fq]
 exact R.x2 (dw,dx,dy,dA,aE,au,av,ao,aZ) iF [1,2,3,4,5]
end
end Go.Proofs.YtnmpibjlnninjaaGreatDoor
