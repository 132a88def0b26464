import Derived.Test.YtnmpibjlnninjaaGreatDoorCT28
import Derived.Test.YtnmpibjlnninjaaGreatDoorRows
import Derived.Stop.LaidErr
import Derived.Lib.LaidTab
import Derived.MakeChecks
namespace Go.Proofs.YtnmpibjlnninjaaGreatDoor
set_option linter.unusedVariables false
set_option linter.unusedSimpArgs false
set_option maxRecDepth 100000
set_option maxHeartbeats 90000000
section
open Go Go.RowKit
attribute [local irreducible] Run Rg Rq Qt Qa Stp Dg Do Dm bQ
attribute [local irreducible] bL cC bf jE eA dNew kb fB mM bY bu spl
theorem TA (n:Int)(w:World)(hn:n = -1):Calls Tryz.prog 55 #[iV n] w fun e w'=>e = .returned (.string (bS n))/\Ext w w':=by
 have il:=dH (n:= -n) ae
 refine R.eV ?_
 refine R.q (q.neg (r:= -n) O (wr ae)) O<|R.kc O O (fun w hw=>wB (-n) w ae)<|R.q (q.cat O O (by simp only [ByteArray.size_append,bg,List.length_cons,List.length_nil];omega)) O<|U ?_
 refine R.rt ?_
 (subst hn;decide +kernel)
theorem lF (n:Int)(w:World)(hn : -1<=n/\n<=9223372036854775807):Calls Tryz.prog 55 #[.int .i64 n] w fun e w'=>e = .returned (.string (bS n))/\Ext w w':=by
 by_cases h:0<=n
 .exact wB n w ⟨h,hn.2⟩
 exact TA n w ae
theorem cx (er:Int)(w:World)(he:0<=er/\er<=100):Calls Tryz.prog 50 #[iV er] w fun e w'=>e = .returned (.string (ke er))/\Ext w w':=by
 have ip:=dH (n:=er) ae
 refine R.eV ?_
 refine R.kc O O (fun w hw=>lF er w ae)<|R.q (q.cat O O (by simp only [ByteArray.size_append,bg,List.length_cons,List.length_nil];omega)) O<|U ?_
 refine R.rt ?_
 rfl
theorem gU (er:Int)(w:World)(he:0<=er/\er<=100):Calls Tryz.prog 57 #[iV er] w fun e w'=>e = .returned (.string (oH er))/\Ext w w':=by
 refine R.eV ?_
 refine C (0<er) ?_ ?_ <;> intro h1
 .
  refine R.kc O O (fun w hw=>cx er w af)<|U ?_
  refine R.rt ?_
  (unfold oH;rw [if_neg ae])
 refine R.rt ?_
 (unfold oH;rw [if_pos ae])
theorem DY (t:ByteArray)(w:World):Calls Tryz.prog 117 #[.string t] w fun e w'=>e = .returned (.string (qc t))/\Ext w w':=by
 refine R.eV ?_
 refine C (t=⟨#[]⟩) ?_ ?_ <;> intro h1
 .
  refine R.q (q.dZ O O h1) O<|U ?_
  refine R.rt ?_
  (unfold qc;(rw [if_pos af];done))
 refine R.q (q.dQ O O h1) O<|U ?_
 refine R.rt ?_
 (unfold qc;(rw [if_neg af];done))
theorem aah {s:ByteArray}{i:Nat}{y:UInt8}{b:Nat}(hy:s.data[i]? = some y)(h:y.toNat=b)(hb:b<256):s.data[i]? = some (UInt8.ofNat b):=by rw [hy,<- h,UInt8.ofNat_toNat]
theorem Xv {s:ByteArray}{i n:Nat}{y:UInt8}(hy:s.data[i]? = some y)(hn:nk (s.data.toList.take i) 0=some n)(h:y.toNat<48∨57<y.toNat):nk s.data.toList 0=none:=by
 have hy':s.data.toList[i]? = some y:=by simpa using hy
 have e:s.data.toList=s.data.toList.take (i+1)++s.data.toList.drop (i+1):=(List.take_append_drop _ _).symm
 rw [e]
 refine DN _ _ _ ?_
 rw [List.take_add_one,hy']
 exact (xC _ _ _ y hn).trans (if_pos h)
theorem Lc {s:ByteArray}{i n:Nat}{y:UInt8}(hy:s.data[i]? = some y)(hn:nk (s.data.toList.take i) 0=some n)(h:¬ y.toNat<48)(h2:¬ 57<y.toNat):nk (s.data.toList.take (i+1)) 0=some (10*n+(y.toNat-48)):=by
 have hy':s.data.toList[i]? = some y:=by simpa using hy
 rw [List.take_add_one,hy']
 exact (xC _ _ _ y hn).trans (if_neg ae)
theorem pw9:∀i,i<9->10 ^ i<=100000000/\10 ^ (i+1)=10*10 ^ i:=aC
theorem Ft {t:ByteArray}{i n:Nat}{y:UInt8}(h1:¬ t.size<1)(h2:¬ 9<t.size)(h3:¬ (t.data[0]? = some 48/\1<t.size))(hy:t.data[i]? = some y)(hn:nk (t.data.toList.take i) 0=some n)(h:y.toNat<48∨57<y.toNat):bu t = -1:=by
 rw [ZY h1 h2 h3,Xv hy hn h]
theorem Ld {t:ByteArray}{i:Nat}{n:Int}(h1:¬ t.size<1)(h2:¬ 9<t.size)(h3:¬ (t.data[0]? = some 48/\1<t.size))(hi:¬ i<t.size)(hn:nk (t.data.toList.take i) 0=some n.toNat)(h0:0<=n):bu t=if 999<n then -1 else n:=by
 have hl:t.data.toList.length<=i:=by show t.size<=i;omega
 rw [List.take_of_length_le hl] at hn
 rw [ZY h1 h2 h3,hn]
 dsimp only
 by_cases h:999<n
 .rw [if_pos h,if_pos ae]
 rw [if_neg h,if_neg ae];omega
theorem QN {t:ByteArray}{a j:Nat}:(t.extract a t.size).data[j]? = t.data[a+j]?:=by
 rw [<- Array.getElem?_toList,Lib.extract_data,<- Array.getElem?_toList,List.take_of_length_le bA,List.getElem?_drop]
theorem QO {t:ByteArray}{a b c:Nat}(h:a+c<=t.size):(t.extract a t.size).extract b c=t.extract (a+b) (a+c):=by
 refine fY ?_
 rw [Lib.extract_data,Lib.extract_data,Lib.extract_data,List.take_of_length_le (l:=List.drop a t.data.toList) bA,List.drop_drop]
 congr 1;omega
theorem TB {t:ByteArray}{fr i:Nat}{y:UInt8}{l:List ByteArray}(h1:fr<=i)(hy:t.data[i]? = some y)(h:y.toNat=32)(hn:∀j,fr<=j->j<i->¬ t.data[j]? = some 32)(HL:l++spl (t.extract fr t.size)=spl t):(l++[t.extract fr i])++spl (t.extract (i+1) t.size)=spl t:=by
 have hi:i<t.size:=(Array.getElem?_eq_some_iff.1 hy).1
 have hy':t.data[i]? = some 32:=aah hy h aC
 have hs:(t.extract fr t.size).size=t.size-fr:=by rw [ByteArray.size_extract];omega
 have hx:Lib.indexB (t.extract fr t.size) sp=((i-fr:Nat):Int):=W9 (by rw [QN,show fr+(i-fr)=i by omega];exact hy') fun j hj=>by rw [QN];exact hn _ ae ae
 rw [Fj hx,hs,QO ae,QO ae,Nat.add_zero,show fr+(i-fr)=i by omega,show fr+(i-fr+1)=i+1 by omega,show fr+(t.size-fr)=t.size by omega] at HL
 rw [<- HL];simp
theorem TD {t:ByteArray}{fr i:Nat}{y:UInt8}(hy:t.data[i]? = some y)(h:¬ y.toNat=32)(hn:∀j,fr<=j->j<i->¬ t.data[j]? = some 32):∀j,fr<=j->j<i+1->¬ t.data[j]? = some 32:=fun j h1 h2=>by
 by_cases e:j=i
 .subst e;rw [hy];intro q;injection q with q;subst q;exact h rfl
 exact hn j h1 ae
theorem Xw {t:ByteArray}{fr i:Nat}{l:List ByteArray}(hi:¬ i<t.size)(hn:∀j,fr<=j->j<i->¬ t.data[j]? = some 32)(HL:l++spl (t.extract fr t.size)=spl t):spl t=l++[t.extract fr t.size]:=by
 rw [<- HL,BL (Xa fun j hj=>?_)]
 rw [ByteArray.size_extract] at hj
 rw [QN];exact hn _ ae ae
theorem M4 {w:List ByteArray}{i:Nat}{x:ByteArray}{l:List Int}(hx:w[i]? = some x)(hi:i<=w.length)(hl:l=(w.take i).map bu)(ha:∀j x,j<i->w[j]? = some x->0<=bu x)(h:0<=bu x) :
 i+1<=w.length/\l++[bu x]=(w.take (i+1)).map bu /\ ∀j x,j<i+1->w[j]? = some x->0<=bu x:=by
 have:=(List.getElem?_eq_some_iff.1 hx).1
 refine ⟨ae,by rw [hl,List.take_add_one,hx];simp,fun j y hj hy=>?_⟩
 by_cases e:j=i
 .subst e;rw [hx] at hy;injection hy with hy;subst hy;exact h
 exact ha j y ae hy
theorem QP {t:ByteArray}:([]:List ByteArray)++spl (t.extract 0 t.size)=spl t:=by
 have e:t.extract 0 t.size=t:=fY (by rw [Lib.extract_data,List.drop_zero];exact List.take_of_length_le (Nat.le_refl _))
 rw [e];rfl
theorem sT (t:ByteArray)(most:Int)(w:World)(hm:most=999):Calls Tryz.prog 114 #[.string t,iV most] w fun e w'=>e = .returned (iV (bu t))/\Ext w w':=by
 refine R.eV ?_
 refine C (t.size<1) ?_ ?_ <;> intro h1
 .
  refine R.rt ?_
  (exact (Xc (.inl af)).symm)
 refine C (9<t.size) ?_ ?_ <;> intro h2
 .
  refine R.rt ?_
  (exact (Xc (.inr (.inl af))).symm)
 obtain ⟨y1,hy1⟩:∃z,t.data[0]? = some z:=⟨_,Array.getElem?_eq_getElem (show 0<t.size from by omega)⟩
 have Wt:=y1.toNat_lt
 refine R.qg O (q.gN (i:=0) O O Tryz.underlying9 O hy1) O<|C (y1.toNat=48) ?_ ?_ <;> intro h3
 .
  refine C (1<t.size) ?_ ?_ <;> intro h4
  .
   refine R.rt ?_
   (exact (Xc (.inr (.inr ⟨aah hy1 af aC,af⟩))).symm)
  refine R.loop (fun g_:Nat×Int=>[(0,.string t),(1,iV most),(5,iV g_.2),(6,iV (g_.1:Int))]) (fun g_=>[]) (fun g_=>[]) (fun g_=>g_.1<=t.size/\nk (t.data.toList.take g_.1) 0=some g_.2.toNat/\0<=g_.2/\g_.2<((10 ^ g_.1:Nat):Int)) (fun g_=>t.size-g_.1) (0,0) O (by exact ⟨ae,rfl,aC,aC⟩) (sF O) (dX [] [] O) ?_
  rintro ⟨i,n⟩ ⟨hi,HD,h0,HB⟩
  dsimp only at *
  have hp:=pw9 i;have TE:¬ (t.data[0]? = some 48/\1<t.size):=by (exact fun q=>absurd q.2 af)
  refine U ?_
  refine C (i<t.size) ?_ ?_ <;> intro h5
  .
   obtain ⟨y2,hy2⟩:∃z,t.data[i]? = some z:=⟨_,Array.getElem?_eq_getElem (show i<t.size from by omega)⟩
   have XK:=y2.toNat_lt
   refine R.q (q.gN (i:=i) O O Tryz.underlying9 O hy2) O<|C (y2.toNat<48) ?_ ?_ <;> intro h6
   .
    refine R.rt ?_
    (exact (Ft af af TE af HD (.inl af)).symm)
   refine R.qg O (q.gN (i:=i) O O Tryz.underlying9 O hy2) O<|C (57<y2.toNat) ?_ ?_ <;> intro h7
   .
    refine R.rt ?_
    (exact (Ft af af TE af HD (.inr af)).symm)
   refine R.q (q.ut (r:=10*n) O O) O<|U ?_
   refine R.q (q.gN (i:=i) O O Tryz.underlying9 O hy2) O<|R.q (q.sub (r:=((y2.toNat-48:Nat):Int)) O O (rU ae)) O<|R.q (q.ny (r:=(((y2.toNat-48):Nat):Int)) O (by rw [Tryz.underlying5];rfl) Tryz.underlying3 (wr ae)) O<|U ?_
   refine R.back (i+1,((10*n)+(((y2.toNat-48):Nat):Int))) O (by (try dsimp only);exact ⟨ae,by rw [Lc af HD af af];congr 1;omega,ae,ae⟩) aJ (sF O) (dX [] [] O)
  refine C (most<n) ?_ ?_ <;> intro h8
  .
   refine R.rt ?_
   (rw [Ld af af TE af HD h0];rw [if_pos ae])
  refine R.rt ?_
  (rw [Ld af af TE af HD h0];rw [if_neg ae])
 refine R.loop (fun g_:Nat×Int=>[(0,.string t),(1,iV most),(5,iV g_.2),(6,iV (g_.1:Int))]) (fun g_=>[]) (fun g_=>[]) (fun g_=>g_.1<=t.size/\nk (t.data.toList.take g_.1) 0=some g_.2.toNat/\0<=g_.2/\g_.2<((10 ^ g_.1:Nat):Int)) (fun g_=>t.size-g_.1) (0,0) O (by exact ⟨ae,rfl,aC,aC⟩) (sF O) (dX [] [] O) ?_
 rintro ⟨i,n⟩ ⟨hi,HD,h0,HB⟩
 dsimp only at *
 have hp:=pw9 i;have TE:¬ (t.data[0]? = some 48/\1<t.size):=by (intro q;have q1:=q.1;rw [hy1] at q1;injection q1 with q1;subst q1;exact absurd rfl af)
 refine U ?_
 refine C (i<t.size) ?_ ?_ <;> intro h9
 .
  obtain ⟨y3,hy3⟩:∃z,t.data[i]? = some z:=⟨_,Array.getElem?_eq_getElem (show i<t.size from by omega)⟩
  have Zi:=y3.toNat_lt
  refine R.q (q.gN (i:=i) O O Tryz.underlying9 O hy3) O<|C (y3.toNat<48) ?_ ?_ <;> intro h10
  .
   refine R.rt ?_
   (exact (Ft af af TE af HD (.inl af)).symm)
  refine R.qg O (q.gN (i:=i) O O Tryz.underlying9 O hy3) O<|C (57<y3.toNat) ?_ ?_ <;> intro h11
  .
   refine R.rt ?_
   (exact (Ft af af TE af HD (.inr af)).symm)
  refine R.q (q.ut (r:=10*n) O O) O<|U ?_
  refine R.q (q.gN (i:=i) O O Tryz.underlying9 O hy3) O<|R.q (q.sub (r:=((y3.toNat-48:Nat):Int)) O O (rU ae)) O<|R.q (q.ny (r:=(((y3.toNat-48):Nat):Int)) O (by rw [Tryz.underlying5];rfl) Tryz.underlying3 (wr ae)) O<|U ?_
  refine R.back (i+1,((10*n)+(((y3.toNat-48):Nat):Int))) O (by (try dsimp only);exact ⟨ae,by rw [Lc af HD af af];congr 1;omega,ae,ae⟩) aJ (sF O) (dX [] [] O)
 refine C (most<n) ?_ ?_ <;> intro h12
 .
  refine R.rt ?_
  (rw [Ld af af TE af HD h0];rw [if_pos ae])
 refine R.rt ?_
 (rw [Ld af af TE af HD h0];rw [if_neg ae])
theorem JM (t:ByteArray)(w:World)(own:List Nat)(H:HN w own [] [])(ht:t.size<=100):RC Tryz.prog 51 #[.string t] H (fun z:Value=>z) (fun z=>[ag.row 9 z (spl t)]) (fun _=>[]):=by
 refine R.eN H ?_
 refine R.row0 (α:=ByteArray) 9<|R.loop (fun g_:Nat×Nat×Value×(List ByteArray)=>[(0,.string t),(3,g_.2.2.1),(4,iV (g_.2.1:Int)),(5,iV (g_.1:Int))]) (fun g_=>[ag.row 9 g_.2.2.1 g_.2.2.2,ag.held w own]) (fun g_=>[]) (fun g_=>g_.2.1<=g_.1/\g_.1<=t.size/\g_.2.2.2.length<=g_.1/\g_.2.2.2++spl (t.extract g_.2.1 t.size)=spl t /\ ∀j,g_.2.1<=j->j<g_.1->¬ t.data[j]? = some 32) (fun g_=>t.size-g_.1) (0,0,nS,[]) O (by (try dsimp only);exact ⟨ae,ae,Nat.le_refl _,QP,fun j h1 h2=>absurd h2 (Nat.not_lt_zero _)⟩) (sF O) (dX [0,1] [] O) ?_
 rintro ⟨i,fr,v,l⟩ ⟨hf,hi,hll,HL,HN⟩
 dsimp only at *
 refine U ?_
 refine C (i<t.size) ?_ ?_ <;> intro h1
 .
  obtain ⟨y1,hy1⟩:∃z,t.data[i]? = some z:=⟨_,Array.getElem?_eq_getElem (show i<t.size from by omega)⟩
  have Wt:=y1.toNat_lt
  refine R.q (q.gN (i:=i) O O Tryz.underlying9 O hy1) O<|C (y1.toNat=32) ?_ ?_ <;> intro h2
  .
   refine R.q (q.Fv (i:=fr) (j:=i) O O O Tryz.underlying9 O O ae ae) O<|R.s O (s.bs (l:=([t.extract fr i]:List ByteArray)) dN e8 O O O O O O O) fun b1=>?_
   refine R.ap fun v1=>?_
   refine R.back ((i+1),i+1,v1,(l++([t.extract fr i]))) O (by (try dsimp only);exact ⟨ae,ae,aG,TB ae hy1 af HN HL,fun j q1 q2=>absurd q2 ae⟩) aJ (sF O) (cw [1,2] [] O)
  refine R.back ((i+1),fr,v,l) O (by (try dsimp only);exact ⟨ae,ae,ae,HL,TD hy1 af HN⟩) aJ (sF O) (cw [0,1] [] O)
 refine R.q (q.Cy (i:=fr) O O Tryz.underlying9 O ae) O<|R.s O (s.bs (l:=([t.extract fr t.size]:List ByteArray)) dN e8 O O O O O O O) fun b2=>?_
 refine R.ap fun v2=>?_
 rw [show spl t=_ from Xw af HN HL]
 exact R.x1 v2 [1,2] []
theorem DZ (fQ:Value)(ws:List ByteArray)(w:World)(own:List Nat)(H:HN w own [] [ag.ls fQ ws])(hw:ws.length<=200):RC Tryz.prog 54 #[fQ] H (fun z:Value => .tuple #[z,.bool (fP ws)]) (fun z=>[ag.row 3 z (nn ws)]) (fun _=>[]):=by
 have MY:=H.aL 0 rfl
 refine R.eN H ?_
 refine R.row0 (α:=Int) 3<|R.loop (fun g_:Nat×Value×(List Int)=>[(0,fQ),(4,g_.2.1),(5,iV (g_.1:Int))]) (fun g_=>[ag.row 3 g_.2.1 g_.2.2,ag.held w own]) (fun g_=>[ag.ls fQ ws]) (fun g_=>g_.1<=ws.length/\g_.2.2=(ws.take g_.1).map bu /\ ∀j x,j<g_.1->ws[j]? = some x->0<=bu x) (fun g_=>ws.length-g_.1) (0,nS,[]) O (by exact ⟨ae,rfl,fun j x hj=>absurd hj (Nat.not_lt_zero _)⟩) (sF O) (dX [0,1] [0] O) ?_
 rintro ⟨i,u,l⟩ ⟨hi,HL,HA⟩
 dsimp only at *
 have hll:l.length=i:=(by rw [HL];simp;omega)
 refine U ?_
 refine C (i<ws.length) ?_ ?_ <;> intro h1
 .
  obtain ⟨x1,hx1⟩:=gE ws i
  refine U ?_
  refine R.kc O O (fun w hw=>sT x1 999 w eH)<|U ?_
  refine C (bu x1<0) ?_ ?_ <;> intro h2
  .
   refine R.row0 (α:=Int) 3 ?_
   have hz:(nn ws,fP ws)=([],false):=by (exact wE hx1 ae)
   have hz0:nn ws=[]:=congrArg (fun t_=>t_.1) hz
   rw [hz0]
   have hz1:fP ws=false:=congrArg (fun t_=>t_.2) hz
   rw [hz1]
   exact R.x2 nS [0,2] []
  refine R.s O (s.bs (l:=([bu x1]:List Int)) kx jW O O O O O O O) fun b1=>?_
  refine R.ap fun v1=>?_
  refine R.back (i+1,v1,(l++([bu x1]))) O (by exact M4 hx1 ae HL HA ae) aJ (sF O) (cw [1,2] [0] O)
 have hz:(nn ws,fP ws)=(l,true):=by (exact La af HL HA)
 have hz0:nn ws=l:=congrArg (fun t_=>t_.1) hz
 rw [hz0]
 have hz1:fP ws=true:=congrArg (fun t_=>t_.2) hz
 rw [hz1]
 exact R.x2 u [0,1] []
theorem sU {p:Prop}(h:p:=by unfold mY;(repeat first|rewrite [dR (by assumption)] | rewrite [if_pos (by assumption)] | rewrite [if_neg (by assumption)] | rewrite [if_pos (by omega)] | rewrite [if_neg (by omega)]);(try dsimp only [eS]) <;> (try rewrite [K5]) <;> (try unfold DR) <;> (try unfold rA) <;> (try unfold yq K6) <;> (repeat first|rewrite [dR (by assumption)] | rewrite [if_pos (by assumption)] | rewrite [if_neg (by assumption)] | rewrite [if_pos (by omega)] | rewrite [if_neg (by omega)]) <;> rfl):p:=h
theorem jS {p:Prop}(h:p:=by unfold dL sP;(repeat first|rewrite [dR (by assumption)] | rewrite [if_pos (by assumption)] | rewrite [if_neg (by assumption)] | rewrite [if_pos (by omega)] | rewrite [if_neg (by omega)] | rewrite [if_pos (sn0 (by assumption) (by assumption) (by assumption))] | rewrite [if_pos (abz (by assumption))] | rewrite [if_neg (aai (by assumption))] | rewrite [if_pos (pr0 (by assumption))] | rewrite [if_neg (pr1 (by assumption))]);(try rewrite [aaj (c:=2) (by omega) (by omega) (by assumption) (by assumption)]);(try rewrite [prv (by assumption)]);rfl):p:=h
theorem BR {p:Prop}(h:p:=by first|(rewrite [if_neg (by omega)];rfl)|(rewrite [if_pos (by omega)];first|(rewrite [QR (by omega) (.inl (by assumption))];rfl)|(rewrite [QR (by omega) (.inr (.inl (by rewrite [dR (by assumption)];assumption)))];rfl)|(rewrite [QR (by omega) (.inr (.inr (by rewrite [dR (by assumption)];assumption)))];rfl)|(rewrite [Xx (by omega) (by assumption) (by rewrite [dR (by assumption)];assumption) (by rewrite [dR (by assumption)];assumption) (by assumption) (by assumption) (by assumption) (by assumption)];(repeat rewrite [dR (by assumption)]);rfl))):p:=h
theorem pw {p:Prop}(h:p:=by unfold iu;(try unfold wC);(repeat first|rewrite [dR (by assumption)] | rewrite [if_pos (by assumption)] | rewrite [if_neg (by assumption)] | rewrite [if_pos (by omega)] | rewrite [if_neg (by omega)]);(try (have e_:=M5 (by assumption) (by omega);subst e_));(repeat first|rewrite [dR (by assumption)] | rewrite [if_pos (by assumption)] | rewrite [if_neg (by assumption)] | rewrite [if_pos (by omega)] | rewrite [if_neg (by omega)]);(try rewrite [abA (by omega) (by assumption) (by assumption)]);(try rewrite [QS (by omega) (by assumption)]);rfl):p:=h
theorem tK (JJ:Value)(w:List ByteArray)(W:World)(own:List Nat)(H:HN W own [] [ag.ls JJ (w:List ByteArray)])(hw:w.length<=200)(hb:fP w=true):RC Tryz.prog 54 #[JJ] H (fun z:Value => .tuple #[z,.bool true]) (fun z=>[ag.row 3 z (w.map bu:List Int)]) (fun _=>[]):=by
 have h:=DZ JJ w W own H hw
 rw [show nn w=w.map bu from if_pos hb,hb] at h;exact h
theorem tL (JJ:Value)(w:List ByteArray)(W:World)(own:List Nat)(H:HN W own [] [ag.ls JJ (w:List ByteArray)])(hw:w.length<=200)(hb:¬ fP w=true):RC Tryz.prog 54 #[JJ] H (fun z:Value => .tuple #[z,.bool false]) (fun z=>[ag.row 3 z ([]:List Int)]) (fun _=>[]):=by
 have h:=DZ JJ w W own H hw
 rw [show nn w=[] from if_neg hb,Bool.eq_false_iff.2 hb] at h;exact h
def CR (m:j3)(ms:iO):Prop:= ∃j r,j<=100/\CM j m ms r
def ZF (m:j3)(ms:iO)(r:aB)(f:Int):Prop:=0<=f/\(f=0->Ok r/\Inv r)/\0<=(fB m ms (r,f)).2.2/\(fB m ms (r,f)).2.2<=10
theorem CR.f {m:j3}{ms:iO}(h:CR m ms):Ok m.R/\Inv m.R/\(0<=ms.Many/\ms.Many<=1000/\0<=ms.Used/\ms.Used<=1000/\ms.Rows.length<=1000) /\ ∀a,ZF m ms (dU m.R a).1 (dU m.R a).2:=by
 obtain ⟨j,r,hj,hm,⟨k,st,dk,lg,u,hr,hf,hK,hM⟩,hS⟩:=h
 subst hm
 refine ⟨hS.ok ae,hK.inv,hM.small hK ae,fun a=>⟨p6 a,fun h0=>⟨DC hS a ae h0,(yY hK.inv a h0).1⟩,?_⟩⟩
 show 0<=(fB m ms (dU m.R a)).2.2/\(fB m ms (dU m.R a)).2.2<=10
 rw [(zc (q:=(⟨m.R⟩,st,dk,lg,0)) hK.inv a hK ae hf hM rfl hS).2.1]
 exact ⟨p6 a,UN _ a⟩
theorem CR.z {m:j3}{ms:iO}(hZ:∀a,ZF m ms (dU m.R a).1 (dU m.R a).2):(∀p k,ZF m ms (cG m.R p k).1 (cG m.R p k).2)/\(∀p t a b,ZF m ms (dt m.R p t a b).1 (dt m.R p t a b).2)/\(∀p a,ZF m ms (gC m.R p a).1 (gC m.R p a).2)/\(∀p,ZF m ms (iK m.R p).1 (iK m.R p).2)/\(∀p,ZF m ms (dI m.R p).1 (dI m.R p).2)/\(∀p t,ZF m ms (eh m.R p t).1 (eh m.R p t).2)/\(∀p t a b,ZF m ms (cm m.R p t a b).1 (cm m.R p t a b).2) /\ ∀p,ZF m ms (bG m.R p).1 (bG m.R p).2.2.2 :=
 ⟨fun p k=>hZ (uj p k),fun p t a b=>hZ (yp p t a b),fun p a=>hZ (BM p a),fun p=>hZ (BN p),fun p=>hZ (Ii p),fun p t=>hZ (uW p t),fun p t a b=>hZ (rz p t a b),fun p=>hZ (gM p)⟩
theorem aak {w:List ByteArray}{i:Nat}(h:i<w.length):w[i]? = some (wd w i):=by unfold wd;rw [List.getElem?_eq_getElem h];rfl
theorem Le {w:List ByteArray}{i:Nat}(h:i+1<w.length):((w.drop 1).map bu)[i]? = some (bu (wd w (i+1))):=by
 rw [List.getElem?_map,List.getElem?_drop,Nat.add_comm 1 i,aak h];rfl
theorem Lf {w:List ByteArray}{i c:Nat}{a:Int}(hi:i<c)(hl:i+1<w.length)(ha:(((w.drop 1).take c).map bu)[i]? = some a):bu (wd w (i+1))=a:=by
 rw [List.map_take,List.getElem?_take_of_lt hi,Le hl] at ha
 injection ha
theorem QS {w:List ByteArray}{i:Nat}{a:Int}(hl:i+1<w.length)(ha:((w.drop 1).map bu)[i]? = some a):bu (wd w (i+1))=a:=by
 rw [Le hl] at ha
 injection ha
theorem aaj {w:List ByteArray}{a b:Int}{c:Nat}(hc:2<=c)(hl:3<=w.length)(ha:(((w.drop 1).take c).map bu)[0]? = some a)(hb:(((w.drop 1).take c).map bu)[1]? = some b):JH w=⟨a,b⟩:=by
 unfold JH;rw [<- Lf ae ae ha,<- Lf ae ae hb]
theorem abA {w:List ByteArray}{a b:Int}(hl:3<=w.length)(ha:((w.drop 1).map bu)[0]? = some a)(hb:((w.drop 1).map bu)[1]? = some b):JH w=⟨a,b⟩:=by
 unfold JH;rw [<- QS ae ha,<- QS ae hb]
theorem abz {x:ByteArray}(h:¬ bu x<0):fP [x]=true:=by unfold fP;simp;omega
theorem aai {x:ByteArray}(h:bu x<0):¬ fP [x]=true:=by unfold fP;simp;omega
theorem pr0 {x:ByteArray}(h:¬ rH x<0):Q7 x=0:=if_neg h
theorem pr1 {x:ByteArray}(h:rH x<0):¬ Q7 x=0:=by unfold Q7;rw [if_pos h];decide
theorem prv {x:ByteArray}(h:¬ rH x<0):Nc x=rH x:=if_neg h
theorem sn0 {w:List ByteArray}{x:ByteArray}(h0:wd w 0=⟨#[119,114,105,116,101]⟩∨wd w 0=⟨#[115,101,110,100]⟩)(hw:wd w 0=x)(h:¬ x=⟨#[119,114,105,116,101]⟩):x=⟨#[115,101,110,100]⟩:=by
 rw [hw] at h0;exact h0.resolve_left h
theorem UR {w:List ByteArray}(h:5<=w.length):(w.drop 1).take 4=[wd w 1,wd w 2,wd w 3,wd w 4]:=by
 match w,h with
 | _::a::b::c::d::l,_=>rfl
theorem aal {a b c d e:ByteArray}:fP [a,b,c,d,e]=true↔fP [a,b,c,d]=true/\0<=bu e:=by
 unfold fP;simp [and_assoc]
theorem QR {w:List ByteArray}(h7:w.length=7)(h:¬ fP ((w.drop 1).take 4)=true∨rH (wd w 5)<0∨bu (wd w 6)<0):lM w = .bad:=by
 unfold lM
 rw [UR ae] at h
 by_cases hn:fP [wd w 1,wd w 2,wd w 3,wd w 4,wd w 6]=true
 .
  rw [if_pos hn,if_neg]
  have:=aal.1 hn
  rcases h with h|h|h
  .exact absurd this.1 h
  .exact pr1 h
  omega
 exact if_neg hn
theorem Xx {w:List ByteArray}{a b c d:Int}(h7:w.length=7)(h:fP ((w.drop 1).take 4)=true)(hr:¬ rH (wd w 5)<0)(hs:¬ bu (wd w 6)<0)
 (ha:(((w.drop 1).take 4).map bu)[0]? = some a) (hb:(((w.drop 1).take 4).map bu)[1]? = some b) (hc:(((w.drop 1).take 4).map bu)[2]? = some c) (hd:(((w.drop 1).take 4).map bu)[3]? = some d) :
 lM w = .act (yp ⟨a,b⟩ ⟨c,d⟩ (rH (wd w 5)) (bu (wd w 6))):=by
 unfold lM
 rw [aaj ae ae ha hb,Lf ae ae hc,Lf ae ae hd]
 rw [UR ae] at h
 rw [if_pos (aal.2 ⟨h,ae⟩),if_pos (pr0 hr),prv hr]
theorem QT {s x:ByteArray}(h:(spl s).length=1)(hx:(spl s)[0]? = some x):x=s:=by
 rw [S9 h] at hx;injection hx with hx;exact hx.symm
theorem M5 {s x:ByteArray}(hx:(spl s)[0]? = some x)(h:(spl s).length=1):x=s:=QT h hx
theorem QU (qV:Nat)(xs:Unit)(wo:ByteArray)(p:Place)(mh:Nat)(da df dh dj:Value)(m:j3)(iq:Nat)(bj:Value)(ms:iO)(w:World)(own:List Nat)(H:HN w own [ag.box qV [pV mh] 66,ag.box mh [pV iq,da,df,dh,dj,iV m.R.ah,iV m.R.ai] 50,ag.box iq [bj,iV ms.Used,iV ms.Many] 41] [ag.ls da m.R.aj,ag.ls df m.R.Things,ag.ls dh m.R.Held,ag.ls dj m.R.Notes,ag.ls bj ms.Rows])(hM:CR m ms):RS Tryz.prog 56 #[pV qV,.string wo,.agg #[iV p.aD,iV p.Slot]] H (eS m ms (mY wo p)) (fun s (_:Value×Value×Value×Value×Value) => .string s.2.2) (fun s z=>[ag.box qV [pV mh] 66,ag.box mh [pV iq,z.1,z.2.1,z.2.2.1,z.2.2.2.1,iV s.1.R.ah,iV s.1.R.ai] 50,ag.box iq [z.2.2.2.2,iV s.2.1.Used,iV s.2.1.Many] 41]) (fun s z=>[ag.ls z.1 s.1.R.aj,ag.ls z.2.1 s.1.R.Things,ag.ls z.2.2.1 s.1.R.Held,ag.ls z.2.2.2.1 s.1.R.Notes,ag.ls z.2.2.2.2 s.2.1.Rows]):=by
 have mP:=H.aL 0 rfl
 have lE:=H.aL 1 rfl
 have oG:=H.aL 2 rfl
 have mQ:=H.aL 3 rfl
 have tI:=H.aL 4 rfl
 obtain ⟨hk,hI,hb,hZ⟩:=hM.f;obtain ⟨zM,zG,zV,zD,zR,zW,zS,zT⟩:=CR.z hZ
 have tb:=QA (r:=m.R) (p:=p) hI;obtain ⟨tb1,tb2,tb3,tb4⟩:=tb;have tw:=Io tb1;have i7:=dH (n:=(bG m.R p).2.1.aM) ae;have i8:=dH (n:=(bG m.R p).2.2.1) ae;have hrd:=K8 m.R p;have hge:=wD m.R p;have hgn:=ef m.R p;have ht1:=(zT p).2.2.1;have ht2:=(zT p).2.2.2
 refine R.eN H ?_
 refine R.nb fun b1=>?_
 refine R.nb fun b2=>?_
 refine C (wo=⟨#[99,101,108,108]⟩) ?_ ?_ <;> intro h1
 .
  refine R.q (q.dZ O O h1) O<|U ?_
  refine R.cO (fuel:=12) fD O O mixed O<|D.l fw fD bV O<|U ?_
  refine D.p 6 O fD j5 (s.aH fw bm _ _ _ O O O Ua O O (fun w own hw H=>DL da df dh dj m.R p 1 w own H af af) O) ?_
  rintro ⟨kM,lA,z12,mW⟩
  dsimp only
  refine D.l [7,8] fD j5 O<|U ?_
  refine D.p 9 O eO ra (s.aH rM ze _ _ _ O O O pW O O (fun w own hw H=>j4 mh da df dh dj m kM lA z12 mW (cG m.R p 1).1 (cG m.R p 1).2 iq bj ms w own H af af af (by exact (zM _ _).1) (by exact (zM _ _).2.1)) O) ?_
  rintro ⟨tQ,xl,wG,z17,uX⟩
  dsimp only
  refine D.p 10 O eO ra (s.c (q.call rx O O (fun w hw=>gU (fB m ms (((cG m.R p 1).1),(cG m.R p 1).2)).2.2 w (by exact ⟨(zM _ _).2.2.1,Int.le_trans (zM _ _).2.2.2 aC⟩))) O) fun _=>?_
  refine D.l [11] eO ra O<|U ?_
  refine D.done ?_
  rw [show eS m ms (mY wo p)=_ from sU]
  exact R.x1 (tQ,xl,wG,z17,uX) rN [0,1,2,3,4]
 refine R.q (q.dQ O O h1) O<|U ?_
 refine C (wo=⟨#[112,111,114,116]⟩) ?_ ?_ <;> intro h2
 .
  refine R.q (q.dZ O O h2) O<|U ?_
  refine R.cO (fuel:=12) fD O O mixed O<|D.l fw fD bV O<|U ?_
  refine D.p 6 O fD j5 (s.aH fw bm _ _ _ O O O Ua O O (fun w own hw H=>DL da df dh dj m.R p 2 w own H af af) O) ?_
  rintro ⟨z28,z29,z30,z31⟩
  dsimp only
  refine D.l [7,8] fD j5 O<|U ?_
  refine D.p 9 O eO ra (s.aH rM ze _ _ _ O O O pW O O (fun w own hw H=>j4 mh da df dh dj m z28 z29 z30 z31 (cG m.R p 2).1 (cG m.R p 2).2 iq bj ms w own H af af af (by exact (zM _ _).1) (by exact (zM _ _).2.1)) O) ?_
  rintro ⟨z32,z33,z34,z35,z36⟩
  dsimp only
  refine D.p 10 O eO ra (s.c (q.call rx O O (fun w hw=>gU (fB m ms (((cG m.R p 2).1),(cG m.R p 2).2)).2.2 w (by exact ⟨(zM _ _).2.2.1,Int.le_trans (zM _ _).2.2.2 aC⟩))) O) fun _=>?_
  refine D.l [11] eO ra O<|U ?_
  refine D.done ?_
  rw [show eS m ms (mY wo p)=_ from sU]
  exact R.x1 (z32,z33,z34,z35,z36) rN [0,1,2,3,4]
 refine R.q (q.dQ O O h2) O<|U ?_
 refine C (wo=⟨#[100,114,111,112]⟩) ?_ ?_ <;> intro h3
 .
  refine R.q (q.dZ O O h3) O<|U ?_
  refine R.cO (fuel:=12) fD O O mixed O<|D.l fw fD bV O<|U ?_
  refine D.p 6 O fD j5 (s.aH fw bm _ _ _ O O O YR O O (fun w own hw H=>MO da df dh dj m.R p w own H af af) O) ?_
  rintro ⟨z46,z47,z48,z49⟩
  dsimp only
  refine D.l [7,8] fD j5 O<|U ?_
  refine D.p 9 O eO ra (s.aH rM ze _ _ _ O O O pW O O (fun w own hw H=>j4 mh da df dh dj m z46 z47 z48 z49 (iK m.R p).1 (iK m.R p).2 iq bj ms w own H af af af (by exact (zD _).1) (by exact (zD _).2.1)) O) ?_
  rintro ⟨z50,z51,z52,z53,z54⟩
  dsimp only
  refine D.p 10 O eO ra (s.c (q.call rx O O (fun w hw=>gU (fB m ms (((iK m.R p).1),(iK m.R p).2)).2.2 w (by exact ⟨(zD _).2.2.1,Int.le_trans (zD _).2.2.2 aC⟩))) O) fun _=>?_
  refine D.l [11] eO ra O<|U ?_
  refine D.done ?_
  rw [show eS m ms (mY wo p)=_ from sU]
  exact R.x1 (z50,z51,z52,z53,z54) rN [0,1,2,3,4]
 refine R.q (q.dQ O O h3) O<|U ?_
 refine C (wo=⟨#[114,101,118,111,107,101]⟩) ?_ ?_ <;> intro h4
 .
  refine R.q (q.dZ O O h4) O<|U ?_
  refine R.cO (fuel:=12) fD O O mixed O<|D.l fw fD bV O<|U ?_
  refine D.p 6 O fD j5 (s.aH fw bm _ _ _ O O O YS O O (fun w own hw H=>Ig da df dh dj m.R p w own H af af) O) ?_
  rintro ⟨z64,z65,z66,z67⟩
  dsimp only
  refine D.l [7,8] fD j5 O<|U ?_
  refine D.p 9 O eO ra (s.aH rM ze _ _ _ O O O pW O O (fun w own hw H=>j4 mh da df dh dj m z64 z65 z66 z67 (dI m.R p).1 (dI m.R p).2 iq bj ms w own H af af af (by exact (zR _).1) (by exact (zR _).2.1)) O) ?_
  rintro ⟨z68,z69,z70,z71,z72⟩
  dsimp only
  refine D.p 10 O eO ra (s.c (q.call rx O O (fun w hw=>gU (fB m ms (((dI m.R p).1),(dI m.R p).2)).2.2 w (by exact ⟨(zR _).2.2.1,Int.le_trans (zR _).2.2.2 aC⟩))) O) fun _=>?_
  refine D.l [11] eO ra O<|U ?_
  refine D.done ?_
  rw [show eS m ms (mY wo p)=_ from sU]
  exact R.x1 (z68,z69,z70,z71,z72) rN [0,1,2,3,4]
 refine R.q (q.dQ O O h4) O<|U ?_
 refine C (wo=⟨#[114,101,97,100]⟩) ?_ ?_ <;> intro h5
 .
  refine R.q (q.dZ O O h5) O<|U ?_
  refine R.kc O O (fun w hw=>MJ _ _ _ _ m.R p w (hw.cy 0 O) (hw.cy 1 O) (hw.cy 2 O) (hw.cy 3 O) af af)<|U ?_
  refine C (0<(iz m.R p).2) ?_ ?_ <;> intro h6
  .
   refine R.kc O O (fun w hw=>cx (iz m.R p).2 w ae)<|U ?_
   have hz:eS m ms (mY wo p)=(m,ms,ke (iz m.R p).2):=by (exact sU)
   rw [hz]
   exact R.x1 (da,df,dh,dj,bj) eO [0,1,2,3,4]
  refine R.kc O O (fun w hw=>DY (iz m.R p).1 w)<|U ?_
  have hz:eS m ms (mY wo p)=(m,ms,qc (iz m.R p).1):=by (exact sU)
  rw [hz]
  exact R.x1 (da,df,dh,dj,bj) eO [0,1,2,3,4]
 refine R.q (q.dQ O O h5) O<|U ?_
 refine C (wo=⟨#[116,97,107,101]⟩) ?_ ?_ <;> intro h7
 .
  refine R.q (q.dZ O O h7) O<|U ?_
  refine R.s O (s.aH fw bm _ _ _ O O O YT O O (fun w own hw H=>MP da df dh dj m.R p w own H af af) O) ?_
  rintro ⟨z73,z74,z75,z76⟩
  dsimp only
  refine U ?_
  refine R.nb fun b3=>?_
  refine R.nb fun b4=>?_
  refine R.cO (fuel:=8) [0,1,2,3,4,7] O O mixed O<|D.l fw [0,1,2,3,4,7] bZ O<|U ?_
  refine D.p 6 O [2,3,4,5,6,7] [5,6,7,8,9,10,11,12,13] (s.aH [5,6,0,1,2,3,4,7] ze _ _ _ O O O pW O O (fun w own hw H=>j4 mh da df dh dj m z73 z74 z75 z76 (bG m.R p).1 (bG m.R p).2.2.2 iq bj ms w own H af af af (by exact (zT _).1) (by exact (zT _).2.1)) O) ?_
  rintro ⟨z82,z83,z84,z85,z86⟩
  dsimp only
  refine D.l [7] [2,3,4,5,6,7] [5,6,7,8,9,10,11,12,13] O<|U ?_
  refine D.done<|U ?_
  refine C (0<(fB m ms (((bG m.R p).1),(bG m.R p).2.2.2)).2.2) ?_ ?_ <;> intro h8
  .
   refine R.kc O O (fun w hw=>cx (fB m ms (((bG m.R p).1),(bG m.R p).2.2.2)).2.2 w ae)<|U ?_
   have hz:eS m ms (mY wo p)=(((fB m ms (((bG m.R p).1),(bG m.R p).2.2.2)).1),(fB m ms (((bG m.R p).1),(bG m.R p).2.2.2)).2.1,ke (fB m ms (((bG m.R p).1),(bG m.R p).2.2.2)).2.2):=by (exact sU)
   rw [hz]
   exact R.x1 (z82,z83,z84,z85,z86) [6,0,1,7] [0,1,2,3,4]
  refine R.c6 O mixed ay<|U ?_
  refine Q.c (q.call VD O O (fun w hw=>DY (bG m.R p).2.1.Data w)) O<|Q.q (q.cat O O (by simp only [ByteArray.size_append,bg,List.length_cons,List.length_nil];omega)) O<|U ?_
  refine Q.c (q.call om O O (fun w hw=>lF (bG m.R p).2.1.aM w ae)) O<|Q.q (q.cat O O (by simp only [ByteArray.size_append,bg,List.length_cons,List.length_nil];omega)) O<|Q.q (q.cat O O (by simp only [ByteArray.size_append,bg,List.length_cons,List.length_nil];omega)) O<|U ?_
  refine Q.c (q.call om O O (fun w hw=>lF (bG m.R p).2.2.1 w ae)) O<|Q.q (q.cat O O (by simp only [ByteArray.size_append,bg,List.length_cons,List.length_nil];omega)) O<|U ?_
  have hz:eS m ms (mY wo p)=(((fB m ms (((bG m.R p).1),(bG m.R p).2.2.2)).1),(fB m ms (((bG m.R p).1),(bG m.R p).2.2.2)).2.1,((((qc (bG m.R p).2.1.Data++⟨#[32,98,97,100,103,101,32]⟩)++bS (bG m.R p).2.1.aM)++⟨#[32,115,108,111,116,32]⟩)++bS (bG m.R p).2.2.1)):=by (exact sU)
  rw [hz]
  exact R.x1 (z82,z83,z84,z85,z86) [6,0,1,7] [0,1,2,3,4]
 refine R.q (q.dQ O O h7) O<|U ?_
 refine C (wo=⟨#[115,104,111,119]⟩) ?_ ?_ <;> intro h9
 .
  refine R.q (q.dZ O O h9) O<|U ?_
  refine R.kc O O (fun w hw=>oF _ _ _ _ m.R p w (hw.cy 0 O) (hw.cy 1 O) (hw.cy 2 O) (hw.cy 3 O) af af)<|U ?_
  refine R.nb fun b5=>?_
  refine C (0<(aI m.R p).2) ?_ ?_ <;> intro h10
  .
   refine R.kc O O (fun w hw=>cx (aI m.R p).2 w ae)<|U ?_
   have hz:eS m ms (mY wo p)=(m,ms,ke (aI m.R p).2):=by (exact sU)
   rw [hz]
   exact R.x1 (da,df,dh,dj,bj) [3,4,5,6] [0,1,2,3,4]
  have M6:(aI m.R p).2=0:=(by have:=ef m.R p;omega);obtain ⟨b1,b2,b3,b4,b5,b6⟩:=UO hI M6;have hw:=hk.wl;have hbl:=zH (aI m.R p).1.ID m.R.aj;have i1:=dH (n:=(aI m.R p).1.ID) ae;have i2:=dH (n:=(aI m.R p).1.aA) ae;have i3:=dH (n:=(aI m.R p).1.aM) ae;have i4:=dH (n:=(aI m.R p).1.From) ae;have i5:=dH (n:=(((gW (aI m.R p).1.ID m.R.aj).length:Nat):Int)) ae;have i6:=Im (aI m.R p).1.Rights.toNat
  refine U ?_
  refine R.cO (fuel:=33) du O O mixed O<|D.l [0,1,4,5,9,10,14,15,19,20,24,25,26,27] du bV O<|U ?_
  refine D.p 2 O du bV (s.c (q.call om O O (fun w hw=>lF (aI m.R p).1.ID w ae)) O) fun _=>?_
  refine D.l [3] du bV O<|Dm.yy O O (q.cat O O (by simp only [ByteArray.size_append,bg,List.length_cons,List.length_nil];omega)) O<|U ?_
  refine D.p 6 O du bV (s.c (q.call om O O (fun w hw=>lF (aI m.R p).1.aA w ae)) O) fun _=>?_
  refine D.l [7,8] du bV O<|Dm.yy O O (q.cat O O (by simp only [ByteArray.size_append,bg,List.length_cons,List.length_nil];omega)) O<|Dm.yy O O (q.cat O O (by simp only [ByteArray.size_append,bg,List.length_cons,List.length_nil];omega)) O<|U ?_
  refine D.p 11 O du bV (s.c (q.call VE O O (fun w hw=>MW (aI m.R p).1.Rights w ae)) O) fun _=>?_
  refine D.l [12,13] du bV O<|Dm.yy O O (q.cat O O (by simp only [ByteArray.size_append,bg,List.length_cons,List.length_nil];omega)) O<|Dm.yy O O (q.cat O O (by simp only [ByteArray.size_append,bg,List.length_cons,List.length_nil];omega)) O<|U ?_
  refine D.p 16 O du bV (s.c (q.call om O O (fun w hw=>lF (aI m.R p).1.aM w ae)) O) fun _=>?_
  refine D.l [17,18] du bV O<|Dm.yy O O (q.cat O O (by simp only [ByteArray.size_append,bg,List.length_cons,List.length_nil];omega)) O<|Dm.yy O O (q.cat O O (by simp only [ByteArray.size_append,bg,List.length_cons,List.length_nil];omega)) O<|U ?_
  refine D.p 21 O du bV (s.c (q.call om O O (fun w hw=>lF (aI m.R p).1.From w ae)) O) fun _=>?_
  refine D.l [22,23] du bV O<|Dm.yy O O (q.cat O O (by simp only [ByteArray.size_append,bg,List.length_cons,List.length_nil];omega)) O<|Dm.yy O O (q.cat O O (by simp only [ByteArray.size_append,bg,List.length_cons,List.length_nil];omega)) O<|U ?_
  refine D.p 28 O fj bV (s.nM Ul O O (fun w hw=>wv _ m.R.aj (aI m.R p).1.ID w (hw.cy 0 O) (by exact hI.tree) ae) O) fun v1=>?_
  refine D.k 29 O fj bV (q.len' (cI 0 O) O Tryz.underlying110) ?_
  refine D.p 30 O fj bV (s.c (q.call om O O (fun w hw=>lF ((gW (aI m.R p).1.ID m.R.aj).length:Int) w ae)) O) fun _=>?_
  refine D.l [31,32] fj bV O<|Dm.yy O O (q.cat O O (by simp only [ByteArray.size_append,bg,List.length_cons,List.length_nil];omega)) O<|U ?_
  refine D.done ?_
  have hz:eS m ms (mY wo p)=(m,ms,((((((((((bS (aI m.R p).1.ID++⟨#[32,111,102,32]⟩)++bS (aI m.R p).1.aA)++⟨#[32]⟩)++iP (aI m.R p).1.Rights.toNat)++⟨#[32,98,97,100,103,101,32]⟩)++bS (aI m.R p).1.aM)++⟨#[32,102,114,111,109,32]⟩)++bS (aI m.R p).1.From)++⟨#[32,98,101,110,101,97,116,104,32]⟩)++bS ((gW (aI m.R p).1.ID m.R.aj).length:Int))):=by (exact sU)
  rw [hz]
  exact R.x1 (da,df,dh,dj,bj) [4,5,6,7] [0,1,2,3,4]
 refine R.q (q.dQ O O h9) O<|U ?_
 refine R.kc O O (fun w hw=>cx 4 w ae)<|U ?_
 rw [show eS m ms (mY wo p)=_ from sU]
 exact R.x1 (da,df,dh,dj,bj) eO [0,1,2,3,4]
theorem D1 (qV:Nat)(xs:Unit)(fQ:Value)(ws:List ByteArray)(mh:Nat)(da df dh dj:Value)(m:j3)(iq:Nat)(bj:Value)(ms:iO)(w:World)(own:List Nat)(H:HN w own [ag.box qV [pV mh] 66,ag.box mh [pV iq,da,df,dh,dj,iV m.R.ah,iV m.R.ai] 50,ag.box iq [bj,iV ms.Used,iV ms.Many] 41] [ag.ls fQ ws,ag.ls da m.R.aj,ag.ls df m.R.Things,ag.ls dh m.R.Held,ag.ls dj m.R.Notes,ag.ls bj ms.Rows])(hM:CR m ms)(hw:ws.length<=200/\1<=ws.length)(h0:wd ws 0=⟨#[119,114,105,116,101]⟩∨wd ws 0=⟨#[115,101,110,100]⟩):RS Tryz.prog 52 #[pV qV,fQ] H (eS m ms (if ws.length=4 then dL ws else if ws.length=6 then dL ws else .bad)) (fun s (_:Value×Value×Value×Value×Value) => .string s.2.2) (fun s z=>[ag.box qV [pV mh] 66,ag.box mh [pV iq,z.1,z.2.1,z.2.2.1,z.2.2.2.1,iV s.1.R.ah,iV s.1.R.ai] 50,ag.box iq [z.2.2.2.2,iV s.2.1.Used,iV s.2.1.Many] 41]) (fun s z=>[ag.ls z.1 s.1.R.aj,ag.ls z.2.1 s.1.R.Things,ag.ls z.2.2.1 s.1.R.Held,ag.ls z.2.2.2.1 s.1.R.Notes,ag.ls z.2.2.2.2 s.2.1.Rows]):=by
 have MY:=H.aL 0 rfl
 have mP:=H.aL 1 rfl
 have lE:=H.aL 2 rfl
 have oG:=H.aL 3 rfl
 have mQ:=H.aL 4 rfl
 have tI:=H.aL 5 rfl
 obtain ⟨hk,hI,hb,hZ⟩:=hM.f;obtain ⟨zM,zG,zV,zD,zR,zW,zS,zT⟩:=CR.z hZ
 obtain ⟨hw1,hw3⟩:=hw;have hn2:(((ws.drop 1).take 2).map bu).length=min 2 (ws.length-1):=bA;have hn4:(((ws.drop 1).take 4).map bu).length=min 4 (ws.length-1):=bA;have hcw:=Sl.lH (Wd.cy 0 rfl H)
 refine R.eN H ?_
 refine C (ws.length=4) ?_ ?_ <;> intro h1
 .
  refine R.q (q.sl2 (i:=1) (j:=3) (vu 0 O) O O O dN O O ae (by exact Nat.le_trans ae (Nat.le_refl _))) O<|C (fP ((ws.drop 1).take 2)=true) ?_ ?_ <;> intro h2
  .
   refine R.s O (s.pre (fun w hw=>hw.nQ 0 _ (ag.ls (sl2 fQ 1 3 1) ((ws.drop 1).take 2)) O sR (Sl.sl2 (α:=ByteArray) (l:=ws) (i:=1) (j:=3) (hw.cy 0 O) ae ae)) (s.aH bm [0] _ _ _ O O O xW O O (fun w own hw H=>tK (sl2 fQ 1 3 1) ((ws.drop 1).take 2) w own H aG af) O)) fun z1=>U ?_
   obtain ⟨x1,hx1⟩:=gE ws 3
   have QI:=dR hx1
   refine U ?_
   refine C (x1=⟨#[]⟩) ?_ ?_ <;> intro h3
   .
    refine R.qg O (q.dZ O O h3) O<|U ?_
    refine R.kc O O (fun w hw=>cx 4 w ae)<|U ?_
    rw [show eS m ms (if ws.length=4 then dL ws else if ws.length=6 then dL ws else .bad)=_ from jS]
    exact R.x1 (da,df,dh,dj,bj) j6 [2,3,4,5,6]
   refine R.qg O (q.dQ O O h3) O<|U ?_
   obtain ⟨x2,hx2⟩:=gE (((ws.drop 1).take 2).map bu) 0
   obtain ⟨x3,hx3⟩:=gE (((ws.drop 1).take 2).map bu) 1
   refine R.cO (fuel:=9) bV O O mixed O<|D.l du bV du O<|U ?_
   refine D.p 7 O oL du (s.alloc ji O O) fun b1=>?_
   refine D.p 8 O oL du (s.st 0 _ O O O O (.inl gY) O O O O) fun _=>?_
   refine D.done<|U ?_
   refine C (x1=⟨#[45]⟩) ?_ ?_ <;> intro h4
   .
    refine R.q (q.dZ O O h4) O<|U ?_
    obtain ⟨x4,hx4⟩:=gE ws 0
    have Xr:=dR hx4
    refine U ?_
    refine C (x4=⟨#[119,114,105,116,101]⟩) ?_ ?_ <;> intro h5
    .
     refine R.qg O (q.dZ O O h5) O<|U ?_
     refine R.cO (fuel:=19) fD O O mixed O<|D.l JU fD du O<|U ?_
     refine D.k 10 O fD du (q.Rc (ds:=[da,df,dh,dj,iV m.R.ah,iV m.R.ai]) 3 O O fN O) ?_
     refine D.p 13 O fD iU (s.aH fw eO _ _ _ O O O Ub O O (fun w own hw H=>BH da df dh dj m.R (⟨x2,x3⟩:Place) (⟨#[]⟩) w own H af af) O) ?_
     rintro ⟨lA,z12,mW,tQ⟩
     dsimp only
     refine D.l [14,15] fD iU O<|U ?_
     refine D.p 16 O eO jA (s.aH rM xG _ _ _ O O O pW O O (fun w own hw H=>j4 mh da df dh dj m lA z12 mW tQ (eh m.R (⟨x2,x3⟩:Place) (⟨#[]⟩)).1 (eh m.R (⟨x2,x3⟩:Place) (⟨#[]⟩)).2 iq bj ms w own H af af af (by exact (zW _ _).1) (by exact (zW _ _).2.1)) O) ?_
     rintro ⟨xl,wG,z17,uX,wH⟩
     dsimp only
     refine D.p 17 O eO jA (s.c (q.call rx O O (fun w hw=>gU (fB m ms (((eh m.R (⟨x2,x3⟩:Place) (⟨#[]⟩)).1),(eh m.R (⟨x2,x3⟩:Place) (⟨#[]⟩)).2)).2.2 w (by exact ⟨(zW _ _).2.2.1,Int.le_trans (zW _ _).2.2.2 aC⟩))) O) fun _=>?_
     refine D.l [18] eO jA O<|U ?_
     refine D.done ?_
     rw [show eS m ms (if ws.length=4 then dL ws else if ws.length=6 then dL ws else .bad)=_ from jS]
     exact R.x1 (xl,wG,z17,uX,wH) rN [0,1,2,3,4]
    refine R.qg O (q.dQ O O h5) O<|U ?_
    refine R.cO (fuel:=19) fD O O mixed O<|D.l JU fD du O<|U ?_
    refine D.k 10 O fD du (q.Rc (ds:=[da,df,dh,dj,iV m.R.ah,iV m.R.ai]) 3 O O fN O) ?_
    refine D.p 13 O fD iU (s.aH fw eO _ _ _ O O O KL O O (fun w own hw H=>tH da df dh dj m.R (⟨x2,x3⟩:Place) (⟨#[]⟩) (-1) 0 w own H af af) O) ?_
    rintro ⟨z29,z30,z31,z32⟩
    dsimp only
    refine D.l [14,15] fD iU O<|U ?_
    refine D.p 16 O eO jA (s.aH rM xG _ _ _ O O O pW O O (fun w own hw H=>j4 mh da df dh dj m z29 z30 z31 z32 (cm m.R (⟨x2,x3⟩:Place) (⟨#[]⟩) (-1) 0).1 (cm m.R (⟨x2,x3⟩:Place) (⟨#[]⟩) (-1) 0).2 iq bj ms w own H af af af (by exact (zS _ _ _ _).1) (by exact (zS _ _ _ _).2.1)) O) ?_
    rintro ⟨z33,z34,z35,z36,z37⟩
    dsimp only
    refine D.p 17 O eO jA (s.c (q.call rx O O (fun w hw=>gU (fB m ms (((cm m.R (⟨x2,x3⟩:Place) (⟨#[]⟩) (-1) 0).1),(cm m.R (⟨x2,x3⟩:Place) (⟨#[]⟩) (-1) 0).2)).2.2 w (by exact ⟨(zS _ _ _ _).2.2.1,Int.le_trans (zS _ _ _ _).2.2.2 aC⟩))) O) fun _=>?_
    refine D.l [18] eO jA O<|U ?_
    refine D.done ?_
    rw [show eS m ms (if ws.length=4 then dL ws else if ws.length=6 then dL ws else .bad)=_ from jS]
    exact R.x1 (z33,z34,z35,z36,z37) rN [0,1,2,3,4]
   refine R.q (q.dQ O O h4) O<|U ?_
   obtain ⟨x5,hx5⟩:=gE ws 0
   have Xs:=dR hx5
   refine U ?_
   refine C (x5=⟨#[119,114,105,116,101]⟩) ?_ ?_ <;> intro h6
   .
    refine R.qg O (q.dZ O O h6) O<|U ?_
    refine R.cO (fuel:=19) fD O O mixed O<|D.l JU fD du O<|U ?_
    refine D.k 10 O fD du (q.Rc (ds:=[da,df,dh,dj,iV m.R.ah,iV m.R.ai]) 3 O O fN O) ?_
    refine D.p 13 O fD iU (s.aH fw eO _ _ _ O O O Ub O O (fun w own hw H=>BH da df dh dj m.R (⟨x2,x3⟩:Place) x1 w own H af af) O) ?_
    rintro ⟨z47,z48,z49,z50⟩
    dsimp only
    refine D.l [14,15] fD iU O<|U ?_
    refine D.p 16 O eO jA (s.aH rM xG _ _ _ O O O pW O O (fun w own hw H=>j4 mh da df dh dj m z47 z48 z49 z50 (eh m.R (⟨x2,x3⟩:Place) x1).1 (eh m.R (⟨x2,x3⟩:Place) x1).2 iq bj ms w own H af af af (by exact (zW _ _).1) (by exact (zW _ _).2.1)) O) ?_
    rintro ⟨z51,z52,z53,z54,z55⟩
    dsimp only
    refine D.p 17 O eO jA (s.c (q.call rx O O (fun w hw=>gU (fB m ms (((eh m.R (⟨x2,x3⟩:Place) x1).1),(eh m.R (⟨x2,x3⟩:Place) x1).2)).2.2 w (by exact ⟨(zW _ _).2.2.1,Int.le_trans (zW _ _).2.2.2 aC⟩))) O) fun _=>?_
    refine D.l [18] eO jA O<|U ?_
    refine D.done ?_
    rw [show eS m ms (if ws.length=4 then dL ws else if ws.length=6 then dL ws else .bad)=_ from jS]
    exact R.x1 (z51,z52,z53,z54,z55) rN [0,1,2,3,4]
   refine R.qg O (q.dQ O O h6) O<|U ?_
   refine R.cO (fuel:=19) fD O O mixed O<|D.l JU fD du O<|U ?_
   refine D.k 10 O fD du (q.Rc (ds:=[da,df,dh,dj,iV m.R.ah,iV m.R.ai]) 3 O O fN O) ?_
   refine D.p 13 O fD iU (s.aH fw eO _ _ _ O O O KL O O (fun w own hw H=>tH da df dh dj m.R (⟨x2,x3⟩:Place) x1 (-1) 0 w own H af af) O) ?_
   rintro ⟨z65,z66,z67,z68⟩
   dsimp only
   refine D.l [14,15] fD iU O<|U ?_
   refine D.p 16 O eO jA (s.aH rM xG _ _ _ O O O pW O O (fun w own hw H=>j4 mh da df dh dj m z65 z66 z67 z68 (cm m.R (⟨x2,x3⟩:Place) x1 (-1) 0).1 (cm m.R (⟨x2,x3⟩:Place) x1 (-1) 0).2 iq bj ms w own H af af af (by exact (zS _ _ _ _).1) (by exact (zS _ _ _ _).2.1)) O) ?_
   rintro ⟨z69,z70,z71,z72,z73⟩
   dsimp only
   refine D.p 17 O eO jA (s.c (q.call rx O O (fun w hw=>gU (fB m ms (((cm m.R (⟨x2,x3⟩:Place) x1 (-1) 0).1),(cm m.R (⟨x2,x3⟩:Place) x1 (-1) 0).2)).2.2 w (by exact ⟨(zS _ _ _ _).2.2.1,Int.le_trans (zS _ _ _ _).2.2.2 aC⟩))) O) fun _=>?_
   refine D.l [18] eO jA O<|U ?_
   refine D.done ?_
   rw [show eS m ms (if ws.length=4 then dL ws else if ws.length=6 then dL ws else .bad)=_ from jS]
   exact R.x1 (z69,z70,z71,z72,z73) rN [0,1,2,3,4]
  refine R.s O (s.pre (fun w hw=>hw.nQ 0 _ (ag.ls (sl2 fQ 1 3 1) ((ws.drop 1).take 2)) O sR (Sl.sl2 (α:=ByteArray) (l:=ws) (i:=1) (j:=3) (hw.cy 0 O) ae ae)) (s.aH bm [0] _ _ _ O O O xW O O (fun w own hw H=>tL (sl2 fQ 1 3 1) ((ws.drop 1).take 2) w own H aG af) O)) fun z74=>U ?_
  refine R.kc O O (fun w hw=>cx 4 w ae)<|U ?_
  rw [show eS m ms (if ws.length=4 then dL ws else if ws.length=6 then dL ws else .bad)=_ from jS]
  exact R.x1 (da,df,dh,dj,bj) j6 [2,3,4,5,6]
 refine C (ws.length=6) ?_ ?_ <;> intro h7
 .
  refine R.q (q.sl2 (i:=1) (j:=3) (vu 0 O) O O O dN O O ae (by exact Nat.le_trans ae (Nat.le_refl _))) O<|C (fP ((ws.drop 1).take 2)=true) ?_ ?_ <;> intro h8
  .
   refine R.s O (s.pre (fun w hw=>hw.nQ 0 _ (ag.ls (sl2 fQ 1 3 1) ((ws.drop 1).take 2)) O sR (Sl.sl2 (α:=ByteArray) (l:=ws) (i:=1) (j:=3) (hw.cy 0 O) ae ae)) (s.aH bm [0] _ _ _ O O O xW O O (fun w own hw H=>tK (sl2 fQ 1 3 1) ((ws.drop 1).take 2) w own H aG af) O)) fun z75=>U ?_
   obtain ⟨x6,hx6⟩:=gE ws 3
   have abq:=dR hx6
   refine U ?_
   refine C (x6=⟨#[]⟩) ?_ ?_ <;> intro h9
   .
    refine R.qg O (q.dZ O O h9) O<|U ?_
    refine R.kc O O (fun w hw=>cx 4 w ae)<|U ?_
    rw [show eS m ms (if ws.length=4 then dL ws else if ws.length=6 then dL ws else .bad)=_ from jS]
    exact R.x1 (da,df,dh,dj,bj) j6 [2,3,4,5,6]
   refine R.qg O (q.dQ O O h9) O<|U ?_
   obtain ⟨x7,hx7⟩:=gE (((ws.drop 1).take 2).map bu) 0
   obtain ⟨x8,hx8⟩:=gE (((ws.drop 1).take 2).map bu) 1
   refine R.cO (fuel:=9) bV O O mixed O<|D.l du bV du O<|U ?_
   refine D.p 7 O oL du (s.alloc ji O O) fun b2=>?_
   refine D.p 8 O oL du (s.st 0 _ O O O O (.inl gY) O O O O) fun _=>?_
   refine D.done<|U ?_
   refine C (x6=⟨#[45]⟩) ?_ ?_ <;> intro h10
   .
    refine R.q (q.dZ O O h10) O<|U ?_
    obtain ⟨x9,hx9⟩:=gE ws 4
    have acd:=dR hx9
    refine U ?_
    refine R.kc O O (fun w hw=>sT x9 999 w eH)<|U ?_
    obtain ⟨x10,ZU⟩:=gE ws 5
    have abN:=dR ZU
    refine U ?_
    refine R.kc O O (fun w hw=>y9 x10 w)<|U ?_
    obtain ⟨x11,abB⟩:=gE ws 0
    have abO:=dR abB
    refine U ?_
    refine C (x11=⟨#[119,114,105,116,101]⟩) ?_ ?_ <;> intro h11
    .
     refine R.q (q.dZ O O h11) O<|U ?_
     refine R.kc O O (fun w hw=>cx 4 w ae)<|U ?_
     rw [show eS m ms (if ws.length=4 then dL ws else if ws.length=6 then dL ws else .bad)=_ from jS]
     exact R.x1 (da,df,dh,dj,bj) eO [2,3,4,5,6]
    refine R.q (q.dQ O O h11) O<|U ?_
    refine C (bu x9<0) ?_ ?_ <;> intro h12
    .
     refine R.kc O O (fun w hw=>cx 4 w ae)<|U ?_
     rw [show eS m ms (if ws.length=4 then dL ws else if ws.length=6 then dL ws else .bad)=_ from jS]
     exact R.x1 (da,df,dh,dj,bj) eO [2,3,4,5,6]
    refine C (rH x10<0) ?_ ?_ <;> intro Pf
    .
     refine R.kc O O (fun w hw=>cx 4 w ae)<|U ?_
     rw [show eS m ms (if ws.length=4 then dL ws else if ws.length=6 then dL ws else .bad)=_ from jS]
     exact R.x1 (da,df,dh,dj,bj) eO [2,3,4,5,6]
    refine R.cO (fuel:=21) fD O O mixed O<|D.l [0,1,2,3,4,5,6,7,8,9,11,12,13,14] fD du O<|U ?_
    refine D.k 10 O fD du (q.Rc (ds:=[da,df,dh,dj,iV m.R.ah,iV m.R.ai]) 3 O O fN O) ?_
    refine D.p 15 O fD iU (s.aH fw eO _ _ _ O O O KL O O (fun w own hw H=>tH da df dh dj m.R (⟨x7,x8⟩:Place) (⟨#[]⟩) (bu x9) (rH x10) w own H af af) O) ?_
    rintro ⟨z85,z86,z87,z88⟩
    dsimp only
    refine D.l [16,17] fD iU O<|U ?_
    refine D.p 18 O eO jA (s.aH rM xG _ _ _ O O O pW O O (fun w own hw H=>j4 mh da df dh dj m z85 z86 z87 z88 (cm m.R (⟨x7,x8⟩:Place) (⟨#[]⟩) (bu x9) (rH x10)).1 (cm m.R (⟨x7,x8⟩:Place) (⟨#[]⟩) (bu x9) (rH x10)).2 iq bj ms w own H af af af (by exact (zS _ _ _ _).1) (by exact (zS _ _ _ _).2.1)) O) ?_
    rintro ⟨z89,z90,z91,z92,z93⟩
    dsimp only
    refine D.p 19 O eO jA (s.c (q.call rx O O (fun w hw=>gU (fB m ms (((cm m.R (⟨x7,x8⟩:Place) (⟨#[]⟩) (bu x9) (rH x10)).1),(cm m.R (⟨x7,x8⟩:Place) (⟨#[]⟩) (bu x9) (rH x10)).2)).2.2 w (by exact ⟨(zS _ _ _ _).2.2.1,Int.le_trans (zS _ _ _ _).2.2.2 aC⟩))) O) fun _=>?_
    refine D.l [20] eO jA O<|U ?_
    refine D.done ?_
    rw [show eS m ms (if ws.length=4 then dL ws else if ws.length=6 then dL ws else .bad)=_ from jS]
    exact R.x1 (z89,z90,z91,z92,z93) rN [0,1,2,3,4]
   refine R.q (q.dQ O O h10) O<|U ?_
   obtain ⟨Xy,abC⟩:=gE ws 4
   have abP:=dR abC
   refine U ?_
   refine R.kc O O (fun w hw=>sT Xy 999 w eH)<|U ?_
   obtain ⟨Xz,abD⟩:=gE ws 5
   have abQ:=dR abD
   refine U ?_
   refine R.kc O O (fun w hw=>y9 Xz w)<|U ?_
   obtain ⟨x14,abE⟩:=gE ws 0
   have abR:=dR abE
   refine U ?_
   refine C (x14=⟨#[119,114,105,116,101]⟩) ?_ ?_ <;> intro Si
   .
    refine R.q (q.dZ O O Si) O<|U ?_
    refine R.kc O O (fun w hw=>cx 4 w ae)<|U ?_
    rw [show eS m ms (if ws.length=4 then dL ws else if ws.length=6 then dL ws else .bad)=_ from jS]
    exact R.x1 (da,df,dh,dj,bj) eO [2,3,4,5,6]
   refine R.q (q.dQ O O Si) O<|U ?_
   refine C (bu Xy<0) ?_ ?_ <;> intro XJ
   .
    refine R.kc O O (fun w hw=>cx 4 w ae)<|U ?_
    rw [show eS m ms (if ws.length=4 then dL ws else if ws.length=6 then dL ws else .bad)=_ from jS]
    exact R.x1 (da,df,dh,dj,bj) eO [2,3,4,5,6]
   refine C (rH Xz<0) ?_ ?_ <;> intro h16
   .
    refine R.kc O O (fun w hw=>cx 4 w ae)<|U ?_
    rw [show eS m ms (if ws.length=4 then dL ws else if ws.length=6 then dL ws else .bad)=_ from jS]
    exact R.x1 (da,df,dh,dj,bj) eO [2,3,4,5,6]
   refine R.cO (fuel:=21) fD O O mixed O<|D.l [0,1,2,3,4,5,6,7,8,9,11,12,13,14] fD du O<|U ?_
   refine D.k 10 O fD du (q.Rc (ds:=[da,df,dh,dj,iV m.R.ah,iV m.R.ai]) 3 O O fN O) ?_
   refine D.p 15 O fD iU (s.aH fw eO _ _ _ O O O KL O O (fun w own hw H=>tH da df dh dj m.R (⟨x7,x8⟩:Place) x6 (bu Xy) (rH Xz) w own H af af) O) ?_
   rintro ⟨abF,abG,z105,abH⟩
   dsimp only
   refine D.l [16,17] fD iU O<|U ?_
   refine D.p 18 O eO jA (s.aH rM xG _ _ _ O O O pW O O (fun w own hw H=>j4 mh da df dh dj m abF abG z105 abH (cm m.R (⟨x7,x8⟩:Place) x6 (bu Xy) (rH Xz)).1 (cm m.R (⟨x7,x8⟩:Place) x6 (bu Xy) (rH Xz)).2 iq bj ms w own H af af af (by exact (zS _ _ _ _).1) (by exact (zS _ _ _ _).2.1)) O) ?_
   rintro ⟨z107,abI,z109,abJ,abK⟩
   dsimp only
   refine D.p 19 O eO jA (s.c (q.call rx O O (fun w hw=>gU (fB m ms (((cm m.R (⟨x7,x8⟩:Place) x6 (bu Xy) (rH Xz)).1),(cm m.R (⟨x7,x8⟩:Place) x6 (bu Xy) (rH Xz)).2)).2.2 w (by exact ⟨(zS _ _ _ _).2.2.1,Int.le_trans (zS _ _ _ _).2.2.2 aC⟩))) O) fun _=>?_
   refine D.l [20] eO jA O<|U ?_
   refine D.done ?_
   rw [show eS m ms (if ws.length=4 then dL ws else if ws.length=6 then dL ws else .bad)=_ from jS]
   exact R.x1 (z107,abI,z109,abJ,abK) rN [0,1,2,3,4]
  refine R.s O (s.pre (fun w hw=>hw.nQ 0 _ (ag.ls (sl2 fQ 1 3 1) ((ws.drop 1).take 2)) O sR (Sl.sl2 (α:=ByteArray) (l:=ws) (i:=1) (j:=3) (hw.cy 0 O) ae ae)) (s.aH bm [0] _ _ _ O O O xW O O (fun w own hw H=>tL (sl2 fQ 1 3 1) ((ws.drop 1).take 2) w own H aG af) O)) fun ace=>U ?_
  refine R.kc O O (fun w hw=>cx 4 w ae)<|U ?_
  rw [show eS m ms (if ws.length=4 then dL ws else if ws.length=6 then dL ws else .bad)=_ from jS]
  exact R.x1 (da,df,dh,dj,bj) j6 [2,3,4,5,6]
 refine R.kc O O (fun w hw=>cx 4 w ae)<|U ?_
 rw [show eS m ms (if ws.length=4 then dL ws else if ws.length=6 then dL ws else .bad)=_ from jS]
 exact R.x1 (da,df,dh,dj,bj) bm [1,2,3,4,5]
theorem M7 (qV:Nat)(xs:Unit)(fQ:Value)(ws:List ByteArray)(mh:Nat)(da df dh dj:Value)(m:j3)(iq:Nat)(bj:Value)(ms:iO)(w:World)(own:List Nat)(H:HN w own [ag.box qV [pV mh] 66,ag.box mh [pV iq,da,df,dh,dj,iV m.R.ah,iV m.R.ai] 50,ag.box iq [bj,iV ms.Used,iV ms.Many] 41] [ag.ls fQ ws,ag.ls da m.R.aj,ag.ls df m.R.Things,ag.ls dh m.R.Held,ag.ls dj m.R.Notes,ag.ls bj ms.Rows])(hM:CR m ms)(hw:ws.length<=200/\1<=ws.length):RS Tryz.prog 53 #[pV qV,fQ] H (eS m ms (if ws.length=7 then lM ws else .bad)) (fun s (_:Value×Value×Value×Value×Value) => .string s.2.2) (fun s z=>[ag.box qV [pV mh] 66,ag.box mh [pV iq,z.1,z.2.1,z.2.2.1,z.2.2.2.1,iV s.1.R.ah,iV s.1.R.ai] 50,ag.box iq [z.2.2.2.2,iV s.2.1.Used,iV s.2.1.Many] 41]) (fun s z=>[ag.ls z.1 s.1.R.aj,ag.ls z.2.1 s.1.R.Things,ag.ls z.2.2.1 s.1.R.Held,ag.ls z.2.2.2.1 s.1.R.Notes,ag.ls z.2.2.2.2 s.2.1.Rows]):=by
 have MY:=H.aL 0 rfl
 have mP:=H.aL 1 rfl
 have lE:=H.aL 2 rfl
 have oG:=H.aL 3 rfl
 have mQ:=H.aL 4 rfl
 have tI:=H.aL 5 rfl
 obtain ⟨hk,hI,hb,hZ⟩:=hM.f;obtain ⟨zM,zG,zV,zD,zR,zW,zS,zT⟩:=CR.z hZ
 obtain ⟨hw1,hw3⟩:=hw;have hn2:(((ws.drop 1).take 2).map bu).length=min 2 (ws.length-1):=bA;have hn4:(((ws.drop 1).take 4).map bu).length=min 4 (ws.length-1):=bA;have hcw:=Sl.lH (Wd.cy 0 rfl H)
 refine R.eN H ?_
 refine C (ws.length=7) ?_ ?_ <;> intro h1
 .
  refine R.q (q.sl2 (i:=1) (j:=5) (vu 0 O) O O O dN O O ae (by exact Nat.le_trans ae (Nat.le_refl _))) O<|C (fP ((ws.drop 1).take 4)=true) ?_ ?_ <;> intro h2
  .
   refine R.s O (s.pre (fun w hw=>hw.nQ 0 _ (ag.ls (sl2 fQ 1 5 1) ((ws.drop 1).take 4)) O sR (Sl.sl2 (α:=ByteArray) (l:=ws) (i:=1) (j:=5) (hw.cy 0 O) ae ae)) (s.aH bm [0] _ _ _ O O O xW O O (fun w own hw H=>tK (sl2 fQ 1 5 1) ((ws.drop 1).take 4) w own H aG af) O)) fun z1=>U ?_
   obtain ⟨x1,hx1⟩:=gE ws 5
   have QI:=dR hx1
   refine U ?_
   refine R.kc O O (fun w hw=>y9 x1 w)<|U ?_
   obtain ⟨x2,hx2⟩:=gE ws 6
   have Tv:=dR hx2
   refine U ?_
   refine R.kc O O (fun w hw=>sT x2 999 w eH)<|U ?_
   refine C (rH x1<0) ?_ ?_ <;> intro h3
   .
    refine R.kc O O (fun w hw=>cx 4 w ae)<|U ?_
    rw [show eS m ms (if ws.length=7 then lM ws else .bad)=_ from BR]
    exact R.x1 (da,df,dh,dj,bj) j6 [2,3,4,5,6]
   refine C (bu x2<0) ?_ ?_ <;> intro h4
   .
    refine R.kc O O (fun w hw=>cx 4 w ae)<|U ?_
    rw [show eS m ms (if ws.length=7 then lM ws else .bad)=_ from BR]
    exact R.x1 (da,df,dh,dj,bj) j6 [2,3,4,5,6]
   obtain ⟨x3,hx3⟩:=gE (((ws.drop 1).take 4).map bu) 0
   obtain ⟨x4,hx4⟩:=gE (((ws.drop 1).take 4).map bu) 1
   obtain ⟨x5,hx5⟩:=gE (((ws.drop 1).take 4).map bu) 2
   obtain ⟨x6,hx6⟩:=gE (((ws.drop 1).take 4).map bu) 3
   refine R.cO (fuel:=33) [0,1,4] O O mixed O<|D.l [0,1,2,3,4,5,6,7,8,9,11,12,13,14,15,16,17,18,19,20,21,22,23,24,25,26] [0,1,4] du O<|U ?_
   refine D.k 10 O [0,1,4] du (q.Rc (ds:=[da,df,dh,dj,iV m.R.ah,iV m.R.ai]) 2 O O fN O) ?_
   refine D.p 27 O [0,1,4] iU (s.aH bV eO _ _ _ O O O YP O O (fun w own hw H=>ML da df dh dj m.R (⟨x3,x4⟩:Place) (⟨x5,x6⟩:Place) (rH x1) (bu x2) w own H af af) O) ?_
   rintro ⟨lA,z12,mW,tQ⟩
   dsimp only
   refine D.l [28,29] [0,1,4] iU O<|U ?_
   refine D.p 30 O [2,3,4] jA (s.aH [2,3,0,1,4] xG _ _ _ O O O pW O O (fun w own hw H=>j4 mh da df dh dj m lA z12 mW tQ (dt m.R (⟨x3,x4⟩:Place) (⟨x5,x6⟩:Place) (rH x1) (bu x2)).1 (dt m.R (⟨x3,x4⟩:Place) (⟨x5,x6⟩:Place) (rH x1) (bu x2)).2 iq bj ms w own H af af af (by exact (zG _ _ _ _).1) (by exact (zG _ _ _ _).2.1)) O) ?_
   rintro ⟨xl,wG,z17,uX,wH⟩
   dsimp only
   refine D.p 31 O [2,3,4] jA (s.c (q.call rx O O (fun w hw=>gU (fB m ms (((dt m.R (⟨x3,x4⟩:Place) (⟨x5,x6⟩:Place) (rH x1) (bu x2)).1),(dt m.R (⟨x3,x4⟩:Place) (⟨x5,x6⟩:Place) (rH x1) (bu x2)).2)).2.2 w (by exact ⟨(zG _ _ _ _).2.2.1,Int.le_trans (zG _ _ _ _).2.2.2 aC⟩))) O) fun _=>?_
   refine D.l [32] [2,3,4] jA O<|U ?_
   refine D.done ?_
   rw [show eS m ms (if ws.length=7 then lM ws else .bad)=_ from BR]
   exact R.x1 (xl,wG,z17,uX,wH) [3,0,1,4] [0,1,2,3,4]
  refine R.s O (s.pre (fun w hw=>hw.nQ 0 _ (ag.ls (sl2 fQ 1 5 1) ((ws.drop 1).take 4)) O sR (Sl.sl2 (α:=ByteArray) (l:=ws) (i:=1) (j:=5) (hw.cy 0 O) ae ae)) (s.aH bm [0] _ _ _ O O O xW O O (fun w own hw H=>tL (sl2 fQ 1 5 1) ((ws.drop 1).take 4) w own H aG af) O)) fun z20=>U ?_
  obtain ⟨x7,hx7⟩:=gE ws 5
  have abr:=dR hx7
  refine U ?_
  refine R.kc O O (fun w hw=>y9 x7 w)<|U ?_
  obtain ⟨x8,hx8⟩:=gE ws 6
  have acf:=dR hx8
  refine U ?_
  refine R.kc O O (fun w hw=>sT x8 999 w eH)<|U ?_
  refine R.kc O O (fun w hw=>cx 4 w ae)<|U ?_
  rw [show eS m ms (if ws.length=7 then lM ws else .bad)=_ from BR]
  exact R.x1 (da,df,dh,dj,bj) j6 [2,3,4,5,6]
 refine R.kc O O (fun w hw=>cx 4 w ae)<|U ?_
 rw [show eS m ms (if ws.length=7 then lM ws else .bad)=_ from BR]
 exact R.x1 (da,df,dh,dj,bj) bm [1,2,3,4,5]
theorem QV (qV:Nat)(xs:Unit)(line:ByteArray)(mh:Nat)(da df dh dj:Value)(m:j3)(iq:Nat)(bj:Value)(ms:iO)(w:World)(own:List Nat)(H:HN w own [ag.box qV [pV mh] 66,ag.box mh [pV iq,da,df,dh,dj,iV m.R.ah,iV m.R.ai] 50,ag.box iq [bj,iV ms.Used,iV ms.Many] 41] [ag.ls da m.R.aj,ag.ls df m.R.Things,ag.ls dh m.R.Held,ag.ls dj m.R.Notes,ag.ls bj ms.Rows])(hM:CR m ms)(ha:(spl line).length=2->¬ wd (spl line) 0=⟨#[97,114,109]⟩):RS Tryz.prog 20 #[pV qV,.string line] H (eS m ms (iu line)) (fun s (_:Value×Value×Value×Value×Value) => .string s.2.2) (fun s z=>[ag.box qV [pV mh] 66,ag.box mh [pV iq,z.1,z.2.1,z.2.2.1,z.2.2.2.1,iV s.1.R.ah,iV s.1.R.ai] 50,ag.box iq [z.2.2.2.2,iV s.2.1.Used,iV s.2.1.Many] 41]) (fun s z=>[ag.ls z.1 s.1.R.aj,ag.ls z.2.1 s.1.R.Things,ag.ls z.2.2.1 s.1.R.Held,ag.ls z.2.2.2.1 s.1.R.Notes,ag.ls z.2.2.2.2 s.2.1.Rows]):=by
 have mP:=H.aL 0 rfl
 have lE:=H.aL 1 rfl
 have oG:=H.aL 2 rfl
 have mQ:=H.aL 3 rfl
 have tI:=H.aL 4 rfl
 obtain ⟨hk,hI,hb,hZ⟩:=hM.f;obtain ⟨zM,zG,zV,zD,zR,zW,zS,zT⟩:=CR.z hZ
 have sl:=y8 line;have hnl:(((spl line).drop 1).map bu).length=(spl line).length-1:=bA;have tl:=hk.tl;have wl:=hk.wl;have nl:=hk.nl;have i1:=dH (n:=((m.R.aj.length:Nat):Int)) ae;have i2:=dH (n:=((m.R.Things.length:Nat):Int)) ae;have i3:=dH (n:=((m.R.Notes.length:Nat):Int)) ae
 refine R.eN H ?_
 refine C (60<line.size) ?_ ?_ <;> intro h1
 .
  refine R.kc O O (fun w hw=>cx 4 w ae)<|U ?_
  rw [show eS m ms (iu line)=_ from pw]
  exact R.x1 (da,df,dh,dj,bj) bm [0,1,2,3,4]
 refine R.s O (s.aH bm [] _ _ _ O O O YW O O (fun w own hw H=>JM line w own H ae) O) fun z1=>U ?_
 obtain ⟨x1,hx1⟩:=gE (spl line) 0
 refine U ?_
 refine C (x1=⟨#[119,114,105,116,101]⟩) ?_ ?_ <;> intro h2
 .
  refine R.q (q.dZ O O h2) O<|U ?_
  refine R.s O (s.pre (fun _ hw=>hw.aO 0 _ O O) (s.aH bm fw _ _ _ O O O Ue O O (fun w own hw H=>D1 qV () z1 (spl line) mh da df dh dj m iq bj ms w own H af (by exact ⟨ae,ae⟩) (by exact .inl ((dR hx1).trans af))) O)) ?_
  rintro ⟨z2,z3,z4,z5,z6⟩
  dsimp only
  refine U ?_
  rw [show eS m ms (iu line)=_ from pw]
  exact R.x1 (z2,z3,z4,z5,z6) bm [0,1,2,3,4]
 refine R.q (q.dQ O O h2) O<|U ?_
 refine C (x1=⟨#[115,101,110,100]⟩) ?_ ?_ <;> intro h3
 .
  refine R.qg O (q.dZ O O h3) O<|U ?_
  refine R.s O (s.pre (fun _ hw=>hw.aO 0 _ O O) (s.aH bm fw _ _ _ O O O Ue O O (fun w own hw H=>D1 qV () z1 (spl line) mh da df dh dj m iq bj ms w own H af (by exact ⟨ae,ae⟩) (by exact .inr ((dR hx1).trans af))) O)) ?_
  rintro ⟨z7,z8,z9,kM,lA⟩
  dsimp only
  refine U ?_
  rw [show eS m ms (iu line)=_ from pw]
  exact R.x1 (z7,z8,z9,kM,lA) bm [0,1,2,3,4]
 refine R.qg O (q.dQ O O h3) O<|U ?_
 refine C (x1=⟨#[103,105,118,101]⟩) ?_ ?_ <;> intro h4
 .
  refine R.q (q.dZ O O h4) O<|U ?_
  refine R.s O (s.pre (fun _ hw=>hw.aO 0 _ O O) (s.aH bm fw _ _ _ O O O YX O O (fun w own hw H=>M7 qV () z1 (spl line) mh da df dh dj m iq bj ms w own H af (by exact ⟨ae,ae⟩)) O)) ?_
  rintro ⟨z12,mW,tQ,xl,wG⟩
  dsimp only
  refine U ?_
  rw [show eS m ms (iu line)=_ from pw]
  exact R.x1 (z12,mW,tQ,xl,wG) bm [0,1,2,3,4]
 refine R.q (q.dQ O O h4) O<|U ?_
 refine R.q (q.cz (i:=1) (cI 0 O) O O dN O ae) O<|C (fP ((spl line).drop 1)=true) ?_ ?_ <;> intro h5
 .
  refine R.s O (s.pre (fun _ hw=>hw.aO 0 _ O O) (s.pre (fun w hw=>hw.nQ 0 _ (ag.ls (cz z1 1 1) ((spl line).drop 1)) O yK (Sl.from (α:=ByteArray) (l:=(spl line)) (i:=1) (hw.cy 0 O) ae)) (s.aH bm [0] _ _ _ O O O xW O O (fun w own hw H=>tK (cz z1 1 1) ((spl line).drop 1) w own H aG af) O))) fun z17=>U ?_
  refine R.nb fun b1=>?_
  refine C ((((spl line).drop 1).map bu).length=0) ?_ ?_ <;> intro h6
  .
   refine C (line=⟨#[97,108,108]⟩) ?_ ?_ <;> intro h7
   .
    refine R.q (q.dZ O O h7) O<|U ?_
    refine R.c6 O mixed ay<|U ?_
    refine Q.c (q.call om O O (fun w hw=>lF (m.R.aj.length:Int) w ae)) O<|Q.q (q.cat O O (by simp only [ByteArray.size_append,bg,List.length_cons,List.length_nil];omega)) O<|U ?_
    refine Q.c (q.call om O O (fun w hw=>lF (m.R.Things.length:Int) w ae)) O<|Q.q (q.cat O O (by simp only [ByteArray.size_append,bg,List.length_cons,List.length_nil];omega)) O<|Q.q (q.cat O O (by simp only [ByteArray.size_append,bg,List.length_cons,List.length_nil];omega)) O<|U ?_
    refine Q.c (q.call om O O (fun w hw=>lF (m.R.Notes.length:Int) w ae)) O<|Q.q (q.cat O O (by simp only [ByteArray.size_append,bg,List.length_cons,List.length_nil];omega)) O<|U ?_
    rw [show eS m ms (iu line)=_ from pw]
    exact R.x1 (da,df,dh,dj,bj) eO [2,3,4,5,6]
   refine R.q (q.dQ O O h7) O<|U ?_
   refine C (line=⟨#[115,97,118,101]⟩) ?_ ?_ <;> intro h8
   .
    refine R.q (q.dZ O O h8) O<|U ?_
    rw [show eS m ms (iu line)=_ from pw]
    exact R.x1 (da,df,dh,dj,bj) eO [2,3,4,5,6]
   refine R.q (q.dQ O O h8) O<|U ?_
   refine R.kc O O (fun w hw=>cx 4 w ae)<|U ?_
   rw [show eS m ms (iu line)=_ from pw]
   exact R.x1 (da,df,dh,dj,bj) eO [2,3,4,5,6]
  refine C ((((spl line).drop 1).map bu).length=1) ?_ ?_ <;> intro h9
  .
   refine C (x1=⟨#[114,101,115,116,97,114,116]⟩) ?_ ?_ <;> intro h10
   .
    refine R.q (q.dZ O O h10) O<|U ?_
    refine R.s O (s.aH [3,0,1,2,4,5] eO _ _ _ O O O YI O O (fun w own hw H=>MS mh da df dh dj iq m w own H af af) O) ?_
    rintro ⟨uX,wH,z20,z21⟩
    dsimp only
    refine U ?_
    rw [show eS m ms (iu line)=_ from pw]
    exact R.x1 (uX,wH,z20,z21,bj) [3,0,4,5] [0,1,2,3,10]
   refine R.q (q.dQ O O h10) O<|U ?_
   refine R.kc O O (fun w hw=>cx 4 w ae)<|U ?_
   rw [show eS m ms (iu line)=_ from pw]
   exact R.x1 (da,df,dh,dj,bj) eO [2,3,4,5,6]
  refine C ((((spl line).drop 1).map bu).length=2) ?_ ?_ <;> intro h11
  .
   obtain ⟨x2,hx2⟩:=gE (((spl line).drop 1).map bu) 0
   obtain ⟨x3,hx3⟩:=gE (((spl line).drop 1).map bu) 1
   refine R.cO (fuel:=13) fD O O mixed O<|D.l uZ fD du O<|U ?_
   refine D.p 11 O [3,4,0,5] tY (s.aH [2,3,4,0,1,5] [2,3,4,5,6] _ _ _ O O O YY O O (fun w own hw H=>QU qV () x1 (⟨x2,x3⟩:Place) mh da df dh dj m iq bj ms w own H af) O) ?_
   rintro ⟨z27,z28,z29,z30,z31⟩
   dsimp only
   refine D.l [12] [3,4,0,5] tY O<|U ?_
   refine D.done ?_
   rw [show eS m ms (iu line)=_ from pw]
   exact R.x1 (z27,z28,z29,z30,z31) fD [0,1,2,3,4]
  refine C ((((spl line).drop 1).map bu).length=3) ?_ ?_ <;> intro h12
  .
   refine C (x1=⟨#[109,111,118,101]⟩) ?_ ?_ <;> intro Pf
   .
    refine R.q (q.dZ O O Pf) O<|U ?_
    obtain ⟨x4,hx4⟩:=gE (((spl line).drop 1).map bu) 0
    obtain ⟨x5,hx5⟩:=gE (((spl line).drop 1).map bu) 1
    obtain ⟨x6,hx6⟩:=gE (((spl line).drop 1).map bu) 2
    refine R.cO (fuel:=21) fD O O mixed O<|D.l m4 fD du O<|U ?_
    refine D.p 15 O fD iU (s.aH fw eO _ _ _ O O O YQ O O (fun w own hw H=>MN da df dh dj m.R (⟨x4,x5⟩:Place) x6 w own H af af) O) ?_
    rintro ⟨z41,z42,z43,z44⟩
    dsimp only
    refine D.l [16,17] fD iU O<|U ?_
    refine D.p 18 O eO jA (s.aH rM xG _ _ _ O O O pW O O (fun w own hw H=>j4 mh da df dh dj m z41 z42 z43 z44 (gC m.R (⟨x4,x5⟩:Place) x6).1 (gC m.R (⟨x4,x5⟩:Place) x6).2 iq bj ms w own H af af af (by exact (zV _ _).1) (by exact (zV _ _).2.1)) O) ?_
    rintro ⟨z45,z46,z47,z48,z49⟩
    dsimp only
    refine D.p 19 O eO jA (s.c (q.call rx O O (fun w hw=>gU (fB m ms (((gC m.R (⟨x4,x5⟩:Place) x6).1),(gC m.R (⟨x4,x5⟩:Place) x6).2)).2.2 w (by exact ⟨(zV _ _).2.2.1,Int.le_trans (zV _ _).2.2.2 aC⟩))) O) fun _=>?_
    refine D.l [20] eO jA O<|U ?_
    refine D.done ?_
    rw [show eS m ms (iu line)=_ from pw]
    exact R.x1 (z45,z46,z47,z48,z49) rN [0,1,2,3,4]
   refine R.q (q.dQ O O Pf) O<|U ?_
   refine R.kc O O (fun w hw=>cx 4 w ae)<|U ?_
   rw [show eS m ms (iu line)=_ from pw]
   exact R.x1 (da,df,dh,dj,bj) eO [2,3,4,5,6]
  refine R.kc O O (fun w hw=>cx 4 w ae)<|U ?_
  rw [show eS m ms (iu line)=_ from pw]
  exact R.x1 (da,df,dh,dj,bj) eO [2,3,4,5,6]
 refine R.s O (s.pre (fun _ hw=>hw.aO 0 _ O O) (s.pre (fun w hw=>hw.nQ 0 _ (ag.ls (cz z1 1 1) ((spl line).drop 1)) O yK (Sl.from (α:=ByteArray) (l:=(spl line)) (i:=1) (hw.cy 0 O) ae)) (s.aH bm [0] _ _ _ O O O xW O O (fun w own hw H=>tL (cz z1 1 1) ((spl line).drop 1) w own H aG af) O))) fun z50=>U ?_
 refine R.kc O O (fun w hw=>cx 4 w ae)<|U ?_
 rw [show eS m ms (iu line)=_ from pw]
 exact R.x1 (da,df,dh,dj,bj) j6 [2,3,4,5,6]
end
section
open Go Go.RowKit
attribute [local irreducible] Run Rg Rq Qt Qa Stp Dg Do Dm bQ
attribute [local irreducible] bL cC bf jE eA dNew dU kb fB mM bY bu spl jo iC iu
theorem Lh {l:List ByteArray}{i:Nat}{x:ByteArray}(hx:l[i]? = some x)(ha:∀j s,j<i->l[j]? = some s->(spl s).length=2->¬ wd (spl s) 0=⟨#[97,114,109]⟩)(h:¬ (3<x.size/\x.extract 0 4=⟨#[97,114,109,32]⟩)) :
 ∀j s,j<i+1->l[j]? = some s->(spl s).length=2->¬ wd (spl s) 0=⟨#[97,114,109]⟩:=fun j s hj hs=>by
 by_cases e:j=i
 .subst e;rw [hx] at hs;injection hs with hs;subst hs;exact Xk h
 exact ha j s ae hs
theorem XA {l:List ByteArray}{i:Nat}(hi:¬ i<l.length)(ha:∀j s,j<i->l[j]? = some s->(spl s).length=2->¬ wd (spl s) 0=⟨#[97,114,109]⟩):∀s∈l,(spl s).length=2->¬ wd (spl s) 0=⟨#[97,114,109]⟩:=fun s hs=>by
 obtain ⟨j,hj⟩:=List.mem_iff_getElem?.1 hs
 have:=(List.getElem?_eq_some_iff.1 hj).1
 exact ha j s ae hj
theorem pC (DI:Value)(a:List ByteArray)(Fa:Value)(b:List ByteArray)(w:World)(s_a:Sl w DI a)(s_b:Sl w Fa b):Calls Tryz.prog 21 #[DI,Fa] w fun e w'=>e = .returned (.bool (decide (a=b)))/\Ext w w':=by
 have b_a:=s_a.fS
 have b_b:=s_b.fS
 refine R.eV ?_
 refine C (a.length=b.length) ?_ ?_ <;> intro h1
 .
  refine R.loop (fun k:Nat=>[(0,DI),(1,Fa),(5,iV (k:Int))]) (fun k:Nat=>[]) (fun k:Nat=>[]) (fun k:Nat=>k<=a.length /\ ∀j,j<k->a[j]? = b[j]?) (fun k:Nat=>a.length-k) 0 O (by exact ⟨ae,fun j hj=>absurd hj (Nat.not_lt_zero _)⟩) (sF O) (dX [] [] O) ?_
  rintro k ⟨hk,HA⟩
  refine U ?_
  refine C (k<a.length) ?_ ?_ <;> intro h2
  .
   obtain ⟨x1,hx1⟩:=gE a k
   obtain ⟨x2,hx2⟩:=gE b k
   refine C (x1=x2) ?_ ?_ <;> intro h3
   .
    refine R.c6 O mixed ay<|U ?_
    refine Q.q (q.oO O O h3) O<|U ?_
    refine R.back (k+1) O (by exact ⟨ae,Di HA hx1 hx2 af⟩) ae (sF O) (dX [] [] O)
   refine R.c6 O mixed ay<|U ?_
   refine Q.q (q.rh O O h3) O<|U ?_
   refine R.rt ?_
   (exact GV hx1 hx2 af)
  refine R.rt ?_
  (exact GX af af HA)
 refine R.rt ?_
 (exact GU af)
theorem M8 (w:World)(ht:BD w):Calls Tryz.prog 18 #[] w fun e w'=>e = .returned (.bool true)/\Ext w w':=by
 refine R.enter [] [] Tryz.func18 O O O O<|R.pH (r:=bJ) ht (wt ht)<|U ?_
 refine R.s O (s.bs (l:=Xu) dN e8 O O O O O O O) fun b1=>?_
 refine R.s O (s.pre (fun _ hw=>hw.aO 0 _ O O) (s.aH [] [0,1] _ _ _ O O O OJ O O (fun w own hw H=>Iq (.slice (some ⟨b1,0,none⟩) 14 14) Xu w own H aC (by exact QM)) O)) fun z1=>U ?_
 have h1:(decide (0=0))=true:=by have M6:(decide (0=0))=true:=eH;simp only [M6];rfl
 refine R.kc O O (fun w hw=>(by have h_:=(cv (congrArg Value.bool h1) (BA 0 0 w ae));rw [BP] at h_;exact h_))<|U ?_
 refine R.s O (s.bs (l:=hiA) dN e8 O O O O O O O) fun b2=>?_
 have h2:(decide ((iC nR Xu)=hiA))=true:=by have M6:(decide ((iC nR Xu)=hiA))=true:=(by exact decide_eq_true QL);simp only [M6];done
 refine R.kc O O (fun w hw=>cv (congrArg Value.bool h2) (pC _ (iC nR Xu) _ hiA w (hw.row 1 O) (hw.row 0 O)))<|U ?_
 refine R.rt ?_
 rfl
theorem yH (bR:Value)(l:List ByteArray)(w:World)(ia:Sl w bR l)(ht:BD w):Calls Tryz.prog 4 #[bR] w fun e w'=>e = .returned (.bool true)/\Ext w w':=by
 have yA:=ia.fS
 refine R.enter [] [(0,bR)] Tryz.func4 O O O O<|R.pH (r:=bJ) ht (wt ht)<|R.uz ia<|U ?_
 refine R.kc O O (fun w hw=>M8 w (by exact hw.okF bJ gy)) ?_
 refine U ?_
 refine C (90<l.length) ?_ ?_ <;> intro h1
 .
  refine R.rt ?_
  (rfl)
 refine R.loop (fun i:Nat=>[(0,bR),(4,iV (i:Int))]) (fun i:Nat=>[]) (fun i:Nat=>[ag.ls bR l,bJ]) (fun i:Nat=>i<=l.length /\ ∀j s,j<i->l[j]? = some s->(spl s).length=2->¬ wd (spl s) 0=⟨#[97,114,109]⟩) (fun i:Nat=>l.length-i) 0 O (by exact ⟨ae,fun j s hj=>absurd hj (Nat.not_lt_zero _)⟩) (sF O) (dX [] [0,1] O) ?_
 rintro i ⟨hi,HA⟩
 refine U ?_
 refine C (i<l.length) ?_ ?_ <;> intro h2
 .
  obtain ⟨x1,hx1⟩:=gE l i
  refine U ?_
  refine C (100<x1.size) ?_ ?_ <;> intro h3
  .
   refine R.rt ?_
   (rfl)
  refine C (3<x1.size) ?_ ?_ <;> intro h4
  .
   refine R.qg O (q.sTo (i:=4) O O Tryz.underlying9 O ae) O<|C ((x1.extract 0 4)=⟨#[97,114,109,32]⟩) ?_ ?_ <;> intro h5
   .
    refine R.qg O (q.dZ O O h5) O<|U ?_
    refine R.rt ?_
    (rfl)
   refine R.qg O (q.dQ O O h5) O<|U ?_
   refine R.back (i+1) O (by exact ⟨ae,Lh hx1 HA (fun q=>absurd q.2 af)⟩) ae (sF O) (cw [] [0,1] O)
  refine R.back (i+1) O (by exact ⟨ae,Lh hx1 HA (fun q=>absurd q.1 af)⟩) ae (sF O) (cw [] [0,1] O)
 have hall:=XA af HA;have acg:l.length<=(l++([⟨#[109,97,114,107]⟩]:List ByteArray)).length:=bA
 refine U ?_
 refine R.s O (s.app0 O O (vu 0 O) KJ ae ae O) fun v1=>?_
 refine R.s O (s.bs (l:=([⟨#[109,97,114,107]⟩]:List ByteArray)) dN e8 O O O O O O O) fun b1=>?_
 refine R.ap fun v2=>?_
 refine R.q (q.jT (i:=l.length) (cI 1 O) O O Tryz.underlying61 EN O ae) O<|U ?_
 have e_:((l++([(⟨#[109,97,114,107]⟩:ByteArray)])).take l.length)=l:=List.take_left;have e2_:((l++([(⟨#[109,97,114,107]⟩:ByteArray)])).take l.length).length=l.length:=by rw [e_]
 refine U ?_
 refine C (80<l.length) ?_ ?_ <;> intro h6
 .
  refine R.s O (s.pre (fun _ hw=>hw.aO 1 _ O O) (s.pre (fun w hw=>hw.nQ 0 _ (ag.ls (jT v2 l.length) (((l++([(⟨#[109,97,114,107]⟩:ByteArray)])).take l.length):List ByteArray)) O TS (Sl.to (α:=ByteArray) (l:=(l++([(⟨#[109,97,114,107]⟩:ByteArray)]))) (i:=l.length) (hw.cy 0 O) ae)) (s.aH [0] [0] _ _ _ O O O OJ O O (fun w own hw H=>M3 (jT v2 l.length) ((l++([(⟨#[109,97,114,107]⟩:ByteArray)])).take l.length) w own H ae) O))) fun _=>U ?_
  rw [e_]
  refine U ?_
  have h7:(decide (2=2))=true:=by have M6:(decide (2=2))=true:=eH;simp only [M6];rfl
  refine R.kc O O (fun w hw=>cv (congrArg Value.bool h7) (BA 2 2 w ae))<|U ?_
  refine R.rt ?_
  (rfl)
 refine R.s O (s.pre (fun _ hw=>hw.aO 1 _ O O) (s.pre (fun w hw=>hw.nQ 0 _ (ag.ls (jT v2 l.length) (((l++([(⟨#[109,97,114,107]⟩:ByteArray)])).take l.length):List ByteArray)) O TS (Sl.to (α:=ByteArray) (l:=(l++([(⟨#[109,97,114,107]⟩:ByteArray)]))) (i:=l.length) (hw.cy 0 O) ae)) (s.aH [0] [0,3] _ _ _ O O O OJ O O (fun w own hw H=>Iq (jT v2 l.length) ((l++([(⟨#[109,97,114,107]⟩:ByteArray)])).take l.length) w own H ae (by rw [e_];exact hall)) O))) fun z1=>U ?_
 rw [e_]
 refine U ?_
 refine R.s O (s.aH [0,1] [] _ _ _ O O O aaX O O (fun w own hw H=>MR 98 w own H ae) O) ?_
 rintro ⟨z2,z3,z4,z5,z6,z7,z8⟩
 dsimp only
 refine U ?_
 refine R.nb fun b2=>?_
 refine R.row0 (α:=ByteArray) 9<|R.loop (fun g_:Nat×aB×Value×(List ByteArray)×Unit×j3×Value×Value×Value×Value×iO×Value=>[(0,bR),(5,(jT v2 l.length)),(6,z1),(7,.nilIface),(8,pV b2),(9,g_.2.2.1),(10,iV (g_.1:Int))]) (fun g_=>[ag.row 9 g_.2.2.1 g_.2.2.2.1,ag.box b2 [pV z2] 66,ag.box z2 [pV z7,g_.2.2.2.2.2.2.1,g_.2.2.2.2.2.2.2.1,g_.2.2.2.2.2.2.2.2.1,g_.2.2.2.2.2.2.2.2.2.1,iV g_.2.2.2.2.2.1.R.ah,iV g_.2.2.2.2.2.1.R.ai] 50,ag.box z7 [g_.2.2.2.2.2.2.2.2.2.2.2,iV g_.2.2.2.2.2.2.2.2.2.2.1.Used,iV g_.2.2.2.2.2.2.2.2.2.2.1.Many] 41,ag.row 9 z1 (iC nR l),ag.row 9 (.slice (some ⟨b1,0,none⟩) 1 1) ([(⟨#[109,97,114,107]⟩:ByteArray)]:List ByteArray)]) (fun g_=>[ag.ls g_.2.2.2.2.2.2.1 g_.2.2.2.2.2.1.R.aj,ag.ls g_.2.2.2.2.2.2.2.1 g_.2.2.2.2.2.1.R.Things,ag.ls g_.2.2.2.2.2.2.2.2.1 g_.2.2.2.2.2.1.R.Held,ag.ls g_.2.2.2.2.2.2.2.2.2.1 g_.2.2.2.2.2.1.R.Notes,ag.ls g_.2.2.2.2.2.2.2.2.2.2.2 g_.2.2.2.2.2.2.2.2.2.2.1.Rows,ag.ls z3 ((⟨(⟨[],[],[],[],1,1⟩:aB)⟩:j3).R.aj:List ak),ag.ls z4 ((⟨(⟨[],[],[],[],1,1⟩:aB)⟩:j3).R.Things:List aA),ag.ls z5 ((⟨(⟨[],[],[],[],1,1⟩:aB)⟩:j3).R.Held:List Held),ag.ls z6 ((⟨(⟨[],[],[],[],1,1⟩:aB)⟩:j3).R.Notes:List Note),ag.ls z8 ((mM (⟨[],0,98⟩:iO) (aY (⟨[],[],[],[],1,1⟩:aB))).1.Rows:List Change),ag.ls (jT v2 l.length) l,ag.ls v2 (l++([(⟨#[109,97,114,107]⟩:ByteArray)])),ag.ls bR l,bJ]) (fun g_=>g_.1<=l.length/\CM g_.1 g_.2.2.2.2.2.1 g_.2.2.2.2.2.2.2.2.2.2.1 g_.2.1/\g_.2.2.2.1++iC g_.2.1 (l.drop g_.1)=iC nR l) (fun g_=>l.length-g_.1) (0,nR,nS,[],(),(⟨(⟨[],[],[],[],1,1⟩:aB)⟩:j3),z3,z4,z5,z6,(mM (⟨[],0,98⟩:iO) (aY (⟨[],[],[],[],1,1⟩:aB))).1,z8) O (by (try dsimp only);exact ⟨ae,Tp,rfl⟩) (sF O) (dX fw [0,1,2,3,4,0,1,2,3,4,5,6,7,8] O) ?_
 rintro ⟨k,r,v,out,sx,m,HI,Nb,Mu,Mv,ms,TF⟩ ⟨hk,hV,HO⟩
 dsimp only at *
 have hC:CR m ms:=⟨k,r,ae,hV⟩;have hol:=K9 HO
 refine U ?_
 refine C (k<l.length) ?_ ?_ <;> intro h8
 .
  obtain ⟨x2,hx2⟩:=gE l k
  refine U ?_
  refine R.s O (s.aH [1,2,3,0,4,5] bV _ _ _ O O O YJ O O (fun w own hw H=>QV b2 () x2 z2 HI Nb Mu Mv m z7 TF ms w own H af (by exact hall _ (List.mem_of_getElem? af))) O) ?_
  rintro ⟨z9,kM,lA,z12,mW⟩
  dsimp only
  refine U ?_
  refine R.s O (s.bs (l:=([(eS m ms (iu x2)).2.2]:List ByteArray)) dN e8 O O O O O O O) fun b3=>?_
  refine R.ap fun v3=>?_
  refine R.back (k+1,(tW r (iu x2)).1,v3,out++([(eS m ms (iu x2)).2.2]),(),(eS m ms (iu x2)).1,z9,kM,lA,z12,(eS m ms (iu x2)).2.1,mW) O (by ((try dsimp only);obtain ⟨q1,q2⟩:=MX hV ae hx2 HO;exact ⟨ae,q1,q2⟩)) aJ (sF O) (cw [4,1,2,3,5,6] [0,1,2,3,4,10,11,12,13,14,15,16,17,18] O)
 have h9:(decide (0=0))=true:=by have M6:(decide (0=0))=true:=eH;simp only [M6];rfl
 refine R.kc O O (fun w hw=>(by have h_:=(cv (congrArg Value.bool h9) (BA 0 0 w ae));rw [BP] at h_;exact h_))<|U ?_
 have h10:(decide ((iC nR l)=out))=true:=by have M6:(decide ((iC nR l)=out))=true:=(by exact decide_eq_true (run_end af HO));simp only [M6];done
 refine R.kc O O (fun w hw=>cv (congrArg Value.bool h10) (pC _ (iC nR l) _ out w (hw.row 4 O) (hw.row 0 O)))<|U ?_
 have h11:(decide (l=l))=true:=by have M6:(decide (l=l))=true:=(by exact decide_eq_true rfl);simp only [M6];rfl
 refine R.kc O O (fun w hw=>cv (congrArg Value.bool h11) (pC _ l _ l w (hw.cy 10 O) (hw.cy 12 O)))<|U ?_
 refine R.rt ?_
 rfl
end
section
open Go Go.RowKit
theorem aam:(Tryz.prog.globals[1]?).map (·.type)=some 318:=ay
theorem aan:(Tryz.prog.globals[2]?).map (·.type)=some 38:=ay
theorem aao:(Tryz.prog.globals[3]?).map (·.type)=some 38:=ay
theorem TG:Tryz.prog.cellsOf 318=20:=ay
theorem XB:∀t,Tryz.prog.underlying 318=some (.array 20 t)->Tryz.prog.cellsOf t=1:=fun t h=>by
 rw [Tryz.underlying318] at h;injection h with h;injection h with _ h;subst h;kernel_rfl
theorem US : "*" ++ "errors.errorString" = "*errors.errorString" :=aC
theorem QW:∀u,Tryz.prog.typeName? 3 u=some "*errors.errorString" → u=340:=fun u h =>
 typeName_ptr_named (nm:= "errors.errorString") (by rw [US];kernel_rfl) ay aC u (by rw [US];exact h)
theorem TH {W:World}(h:laidMetH Tryz.prog [("math/bits.deBruijn32tab",Rows.laid_math_bits_deBruijn32tab),("math/bits.deBruijn64tab",Rows.laid_math_bits_deBruijn64tab),("internal/strconv.uint64pow10",Rows.laid_internal_strconv_uint64pow10),("strconv.ErrRange",Rows.laid_strconv_ErrRange),("strconv.ErrSyntax",Rows.laid_strconv_ErrSyntax)] W):BD W:=by
 rw [MakeChecks.laidMetH_plain _ _ _ ay] at h
 have h3:=h.tail.tail
 have h5:=h3.tail.tail
 have hp:Lib.TabIs Tryz.prog W "internal/strconv.uint64pow10" .u64 Lib.pow10Tab:=Lib.tabIs_of_head WW aam Tryz.underlying318 Tryz.underlying33 (XB _ Tryz.underlying318) TG (rest:=[("strconv.ErrRange",Rows.laid_strconv_ErrRange),("strconv.ErrSyntax",Rows.laid_strconv_ErrSyntax)]) h3
 have h4:=h3.tail
 obtain ⟨a,s,h6,_⟩:=laid_sentinel (text:=[105,110,118,97,108,105,100,32,115,121,110,116,97,120]) h5 WX aan Tryz.underlying38 QW Tryz.underlying340 Tryz.underlying342 rfl rfl Tryz.underlying9 ay ay
 obtain ⟨b,t,h7,_⟩:=laid_sentinel (text:=[118,97,108,117,101,32,111,117,116,32,111,102,32,114,97,110,103,101]) h4 WY aao Tryz.underlying38 QW Tryz.underlying340 Tryz.underlying342 rfl rfl Tryz.underlying9 ay ay
 exact ⟨hp,⟨_,_,h6⟩,_,_,h7⟩
end
end Go.Proofs.YtnmpibjlnninjaaGreatDoor
