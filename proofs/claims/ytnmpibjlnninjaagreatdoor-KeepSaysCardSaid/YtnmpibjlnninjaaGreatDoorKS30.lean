import Derived.Test.YtnmpibjlnninjaaGreatDoorKS29
import Derived.Test.YtnmpibjlnninjaaGreatDoorRows
import Derived.Stop.LaidErr
import Derived.Lib.LaidTab
import Derived.MakeChecks
import Derived.Test.YtnmpibjlnninjaaGreatDoorTie
import Derived.Test.YtnmpibjlnninjaaGreatDoorCards
import Derived.LaidMore
import Derived.LaidLaws
import Derived.SevenTiedAt
import Derived.Stop.Joined
/-
  any acts, save, else it is opened anew: a realm on a disk is as the document says. No condition: the library's table and its error are tied to the program's text.
-/
namespace Go.Proofs.YtnmpibjlnninjaaGreatDoor
set_option linter.unusedVariables false
set_option linter.unusedSimpArgs false
set_option maxRecDepth 100000
set_option maxHeartbeats 90000000
section
open Go Go.RowKit
attribute [local irreducible] Run Rg Rq Qt Qa Stp Dg Do Dm cD
theorem AE {n:Int}(h:0<=n):Lib.itoa n=Lib.decDigits n.toNat:=xP h
theorem S8 {n:Int}{k:Nat}(h:n=(k:Int)):u8 (48+n)=d8 k:=by
 unfold u8 d8;rw [h,show ((48:Int)+(k:Int)).toNat=48+k by omega]
theorem PD {n:Int}(h0:0<=n)(h:n<10):(⟨[u8 (48+n)].toArray⟩:ByteArray)=eo n:=by
 unfold eo;rw [AE h0,Qs ae,S8 (k:=n.toNat) ae]
theorem wL {n:Int}(h:10<=n):eo (n / 10)++(⟨[u8 (48+n % 10)].toArray⟩:ByteArray)=eo n:=by
 refine iW ?_
 rw [ByteArray.data_append,Array.toList_append]
 show Lib.itoa (n / 10)++[u8 (48+n % 10)]=Lib.itoa n
 rw [AE ae,AE ae,M4 n.toNat,if_neg ae,S8 (k:=n.toNat % 10) ae,show (n / 10).toNat=n.toNat / 10 by omega]
theorem yh {n:Int}(h:0<=n/\n<=9223372036854775807):(eo n).size<=21:=u6 ae
theorem PE (j:Nat)(s:ByteArray):(⟨#[48]⟩:ByteArray)++((⟨(Lib.repeatL [48] j).toArray⟩:ByteArray)++s)=(⟨(Lib.repeatL [48] (j+1)).toArray⟩:ByteArray)++s:=by
 refine iW ?_
 simp [ByteArray.data_append,Lib.repeatL]
theorem PF (s:ByteArray):s=(⟨(Lib.repeatL [48] 0).toArray⟩:ByteArray)++s:=by
 refine iW ?_
 simp [ByteArray.data_append,Lib.repeatL]
theorem L6 {n:Int}{s:ByteArray}{j:Nat}(hs:s=(⟨(Lib.repeatL [48] j).toArray⟩:ByteArray)++eo n)(hz:s.size=j+(eo n).size)(hj:j=0∨s.size<=4)(h:¬ s.size<4):bN n=s:=by
 unfold bN;rw [show 4-(eo n).size=j by omega];exact hs.symm
theorem PG (n:Int)(w:World)(hn:0<=n/\n<=9223372036854775807)(ih:∀ (m:Int) (w:World),0<=m/\m<n->Calls Tryz.prog 55 #[iV m] w fun e w'=>e = .returned (.string (eo m))/\Ext w w'):Calls Tryz.prog 55 #[iV n] w fun e w'=>e = .returned (.string (eo n))/\Ext w w':=by
 refine R.enter [] [(0,iV n)] Tryz.func55 O O O O<|U ?_
 by_cases h1:n<10
 .
  refine U ?_
  refine R.q (q.aL (r:=48+n) O O) O<|R.q (q.nG (r:=(48+n)) O (by rw [Tryz.underlying3];rfl) Tryz.underlying5 (uk ae)) O<|R.s O (s.bs (l:=([u8 (48+n)]:List UInt8)) bf eE O O O O O (cy (fO ae) fI) O) fun b1=>?_
  refine R.q (q.jR (bH 0 O) O bf Tryz.underlying5 Tryz.underlying9) O<|U ?_
  exact R.rv O Tryz.results55 O (rS (by (exact PD ae ae)))
 refine U ?_
 refine R.eA (fuel:=11) [] O O mixed O<|D.l [0,1,3,4,5,6] [] [] O<|U ?_
 refine Dm.yy O O (q.quo (r:=n / 10) O O ae (sZ ae)) O<|U ?_
 refine Dm.yy O O (q.rem (r:=n % 10) O O ae (sC ae)) O<|Dm.yy O O (q.aL (r:=48+(n % 10)) O O) O<|Dm.yy O O (q.nG (r:=(48+(n % 10))) O (by rw [Tryz.underlying3];rfl) Tryz.underlying5 (uk ae)) O<|U ?_
 refine D.two (i:=2) (j:=7) O O ?_ ?_
 .
  refine Do.s (s.c (q.call Cm O O (fun w hw=>(ih (n / 10) w ae))) O) (fun _=>(aN [] [] O)) O fun _=>?_
  refine D.one (i:=7) O<|Do.s (s.bs (l:=([u8 (48+(n % 10))]:List UInt8)) bf eE O O O O O (cy (fO ae) fI) O) (fun _=>(aN [] [] O)) O fun b2=>?_
  refine D.one (i:=8) O<|Do.s (s.c (Qt.a (q.jR (bH 0 O) O bf Tryz.underlying5 Tryz.underlying9)) O) (fun _=>(aN [] [] O)) O fun _=>?_
  refine D.l [9,10] [] [] O<|Dm.yy O O (q.cat O O (by have:=yh (n:=n / 10) ae;(simp only [ByteArray.size_append,dW,List.length_cons,List.length_nil];omega))) O<|U ?_
  exact D.done<|R.rv O Tryz.results55 O (rS (by (exact wL ae)))
 refine Do.s (s.bs (l:=([u8 (48+(n % 10))]:List UInt8)) bf eE O O O O O (cy (fO ae) fI) O) (fun _=>(aN [] [] O)) O fun b3=>?_
 refine D.two (i:=2) (j:=8) O O ?_ ?_
 .
  refine Do.s (s.c (q.call Cm O O (fun w hw=>(ih (n / 10) w ae))) O) (fun _=>(aN [] [] O)) O fun _=>?_
  refine D.one (i:=8) O<|Do.s (s.c (Qt.a (q.jR (bH 0 O) O bf Tryz.underlying5 Tryz.underlying9)) O) (fun _=>(aN [] [] O)) O fun _=>?_
  refine D.l [9,10] [] [] O<|Dm.yy O O (q.cat O O (by have:=yh (n:=n / 10) ae;(simp only [ByteArray.size_append,dW,List.length_cons,List.length_nil];omega))) O<|U ?_
  exact D.done<|R.rv O Tryz.results55 O (rS (by (exact wL ae)))
 refine Do.s (s.c (Qt.a (q.jR (bH 0 O) O bf Tryz.underlying5 Tryz.underlying9)) O) (fun _=>(aN [] [] O)) O fun _=>?_
 refine D.one (i:=2) O<|Do.s (s.c (q.call Cm O O (fun w hw=>(ih (n / 10) w ae))) O) (fun _=>(aN [] [] O)) O fun _=>?_
 refine D.l [9,10] [] [] O<|Dm.yy O O (q.cat O O (by have:=yh (n:=n / 10) ae;(simp only [ByteArray.size_append,dW,List.length_cons,List.length_nil];omega))) O<|U ?_
 exact D.done<|R.rv O Tryz.results55 O (rS (by (exact wL ae)))
theorem Kn:∀ (k:Nat) (n:Int) (w:World),0<=n/\n<=9223372036854775807/\n.toNat<k->Calls Tryz.prog 55 #[.int .i64 n] w fun e w'=>e = .returned (.string (eo n))/\Ext w w'
 | 0,n,w,h=>absurd h.2.2 (Nat.not_lt_zero _)
 | k+1,n,w,h=>PG n w ⟨h.1,h.2.1⟩ fun m w2 hm=>Kn k m w2 ⟨hm.1,ae,ae⟩
theorem Et (n:Int)(w:World)(hn:0<=n/\n<=9223372036854775807):Calls Tryz.prog 55 #[.int .i64 n] w fun e w'=>e = .returned (.string (eo n))/\Ext w w':=Kn _ n w ⟨hn.1,hn.2,Nat.lt_succ_self _⟩
theorem iR (n:Int)(w:World)(hn:0<=n/\n<=9223372036854775807):Calls Tryz.prog 67 #[iV n] w fun e w'=>e = .returned (.string (bN n))/\Ext w w':=by
 have il:=yh hn
 refine R.enter [] [(0,iV n)] Tryz.func67 O O O O<|U ?_
 refine R.c (q.call Cm O O (fun w hw=>(Et n w ae))) O<|U ?_
 refine R.loop (fun g_:Nat×ByteArray=>[(3,.string g_.2)]) (fun g_=>[]) (fun g_=>[]) (fun g_=>g_.2=(⟨(Lib.repeatL [48] g_.1).toArray⟩:ByteArray)++eo n/\g_.2.size=g_.1+(eo n).size/\(g_.1=0∨g_.2.size<=4)) (fun g_=>4-g_.1) (0,(eo n)) O (by dsimp only;exact ⟨PF _,ae,.inl O⟩) (sF O) (eI [] [] O) ?_
 rintro ⟨j,s1⟩ ⟨hs,hz,hj⟩
 dsimp only at *
 refine U ?_
 by_cases h1:s1.size<4
 .
  refine U ?_
  refine R.q (q.cat O O (by (simp only [ByteArray.size_append,dW,List.length_cons,List.length_nil];omega))) O<|U ?_
  refine R.back (j+1,((⟨#[48]⟩:ByteArray)++s1)) O (by ((try dsimp only);exact ⟨by rw [hs];exact PE j _,by simp only [ByteArray.size_append,dW,List.length_cons,List.length_nil];omega,.inr (by simp only [ByteArray.size_append,dW,List.length_cons,List.length_nil];omega)⟩)) aO (sF O) (eI [] [] O)
 refine U ?_
 exact R.rv O Tryz.results67 O (rS (by (exact (L6 hs hz hj ae).symm)))
theorem wM (a8 aW aX aZ:Value)(r:av)(w:World)(own:List Nat)(H:HN w own [] [aj.ls a8 r.ao,aj.ls aW r.Things,aj.ls aX r.Held,aj.ls aZ r.Notes])(hk:Ok r)(hI:Inv r):RC Tryz.prog 27 #[.agg #[a8,aW,aX,aZ,iV r.ag,iV r.ah]] H (fun z:Value=>z) (fun z=>[aj.row 115 z (aY r)]) (fun _=>[]):=by
 have cB:=H.bD 0 rfl
 have cd:=H.bD 1 rfl
 have df:=H.bD 2 rfl
 have cC:=H.bD 3 rfl
 have bw:=hk.wl;have bt:=hk.tl;have bh:=hk.hl;have bn:=hk.nl;have ya:=hk.w0;have yb:=hk.w1;have yc:=hk.t0;have yd:=hk.t1
 have hq:=(ic hI).1.qis
 have hn:=hq.n;have oT:=hq.i.oT;have qB:=hq.i.qB;have pG:=hq.i.pG;have pH:=hq.i.pH;have hl0:=qU hq.i;have tl0:=hq.i.je;have wl0:=(ic hI).2.2.2.1
 refine R.bE [(0,.agg #[a8,aW,aX,aZ,iV r.ag,iV r.ah])] Tryz.func27 O O O O H<|U ?_
 refine R.s O (s.box O O O) fun b1=>U ?_
 refine R.s O (s.aT [0,1] bm _ _ _ O O O Ss O O (fun w own hw H=>AB a8 aW aX aZ r w own H af af) O) ?_
 rintro ⟨z1,z2,z3,z4⟩
 dsimp only
 refine R.s O (s.dE 0 _ O O O (fun _ _=>rfl) (.inl ak) (fun w hw=>(dx (hw.bz 0 O) (hw.bz 1 O) (hw.bz 2 O) (hw.bz 3 O) O O)) O O O) fun _=>U ?_
 refine R.row0 (α:=Change) 115<|R.loop (fun g_:Nat×Value×(List Change)=>[(1,.pointer (some ⟨b1,0,none⟩)),(3,g_.2.1),(4,iV (g_.1:Int))]) (fun g_=>[aj.row 115 g_.2.1 g_.2.2,aj.box b1 [z1,z2,z3,z4,iV (aP r).ag,iV (aP r).ah] 48,aj.held w own]) (fun g_=>[aj.ls z1 (aP r).ao,aj.ls z2 (aP r).Things,aj.ls z3 (aP r).Held,aj.ls z4 (aP r).Notes,aj.ls a8 r.ao,aj.ls aW r.Things,aj.ls aX r.Held,aj.ls aZ r.Notes]) (fun g_=>g_.1<=(aP r).Held.length/\g_.2.2=((aP r).Held.take g_.1).map hrow) (fun g_=>(aP r).Held.length-g_.1) (0,nS,[]) O (by exact ⟨ae,rfl⟩) (sF O) (eI [0,1,2] cu O) ?_
 rintro ⟨k,u,l⟩ ⟨hk_,HL⟩
 dsimp only at *
 have ll:l.length<=24:=by rw [HL,List.length_map,List.length_take];omega
 refine U ?_
 by_cases h1:k<(aP r).Held.length
 .
  refine U ?_
  obtain ⟨x1,hx1⟩:=gE (aP r).Held k
  have QN:=hq.h _ (List.mem_of_getElem? hx1);have ZX:=bY (hq.i.JG (List.mem_of_getElem? hx1)).1
  refine R.q (q.idx (i:=k) (cb 2 O) O O bJ O hx1) O<|R.q (q.dj (ds:=fZ x1) (cb 2 O) hx1 O du O) O<|R.s O (s.alloc cK O O) fun b2=>?_
  refine R.s O (s.st 0 _ O O O O (.inl du) O O O O) fun _=>U ?_
  refine R.eA (fuel:=18) [0,2,3] O O mixed O<|D.l [0,1,2,3,6,7,8,11,12] [0,2,3] cu O<|U ?_
  refine D.one (i:=4) O<|Do.s (s.c (q.call Cm O O (fun w hw=>(Et x1.Place.ay w ae))) O) (fun _=>(aN [0,2,3] cu O)) O fun _=>?_
  refine D.l [5] [0,2,3] cu O<|Dm.yy O O (q.cat O O (by (simp only [ByteArray.size_append,dW,List.length_cons,List.length_nil];omega))) O<|U ?_
  refine D.one (i:=9) O<|Do.s (s.c (q.call Cm O O (fun w hw=>(Et x1.Place.Slot w ae))) O) (fun _=>(aN [0,2,3] cu O)) O fun _=>?_
  refine D.l [10] [0,2,3] cu O<|Dm.yy O O (q.cat O O (by (simp only [ByteArray.size_append,dW,List.length_cons,List.length_nil];omega))) O<|U ?_
  refine D.one (i:=13) O<|Do.s (s.c (q.call sQ O O (fun w hw=>(iR x1.ap w ae))) O) (fun _=>(aN [0,2,3] cu O)) O fun _=>?_
  refine D.l [14] [0,2,3] cu O<|U ?_
  refine D.one (i:=15) O<|Do.s (s.bs (l:=([(⟨(⟨#[104]⟩++eo x1.Place.ay)++eo x1.Place.Slot,bN x1.ap,false⟩:Change)]:List Change)) bj bR O O O O O O O) (fun _=>(aN [1,3,4] cu O)) O fun b3=>?_
  refine D.one (i:=16) O<|Do.s (s.app 2 _ O O O (bH 0 O) d9 az az (fun _=>rfl) O) (fun _=>(aN [1,3,4] cu O)) O fun v1=>?_
  refine D.l [17] [1,3,4] cu O<|U ?_
  refine D.done<|U ?_
  refine R.q (q.aL (r:=((k+1:Nat):Int)) O O) O<|U ?_
  refine R.back (k+1,v1,(l++([(⟨(⟨#[104]⟩++eo x1.Place.ay)++eo x1.Place.Slot,bN x1.ap,false⟩:Change)]))) O (by (exact ⟨ae,by rw [l6 hrow hx1,<- HL];rfl⟩)) aO (sF O) (aN [2,3,4] cu O)
 refine U ?_
 refine R.loop (fun g_:Nat×Value×(List Change)=>[(1,.pointer (some ⟨b1,0,none⟩)),(3,g_.2.1),(6,iV (g_.1:Int))]) (fun g_=>[aj.row 115 g_.2.1 g_.2.2,aj.box b1 [z1,z2,z3,z4,iV (aP r).ag,iV (aP r).ah] 48,aj.held w own]) (fun g_=>[aj.ls z1 (aP r).ao,aj.ls z2 (aP r).Things,aj.ls z3 (aP r).Held,aj.ls z4 (aP r).Notes,aj.ls a8 r.ao,aj.ls aW r.Things,aj.ls aX r.Held,aj.ls aZ r.Notes]) (fun g_=>g_.1<=(aP r).Things.length/\g_.2.2=(aP r).Held.map hrow++((aP r).Things.take g_.1).map lu) (fun g_=>(aP r).Things.length-g_.1) (0,u,l) O (by exact ⟨ae,by rw [HL,pb _ ae];exact (List.append_nil _).symm⟩) (sF O) (eI [0,1,2] cu O) ?_
 rintro ⟨j,u2,l2⟩ ⟨hj,HL2⟩
 dsimp only at *
 have Zy:l2.length<=34:=by rw [HL2,List.length_append,List.length_map,List.length_map,List.length_take];omega
 refine U ?_
 by_cases h2:j<(aP r).Things.length
 .
  refine U ?_
  obtain ⟨x2,hx2⟩:=gE (aP r).Things j
  have Yz:=hq.t _ (List.mem_of_getElem? hx2)
  refine R.q (q.idx (i:=j) (cb 1 O) O O eZ O hx2) O<|R.q (q.dj (ds:=lB x2) (cb 1 O) hx2 O fU O) O<|R.s O (s.alloc fP O O) fun b4=>?_
  refine R.s O (s.st 0 _ O O O O (.inl fU) O O O O) fun _=>U ?_
  refine R.eA (fuel:=15) [0,2,3] O O mixed O<|D.l [0,1,2,5,6,8,9] [0,2,3] cu O<|U ?_
  refine D.one (i:=3) O<|Do.s (s.c (q.call sQ O O (fun w hw=>(iR x2.ID w ae))) O) (fun _=>(aN [0,2,3] cu O)) O fun _=>?_
  refine D.l [4] [0,2,3] cu O<|Dm.yy O O (q.cat O O (by (simp only [ByteArray.size_append,dW,List.length_cons,List.length_nil];omega))) O<|U ?_
  refine D.one (i:=7) O<|Do.s (s.c (q.call sQ O O (fun w hw=>(iR x2.Kind w ae))) O) (fun _=>(aN [0,2,3] cu O)) O fun _=>?_
  refine D.l [10,11] [0,2,3] cu O<|Dm.yy O O (q.cat O O ae) O<|U ?_
  refine D.one (i:=12) O<|Do.s (s.bs (l:=([(⟨⟨#[116]⟩++bN x2.ID,bN x2.Kind++x2.Data,false⟩:Change)]:List Change)) bj bR O O O O O O O) (fun _=>(aN [1,3,4] cu O)) O fun b5=>?_
  refine D.one (i:=13) O<|Do.s (s.app 2 _ O O O (bH 0 O) d9 az az (fun _=>rfl) O) (fun _=>(aN [1,3,4] cu O)) O fun v2=>?_
  refine D.l [14] [1,3,4] cu O<|U ?_
  refine D.done<|U ?_
  refine R.q (q.aL (r:=((j+1:Nat):Int)) O O) O<|U ?_
  refine R.back (j+1,v2,(l2++([(⟨⟨#[116]⟩++bN x2.ID,bN x2.Kind++x2.Data,false⟩:Change)]))) O (by (exact ⟨ae,by rw [l6 lu hx2,<- List.append_assoc,<- HL2];rfl⟩)) aO (sF O) (aN [2,3,4] cu O)
 refine U ?_
 refine R.loop (fun g_:Nat×Value×(List Change)=>[(1,.pointer (some ⟨b1,0,none⟩)),(3,g_.2.1),(8,iV (g_.1:Int))]) (fun g_=>[aj.row 115 g_.2.1 g_.2.2,aj.box b1 [z1,z2,z3,z4,iV (aP r).ag,iV (aP r).ah] 48,aj.held w own]) (fun g_=>[aj.ls z1 (aP r).ao,aj.ls z2 (aP r).Things,aj.ls z3 (aP r).Held,aj.ls z4 (aP r).Notes,aj.ls a8 r.ao,aj.ls aW r.Things,aj.ls aX r.Held,aj.ls aZ r.Notes]) (fun g_=>g_.1<=(aP r).ao.length/\g_.2.2=(aP r).Held.map hrow++(aP r).Things.map lu++((aP r).ao.take g_.1).map nH) (fun g_=>(aP r).ao.length-g_.1) (0,u2,l2) O (by exact ⟨ae,by rw [HL2,pb _ ae];exact (List.append_nil _).symm⟩) (sF O) (eI [0,1,2] cu O) ?_
 rintro ⟨i,u3,l3⟩ ⟨hi,Vb⟩
 dsimp only at *
 have ll3:l3.length<=58:=by rw [Vb,List.length_append,List.length_append,List.length_map,List.length_map,List.length_map,List.length_take];omega
 refine U ?_
 by_cases h3:i<(aP r).ao.length
 .
  refine U ?_
  obtain ⟨x3,hx3⟩:=gE (aP r).ao i
  have fx3:=hq.w _ (List.mem_of_getElem? hx3)
  refine R.q (q.idx (i:=i) (cb 0 O) O O cR O hx3) O<|R.q (q.dj (ds:=fY x3) (cb 0 O) hx3 O aH O) O<|R.s O (s.alloc br O O) fun b6=>?_
  refine R.s O (s.st 0 _ O O O O (.inl aH) O O O O) fun _=>U ?_
  refine R.eA (fuel:=24) [0,2,3] O O mixed O<|D.l [0,1,2,5,6,8,9,12,13,16,17] [0,2,3] cu O<|U ?_
  refine D.one (i:=3) O<|Do.s (s.c (q.call sQ O O (fun w hw=>(iR x3.ID w ae))) O) (fun _=>(aN [0,2,3] cu O)) O fun _=>?_
  refine D.l [4] [0,2,3] cu O<|Dm.yy O O (q.cat O O (by (simp only [ByteArray.size_append,dW,List.length_cons,List.length_nil];omega))) O<|U ?_
  refine D.one (i:=7) O<|Do.s (s.c (q.call sQ O O (fun w hw=>(iR x3.aA w ae))) O) (fun _=>(aN [0,2,3] cu O)) O fun _=>?_
  refine D.one (i:=10) O<|Do.s (s.c (q.call sQ O O (fun w hw=>(iR x3.Rights w ae))) O) (fun _=>(aN [0,2,3] cu O)) O fun _=>?_
  refine D.l [11] [0,2,3] cu O<|Dm.yy O O (q.cat O O ae) O<|U ?_
  refine D.one (i:=14) O<|Do.s (s.c (q.call sQ O O (fun w hw=>(iR x3.aU w ae))) O) (fun _=>(aN [0,2,3] cu O)) O fun _=>?_
  refine D.l [15] [0,2,3] cu O<|Dm.yy O O (q.cat O O (by (simp only [ByteArray.size_append,dW,List.length_cons,List.length_nil];omega))) O<|U ?_
  refine D.one (i:=18) O<|Do.s (s.c (q.call sQ O O (fun w hw=>(iR x3.From w ae))) O) (fun _=>(aN [0,2,3] cu O)) O fun _=>?_
  refine D.l [19,20] [0,2,3] cu O<|Dm.yy O O (q.cat O O (by (simp only [ByteArray.size_append,dW,List.length_cons,List.length_nil];omega))) O<|U ?_
  refine D.one (i:=21) O<|Do.s (s.bs (l:=([(⟨⟨#[119]⟩++bN x3.ID,((bN x3.aA++bN x3.Rights)++bN x3.aU)++bN x3.From,false⟩:Change)]:List Change)) bj bR O O O O O O O) (fun _=>(aN [1,3,4] cu O)) O fun b7=>?_
  refine D.one (i:=22) O<|Do.s (s.app 2 _ O O O (bH 0 O) d9 az az (fun _=>rfl) O) (fun _=>(aN [1,3,4] cu O)) O fun v3=>?_
  refine D.l [23] [1,3,4] cu O<|U ?_
  refine D.done<|U ?_
  refine R.q (q.aL (r:=((i+1:Nat):Int)) O O) O<|U ?_
  refine R.back (i+1,v3,(l3++([(⟨⟨#[119]⟩++bN x3.ID,((bN x3.aA++bN x3.Rights)++bN x3.aU)++bN x3.From,false⟩:Change)]))) O (by (exact ⟨ae,by rw [l6 nH hx3,<- List.append_assoc,<- Vb];rfl⟩)) aO (sF O) (aN [2,3,4] cu O)
 refine U ?_
 refine R.eA (fuel:=12) [1,2] O O mixed O<|D.l [0,1,2,4,5] [1,2] cu O<|U ?_
 refine D.one (i:=3) O<|Do.s (s.c (q.call sQ O O (fun w hw=>(iR (aP r).ag w ae))) O) (fun _=>(aN [1,2] cu O)) O fun _=>?_
 refine D.one (i:=6) O<|Do.s (s.c (q.call sQ O O (fun w hw=>(iR (aP r).ah w ae))) O) (fun _=>(aN [1,2] cu O)) O fun _=>?_
 refine D.l [7,8] [1,2] cu O<|Dm.yy O O (q.cat O O ae) O<|U ?_
 refine D.one (i:=9) O<|Do.s (s.bs (l:=([(⟨⟨#[120]⟩,bN (aP r).ag++bN (aP r).ah,false⟩:Change)]:List Change)) bj bR O O O O O O O) (fun _=>(aN [2,3] cu O)) O fun b8=>?_
 refine D.one (i:=10) O<|Do.s (s.app 1 _ O O O (bH 0 O) d9 az az (fun _=>rfl) O) (fun _=>(aN [2,3] cu O)) O fun v4=>?_
 refine D.l [11] [2,3] cu O<|U ?_
 refine D.done ?_
 have hz:aY r=(l3++([(⟨⟨#[120]⟩,bN (aP r).ag++bN (aP r).ah,false⟩:Change)])):=by (unfold aY rowsOf;rw [Vb,pb _ ae];rfl)
 rw [hz]
 exact R.w1 v4 [1,3] [] O Tryz.results27 (RV.tmp O) O O O O
theorem jN {α:Type}{l:List α}{i:Nat}{x:α}(h:l[i]? = some x):l.drop i=x::l.drop (i+1):=by
 obtain ⟨h1,h2⟩:=List.getElem?_eq_some_iff.1 h
 rw [List.drop_eq_getElem_cons h1,h2]
section
variable {a b:List Change} {i k:Nat} {x y:Change} {L:List Change}
theorem PH (hm:L++bI (a.drop i) (b.drop k)=bI a b)(hx:a[i]? = some x)(hk:k=b.length):(L++[⟨x.Key,⟨#[]⟩,true⟩])++bI (a.drop (i+1)) (b.drop k)=bI a b:=by
 rw [<- hm,jN hx,List.drop_of_length_le (l:=b) ae,Cb,List.append_assoc];rfl
theorem Rz (hm:L++bI (a.drop i) (b.drop k)=bI a b)(hx:a[i]? = some x)(hy:b[k]? = some y)(h:gQ x.Key y.Key=true):(L++[⟨x.Key,⟨#[]⟩,true⟩])++bI (a.drop (i+1)) (b.drop k)=bI a b:=by
 rw [<- hm,jN hx,jN hy,m4,if_pos h,List.append_assoc];rfl
theorem RA (hm:L++bI (a.drop i) (b.drop k)=bI a b)(hy:b[k]? = some y)(hi:i=a.length):(L++[y])++bI (a.drop i) (b.drop (k+1))=bI a b:=by
 rw [<- hm,List.drop_of_length_le (l:=a) ae,mL,mL,jN hy,List.append_assoc];rfl
theorem Vk (hm:L++bI (a.drop i) (b.drop k)=bI a b)(hx:a[i]? = some x)(hy:b[k]? = some y)(h:gQ x.Key y.Key=false)(h2:gQ y.Key x.Key=true):(L++[y])++bI (a.drop i) (b.drop (k+1))=bI a b:=by
 rw [<- hm,jN hx,jN hy,m4,if_neg (by rw [h];decide),if_pos h2,List.append_assoc];rfl
theorem RD (hm:L++bI (a.drop i) (b.drop k)=bI a b)(hx:a[i]? = some x)(hy:b[k]? = some y)(h:gQ x.Key y.Key=false)(h2:gQ y.Key x.Key=false)(he:x=y):L++bI (a.drop (i+1)) (b.drop (k+1))=bI a b:=by
 rw [<- hm,jN hx,jN hy,m4,if_neg (by rw [h];decide),if_neg (by rw [h2];decide),if_pos he]
theorem RE (hm:L++bI (a.drop i) (b.drop k)=bI a b)(hx:a[i]? = some x)(hy:b[k]? = some y)(h:gQ x.Key y.Key=false)(h2:gQ y.Key x.Key=false)(he:¬ x=y):(L++[y])++bI (a.drop (i+1)) (b.drop (k+1))=bI a b:=by
 rw [<- hm,jN hx,jN hy,m4,if_neg (by rw [h];decide),if_neg (by rw [h2];decide),if_neg he,List.append_assoc];rfl
end
theorem Eu (uT:Value)(a:List Change)(vg:Value)(b:List Change)(w:World)(own:List Nat)(H:HN w own [] [aj.ls uT a,aj.ls vg b])(hl:a.length<=1000/\b.length<=1000):RC Tryz.prog 41 #[uT,vg] H (fun z:Value=>z) (fun z=>[aj.row 115 z (bI a b)]) (fun _=>[]):=by
 have m_a:=H.bD 0 rfl
 have m_b:=H.bD 1 rfl
 refine R.bE [(0,uT),(1,vg)] Tryz.func41 O O O O H<|U ?_
 refine R.row0 (α:=Change) 115<|R.loop (fun g_:Nat×Nat×Value×(List Change)=>[(0,uT),(1,vg),(5,g_.2.2.1),(6,iV (g_.1:Int)),(7,iV (g_.2.1:Int))]) (fun g_=>[aj.row 115 g_.2.2.1 g_.2.2.2,aj.held w own]) (fun g_=>[aj.ls uT a,aj.ls vg b]) (fun g_=>g_.1<=a.length/\g_.2.1<=b.length/\g_.2.2.2.length<=g_.1+g_.2.1/\g_.2.2.2++bI (a.drop g_.1) (b.drop g_.2.1)=bI a b) (fun g_=>(a.length-g_.1)+(b.length-g_.2.1)) (0,0,nS,[]) O (by dsimp only;exact ⟨ae,ae,bW,rfl⟩) (sF O) (eI [0,1] [0,1] O) ?_
 rintro ⟨i,k,u,l⟩ ⟨hi,hk,hll,HM⟩
 dsimp only at *
 refine U ?_
 by_cases h1:i<a.length
 .
  refine U ?_
  by_cases h2:k=b.length
  .
   refine R.dA O mixed ai<|U ?_
   obtain ⟨x1,hx1⟩:=gE a i
   refine R.q (q.idx (i:=i) (cb 0 O) O O bj O hx1) O<|R.q (q.ew (j':=0) (cb 0 O) hx1 O bZ O) O<|R.q (q.gh (cb 0 O) hx1 O dC O) O<|U ?_
   refine R.s O (s.bs (l:=([(⟨x1.Key,⟨#[]⟩,true⟩:Change)]:List Change)) bj bR O O O O O O O) fun b1=>?_
   refine R.s O (s.app 1 _ O O O (bH 0 O) d9 az az (fun _=>rfl) O) fun v1=>U ?_
   refine R.q (q.aL (r:=((i+1:Nat):Int)) O O) O<|U ?_
   refine R.back ((i+1),k,v1,(l++([(⟨x1.Key,⟨#[]⟩,true⟩:Change)]))) O (by ((try dsimp only);exact ⟨ae,ae,az,by exact PH HM hx1 ae⟩)) aO (sF O) (aN [1,2] [0,1] O)
  obtain ⟨x2,hx2⟩:=gE a i
  obtain ⟨x3,hx3⟩:=gE b k
  rcases Bool.eq_false_or_eq_true (gQ x2.Key x3.Key) with h3|h3
  .
   refine R.dA O mixed ai<|U ?_
   refine Q.qg O (q.idx (i:=i) (cb 0 O) O O bj O hx2) O<|Q.qg O (q.ew (j':=0) (cb 0 O) hx2 O bZ O) O<|Q.qg O (q.gh (cb 0 O) hx2 O dC O) O<|U ?_
   refine Q.qg O (q.idx (i:=k) (cb 1 O) O O bj O hx3) O<|Q.qg O (q.ew (j':=0) (cb 1 O) hx3 O bZ O) O<|Q.qg O (q.gh (cb 1 O) hx3 O dC O) O<|Q.qg O (q.P2 O O h3) O<|U ?_
   refine R.q (q.idx (i:=i) (cb 0 O) O O bj O hx2) O<|R.q (q.ew (j':=0) (cb 0 O) hx2 O bZ O) O<|R.q (q.gh (cb 0 O) hx2 O dC O) O<|U ?_
   refine R.s O (s.bs (l:=([(⟨x2.Key,⟨#[]⟩,true⟩:Change)]:List Change)) bj bR O O O O O O O) fun b2=>?_
   refine R.s O (s.app 1 _ O O O (bH 0 O) d9 az az (fun _=>rfl) O) fun v2=>U ?_
   refine R.q (q.aL (r:=((i+1:Nat):Int)) O O) O<|U ?_
   refine R.back ((i+1),k,v2,(l++([(⟨x2.Key,⟨#[]⟩,true⟩:Change)]))) O (by ((try dsimp only);exact ⟨ae,ae,az,by exact Rz HM hx2 af af⟩)) aO (sF O) (aN [1,2] [0,1] O)
  refine R.dA O mixed ai<|U ?_
  refine Q.qg O (q.idx (i:=i) (cb 0 O) O O bj O hx2) O<|Q.qg O (q.ew (j':=0) (cb 0 O) hx2 O bZ O) O<|Q.qg O (q.gh (cb 0 O) hx2 O dC O) O<|U ?_
  refine Q.qg O (q.idx (i:=k) (cb 1 O) O O bj O hx3) O<|Q.qg O (q.ew (j':=0) (cb 1 O) hx3 O bZ O) O<|Q.qg O (q.gh (cb 1 O) hx3 O dC O) O<|Q.qg O (q.P2 O O h3) O<|U ?_
  rcases Bool.eq_false_or_eq_true (gQ x3.Key x2.Key) with h4|h4
  .
   refine R.dA O mixed ai<|U ?_
   refine Q.qg O (q.idx (i:=k) (cb 1 O) O O bj O hx3) O<|Q.qg O (q.ew (j':=0) (cb 1 O) hx3 O bZ O) O<|Q.qg O (q.gh (cb 1 O) hx3 O dC O) O<|U ?_
   refine Q.qg O (q.idx (i:=i) (cb 0 O) O O bj O hx2) O<|Q.qg O (q.ew (j':=0) (cb 0 O) hx2 O bZ O) O<|Q.qg O (q.gh (cb 0 O) hx2 O dC O) O<|Q.qg O (q.P2 O O h4) O<|U ?_
   refine R.q (q.idx (i:=k) (cb 1 O) O O bj O hx3) O<|R.q (q.dj (ds:=dS x3) (cb 1 O) hx3 O bK O) O<|R.s O (s.bs (l:=([x3]:List Change)) bj bR O O O O O O O) fun b3=>?_
   refine R.s O (s.app 1 _ O O O (bH 0 O) d9 az az (fun _=>rfl) O) fun v3=>U ?_
   refine R.q (q.aL (r:=((k+1:Nat):Int)) O O) O<|U ?_
   refine R.back (i,k+1,v3,(l++([x3]))) O (by ((try dsimp only);exact ⟨ae,ae,az,by exact Vk HM af hx3 af af⟩)) aO (sF O) (aN [1,2] [0,1] O)
  refine R.dA O mixed ai<|U ?_
  refine Q.qg O (q.idx (i:=k) (cb 1 O) O O bj O hx3) O<|Q.qg O (q.ew (j':=0) (cb 1 O) hx3 O bZ O) O<|Q.qg O (q.gh (cb 1 O) hx3 O dC O) O<|U ?_
  refine Q.qg O (q.idx (i:=i) (cb 0 O) O O bj O hx2) O<|Q.qg O (q.ew (j':=0) (cb 0 O) hx2 O bZ O) O<|Q.qg O (q.gh (cb 0 O) hx2 O dC O) O<|Q.qg O (q.P2 O O h4) O<|U ?_
  by_cases h5:x2=x3
  .
   refine R.dA O mixed ai<|U ?_
   refine Q.q (q.idx (i:=i) (cb 0 O) O O bj O hx2) O<|Q.q (q.dj (ds:=dS x2) (cb 0 O) hx2 O bK O) O<|U ?_
   refine Q.q (q.idx (i:=k) (cb 1 O) O O bj O hx3) O<|Q.q (q.dj (ds:=dS x3) (cb 1 O) hx3 O bK O) O<|Q.q (q.kQ (x:=x2) (y:=x3) D3 O O h5) O<|U ?_
   refine R.q (q.aL (r:=((i+1:Nat):Int)) O O) O<|U ?_
   refine R.q (q.aL (r:=((k+1:Nat):Int)) O O) O<|U ?_
   refine R.back ((i+1),k+1,u,l) O (by ((try dsimp only);exact ⟨ae,ae,ae,by exact RD HM hx2 hx3 af af af⟩)) aO (sF O) (aN [0,1] [0,1] O)
  refine R.dA O mixed ai<|U ?_
  refine Q.q (q.idx (i:=i) (cb 0 O) O O bj O hx2) O<|Q.q (q.dj (ds:=dS x2) (cb 0 O) hx2 O bK O) O<|U ?_
  refine Q.q (q.idx (i:=k) (cb 1 O) O O bj O hx3) O<|Q.q (q.dj (ds:=dS x3) (cb 1 O) hx3 O bK O) O<|Q.q (q.kR (x:=x2) (y:=x3) D3 O O h5) O<|U ?_
  refine R.q (q.idx (i:=k) (cb 1 O) O O bj O hx3) O<|R.q (q.dj (ds:=dS x3) (cb 1 O) hx3 O bK O) O<|R.s O (s.bs (l:=([x3]:List Change)) bj bR O O O O O O O) fun b4=>?_
  refine R.s O (s.app 1 _ O O O (bH 0 O) d9 az az (fun _=>rfl) O) fun v4=>U ?_
  refine R.q (q.aL (r:=((i+1:Nat):Int)) O O) O<|U ?_
  refine R.q (q.aL (r:=((k+1:Nat):Int)) O O) O<|U ?_
  refine R.back ((i+1),k+1,v4,(l++([x3]))) O (by ((try dsimp only);exact ⟨ae,ae,az,by exact RE HM hx2 hx3 af af af⟩)) aO (sF O) (aN [1,2] [0,1] O)
 refine U ?_
 by_cases h6:k<b.length
 .
  refine U ?_
  refine R.dA O mixed ai<|U ?_
  refine R.dA O mixed ai<|U ?_
  obtain ⟨x4,hx4⟩:=gE b k
  refine R.q (q.idx (i:=k) (cb 1 O) O O bj O hx4) O<|R.q (q.dj (ds:=dS x4) (cb 1 O) hx4 O bK O) O<|R.s O (s.bs (l:=([x4]:List Change)) bj bR O O O O O O O) fun b5=>?_
  refine R.s O (s.app 1 _ O O O (bH 0 O) d9 az az (fun _=>rfl) O) fun v5=>U ?_
  refine R.q (q.aL (r:=((k+1:Nat):Int)) O O) O<|U ?_
  refine R.back (i,k+1,v5,(l++([x4]))) O (by ((try dsimp only);exact ⟨ae,ae,az,by exact RA HM hx4 ae⟩)) aO (sF O) (aN [1,2] [0,1] O)
 refine U ?_
 have hz:bI a b=l:=by (rw [List.drop_of_length_le (l:=a) ae,List.drop_of_length_le (l:=b) ae,mL,List.append_nil] at HM;exact HM.symm)
 rw [hz]
 exact R.w1 u [0,1] [] O Tryz.results41 (RV.tmp O) O O O O
end
section
open Go Go.RowKit
attribute [local irreducible] bT cX bM ki ey dNew cp fw gW lA
theorem L8 (many:Int)(w:World)(own:List Nat)(H:HN w own [] [])(hn:1<=many/\many<=1000):RC Tryz.prog 8 #[iV many] H (fun z:Nat×Value×Value×Value×Value×Nat×Value => .pointer (some ⟨z.1,0,none⟩)) (fun z=>[aj.box z.1 [.pointer (some ⟨z.2.2.2.2.2.1,0,none⟩),z.2.1,z.2.2.1,z.2.2.2.1,z.2.2.2.2.1,iV (⟨(⟨[],[],[],[],1,1⟩:av)⟩:iI).R.ag,iV (⟨(⟨[],[],[],[],1,1⟩:av)⟩:iI).R.ah] 50,aj.box z.2.2.2.2.2.1 [z.2.2.2.2.2.2,iV (lA (⟨[],0,many⟩:j3) (aY (⟨[],[],[],[],1,1⟩:av))).1.Used,iV (lA (⟨[],0,many⟩:j3) (aY (⟨[],[],[],[],1,1⟩:av))).1.Many] 41]) (fun z=>[aj.ls z.2.1 ((⟨(⟨[],[],[],[],1,1⟩:av)⟩:iI).R.ao:List ap),aj.ls z.2.2.1 ((⟨(⟨[],[],[],[],1,1⟩:av)⟩:iI).R.Things:List aA),aj.ls z.2.2.2.1 ((⟨(⟨[],[],[],[],1,1⟩:av)⟩:iI).R.Held:List Held),aj.ls z.2.2.2.2.1 ((⟨(⟨[],[],[],[],1,1⟩:av)⟩:iI).R.Notes:List Note),aj.ls z.2.2.2.2.2.2 ((lA (⟨[],0,many⟩:j3) (aY (⟨[],[],[],[],1,1⟩:av))).1.Rows:List Change)]):=by
 obtain ⟨manyN,IE⟩:∃m:Nat,many=(m:Int):=⟨many.toNat,ae⟩;subst IE
 have n1:=IZ;have n2:=jc;have n3:=iN jc
 refine R.bE [(0,iV (manyN:Int))] Tryz.func8 O O O O H<|R.reg O<|R.ur 1 O O<|R.u 1 O<|R.q (q.build WG O O) O<|R.s O (s.box O O O) fun b1=>?_
 refine R.s O (s.aT [0,1] [] _ _ _ O O O WS O O (fun w own hw H=>LU w own H ) O) ?_
 rintro ⟨z1,z2,z3,z4⟩
 dsimp only
 refine R.q (q.Dt WH O (fun w hw=>(lF O (lF O Dr))) O) O<|R.s O (s.box O O O) fun b2=>?_
 refine R.un 1 O<|R.eA (fuel:=10) [0,2] O O mixed O<|D.q (i:=0) O (aN [0,2] bm O) O (q.mv O) O<|D.q (i:=1) O (aN [0,2] bm O) O (q.fD O) O<|D.q (i:=2) O (aN [0,2] bm O) O (q.jA O vT O) O<|D.q (i:=3) O (aN [0,2] bm O) O (q.ld 0 O O DF O) O<|D.q (i:=4) O (aN [0,2] bm O) O (q.mv O) O<|D.q (i:=5) O (aN [0,2] bm O) O (q.fD O) O<|D.q (i:=6) O (aN [0,2] bm O) O (q.jA O iQ O) O<|D.q (i:=7) O (aN [0,2] bm O) O (q.Mc (ds:=[z1,z2,z3,z4,iV (⟨[],[],[],[],1,1⟩:av).ag,iV (⟨[],[],[],[],1,1⟩:av).ah]) 0 O O ak O) O<|D.one (i:=8) O<|Do.s (s.aT [0,1,2] bm _ _ _ O O O NH O O (fun w own hw H=>wM z1 z2 z3 z4 (⟨[],[],[],[],1,1⟩:av) w own H af af) O) (fun _=>(aN [1,3] bm O)) O fun z7=>?_
 refine D.one (i:=9) O<|Do.s (s.pre (fun _ hw=>hw.Hl (α:=Change)) (s.pre (fun _ hw=>hw.bu 0 _ O O) (s.aT [1,0,2] [1,0] _ _ _ O O O Sp O O (fun w own hw H=>xo b1 (nS) (⟨[],0,(manyN:Int)⟩:j3) z7 (aY (⟨[],[],[],[],1,1⟩:av)) w own H (by (refine ⟨?_,?_,?_,?_,?_,?_⟩ <;> first|omega|decide|(simp;done)|(simp;omega)))) O))) (fun _=>(aN [1,2] [3,4,5,6] O)) O fun z8=>?_
 refine D.done<|R.reg O<|R.un 2 O ?_
 have hz:((⟨(⟨[],[],[],[],1,1⟩:av)⟩:iI),(lA (⟨[],0,((manyN:Nat):Int)⟩:j3) (aY (⟨[],[],[],[],1,1⟩:av))).1)=((⟨(⟨[],[],[],[],1,1⟩:av)⟩:iI),(lA (⟨[],0,(manyN:Int)⟩:j3) (aY (⟨[],[],[],[],1,1⟩:av))).1):=by (rfl)
 have hz0:(lA (⟨[],0,((manyN:Nat):Int)⟩:j3) (aY (⟨[],[],[],[],1,1⟩:av))).1=(lA (⟨[],0,(manyN:Int)⟩:j3) (aY (⟨[],[],[],[],1,1⟩:av))).1:=congrArg (fun t_=>t_.2) hz
 rw [hz0]
 exact R.w1 (b2,z1,z2,z3,z4,b1,z8) [1,0,2] [3,4,5,6,0] O Tryz.results8 (RV.tmp O) O O O O
theorem L9 (Hc:Nat)(AF AG AH AJ:Value)(S9:Nat)(m:iI)(w:World)(own:List Nat)(H:HN w own [aj.box Hc [.pointer (some ⟨S9,0,none⟩),AF,AG,AH,AJ,iV m.R.ag,iV m.R.ah] 50] [aj.ls AF m.R.ao,aj.ls AG m.R.Things,aj.ls AH m.R.Held,aj.ls AJ m.R.Notes])(hk:Ok m.R)(hI:Inv m.R):RC Tryz.prog 11 #[.pointer (some ⟨Hc,0,none⟩)] H (fun _:Value×Value×Value×Value => .tuple #[]) (fun z=>[aj.box Hc [.pointer (some ⟨S9,0,none⟩),z.1,z.2.1,z.2.2.1,z.2.2.2,iV (⟨aP m.R⟩:iI).R.ag,iV (⟨aP m.R⟩:iI).R.ah] 50]) (fun z=>[aj.ls z.1 ((⟨aP m.R⟩:iI).R.ao:List ap),aj.ls z.2.1 ((⟨aP m.R⟩:iI).R.Things:List aA),aj.ls z.2.2.1 ((⟨aP m.R⟩:iI).R.Held:List Held),aj.ls z.2.2.2 ((⟨aP m.R⟩:iI).R.Notes:List Note)]):=by
 have G6:=H.bD 0 rfl
 have Ev:=H.bD 1 rfl
 have I9:=H.bD 2 rfl
 have G7:=H.bD 3 rfl
 refine R.bE [(0,.pointer (some ⟨Hc,0,none⟩))] Tryz.func11 O O O O H<|R.reg O<|R.u 2 O<|R.q (q.fD O) O<|R.q (q.jA O iQ O) O<|R.q (q.Mc (ds:=[AF,AG,AH,AJ,iV m.R.ag,iV m.R.ah]) 0 O O ak O) O<|R.s O (s.aT [0,1] bm _ _ _ O O O Ss O O (fun w own hw H=>AB AF AG AH AJ m.R w own H af af) O) ?_
 rintro ⟨z1,z2,z3,z4⟩
 dsimp only
 refine R.q (q.fD O) O<|R.q (q.jA O iQ O) O<|R.s O (s.dE 0 _ O O O (fun _ _=>rfl) (.inl ak) (fun w hw=>(dx (hw.bz 0 O) (hw.bz 1 O) (hw.bz 2 O) (hw.bz 3 O) O O)) O O O) fun _=>?_
 exact R.nil<|R.w0 (z1,z2,z3,z4) [0,1] bm (by exact .inl O) Tryz.results11 O O O O
theorem RG (Hc:Nat)(AF AG AH AJ:Value)(m:iI)(a8 aW aX aZ:Value)(r:av)(f:Int)(PK:Nat)(rM:Value)(ms:j3)(w:World)(own:List Nat)(H:HN w own [aj.box Hc [.pointer (some ⟨PK,0,none⟩),AF,AG,AH,AJ,iV m.R.ag,iV m.R.ah] 50,aj.box PK [rM,iV ms.Used,iV ms.Many] 41] [aj.ls AF m.R.ao,aj.ls AG m.R.Things,aj.ls AH m.R.Held,aj.ls AJ m.R.Notes,aj.ls a8 r.ao,aj.ls aW r.Things,aj.ls aX r.Held,aj.ls aZ r.Notes,aj.ls rM ms.Rows])(hb:0<=ms.Many/\ms.Many<=1000/\0<=ms.Used/\ms.Used<=1000/\ms.Rows.length<=1000)(hk:Ok m.R)(hI:Inv m.R)(h0:0<=f)(hz:f=0->Ok r/\Inv r):RC Tryz.prog 13 #[.pointer (some ⟨Hc,0,none⟩),.agg #[a8,aW,aX,aZ,iV r.ag,iV r.ah],iV f] H (fun _:Value×Value×Value×Value×Value=>iV (gW m ms (r,f)).2.2) (fun z=>[aj.box Hc [.pointer (some ⟨PK,0,none⟩),z.1,z.2.1,z.2.2.1,z.2.2.2.1,iV (gW m ms (r,f)).1.R.ag,iV (gW m ms (r,f)).1.R.ah] 50,aj.box PK [z.2.2.2.2,iV (gW m ms (r,f)).2.1.Used,iV (gW m ms (r,f)).2.1.Many] 41]) (fun z=>[aj.ls z.1 (gW m ms (r,f)).1.R.ao,aj.ls z.2.1 (gW m ms (r,f)).1.R.Things,aj.ls z.2.2.1 (gW m ms (r,f)).1.R.Held,aj.ls z.2.2.2.1 (gW m ms (r,f)).1.R.Notes,aj.ls z.2.2.2.2 (gW m ms (r,f)).2.1.Rows]):=by
 have G6:=H.bD 0 rfl
 have Ev:=H.bD 1 rfl
 have I9:=H.bD 2 rfl
 have G7:=H.bD 3 rfl
 have cB:=H.bD 4 rfl
 have cd:=H.bD 5 rfl
 have df:=H.bD 6 rfl
 have cC:=H.bD 7 rfl
 have VL:=H.bD 8 rfl
 have g0:=iN hI;have g3:=fun (h:f=0)=>iN (hz h).2;have gm:=fun (h:f=0)=>(O0 hI (hz h).2)
 refine R.bE [(0,.pointer (some ⟨Hc,0,none⟩)),(1,.agg #[a8,aW,aX,aZ,iV r.ag,iV r.ah]),(2,iV f)] Tryz.func13 O O O O H<|R.reg O<|R.s O (s.box O O O) fun b1=>?_
 refine R.ur 1 O O<|R.u 1 O<|?_
 by_cases h1:0<f
 .
  refine R.q (q.sV O O) O<|R.nA O O O<|R.un 2 O ?_
  have hz:gW m ms (r,f)=(m,ms,f):=by (rw [S0 (m:=m) (ms:=ms) (z:=(r,f)) af];done)
  rw [hz]
  exact R.w1 (AF,AG,AH,AJ,rM) [1,2,3] [0,1,2,3,8] O Tryz.results13 (RV.tmp O) O O O O
 obtain ⟨hk2,hI2⟩:=hz ae;have g4:=g3 ae;have g5:=gm ae
 refine R.q (q.sW O O) O<|R.nF O O<|R.eA (fuel:=9) bm O O mixed O<|D.q (i:=0) O (aN bm dQ O) O (q.mv O) O<|D.q (i:=1) O (aN bm dQ O) O (q.fD O) O<|D.q (i:=2) O (aN bm dQ O) O (q.jA O iQ O) O<|D.q (i:=3) O (aN bm dQ O) O (q.Mc (ds:=[AF,AG,AH,AJ,iV m.R.ag,iV m.R.ah]) 1 O O ak O) O<|D.q (i:=5) O (aN bm dQ O) O (q.EJ 0 O O ak) O<|D.one (i:=4) O<|Do.s (s.aT bm bm _ _ _ O O O NH O O (fun w own hw H=>wM AF AG AH AJ m.R w own H af af) O) (fun _=>(aN [1,2,3,4] dQ O)) O fun z4=>?_
 refine D.one (i:=6) O<|Do.s (s.aT da [4,5,6,7] _ _ _ O O O NH O O (fun w own hw H=>wM a8 aW aX aZ r w own H af af) O) (fun _=>(aN [2,3,4,5] dQ O)) O fun z5=>?_
 refine D.one (i:=7) O<|Do.s (s.Du (Bl:=[aj.row 115 z4 (aY m.R),aj.row 115 z5 (aY r)]) (Fl:=[aj.ls z4 (aY m.R),aj.ls z5 (aY r)]) [1,0,2,3,4,5] [0,1] (fun jZ:Value=>jZ) (fun jZ:Value=>[aj.row 115 jZ (bI (aY m.R) (aY r))]) O O (mM (mM uN)) O W5 O O (fun w own hw H=>Eu z4 (aY m.R) z5 (aY r) w own H ae) O) (fun _=>(aN [3,4,5,6] dQ O)) O fun z6=>?_
 refine D.q (i:=8) O (aN [3,4,5,6] dQ O) O (q.as O) O<|D.done<|R.reg O<|R.u 1 O<|R.q (q.len' (bH 0 O) O Tryz.underlying34) O<|?_
 by_cases h2:0<(bI (aY m.R) (aY r)).length
 .
  refine R.q (q.sV O O) O<|R.nA O O O<|R.u 1 O<|R.q (q.fD O) O<|R.q (q.jA O vT O) O<|R.q (q.ld 4 O O DF O) O<|R.u 1 O<|R.s O (s.pre (fun _ hw=>hw.bu 0 _ O O) (s.aT [4,0,1,2,3,5] [9,0] _ _ _ O O O Sp O O (fun w own hw H=>xo PK rM ms z6 (bI (aY m.R) (aY r)) w own H ae) O)) fun z7=>?_
  refine R.ur 1 O O<|R.u 1 O<|?_
  by_cases h3:0<(lA ms (bI (aY m.R) (aY r))).2
  .
   refine R.q (q.sV O O) O<|R.nA O O O<|R.un 2 O ?_
   have hz:gW m ms (r,f)=(m,(lA ms (bI (aY m.R) (aY r))).1,(lA ms (bI (aY m.R) (aY r))).2):=by (rw [XY (m:=m) (ms:=ms) (z:=(r,f)) af af af];done)
   rw [hz]
   exact R.w1 (AF,AG,AH,AJ,z7) [4,0,5] [2,3,4,5,0] O Tryz.results13 (RV.tmp O) O O O O
  refine R.q (q.sW O O) O<|R.nB O O O<|R.u 1 O<|R.q (q.EJ 3 O O ak) O<|R.q (q.fD O) O<|R.q (q.jA O iQ O) O<|R.s O (s.dE 4 _ O O O (fun _ _=>rfl) (.inl ak) (fun w hw=>(dx (hw.bz 6 O) (hw.bz 7 O) (hw.bz 8 O) (hw.bz 9 O) O O)) O O O) fun _=>?_
  refine R.nr O<|R.un 1 O ?_
  have hz:gW m ms (r,f)=((⟨r⟩:iI),(lA ms (bI (aY m.R) (aY r))).1,0):=by (rw [S2 (m:=m) (ms:=ms) (z:=(r,f)) af af af];done)
  rw [hz]
  exact R.w1 (a8,aW,aX,aZ,z7) [4,0,5] [6,7,8,9,0] O Tryz.results13 (RV.tmp O) O O O O
 refine R.q (q.sW O O) O<|R.nB O O O<|R.u 1 O<|R.q (q.EJ 3 O O ak) O<|R.q (q.fD O) O<|R.q (q.jA O iQ O) O<|R.s O (s.dE 4 _ O O O (fun _ _=>rfl) (.inl ak) (fun w hw=>(dx (hw.bz 4 O) (hw.bz 5 O) (hw.bz 6 O) (hw.bz 7 O) O O)) O O O) fun _=>?_
 refine R.nr O<|R.un 1 O ?_
 have hz:gW m ms (r,f)=((⟨r⟩:iI),ms,0):=by (rw [S1 (m:=m) (ms:=ms) (z:=(r,f)) af af];done)
 rw [hz]
 exact R.w1 (a8,aW,aX,aZ,rM) [4,5,6] [4,5,6,7,8] O Tryz.results13 (RV.tmp O) O O O O
end
section
open Go Go.RowKit
attribute [local irreducible] bT cX bM ki ey dNew cp fw gW lA cr
theorem Ma (w:World)(ht:GK w):Calls Tryz.prog 5 #[] w fun e w'=>e = .returned (.bool true)/\Ext w w':=by
 obtain ⟨w1,w2,w3,w4,w5,u0,w6⟩:=Eg;have w7:=w6.anew ae;have w8:=w6.pre ae
 have wi:Inv gv.R:=w5.symm▸jc;have wo:Ok gv.R:=w5.symm▸IZ;obtain ⟨wa,wb,wc,wd⟩:=w8;have wz:(cp gv.R (⟨⟨#[109,97,107,101]⟩,⟨#[]⟩,⟨1,0⟩,⟨0,0⟩,1,0,0,0,none,0,0,[]⟩:fL)).2=0->Ok (cp gv.R (⟨⟨#[109,97,107,101]⟩,⟨#[]⟩,⟨1,0⟩,⟨0,0⟩,1,0,0,0,none,0,0,[]⟩:fL)).1:=SZ (k:=0) (w5.symm▸Sz.new) _ ae
 obtain ⟨v1,z1,u1,v2,v3,v13⟩:=I7 w6 w2 w5 (a:=(⟨⟨#[109,97,107,101]⟩,⟨#[]⟩,⟨1,0⟩,⟨0,0⟩,1,0,0,0,none,0,0,[]⟩:fL)) rfl rfl rfl;have v4:=v2.anew ae;obtain ⟨v5,v6,v7,v8,v9,v10,v11⟩:=v4;have v12:(cr (bM (fw gv iq iH nk (cp gv.R (⟨⟨#[109,97,107,101]⟩,⟨#[]⟩,⟨1,0⟩,⟨0,0⟩,1,0,0,0,none,0,0,[]⟩:fL))).2.2.1).c.Rows).1.Things.length=1:=(by rw [v10];exact v3);have v14:Ok (cr (bM (fw gv iq iH nk (cp gv.R (⟨⟨#[109,97,107,101]⟩,⟨#[]⟩,⟨1,0⟩,⟨0,0⟩,1,0,0,0,none,0,0,[]⟩:fL))).2.2.1).c.Rows).1:=(by rw [v10];exact v13)
 refine R.enter [] [] Tryz.func5 O O O O<|R.oN (r:=e9) ht (Ek ht)<|R.reg O<|R.ur 1 O O<|R.s O (s.aT [] [0] _ _ _ O O O WL O O (fun w own hw H=>G3 w own H ) O) ?_
 rintro ⟨z1,z2,z3,z4,z5,z6,z7,z8,z9,l7,mh,z12⟩
 dsimp only
 refine R.ur 7 O O<|R.u 4 O<|R.qg O (q.build Si O O) O<|R.qg O (q.build WE O O) O<|R.s O (s.aT [4,5,0,1,2,3,6] nE _ _ _ O O O Sm O O (fun w own hw H=>Az z5 z6 z7 z8 z9 gv (⟨⟨#[109,97,107,101]⟩,⟨#[]⟩,⟨1,0⟩,⟨0,0⟩,1,0,0,0,none,0,0,[]⟩:fL) l7 mh iq z1 z2 z3 z4 iH z12 nk w own H af af ae af af af af) O) ?_
 rintro ⟨o6,xX,Hb,CG,z17,xk,Bb,z20,z21⟩
 dsimp only
 refine R.qg O (q.qD O O Tryz.underlying38) O<|R.u 1 O<|R.nB O O O<|R.u 1 O<|R.s O (s.aT [2,3,4,5,0,1,6] [10] _ _ _ O O O NF O O (fun w own hw H=>wI z1 xk Bb z20 (fw gv iq iH nk (cp gv.R (⟨⟨#[109,97,107,101]⟩,⟨#[]⟩,⟨1,0⟩,⟨0,0⟩,1,0,0,0,none,0,0,[]⟩:fL))).2.2.1 w own H af af af af af) O) ?_
 rintro ⟨z22,z23,z24,z25,z26,z27,z28,z29,z30,z31,z32⟩
 dsimp only
 refine R.ur 5 O O<|R.u 1 O<|R.q (q.EL O O Tryz.underlying38) O<|R.u 2 O<|R.qg O (q.P4 O O Tryz.underlying26) O<|R.u 3 O<|R.s O (s.aT [4,0,1,2,3,5,6,7,8,9] bm _ _ _ O O O J1 O O (fun w own hw H=>qh z25 z26 z27 z28 z29 z30 (⟨(cr (bM (fw gv iq iH nk (cp gv.R (⟨⟨#[109,97,107,101]⟩,⟨#[]⟩,⟨1,0⟩,⟨0,0⟩,1,0,0,0,none,0,0,[]⟩:fL))).2.2.1).c.Rows).1⟩:kN) w own H af) O) ?_
 rintro ⟨z33,z34,z35,z36,z37,z38,z39,z40⟩
 dsimp only
 exact R.qg O (q.field O NC O) O<|R.qg O (q.len' (cb 5 O) O Tryz.underlying44) O<|R.qg O (q.Te O O) O<|R.un 2 O<|R.rv O Tryz.results5 O (rB ck)
theorem Ew (bL:Value)(l:List fL)(w:World)(dK:Sl w bL l)(Li:∀x∈l,Sl w x.cv x.Changes)(ht:GK w):Calls Tryz.prog 3 #[bL] w fun e w'=>e = .returned (.bool true)/\Ext w w':=by
 have wk:=dK.eV
 refine R.enter [] [(0,bL)] Tryz.func3 O O O O<|R.oN (r:=e9) ht (Ek ht)<|R.qH dK<|R.oN (r:=aj.acts l) Li (Jk Li)<|R.reg O<|R.ur 1 O O<|R.c (q.call YV O O (fun w hw=>(Ma w (by exact hw.okF e9 (by repeat (first|exact List.Mem.head _|refine List.Mem.tail _ ?_)))))) O<|R.un 1 O ?_
 refine R.reg O<|R.u 4 O<|?_
 rcases Bool.eq_false_or_eq_true (qT l 60) with h1|h1
 .
  refine R.cg O (q.call WK O O (fun w hw=>(cv (congrArg Value.bool h1) (Av _ l 60 w (hw.bz 1 O) (hw.acts 0 O) )))) O<|R.u 2 O<|R.nF O O ?_
  have hll:=Hr (l:=l) (most:=60) af
  obtain ⟨w1,w2,w3,w4,w5,u0,w6⟩:=Eg;have w7:=w6.anew ae;have w8:=w6.pre ae
  refine R.reg O<|R.s O (s.aT [] [2] _ _ _ O O O WL O O (fun w own hw H=>G3 w own H ) O) ?_
  rintro ⟨z1,z2,z3,z4,z5,z6,z7,z8,z9,l7,mh,z12⟩
  dsimp only
  refine R.ur 7 O O<|R.u 2 O<|R.nF O O ?_
  have wm:KM iq 2 O1:=U5;have w9:KI iH iq nk nR 2 1:=l4.2.2.2.2.2
  refine R.reg O<|R.s O (s.aT kj [] _ _ _ O O O YW O O (fun w own hw H=>L8 68 w own H ae) O) ?_
  rintro ⟨o6,xX,Hb,CG,z17,xk,Bb⟩
  dsimp only
  refine R.ur 1 O O<|R.un 1 O<|R.loop (fun g_:Nat×Nat×cU×Value×Value×Value×kN×Value×Value×Value×Value×Nat×jK×Value×Nat×Lg×Nat×iI×Value×Value×Value×Value×j3×Value=>[(0,bL),(4,.pointer (some ⟨z1,0,none⟩)),(5,.pointer (some ⟨g_.2.2.2.2.2.2.2.2.2.2.2.1,0,none⟩)),(6,.pointer (some ⟨o6,0,none⟩)),(7,iV (g_.1:Int))]) (fun g_=>[aj.box o6 [.pointer (some ⟨xk,0,none⟩),g_.2.2.2.2.2.2.2.2.2.2.2.2.2.2.2.2.2.2.1,g_.2.2.2.2.2.2.2.2.2.2.2.2.2.2.2.2.2.2.2.1,g_.2.2.2.2.2.2.2.2.2.2.2.2.2.2.2.2.2.2.2.2.1,g_.2.2.2.2.2.2.2.2.2.2.2.2.2.2.2.2.2.2.2.2.2.1,iV g_.2.2.2.2.2.2.2.2.2.2.2.2.2.2.2.2.2.1.R.ag,iV g_.2.2.2.2.2.2.2.2.2.2.2.2.2.2.2.2.2.1.R.ah] 50,aj.box xk [g_.2.2.2.2.2.2.2.2.2.2.2.2.2.2.2.2.2.2.2.2.2.2.2,iV g_.2.2.2.2.2.2.2.2.2.2.2.2.2.2.2.2.2.2.2.2.2.2.1.Used,iV g_.2.2.2.2.2.2.2.2.2.2.2.2.2.2.2.2.2.2.2.2.2.2.1.Many] 41,aj.box z1 [g_.2.2.2.1,g_.2.2.2.2.1,g_.2.2.2.2.2.1,iV g_.2.2.1.Fuse,.bool g_.2.2.1.Down] 120,aj.row 9 g_.2.2.2.1 g_.2.2.1.Kept,aj.row 9 g_.2.2.2.2.1 g_.2.2.1.Now,aj.row 196 g_.2.2.2.2.2.1 g_.2.2.1.Wait,aj.box g_.2.2.2.2.2.2.2.2.2.2.2.1 [.pointer (some ⟨g_.2.2.2.2.2.2.2.2.2.2.2.2.2.2.1,0,none⟩),g_.2.2.2.2.2.2.2.1,g_.2.2.2.2.2.2.2.2.1,g_.2.2.2.2.2.2.2.2.2.1,g_.2.2.2.2.2.2.2.2.2.2.1,iV g_.2.2.2.2.2.2.1.R.ag,iV g_.2.2.2.2.2.2.1.R.ah] 78,aj.box g_.2.2.2.2.2.2.2.2.2.2.2.2.2.2.1 [.pointer (some ⟨z1,0,none⟩),iV g_.2.2.2.2.2.2.2.2.2.2.2.2.1.Epoch,iV g_.2.2.2.2.2.2.2.2.2.2.2.2.1.Side,iV g_.2.2.2.2.2.2.2.2.2.2.2.2.1.Size,iV g_.2.2.2.2.2.2.2.2.2.2.2.2.1.First,.pointer (some ⟨g_.2.2.2.2.2.2.2.2.2.2.2.2.2.2.2.2.1,0,none⟩),g_.2.2.2.2.2.2.2.2.2.2.2.2.2.1] 132,aj.box g_.2.2.2.2.2.2.2.2.2.2.2.2.2.2.2.2.1 [.pointer (some ⟨z1,0,none⟩),iV g_.2.2.2.2.2.2.2.2.2.2.2.2.2.2.2.1.From,iV g_.2.2.2.2.2.2.2.2.2.2.2.2.2.2.2.1.Many,iV g_.2.2.2.2.2.2.2.2.2.2.2.2.2.2.2.1.First,iV g_.2.2.2.2.2.2.2.2.2.2.2.2.2.2.2.1.Next] 193]) (fun g_=>[aj.ls g_.2.2.2.2.2.2.2.1 g_.2.2.2.2.2.2.1.R.ao,aj.ls g_.2.2.2.2.2.2.2.2.1 g_.2.2.2.2.2.2.1.R.Things,aj.ls g_.2.2.2.2.2.2.2.2.2.1 g_.2.2.2.2.2.2.1.R.Held,aj.ls g_.2.2.2.2.2.2.2.2.2.2.1 g_.2.2.2.2.2.2.1.R.Notes,aj.ls g_.2.2.2.2.2.2.2.2.2.2.2.2.2.1 g_.2.2.2.2.2.2.2.2.2.2.2.2.1.Rows,aj.ls g_.2.2.2.2.2.2.2.2.2.2.2.2.2.2.2.2.2.2.1 g_.2.2.2.2.2.2.2.2.2.2.2.2.2.2.2.2.2.1.R.ao,aj.ls g_.2.2.2.2.2.2.2.2.2.2.2.2.2.2.2.2.2.2.2.1 g_.2.2.2.2.2.2.2.2.2.2.2.2.2.2.2.2.2.1.R.Things,aj.ls g_.2.2.2.2.2.2.2.2.2.2.2.2.2.2.2.2.2.2.2.2.1 g_.2.2.2.2.2.2.2.2.2.2.2.2.2.2.2.2.2.1.R.Held,aj.ls g_.2.2.2.2.2.2.2.2.2.2.2.2.2.2.2.2.2.2.2.2.2.1 g_.2.2.2.2.2.2.2.2.2.2.2.2.2.2.2.2.2.1.R.Notes,aj.ls g_.2.2.2.2.2.2.2.2.2.2.2.2.2.2.2.2.2.2.2.2.2.2.2 g_.2.2.2.2.2.2.2.2.2.2.2.2.2.2.2.2.2.2.2.2.2.2.1.Rows,aj.ls xX ((⟨(⟨[],[],[],[],1,1⟩:av)⟩:iI).R.ao:List ap),aj.ls Hb ((⟨(⟨[],[],[],[],1,1⟩:av)⟩:iI).R.Things:List aA),aj.ls CG ((⟨(⟨[],[],[],[],1,1⟩:av)⟩:iI).R.Held:List Held),aj.ls z17 ((⟨(⟨[],[],[],[],1,1⟩:av)⟩:iI).R.Notes:List Note),aj.ls Bb ((lA (⟨[],0,68⟩:j3) (aY (⟨[],[],[],[],1,1⟩:av))).1.Rows:List Change),aj.ls z6 gv.R.ao,aj.ls z7 gv.R.Things,aj.ls z8 gv.R.Held,aj.ls z9 gv.R.Notes,aj.ls mh iq.Rows,aj.acts l,aj.ls bL l,e9]) (fun g_=>g_.1<=l.length/\KI g_.2.2.1 g_.2.2.2.2.2.2.2.2.2.2.2.2.1 g_.2.2.2.2.2.2.2.2.2.2.2.2.2.2.2.1 g_.2.2.2.2.2.2.1.R g_.2.1 (g_.1+1)/\g_.2.2.1.Fuse = -1/\Sz g_.1 g_.2.2.2.2.2.2.1.R/\g_.2.2.2.2.2.2.2.2.2.2.2.2.2.2.2.2.2.1.R=g_.2.2.2.2.2.2.1.R/\KM g_.2.2.2.2.2.2.2.2.2.2.2.2.1 g_.2.1 g_.2.2.2.2.2.2.2.2.2.2.2.2.2.2.2.2.2.2.2.2.2.2.1) (fun g_=>l.length-g_.1) (0,2,iH,z2,z3,z4,gv,z6,z7,z8,z9,z5,iq,mh,l7,nk,z12,(⟨(⟨[],[],[],[],1,1⟩:av)⟩:iI),xX,Hb,CG,z17,(lA (⟨[],0,68⟩:j3) (aY (⟨[],[],[],[],1,1⟩:av))).1,Bb) O (by (try dsimp only);exact ⟨ae,w5.symm▸w9,w2,w5.symm▸Sz.new,w5.symm,wm⟩) (sF O) (eI dQ [5,6,7,8,9,0,1,2,3,4,0,1,2,3,4,5,6,7,8,9,10,11,12] O) ?_
  rintro ⟨i,u,em,vd,AK,ve,kc,RH,RI,RJ,RL,bk,sc,yi,bs,lg,bl,m,xF,CM,Bj,Bm,ms,vf⟩ ⟨hi,hV,hf,hS,hm,hM⟩
  dsimp only at *
  have hI:=hV.inv;have hk:=hS.ok ae;have g1:=hV.pre ae;obtain ⟨g2,g3,g4,g5⟩:=g1;have hI2:Inv m.R:=hm.symm▸hI;have hk2:Ok m.R:=hm.symm▸hk;have g6:=hM.small hV ae
  refine R.reg O<|R.u 2 O<|R.q (q.len' (cb 21 O) O Tryz.underlying22) O<|?_
  by_cases h2:i<l.length
  .
   refine R.q (q.Ks O O) O<|R.nA O O O<|R.u 2 O<|?_
   obtain ⟨x1,hx1⟩:=gE l i
   refine R.q (q.idx (i:=i) (cb 21 O) O O H4 O hx1) O<|R.q (q.dj (ds:=CV x1) (cb 21 O) hx1 O uQ O) O<|R.s O (s.alloc Ny O O) fun b1=>?_
   refine R.s O (s.dE 0 _ O O O (fun _ _=>rfl) (.inl uQ) (fun w hw=>(aJ O (aJ O (aJ O (aJ O (aJ O (aJ O (aJ O (aJ O (aJ O (aJ O (aJ (Sl.one ((fun _=>Wd.Tj (l:=l) 20 O (List.mem_of_getElem? hx1)) w hw)) bq)))))))))))) O O O) fun _=>?_
   refine R.nr O<|R.q (q.jA O Ci O) O<|R.q (q.ld 0 O O dC O) O<|R.nr O<|?_
   by_cases h3:x1.Kind=⟨#[115,97,118,101]⟩
   .
    refine R.q (q.jG O O h3) O<|R.u 1 O<|R.nT O O ?_
    have k1:=hV.save ae hf;obtain ⟨k2,k3,k4⟩:=k1;have e1:decide (kc.R=m.R)=true:=decide_eq_true hm.symm
    refine R.reg O<|R.u 1 O<|R.s O (s.aT [7,8,3,4,5,6,9,0,1,2] da _ _ _ O O O YX O O (fun w own hw H=>LR bk RH RI RJ RL kc bs yi sc z1 vd AK ve em bl lg w own H af af ae af) O) ?_
    rintro ⟨z20,z21,z22,z23,z24,z25,z26,z27,z28⟩
    dsimp only
    refine R.q (q.qD O O Tryz.underlying38) O<|R.nB O O O<|R.u 1 O<|R.q (q.fD O) O<|R.q (q.jA O vT O) O<|R.q (q.ld 8 O O DF O) O<|R.q (q.fD O) O<|R.q (q.jA O kg O) O<|R.s O (s.st 9 _ O O O O (.inr ⟨bg,rfl⟩) O O O O) fun _=>?_
    refine R.nil ?_
    have h4:(decide (kc.R=m.R))=true:=by have Vl:(decide (kc.R=m.R))=true:=(by exact e1);simp only [Vl];done
    refine R.eA (fuel:=8) nU O O mixed O<|D.q (i:=0) O (aN nU EE O) O (q.mv O) O<|D.q (i:=2) O (aN nU EE O) O (q.mv O) O<|D.q (i:=3) O (aN nU EE O) O (q.fD O) O<|D.q (i:=4) O (aN nU EE O) O (q.jA O iQ O) O<|D.q (i:=5) O (aN nU EE O) O (q.Mc (ds:=[xF,CM,Bj,Bm,iV m.R.ag,iV m.R.ah]) 7 O O ak O) O<|D.one (i:=1) O<|Do.s (s.aT nD bm _ _ _ O O O J1 O O (fun w own hw H=>qh bk z20 z21 z22 z23 bs kc w own H af) O) (fun _=>(aN nU Md O)) O ?_
    rintro ⟨z45,z46,z47,z48,z49,z50,z51,z52⟩
    dsimp only
    refine D.one (i:=6) O<|Do.s (s.c (q.call NG O O (fun w hw=>(cv (congrArg Value.bool h4) (oG _ _ _ _ kc.R _ _ _ _ m.R w (hw.bz 4 O) (hw.bz 5 O) (hw.bz 6 O) (hw.bz 7 O) (hw.bz 18 O) (hw.bz 19 O) (hw.bz 20 O) (hw.bz 21 O) )))) O) (fun _=>(aN nU Md O)) O fun _=>?_
    refine D.q (i:=7) O (aN nU Md O) O (q.not O) O<|D.done<|R.mg O O<|R.reg O<|R.u 1 O<|R.q (q.aL (r:=((i+1:Nat):Int)) O O) O<|R.un 1 O<|R.back (i+1,0,(cX (mkS sc lg) em).2.1,z25,z26,z27,kc,z45,z46,z47,z48,bk,(cX (mkS sc lg) em).1.c,z24,bs,(cX (mkS sc lg) em).1.L,z28,m,xF,CM,Bj,Bm,(⟨ms.Rows,0,ms.Many⟩:j3),vf) O (by ((try dsimp only);exact ⟨ae,k4,k3,hS.up ae,hm,⟨hM.rows.trans (hV.rows.trans k4.rows.symm),rfl,hM.many⟩⟩)) aO (sF O) (aN [8,9,2,3,4,5,0,1,6] [0,1,2,3,12,18,19,20,21,22,23,24,25,26,27,28,29,30,31,32,33,34,35] O)
   refine R.q (q.jH O O h3) O<|R.u 1 O<|R.nB O O O<|?_
   by_cases h5:x1.Kind=⟨#[111,112,101,110]⟩
   .
    refine R.q (q.jG O O h5) O<|R.u 1 O<|R.nT O O ?_
    have k1:=hV.anew ae;obtain ⟨v5,v6,v7,v8,v9,v10,v11⟩:=k1;have e1:decide ((cr (bM em).c.Rows).1=aP m.R)=true:=decide_eq_true (by rw [v10,hm]);have sz:=Fo hS;have v12:Ok (cr (bM em).c.Rows).1:=(by rw [v10];exact sz.ok ae);have v13:Ok (aP m.R):=(by rw [hm];exact sz.ok ae)
    refine R.reg O<|R.u 1 O<|R.s O (s.aT [3,4,5,6,0,1,2,7,8,9] [22] _ _ _ O O O NF O O (fun w own hw H=>wI z1 vd AK ve em w own H af af af af af) O) ?_
    rintro ⟨z53,z54,z55,z56,z57,z58,z59,z60,z61,z62,z63⟩
    dsimp only
    refine R.ur 5 O O<|R.u 1 O<|R.q (q.Bw O O Tryz.underlying38) O<|R.u 2 O<|R.qg O (q.P3 O O Tryz.underlying26) O<|R.u 1 O<|R.nB O O O<|R.ur 2 O O<|R.u 1 O<|R.s O (s.aT [8,0,1,2,3,4,5,6,7,9,10,11,12] [10,11,12,13] _ _ _ O O O WM O O (fun w own hw H=>L9 o6 xF CM Bj Bm xk m w own H af af) O) ?_
    rintro ⟨z64,z65,z66,z67⟩
    dsimp only
    refine R.nil ?_
    have h6:(decide (((cr (bM em).c.Rows).1)=(aP m.R)))=true:=by have Vl:(decide (((cr (bM em).c.Rows).1)=(aP m.R)))=true:=(by exact e1);simp only [Vl];done
    refine R.eA (fuel:=8) Bp O O mixed O<|D.q (i:=0) O (aN Bp EF O) O (q.mv O) O<|D.q (i:=2) O (aN Bp EF O) O (q.mv O) O<|D.q (i:=3) O (aN Bp EF O) O (q.fD O) O<|D.q (i:=4) O (aN Bp EF O) O (q.jA O iQ O) O<|D.q (i:=5) O (aN Bp EF O) O (q.Mc (ds:=[z64,z65,z66,z67,iV (⟨aP m.R⟩:iI).R.ag,iV (⟨aP m.R⟩:iI).R.ah]) 0 O O ak O) O<|D.one (i:=1) O<|Do.s (s.aT [5,0,1,2,3,4,6,7,8,9,10,11,12] [4,5,6,7] _ _ _ O O O J1 O O (fun w own hw H=>qh z56 z57 z58 z59 z60 z61 (⟨(cr (bM em).c.Rows).1⟩:kN) w own H af) O) (fun _=>(aN [1,2,3,4,5,6,7,8,9,10,11,12] Me O)) O ?_
    rintro ⟨z84,z85,z86,z87,z88,z89,z90,z91⟩
    dsimp only
    refine D.one (i:=6) O<|Do.s (s.c (q.call NG O O (fun w hw=>(cv (congrArg Value.bool h6) (cv (show (.bool (decide (((cr (bM em).c.Rows).1)=(⟨aP m.R⟩:iI).R)):Value) = .bool (decide (((cr (bM em).c.Rows).1)=(aP m.R))) from O) (oG _ _ _ _ (cr (bM em).c.Rows).1 _ _ _ _ (⟨aP m.R⟩:iI).R w (hw.bz 4 O) (hw.bz 5 O) (hw.bz 6 O) (hw.bz 7 O) (hw.bz 8 O) (hw.bz 9 O) (hw.bz 10 O) (hw.bz 11 O) ))))) O) (fun _=>(aN [1,2,3,4,5,6,7,8,9,10,11,12] Me O)) O fun _=>?_
    refine D.q (i:=7) O (aN [1,2,3,4,5,6,7,8,9,10,11,12] Me O) O (q.not O) O<|D.done<|R.mg O O<|R.reg O<|R.u 1 O<|R.q (q.aL (r:=((i+1:Nat):Int)) O O) O<|R.un 1 O<|R.back (i+1,u,em,z53,z54,z55,(⟨(cr (bM em).c.Rows).1⟩:kN),z84,z85,z86,z87,z56,(bM em).c,z62,z61,(bM em).L,z63,(⟨aP m.R⟩:iI),z64,z65,z66,z67,ms,vf) O (by ((try dsimp only);exact ⟨ae,by rw [v10];exact v11.up ae,hf,by rw [v10];exact sz.up ae,by rw [v10,hm],⟨hM.rows.trans (hV.rows.trans ((zx hI).symm.trans v11.rows.symm)),hM.used,hM.many⟩⟩)) aO (sF O) (aN [1,9,2,3,4,5,0,6,7] [0,1,2,3,16,8,9,10,11,26,27,28,29,30,31,32,33,34,35,36,37,38,39] O)
   refine R.q (q.jH O O h5) O<|R.u 1 O<|R.nF O O ?_
   have zc0:=sq (r:=kc.R) x1;have zi:=xZ hI x1;have hzx:=SZ hS x1 ae;have k1:=LF (m:=m) hV ae hf hM hm hS x1;obtain ⟨k2,k3,k4,u2,k5,k6,k7⟩:=k1;have k8:Ok (fw kc sc em lg (cp kc.R x1)).1.R:=k7.ok ae;have zm:=sq (r:=m.R) x1;have k9:0<=(fw kc sc em lg (cp kc.R x1)).2.2.2.2:=(by rw [k2];exact I0);have hzm:(cp m.R x1).2=0->Ok (cp m.R x1).1/\Inv (cp m.R x1).1:=(by rw [hm];exact fun q=>⟨hzx q,(zi q).1⟩);have e1:decide ((fw kc sc em lg (cp kc.R x1)).1.R=(gW m ms ((cp m.R x1).1,(cp m.R x1).2)).1.R)=true:=decide_eq_true k3.symm;have e2:decide ((fw kc sc em lg (cp kc.R x1)).2.2.2.2=(gW m ms ((cp m.R x1).1,(cp m.R x1).2)).2.2)=true:=decide_eq_true k2
   refine R.cut 1 (fun g_:Value×Value×Value×Value×Nat=>[(0,bL),(4,.pointer (some ⟨z1,0,none⟩)),(5,.pointer (some ⟨bk,0,none⟩)),(6,.pointer (some ⟨o6,0,none⟩)),(7,iV (i:Int)),(8,.pointer (some ⟨b1,0,none⟩)),(11,.pointer (some ⟨g_.2.2.2.2,0,none⟩)),(12,iV (cp m.R x1).2)]) (fun g_:Value×Value×Value×Value×Nat=>[aj.box g_.2.2.2.2 [g_.1,g_.2.1,g_.2.2.1,g_.2.2.2.1,iV (cp m.R x1).1.ag,iV (cp m.R x1).1.ah] 48,aj.box b1 (CV x1) 36,aj.box o6 [.pointer (some ⟨xk,0,none⟩),xF,CM,Bj,Bm,iV m.R.ag,iV m.R.ah] 50,aj.box xk [vf,iV ms.Used,iV ms.Many] 41,aj.box z1 [vd,AK,ve,iV em.Fuse,.bool em.Down] 120,aj.row 9 vd em.Kept,aj.row 9 AK em.Now,aj.row 196 ve em.Wait,aj.box bk [.pointer (some ⟨bs,0,none⟩),RH,RI,RJ,RL,iV kc.R.ag,iV kc.R.ah] 78,aj.box bs [.pointer (some ⟨z1,0,none⟩),iV sc.Epoch,iV sc.Side,iV sc.Size,iV sc.First,.pointer (some ⟨bl,0,none⟩),yi] 132,aj.box bl [.pointer (some ⟨z1,0,none⟩),iV lg.From,iV lg.Many,iV lg.First,iV lg.Next] 193]) (fun g_:Value×Value×Value×Value×Nat=>[aj.ls g_.1 (cp m.R x1).1.ao,aj.ls g_.2.1 (cp m.R x1).1.Things,aj.ls g_.2.2.1 (cp m.R x1).1.Held,aj.ls g_.2.2.2.1 (cp m.R x1).1.Notes,aj.ls RH kc.R.ao,aj.ls RI kc.R.Things,aj.ls RJ kc.R.Held,aj.ls RL kc.R.Notes,aj.ls yi sc.Rows,aj.ls xF m.R.ao,aj.ls CM m.R.Things,aj.ls Bj m.R.Held,aj.ls Bm m.R.Notes,aj.ls vf ms.Rows,aj.ls xX ((⟨(⟨[],[],[],[],1,1⟩:av)⟩:iI).R.ao:List ap),aj.ls Hb ((⟨(⟨[],[],[],[],1,1⟩:av)⟩:iI).R.Things:List aA),aj.ls CG ((⟨(⟨[],[],[],[],1,1⟩:av)⟩:iI).R.Held:List Held),aj.ls z17 ((⟨(⟨[],[],[],[],1,1⟩:av)⟩:iI).R.Notes:List Note),aj.ls Bb ((lA (⟨[],0,68⟩:j3) (aY (⟨[],[],[],[],1,1⟩:av))).1.Rows:List Change),aj.ls z6 gv.R.ao,aj.ls z7 gv.R.Things,aj.ls z8 gv.R.Held,aj.ls z9 gv.R.Notes,aj.ls mh iq.Rows,aj.acts l,aj.ls bL l,e9]) (fun g_:Value×Value×Value×Value×Nat=>True) O O O ?_ ?_
   .
    refine R.eA (fuel:=12) nD O O mixed O<|D.q (i:=0) O (aN nD Bq O) O (q.mv O) O<|D.q (i:=1) O (aN nD Bq O) O (q.fD O) O<|D.q (i:=2) O (aN nD Bq O) O (q.jA O iQ O) O<|D.q (i:=3) O (aN nD Bq O) O (q.Mc (ds:=[xF,CM,Bj,Bm,iV m.R.ag,iV m.R.ah]) 1 O O ak O) O<|D.q (i:=4) O (aN nD Bq O) O (q.EJ 0 O O uQ) O<|D.two (i:=5) (j:=9) O O ?_ ?_
    .
     refine Do.s (s.aT nD [5,6,7,8] _ _ _ O O O Sk O O (fun w own hw H=>Km xF CM Bj Bm m.R x1 w own H af af) O) (fun _=>(aN nD oI O)) O ?_
     rintro ⟨ZA,z105,ZB,z107⟩
     dsimp only
     refine D.q (i:=6) O (aN nD oI O) O (q.mv O) O<|D.q (i:=7) O (aN nD oI O) O (q.ext O O) O<|D.q (i:=8) O (aN nD oI O) O (q.ext O O) O<|D.one (i:=9) O<|Do.s (s.alloc cw O O) (fun _=>(aN j5 oI O)) O fun b5=>?_
     refine D.one (i:=10) O<|Do.s (s.dE 0 _ O O O (fun _ _=>rfl) (.inl ak) (fun w hw=>(dx (hw.bz 0 O) (hw.bz 1 O) (hw.bz 2 O) (hw.bz 3 O) O O)) O O O) (fun _=>(aN j5 oI O)) O fun _=>?_
     exact D.q (i:=11) O (aN j5 oI O) O (q.as O) O<|D.done<|R.meet (ZA,z105,ZB,z107,b5) O Ja (sF O) (eI EC [0,1,2,3,4,5,6,7,8,9,10,11,12,13,14,15,16,17,18,19,20,21,22,23,24,25,26] O)
    refine Do.s (s.alloc cw O O) (fun _=>(aN j5 Bq O)) O fun b6=>?_
    refine D.one (i:=5) O<|Do.s (s.aT EC [5,6,7,8] _ _ _ O O O Sk O O (fun w own hw H=>Km xF CM Bj Bm m.R x1 w own H af af) O) (fun _=>(aN j5 oI O)) O ?_
    rintro ⟨ZC,z109,ZD,ZE⟩
    dsimp only
    refine D.q (i:=6) O (aN j5 oI O) O (q.mv O) O<|D.q (i:=7) O (aN j5 oI O) O (q.ext O O) O<|D.q (i:=8) O (aN j5 oI O) O (q.ext O O) O<|D.one (i:=10) O<|Do.s (s.dE 0 _ O O O (fun _ _=>rfl) (.inl ak) (fun w hw=>(dx (hw.bz 0 O) (hw.bz 1 O) (hw.bz 2 O) (hw.bz 3 O) O O)) O O O) (fun _=>(aN j5 oI O)) O fun _=>?_
    exact D.q (i:=11) O (aN j5 oI O) O (q.as O) O<|D.done<|R.meet (ZC,z109,ZD,ZE,b6) O Ja (sF O) (eI EC [0,1,2,3,4,5,6,7,8,9,10,11,12,13,14,15,16,17,18,19,20,21,22,23,24,25,26] O)
   rintro ⟨z96,z97,z98,z99,b3⟩ _
   dsimp only
   refine R.reg O<|R.u 1 O<|R.q (q.EJ 0 O O ak) O<|R.u 1 O<|R.s O (s.aT [2,3,0,1,4,5,6,7,8,9,10] [9,10,11,12,0,1,2,3,13] _ _ _ O O O WN O O (fun w own hw H=>RG o6 xF CM Bj Bm m z96 z97 z98 z99 (cp m.R x1).1 (cp m.R x1).2 xk vf ms w own H ae af af af af) O) ?_
   rintro ⟨Yd,Ye,Yf,Yg,z116⟩
   dsimp only
   refine R.ur 1 O O<|R.u 1 O<|R.q (q.EJ 3 O O uQ) O<|R.s O (s.aT [8,9,4,5,6,7,10,0,1,2,3] [9,10,11,12,13,31] _ _ _ O O O Sm O O (fun w own hw H=>Az bk RH RI RJ RL kc x1 bs yi sc z1 vd AK ve em bl lg w own H af af ae af af af af) O) ?_
   rintro ⟨z117,ZF,z119,ZG,ZH,ZI,ZJ,z124,ZK⟩
   dsimp only
   refine R.u 1 O<|?_
   have h7:(decide (((fw kc sc em lg (cp kc.R x1)).2.2.2.2)=(gW m ms (((cp m.R x1).1),(cp m.R x1).2)).2.2))=true:=by have Vl:(decide (((fw kc sc em lg (cp kc.R x1)).2.2.2.2)=(gW m ms (((cp m.R x1).1),(cp m.R x1).2)).2.2))=true:=(by exact e2);simp only [Vl];done
   refine R.c (q.call WO O O (fun w hw=>(cv (congrArg Value.bool h7) (O6 (fw kc sc em lg (cp kc.R x1)).2.2.2.2 (gW m ms (((cp m.R x1).1),(cp m.R x1).2)).2.2 w ae)))) O<|R.un 1 O ?_
   refine R.mg O O ?_
   have h8:(decide (((fw kc sc em lg (cp kc.R x1)).1.R)=(gW m ms (((cp m.R x1).1),(cp m.R x1).2)).1.R))=true:=by have Vl:(decide (((fw kc sc em lg (cp kc.R x1)).1.R)=(gW m ms (((cp m.R x1).1),(cp m.R x1).2)).1.R))=true:=(by exact e1);simp only [Vl];done
   refine R.eA (fuel:=8) j5 O O mixed O<|D.q (i:=0) O (aN j5 EG O) O (q.mv O) O<|D.q (i:=2) O (aN j5 EG O) O (q.mv O) O<|D.q (i:=3) O (aN j5 EG O) O (q.fD O) O<|D.q (i:=4) O (aN j5 EG O) O (q.jA O iQ O) O<|D.q (i:=5) O (aN j5 EG O) O (q.Mc (ds:=[Yd,Ye,Yf,Yg,iV (gW m ms (((cp m.R x1).1),(cp m.R x1).2)).1.R.ag,iV (gW m ms (((cp m.R x1).1),(cp m.R x1).2)).1.R.ah]) 6 O O ak O) O<|D.one (i:=1) O<|Do.s (s.aT EC bm _ _ _ O O O J1 O O (fun w own hw H=>qh bk z117 ZF z119 ZG bs (fw kc sc em lg (cp kc.R x1)).1 w own H af) O) (fun _=>(aN j5 Mf O)) O ?_
   rintro ⟨ZL,z143,ZM,z145,z146,aat,z148,aau⟩
   dsimp only
   refine D.one (i:=6) O<|Do.s (s.c (q.call NG O O (fun w hw=>(cv (congrArg Value.bool h8) (oG _ _ _ _ (fw kc sc em lg (cp kc.R x1)).1.R _ _ _ _ (gW m ms (((cp m.R x1).1),(cp m.R x1).2)).1.R w (hw.bz 4 O) (hw.bz 5 O) (hw.bz 6 O) (hw.bz 7 O) (hw.bz 13 O) (hw.bz 14 O) (hw.bz 15 O) (hw.bz 16 O) )))) O) (fun _=>(aN j5 Mf O)) O fun _=>?_
   refine D.q (i:=7) O (aN j5 Mf O) O (q.not O) O<|D.done<|R.mg O O<|R.reg O<|R.u 1 O<|R.q (q.aL (r:=((i+1:Nat):Int)) O O) O<|R.un 1 O<|R.back (i+1,u2,(fw kc sc em lg (cp kc.R x1)).2.2.1,ZI,ZJ,z124,(fw kc sc em lg (cp kc.R x1)).1,ZL,z143,ZM,z145,bk,(fw kc sc em lg (cp kc.R x1)).2.1,ZH,bs,(fw kc sc em lg (cp kc.R x1)).2.2.2.1,ZK,(gW m ms (((cp m.R x1).1),(cp m.R x1).2)).1,Yd,Ye,Yf,Yg,(gW m ms (((cp m.R x1).1),(cp m.R x1).2)).2.1,z116) O (by ((try dsimp only);exact ⟨ae,k5,k4,k7,k3,k6⟩)) aO (sF O) (aN [7,8,2,3,4,5,0,1,6] [0,1,2,3,12,13,14,15,16,17,32,33,34,35,36,37,38,39,40,41,42,43,44] O)
  exact R.q (q.Hg O O) O<|R.nB O O O<|R.un 1 O<|R.rv O Tryz.results3 O (rB ck)
 exact R.cg O (q.call WK O O (fun w hw=>(cv (congrArg Value.bool h1) (Av _ l 60 w (hw.bz 1 O) (hw.acts 0 O) )))) O<|R.u 2 O<|R.nA O O O<|R.un 2 O<|R.rv O Tryz.results3 O (rB ck)
end
section
open Go Go.RowKit
theorem Yh:(Tryz.prog.globals[1]?).map (·.type)=some 318:=ai
theorem Yi:(Tryz.prog.globals[2]?).map (·.type)=some 38:=ai
theorem RN:Tryz.prog.cellsOf 318=20:=ai
theorem Vm:∀t,Tryz.prog.underlying 318=some (.array 20 t)->Tryz.prog.cellsOf t=1:=fun t h=>by
 rw [Tryz.underlying318] at h;injection h with h;injection h with _ h;subst h;kernel_rfl
theorem Ta : "*" ++ "errors.errorString" = "*errors.errorString" :=aD
theorem Vn:∀u,Tryz.prog.typeName? 3 u=some "*errors.errorString" → u=340:=fun u h =>
 typeName_ptr_named (nm:= "errors.errorString") (by rw [Ta];kernel_rfl) ai aD u (by rw [Ta];exact h)
theorem RO {W:World}(h:laidMetH Tryz.prog [("math/bits.deBruijn32tab",Rows.laid_math_bits_deBruijn32tab),("math/bits.deBruijn64tab",Rows.laid_math_bits_deBruijn64tab),("internal/strconv.uint64pow10",Rows.laid_internal_strconv_uint64pow10),("strconv.ErrRange",Rows.laid_strconv_ErrRange),("strconv.ErrSyntax",Rows.laid_strconv_ErrSyntax)] W):GK W:=by
 rw [MakeChecks.laidMetH_plain _ _ _ ai] at h
 have h3:=h.tail.tail
 have h5:=h3.tail.tail
 refine ⟨Lib.tabIs_of_head U9 Yh Tryz.underlying318 Tryz.underlying33 (Vm _ Tryz.underlying318) RN (rest:=[("strconv.ErrRange",Rows.laid_strconv_ErrRange),("strconv.ErrSyntax",Rows.laid_strconv_ErrSyntax)]) h3,?_⟩
 obtain ⟨a,s,h6,_⟩:=laid_sentinel (text:=[105,110,118,97,108,105,100,32,115,121,110,116,97,120]) h5 Va Yi Tryz.underlying38 Vn Tryz.underlying340 Tryz.underlying342 rfl rfl Tryz.underlying9 ai ai
 exact ⟨_,_,h6⟩
end
end Go.Proofs.YtnmpibjlnninjaaGreatDoor
section
set_option maxRecDepth 100000
namespace Go.Proofs.YtnmpibjlnninjaaGreatDoor.KeepSays
open Go.ChangeShapes Go.WideShapes Go.ChangeAt Go.RowKit
set_option linter.unusedVariables false
set_option linter.unusedSimpArgs false
theorem own:ownKnob Tryz.prog.godebug=none:=ai
theorem laidOut:laidOutB Tryz.prog=true:=ai
theorem back:∀t∈Tryz.f3.params.toList,Tryz.prog.readableRec t=true/\t<Tryz.prog.types.size:=by
 rw [Tryz.params3];intro t ht;simp at ht
 (repeat' rcases ht with rfl|ht) <;> first|exact ⟨ai,of_decide_eq_true ai⟩ | (subst ht;exact ⟨ai,of_decide_eq_true ai⟩)
theorem PL (os:Os)(args:Array Value):laidMetH Tryz.prog Rows.keepSaysRow.laid ((World.doorLaid Tryz.prog 400 os).forCall (fun _ _=>0) ⟨#[],args,[]⟩).memory :=
 laidMetH_of_parts3 (fuel:=8) (laidMet_of_run' 8 ai ai) ai ai
set_option maxRecDepth 100000 in
theorem lifted (os:Os)(started:os.Started)(H:Type)(enc:TypeId×Value->H) :
 ReturnsInHanded {} Tryz.checked os 3 .any (fun w args=>(Rows.keepSaysSpec.pre enc Tryz.prog Tryz.f3 [] false w args/\laidMetH Tryz.prog Rows.keepSaysRow.laid w)/\sizedMet enc Tryz.prog Tryz.f3 (OpenSpec.ofChange Rows.keepSaysSpec) false w args)
  (Rows.keepSaysSpec.post enc Tryz.prog Tryz.f3 false true false false):=by
 refine returnsInHanded_of_change_and (C:=Tryz.checked) (X:=fun w _=>laidMetH Tryz.prog Rows.keepSaysRow.laid w) (fun _ _ _ hh h=>h.of_heap hh) own started ai Tryz.func3
  (ChangeSpec.witness_shaped (enc:=enc) (C:=Tryz.checked) (os:=os) (X:=fun w _=>laidMetH Tryz.prog Rows.keepSaysRow.laid w) false (World.doorLaid Tryz.prog 400 os) #[.slice none 0 0] 8 rfl (World.shaped_of_RefB ai ai) ai ai ai (PL os _)) ?_
 intro W base args ds gs before hval0 hW _ _ hL _
 have hval:∀ (j:Nat) t v,Tryz.f3.params[j]? = some t->args[j]? = some v->Value.okWide Tryz.prog W .any base t v:=hval0
 have hW':=hW
 obtain ⟨p,q,hA0,hV,rfl,hfz,hnd⟩:=hW
 have hA:DataW.TrodAll enc Tryz.prog W 0 (fun _=>true) true Tryz.f3.params.toList args.toList ds p:=hA0
 have hA2:=hA
 have hback:=back
 rw [Tryz.params3] at hA hval hA2 hback
 obtain ⟨v0,vs0,d0,ds0,p0,q0,hargs,rfl,rfl,h0,r0⟩:=trodAll_cons hA
 obtain ⟨rfl,rfl,rfl⟩:=trodAll_nil r0
 obtain rfl:args = #[v0]:=by cases args;simp_all
 obtain ⟨rfl,rfl⟩:=trodVars_none hV
 obtain ⟨x0,s0,c0,f0⟩:=Mv (hval 0 _ v0 rfl rfl) h0
 clear hA0 hval0
 refine (Ew _ x0 W s0 c0 (RO hL)).mono fun e W' ⟨he,bel⟩=>?_
 subst he
 exact ⟨_,rfl,_,_,_,[],_,[],hW',trodAll_mk1 (shut_bool Tryz.underlying4 _),trodAll_back laidOut bel.below hback hA2,rfl,bel.below.frame _,fun h=>by cases h⟩
set_option maxHeartbeats 90000000 in
theorem joined:joinedFacts Tryz.pinned.checked.prog 3 Tryz.f3 Rows.keepSaysSpec Rows.keepSaysRow=true:=by
 unfold joinedFacts
 simp only [Bool.and_eq_true]
 (repeat' apply And.intro) <;> as_aux_lemma=>kernel_rfl
theorem over:Rows.keepSaysRow.holds Tryz.pinned (OpenSpec.ofChange Rows.keepSaysSpec) :=
 OpenClaim.holds_of_wide 3 Tryz.f3 rfl rfl rfl rfl rfl rfl rfl ⟨rfl,rfl,rfl,rfl,rfl⟩ rfl rfl rfl rfl rfl ai Tryz.func3 joined
  (of_decide_eq_true ai) (by unfold Func.isWrapper;first|(rw [if_pos (by decide +kernel)];kernel_rfl)|(rw [if_neg (by decide +kernel)];exact ⟨rfl,rfl⟩))
  (fun os started H enc _=>lifted os started H enc)
theorem proved:Rows.KeepSaysCardSaid :=
 Claim7.holds_tied_plain_at .later [] [.data,.data,.data,.sentinel,.sentinel] true (true,"0abf51cd82b994ebf7dfc29905f3cbf2d90b26bbf0734ee3003ab30bb1956c04") true
  over (fun _ h=>by cases h) ai (fun _ h=>by cases h) keepSays_row_tie rfl ⟨rfl,rfl⟩ ai rfl
  (fun f fn hf hfn=>by
   obtain rfl:f=3:=Option.some.inj ((show Tryz.prog.funcNamed "writkeep/writkeeplaw.KeepSays" = some 3 by kernel_rfl).symm.trans hf) |>.symm
   obtain rfl:fn=Tryz.f3:=(Option.some.inj (Tryz.func3.symm.trans hfn)).symm
   exact ⟨ai,fun j t ht=>by
    have hall:(Tryz.f3.params.toList.all fun u => !Tryz.prog.wantsStandIn u)=true:=ai
    have hm:t∈Tryz.f3.params.toList:=by simpa using Array.mem_of_getElem? ht
    have hq:=List.all_eq_true.1 hall t hm
    exact (show Tryz.prog.wantsStandIn t=false by simpa using hq)⟩)
  ai
end Go.Proofs.YtnmpibjlnninjaaGreatDoor.KeepSays
end
