import Derived.Test.YtnmpibjlnninjaaGreatDoorCT24
import Derived.Shelf.Strconv.Lower
import Derived.Shelf.Strconv.ParseUint10
import Derived.Shelf.Strconv.ParseUint10Empty
import Derived.Shelf.Strconv.ParseUint10Any
import Derived.Shelf.Strconv.ParseInt10
import Derived.Shelf.Strconv.AtoiLong
import Derived.Shelf.Strconv.AtoiInnerAll
import Derived.Shelf.Strconv.RangeError
import Derived.Shelf.Strconv.ToErrorRange
import Derived.Shelf.Strconv.AtoiAll
import Derived.Shelf.Strconv.ErrVarAll
import Derived.Shelf.Strings.Split
import Derived.Lib.SplitLaws
import Derived.Lib.AtoiTie
import Derived.Shelf.Strings.SplitCore
namespace Go.Proofs.YtnmpibjlnninjaaGreatDoor
set_option linter.unusedVariables false
set_option linter.unusedSimpArgs false
set_option maxRecDepth 100000
set_option maxHeartbeats 90000000
section
open Go Go.RowKit
attribute [local irreducible] Run Rg Rq Qt Qa Stp Dg Do Dm bQ
theorem BJ (aX aR aS aT:Value)(r:aB)(w:World)(own:List Nat)(H:HN w own [] [ag.ls aX r.aj,ag.ls aR r.Things,ag.ls aS r.Held,ag.ls aT r.Notes])(hk:Ok r)(hI:Inv r):RS Tryz.prog 32 #[.agg #[aX,aR,aS,aT,iV r.ah,iV r.ai]] H (aN r) (fun s (z:Value×Value×Value×Value) => .agg #[z.1,z.2.1,z.2.2.1,z.2.2.2,iV s.ah,iV s.ai]) (fun _ _=>[]) (fun s z=>[ag.ls z.1 s.aj,ag.ls z.2.1 s.Things,ag.ls z.2.2.1 s.Held,ag.ls z.2.2.2 s.Notes]):=by
 have bT:=H.aL 0 rfl
 have bH:=H.aL 1 rfl
 have cr:=H.aL 2 rfl
 have bU:=H.aL 3 rfl
 have bw:=hk.wl;have bt:=hk.tl;have bh:=hk.hl;have bn:=hk.nl;have yl:=hk.w0;have ym:=hk.w1;have yn:=hk.t0;have yo:=hk.t1
 refine R.eN H ?_
 refine R.nb fun b1=>?_
 refine R.nb fun b2=>?_
 refine R.loop (fun g_:Nat×Value×(List ak)=>[(1,pV b1),(2,pV b2),(3,iV (g_.1:Int))]) (fun g_=>[ag.box b2 vg 48,ag.box b1 [g_.2.1,aR,aS,aT,iV r.ah,iV r.ai] 48,ag.held w own]) (fun g_=>[ag.ls g_.2.1 g_.2.2,ag.ls aX r.aj,ag.ls aR r.Things,ag.ls aS r.Held,ag.ls aT r.Notes]) (fun g_=>g_.1<=r.Notes.length/\g_.2.2=gO (r.Notes.take g_.1) r.aj) (fun g_=>r.Notes.length-g_.1) (0,aX,r.aj) O (by exact ⟨ae,rfl⟩) (sF O) (dX [0,1,2] [0,0,1,2,3] O) ?_
 rintro ⟨j,vw,ws⟩ ⟨hj1,HW⟩
 dsimp only at *
 have hws:ws.length<=2000:=by rw [HW];exact Nat.le_trans (uF _ _) hk.wl
 have hwt:cJ ws:=by rw [HW];exact si _ _ hI.tree
 refine U ?_
 refine C (j<r.Notes.length) ?_ ?_ <;> intro h1
 .
  obtain ⟨x1,hx1⟩:=gE r.Notes j
  refine U ?_
  refine C (0<x1.ak) ?_ ?_ <;> intro h2
  .
   refine R.cO (fuel:=11) [0,2] O O mixed O<|D.l [0,2,4] [0,2] bV O<|U ?_
   refine D.two (i:=1) (j:=3) O O ?_ ?_
   .
    refine Do.k [0,2] bV (q.ld 1 O O iE O) ?_
    refine D.k 3 O [0,2] bV (q.ld 1 O O dP O) ?_
    refine D.l [5,6,7] [0,2] bV O<|U ?_
    refine D.p 8 O [1,3] bV (s.nM KO O O (fun w hw=>nj _ ws x1.ak w (hw.cy 0 O) ae af) O) fun v1=>?_
    refine D.l [9] [1,3] bV O<|U ?_
    refine D.p 10 O [1,3] bV (s.lq 2 _ O O O (fun w hw=>Sl.cL (hw.row 0 O)) (.inr ⟨iE,rfl⟩) (fun w hw=>bD (Sl.one (hw.row 0 O)) cd) O O O) fun _=>?_
    refine D.done<|U ?_
    refine R.mp (fun _ hw=>hw.aO 0 _ O O)<|R.back (j+1,v1,(without ws x1.ak)) O (by exact ⟨ae,by rw [oc hx1,if_pos ae,HW]⟩) aJ (sF O) (cw [0,1,2] [0,2,3,4,5] O)
   refine Do.k [0,2] bV (q.ld 1 O O dP O) ?_
   refine D.l [5,6,7] [0,2] bV O<|U ?_
   refine D.k 1 O [0,2] bV (q.ld 1 O O iE O) ?_
   refine D.p 8 O [1,3] bV (s.nM KO O O (fun w hw=>nj _ ws x1.ak w (hw.cy 0 O) ae af) O) fun v2=>?_
   refine D.l [9] [1,3] bV O<|U ?_
   refine D.p 10 O [1,3] bV (s.lq 2 _ O O O (fun w hw=>Sl.cL (hw.row 0 O)) (.inr ⟨iE,rfl⟩) (fun w hw=>bD (Sl.one (hw.row 0 O)) cd) O O O) fun _=>?_
   refine D.done<|U ?_
   refine R.mp (fun _ hw=>hw.aO 0 _ O O)<|R.back (j+1,v2,(without ws x1.ak)) O (by exact ⟨ae,by rw [oc hx1,if_pos ae,HW]⟩) aJ (sF O) (cw [0,1,2] [0,2,3,4,5] O)
  refine R.back (j+1,vw,ws) O (by exact ⟨ae,by rw [oc hx1,if_neg ae,HW]⟩) aJ (sF O) (cw [0,1,2] bV O)
 have hwq:ws=gO r.Notes r.aj:=by rw [HW,List.take_of_length_le ae]
 have hok:Ok (⟨ws,r.Things,r.Held,[],r.ah,r.ai⟩:aB):=⟨hws,hk.tl,hk.hl,Nat.zero_le _,by rw [hwq];exact wV _ _ hk.ri,hk.w0,hk.w1,hk.t0,hk.t1⟩
 have hqp:Pre (⟨ws,r.Things,r.Held,[],r.ah,r.ai⟩:aB):=by rw [hwq];exact hI.CV
 refine U ?_
 refine R.s O (s.pre (fun _ hw=>hw.Iy (α:=Note)) (s.aH [0,1,2] [1,3,4,0] _ _ _ O O O OP O O (fun w own hw H=>uV vw aR aS nS (⟨ws,r.Things,r.Held,[],r.ah,r.ai⟩:aB) w own H af af) O)) ?_
 rintro ⟨z1,z2,z3,z4⟩
 dsimp only
 refine U ?_
 have hz:aN r=(ez (⟨ws,r.Things,r.Held,[],r.ah,r.ai⟩:aB)):=by (unfold aN;rw [hwq])
 rw [hz]
 exact R.x1 (z1,z2,z3,z4) [2] [0,1,2,3]
end
section
open Go Go.RowKit
attribute [local irreducible] Run Rg Rq Qt Qa Stp Dg Do Dm bQ
theorem BK {n:Int}(h:0<=n):Lib.itoa n=Lib.decDigits n.toNat:=vO h
theorem UI {n:Int}{k:Nat}(h:n=(k:Int)):u8 (48+n)=d8 k:=by
 unfold u8 d8;rw [h,show ((48:Int)+(k:Int)).toNat=48+k by omega]
theorem Qj {n:Int}(h0:0<=n)(h:n<10):(⟨[u8 (48+n)].toArray⟩:ByteArray)=bS n:=by
 unfold bS;rw [BK h0,LP ae,UI (k:=n.toNat) ae]
theorem xA {n:Int}(h:10<=n):bS (n / 10)++(⟨[u8 (48+n % 10)].toArray⟩:ByteArray)=bS n:=by
 refine fY ?_
 rw [ByteArray.data_append,Array.toList_append]
 show Lib.itoa (n / 10)++[u8 (48+n % 10)]=Lib.itoa n
 rw [BK ae,BK ae,LO n.toNat,if_neg ae,UI (k:=n.toNat % 10) ae,show (n / 10).toNat=n.toNat / 10 by omega]
theorem y7 {n:Int}(h:0<=n/\n<=9223372036854775807):(bS n).size<=21:=dH ae
theorem Qk (j:Nat)(s:ByteArray):(⟨#[48]⟩:ByteArray)++((⟨(Lib.repeatL [48] j).toArray⟩:ByteArray)++s)=(⟨(Lib.repeatL [48] (j+1)).toArray⟩:ByteArray)++s:=by
 refine fY ?_
 simp [ByteArray.data_append,Lib.repeatL]
theorem Ql (s:ByteArray):s=(⟨(Lib.repeatL [48] 0).toArray⟩:ByteArray)++s:=by
 refine fY ?_
 simp [ByteArray.data_append,Lib.repeatL]
theorem MQ {n:Int}{s:ByteArray}{j:Nat}(hs:s=(⟨(Lib.repeatL [48] j).toArray⟩:ByteArray)++bS n)(hz:s.size=j+(bS n).size)(hj:j=0∨s.size<=4)(h:¬ s.size<4):bF n=s:=by
 unfold bF;rw [show 4-(bS n).size=j by omega];exact hs.symm
theorem Qm (n:Int)(w:World)(hn:0<=n/\n<=9223372036854775807)(ih:∀ (m:Int) (w:World),0<=m/\m<n->Calls Tryz.prog 55 #[iV m] w fun e w'=>e = .returned (.string (bS m))/\Ext w w'):Calls Tryz.prog 55 #[iV n] w fun e w'=>e = .returned (.string (bS n))/\Ext w w':=by
 refine R.eV ?_
 refine C (n<10) ?_ ?_ <;> intro h1
 .
  refine R.q (q.ny (r:=(48+n)) O (by rw [Tryz.underlying3];rfl) Tryz.underlying5 (rU ae)) O<|R.s O (s.bs (l:=([u8 (48+n)]:List UInt8)) aP eD O O O O O (cp (fM ae) fF) O) fun b1=>?_
  refine R.q (q.kA (cI 0 O) O aP Tryz.underlying5 Tryz.underlying9) O<|U ?_
  refine R.rt ?_
  (exact Qj ae ae)
 refine R.cO (fuel:=11) [] O O mixed O<|D.l [0,1,3,4,5,6] [] [] O<|U ?_
 refine Dm.yy O O (q.quo (r:=n / 10) O O ae (uu ae)) O<|U ?_
 refine Dm.yy O O (q.rem (r:=n % 10) O O ae (tM ae)) O<|U ?_
 refine Dm.yy O O (q.ny (r:=(48+(n % 10))) O (by rw [Tryz.underlying3];rfl) Tryz.underlying5 (rU ae)) O<|U ?_
 refine D.two (i:=2) (j:=7) O O ?_ ?_
 .
  refine Do.p [] [] (s.c (q.call om O O (fun w hw=>ih (n / 10) w ae)) O) fun _=>?_
  refine D.p 7 O [] [] (s.bs (l:=([u8 (48+(n % 10))]:List UInt8)) aP eD O O O O O (cp (fM ae) fF) O) fun b2=>?_
  refine D.k 8 O [] [] (q.kA (cI 0 O) O aP Tryz.underlying5 Tryz.underlying9) ?_
  refine D.l [9,10] [] [] O<|Dm.yy O O (q.cat O O (by have:=y7 (n:=n / 10) ae;(simp only [ByteArray.size_append,bg,List.length_cons,List.length_nil];omega))) O<|U ?_
  refine D.done<|R.rt ?_
  (exact xA ae)
 refine Do.p [] [] (s.bs (l:=([u8 (48+(n % 10))]:List UInt8)) aP eD O O O O O (cp (fM ae) fF) O) fun b3=>?_
 refine D.two (i:=2) (j:=8) O O ?_ ?_
 .
  refine Do.p [] [] (s.c (q.call om O O (fun w hw=>ih (n / 10) w ae)) O) fun _=>?_
  refine D.k 8 O [] [] (q.kA (cI 0 O) O aP Tryz.underlying5 Tryz.underlying9) ?_
  refine D.l [9,10] [] [] O<|Dm.yy O O (q.cat O O (by have:=y7 (n:=n / 10) ae;(simp only [ByteArray.size_append,bg,List.length_cons,List.length_nil];omega))) O<|U ?_
  refine D.done<|R.rt ?_
  (exact xA ae)
 refine Do.k [] [] (q.kA (cI 0 O) O aP Tryz.underlying5 Tryz.underlying9) ?_
 refine D.p 2 O [] [] (s.c (q.call om O O (fun w hw=>ih (n / 10) w ae)) O) fun _=>?_
 refine D.l [9,10] [] [] O<|Dm.yy O O (q.cat O O (by have:=y7 (n:=n / 10) ae;(simp only [ByteArray.size_append,bg,List.length_cons,List.length_nil];omega))) O<|U ?_
 refine D.done<|R.rt ?_
 (exact xA ae)
theorem K2:∀ (k:Nat) (n:Int) (w:World),0<=n/\n<=9223372036854775807/\n.toNat<k->Calls Tryz.prog 55 #[.int .i64 n] w fun e w'=>e = .returned (.string (bS n))/\Ext w w'
 | 0,n,w,h=>absurd h.2.2 (Nat.not_lt_zero _)
 | k+1,n,w,h=>Qm n w ⟨h.1,h.2.1⟩ fun m w2 hm=>K2 k m w2 ⟨hm.1,ae,ae⟩
theorem wB (n:Int)(w:World)(hn:0<=n/\n<=9223372036854775807):Calls Tryz.prog 55 #[.int .i64 n] w fun e w'=>e = .returned (.string (bS n))/\Ext w w':=K2 _ n w ⟨hn.1,hn.2,Nat.lt_succ_self _⟩
theorem jx (n:Int)(w:World)(hn:0<=n/\n<=9223372036854775807):Calls Tryz.prog 67 #[iV n] w fun e w'=>e = .returned (.string (bF n))/\Ext w w':=by
 have il:=y7 hn
 refine R.eV ?_
 refine R.kc O O (fun w hw=>wB n w ae)<|U ?_
 refine R.loop (fun g_:Nat×ByteArray=>[(3,.string g_.2)]) (fun g_=>[]) (fun g_=>[]) (fun g_=>g_.2=(⟨(Lib.repeatL [48] g_.1).toArray⟩:ByteArray)++bS n/\g_.2.size=g_.1+(bS n).size/\(g_.1=0∨g_.2.size<=4)) (fun g_=>4-g_.1) (0,(bS n)) O (by dsimp only;exact ⟨Ql _,ae,.inl O⟩) (sF O) (dX [] [] O) ?_
 rintro ⟨j,s1⟩ ⟨hs,hz,hj⟩
 dsimp only at *
 refine U ?_
 refine C (s1.size<4) ?_ ?_ <;> intro h1
 .
  refine R.q (q.cat O O (by simp only [ByteArray.size_append,bg,List.length_cons,List.length_nil];omega)) O<|U ?_
  refine R.back (j+1,((⟨#[48]⟩:ByteArray)++s1)) O (by (try dsimp only);exact ⟨by rw [hs];exact Qk j _,by simp only [ByteArray.size_append,bg,List.length_cons,List.length_nil];omega,.inr (by simp only [ByteArray.size_append,bg,List.length_cons,List.length_nil];omega)⟩) aJ (sF O) (dX [] [] O)
 refine R.rt ?_
 (exact (MQ hs hz hj ae).symm)
theorem xB (aX aR aS aT:Value)(r:aB)(w:World)(own:List Nat)(H:HN w own [] [ag.ls aX r.aj,ag.ls aR r.Things,ag.ls aS r.Held,ag.ls aT r.Notes])(hk:Ok r)(hI:Inv r):RC Tryz.prog 27 #[.agg #[aX,aR,aS,aT,iV r.ah,iV r.ai]] H (fun z:Value=>z) (fun z=>[ag.row 115 z (aY r)]) (fun _=>[]):=by
 have bT:=H.aL 0 rfl
 have bH:=H.aL 1 rfl
 have cr:=H.aL 2 rfl
 have bU:=H.aL 3 rfl
 have bw:=hk.wl;have bt:=hk.tl;have bh:=hk.hl;have bn:=hk.nl;have yl:=hk.w0;have ym:=hk.w1;have yn:=hk.t0;have yo:=hk.t1
 have hq:=(iL hI).1.qis
 have hn:=hq.n;have pO:=hq.i.pO;have rK:=hq.i.rK;have qw:=hq.i.qw;have qx:=hq.i.qx;have hl0:=sh hq.i;have tl0:=hq.i.jG;have wl0:=(iL hI).2.2.2.1
 refine R.eN H ?_
 refine R.nb fun b1=>?_
 refine R.s O (s.aH [0,1] bm _ _ _ O O O T9 O O (fun w own hw H=>BJ aX aR aS aT r w own H af af) O) ?_
 rintro ⟨z1,z2,z3,z4⟩
 dsimp only
 refine U ?_
 refine R.row0 (α:=Change) 115<|R.loop (fun g_:Nat×Value×(List Change)=>[(1,pV b1),(3,g_.2.1),(4,iV (g_.1:Int))]) (fun g_=>[ag.row 115 g_.2.1 g_.2.2,ag.box b1 [z1,z2,z3,z4,iV (aN r).ah,iV (aN r).ai] 48,ag.held w own]) (fun g_=>[ag.ls z1 (aN r).aj,ag.ls z2 (aN r).Things,ag.ls z3 (aN r).Held,ag.ls z4 (aN r).Notes,ag.ls aX r.aj,ag.ls aR r.Things,ag.ls aS r.Held,ag.ls aT r.Notes]) (fun g_=>g_.1<=(aN r).Held.length/\g_.2.2=((aN r).Held.take g_.1).map hrow) (fun g_=>(aN r).Held.length-g_.1) (0,nS,[]) O (by exact ⟨ae,rfl⟩) (sF O) (dX [0,1,2] a8 O) ?_
 rintro ⟨k,u,l⟩ ⟨hk_,HL⟩
 dsimp only at *
 have ll:l.length<=24:=by rw [HL,List.length_map,List.length_take];omega
 refine U ?_
 refine C (k<(aN r).Held.length) ?_ ?_ <;> intro h1
 .
  obtain ⟨x1,hx1⟩:=gE (aN r).Held k
  have Sk:=hq.h _ (List.mem_of_getElem? hx1);have gx1:=bP (hq.i.Kt (List.mem_of_getElem? hx1)).1
  refine U ?_
  refine R.nb fun b2=>?_
  refine R.cO (fuel:=18) [0,2,3] O O mixed O<|D.l [0,1,2,3,6,7,8,11,12] [0,2,3] a8 O<|U ?_
  refine D.p 4 O [0,2,3] a8 (s.c (q.call om O O (fun w hw=>wB x1.Place.aD w ae)) O) fun _=>?_
  refine D.l [5] [0,2,3] a8 O<|Dm.yy O O (q.cat O O (by simp only [ByteArray.size_append,bg,List.length_cons,List.length_nil];omega)) O<|U ?_
  refine D.p 9 O [0,2,3] a8 (s.c (q.call om O O (fun w hw=>wB x1.Place.Slot w ae)) O) fun _=>?_
  refine D.l [10] [0,2,3] a8 O<|Dm.yy O O (q.cat O O (by simp only [ByteArray.size_append,bg,List.length_cons,List.length_nil];omega)) O<|U ?_
  refine D.p 13 O [0,2,3] a8 (s.c (q.call ud O O (fun w hw=>jx x1.ak w ae)) O) fun _=>?_
  refine D.l [14] [0,2,3] a8 O<|U ?_
  refine D.p 15 O [1,3,4] a8 (s.bs (l:=([(⟨(⟨#[104]⟩++bS x1.Place.aD)++bS x1.Place.Slot,bF x1.ak,false⟩:Change)]:List Change)) cD ct O O O O O O O) fun b3=>?_
  refine D.p 16 O [1,3,4] a8 (s.app 2 _ O O O (cI 0 O) ky aG aG (fun _=>rfl) O) fun v1=>?_
  refine D.l [17] [1,3,4] a8 O<|U ?_
  refine D.done<|U ?_
  refine R.back (k+1,v1,(l++([(⟨(⟨#[104]⟩++bS x1.Place.aD)++bS x1.Place.Slot,bF x1.ak,false⟩:Change)]))) O (by exact ⟨ae,by rw [mO hrow hx1,<- HL];rfl⟩) aJ (sF O) (cw [2,3,4] a8 O)
 refine R.loop (fun g_:Nat×Value×(List Change)=>[(1,pV b1),(3,g_.2.1),(6,iV (g_.1:Int))]) (fun g_=>[ag.row 115 g_.2.1 g_.2.2,ag.box b1 [z1,z2,z3,z4,iV (aN r).ah,iV (aN r).ai] 48,ag.held w own]) (fun g_=>[ag.ls z1 (aN r).aj,ag.ls z2 (aN r).Things,ag.ls z3 (aN r).Held,ag.ls z4 (aN r).Notes,ag.ls aX r.aj,ag.ls aR r.Things,ag.ls aS r.Held,ag.ls aT r.Notes]) (fun g_=>g_.1<=(aN r).Things.length/\g_.2.2=(aN r).Held.map hrow++((aN r).Things.take g_.1).map lY) (fun g_=>(aN r).Things.length-g_.1) (0,u,l) O (by exact ⟨ae,by rw [HL,p7 _ ae];exact (List.append_nil _).symm⟩) (sF O) (dX [0,1,2] a8 O) ?_
 rintro ⟨j,u2,l2⟩ ⟨hj,HL2⟩
 dsimp only at *
 have ll2:l2.length<=34:=by rw [HL2,List.length_append,List.length_map,List.length_map,List.length_take];omega
 refine U ?_
 refine C (j<(aN r).Things.length) ?_ ?_ <;> intro h2
 .
  obtain ⟨x2,hx2⟩:=gE (aN r).Things j
  have fx2:=hq.t _ (List.mem_of_getElem? hx2)
  refine U ?_
  refine R.nb fun b4=>?_
  refine R.cO (fuel:=15) [0,2,3] O O mixed O<|D.l [0,1,2,5,6,8,9] [0,2,3] a8 O<|U ?_
  refine D.p 3 O [0,2,3] a8 (s.c (q.call ud O O (fun w hw=>jx x2.ID w ae)) O) fun _=>?_
  refine D.l [4] [0,2,3] a8 O<|Dm.yy O O (q.cat O O (by simp only [ByteArray.size_append,bg,List.length_cons,List.length_nil];omega)) O<|U ?_
  refine D.p 7 O [0,2,3] a8 (s.c (q.call ud O O (fun w hw=>jx x2.Kind w ae)) O) fun _=>?_
  refine D.l [10,11] [0,2,3] a8 O<|Dm.yy O O (q.cat O O ae) O<|U ?_
  refine D.p 12 O [1,3,4] a8 (s.bs (l:=([(⟨⟨#[116]⟩++bF x2.ID,bF x2.Kind++x2.Data,false⟩:Change)]:List Change)) cD ct O O O O O O O) fun b5=>?_
  refine D.p 13 O [1,3,4] a8 (s.app 2 _ O O O (cI 0 O) ky aG aG (fun _=>rfl) O) fun v2=>?_
  refine D.l [14] [1,3,4] a8 O<|U ?_
  refine D.done<|U ?_
  refine R.back (j+1,v2,(l2++([(⟨⟨#[116]⟩++bF x2.ID,bF x2.Kind++x2.Data,false⟩:Change)]))) O (by exact ⟨ae,by rw [mO lY hx2,<- List.append_assoc,<- HL2];rfl⟩) aJ (sF O) (cw [2,3,4] a8 O)
 refine R.loop (fun g_:Nat×Value×(List Change)=>[(1,pV b1),(3,g_.2.1),(8,iV (g_.1:Int))]) (fun g_=>[ag.row 115 g_.2.1 g_.2.2,ag.box b1 [z1,z2,z3,z4,iV (aN r).ah,iV (aN r).ai] 48,ag.held w own]) (fun g_=>[ag.ls z1 (aN r).aj,ag.ls z2 (aN r).Things,ag.ls z3 (aN r).Held,ag.ls z4 (aN r).Notes,ag.ls aX r.aj,ag.ls aR r.Things,ag.ls aS r.Held,ag.ls aT r.Notes]) (fun g_=>g_.1<=(aN r).aj.length/\g_.2.2=(aN r).Held.map hrow++(aN r).Things.map lY++((aN r).aj.take g_.1).map oJ) (fun g_=>(aN r).aj.length-g_.1) (0,u2,l2) O (by exact ⟨ae,by rw [HL2,p7 _ ae];exact (List.append_nil _).symm⟩) (sF O) (dX [0,1,2] a8 O) ?_
 rintro ⟨i,u3,l3⟩ ⟨hi,WZ⟩
 dsimp only at *
 have ll3:l3.length<=58:=by rw [WZ,List.length_append,List.length_append,List.length_map,List.length_map,List.length_map,List.length_take];omega
 refine U ?_
 refine C (i<(aN r).aj.length) ?_ ?_ <;> intro h3
 .
  obtain ⟨x3,hx3⟩:=gE (aN r).aj i
  have fx3:=hq.w _ (List.mem_of_getElem? hx3)
  refine U ?_
  refine R.nb fun b6=>?_
  refine R.cO (fuel:=24) [0,2,3] O O mixed O<|D.l [0,1,2,5,6,8,9,12,13,16,17] [0,2,3] a8 O<|U ?_
  refine D.p 3 O [0,2,3] a8 (s.c (q.call ud O O (fun w hw=>jx x3.ID w ae)) O) fun _=>?_
  refine D.l [4] [0,2,3] a8 O<|Dm.yy O O (q.cat O O (by simp only [ByteArray.size_append,bg,List.length_cons,List.length_nil];omega)) O<|U ?_
  refine D.p 7 O [0,2,3] a8 (s.c (q.call ud O O (fun w hw=>jx x3.aA w ae)) O) fun _=>?_
  refine D.p 10 O [0,2,3] a8 (s.c (q.call ud O O (fun w hw=>jx x3.Rights w ae)) O) fun _=>?_
  refine D.l [11] [0,2,3] a8 O<|Dm.yy O O (q.cat O O ae) O<|U ?_
  refine D.p 14 O [0,2,3] a8 (s.c (q.call ud O O (fun w hw=>jx x3.aM w ae)) O) fun _=>?_
  refine D.l [15] [0,2,3] a8 O<|Dm.yy O O (q.cat O O (by simp only [ByteArray.size_append,bg,List.length_cons,List.length_nil];omega)) O<|U ?_
  refine D.p 18 O [0,2,3] a8 (s.c (q.call ud O O (fun w hw=>jx x3.From w ae)) O) fun _=>?_
  refine D.l [19,20] [0,2,3] a8 O<|Dm.yy O O (q.cat O O (by simp only [ByteArray.size_append,bg,List.length_cons,List.length_nil];omega)) O<|U ?_
  refine D.p 21 O [1,3,4] a8 (s.bs (l:=([(⟨⟨#[119]⟩++bF x3.ID,((bF x3.aA++bF x3.Rights)++bF x3.aM)++bF x3.From,false⟩:Change)]:List Change)) cD ct O O O O O O O) fun b7=>?_
  refine D.p 22 O [1,3,4] a8 (s.app 2 _ O O O (cI 0 O) ky aG aG (fun _=>rfl) O) fun v3=>?_
  refine D.l [23] [1,3,4] a8 O<|U ?_
  refine D.done<|U ?_
  refine R.back (i+1,v3,(l3++([(⟨⟨#[119]⟩++bF x3.ID,((bF x3.aA++bF x3.Rights)++bF x3.aM)++bF x3.From,false⟩:Change)]))) O (by exact ⟨ae,by rw [mO oJ hx3,<- List.append_assoc,<- WZ];rfl⟩) aJ (sF O) (cw [2,3,4] a8 O)
 refine R.cO (fuel:=12) [1,2] O O mixed O<|D.l [0,1,2,4,5] [1,2] a8 O<|U ?_
 refine D.p 3 O [1,2] a8 (s.c (q.call ud O O (fun w hw=>jx (aN r).ah w ae)) O) fun _=>?_
 refine D.p 6 O [1,2] a8 (s.c (q.call ud O O (fun w hw=>jx (aN r).ai w ae)) O) fun _=>?_
 refine D.l [7,8] [1,2] a8 O<|Dm.yy O O (q.cat O O ae) O<|U ?_
 refine D.p 9 O [2,3] a8 (s.bs (l:=([(⟨⟨#[120]⟩,bF (aN r).ah++bF (aN r).ai,false⟩:Change)]:List Change)) cD ct O O O O O O O) fun b8=>?_
 refine D.p 10 O [2,3] a8 (s.app 1 _ O O O (cI 0 O) ky aG aG (fun _=>rfl) O) fun v4=>?_
 refine D.l [11] [2,3] a8 O<|U ?_
 refine D.done ?_
 have hz:aY r=(l3++([(⟨⟨#[120]⟩,bF (aN r).ah++bF (aN r).ai,false⟩:Change)])):=by (unfold aY rowsOf;rw [WZ,p7 _ ae];rfl)
 rw [hz]
 exact R.x1 v4 [1,3] []
theorem ko {α:Type}{l:List α}{i:Nat}{x:α}(h:l[i]? = some x):l.drop i=x::l.drop (i+1):=by
 obtain ⟨h1,h2⟩:=List.getElem?_eq_some_iff.1 h
 rw [List.drop_eq_getElem_cons h1,h2]
section
variable {a b:List Change} {i k:Nat} {x y:Change} {L:List Change}
theorem Qn (hm:L++bE (a.drop i) (b.drop k)=bE a b)(hx:a[i]? = some x)(hk:k=b.length):(L++[⟨x.Key,⟨#[]⟩,true⟩])++bE (a.drop (i+1)) (b.drop k)=bE a b:=by
 rw [<- hm,ko hx,List.drop_of_length_le (l:=b) ae,C2,List.append_assoc];rfl
theorem S5 (hm:L++bE (a.drop i) (b.drop k)=bE a b)(hx:a[i]? = some x)(hy:b[k]? = some y)(h:hY x.Key y.Key=true):(L++[⟨x.Key,⟨#[]⟩,true⟩])++bE (a.drop (i+1)) (b.drop k)=bE a b:=by
 rw [<- hm,ko hx,ko hy,od,if_pos h,List.append_assoc];rfl
theorem S6 (hm:L++bE (a.drop i) (b.drop k)=bE a b)(hy:b[k]? = some y)(hi:i=a.length):(L++[y])++bE (a.drop i) (b.drop (k+1))=bE a b:=by
 rw [<- hm,List.drop_of_length_le (l:=a) ae,nG,nG,ko hy,List.append_assoc];rfl
theorem W8 (hm:L++bE (a.drop i) (b.drop k)=bE a b)(hx:a[i]? = some x)(hy:b[k]? = some y)(h:hY x.Key y.Key=false)(h2:hY y.Key x.Key=true):(L++[y])++bE (a.drop i) (b.drop (k+1))=bE a b:=by
 rw [<- hm,ko hx,ko hy,od,if_neg (by rw [h];decide),if_pos h2,List.append_assoc];rfl
theorem S7 (hm:L++bE (a.drop i) (b.drop k)=bE a b)(hx:a[i]? = some x)(hy:b[k]? = some y)(h:hY x.Key y.Key=false)(h2:hY y.Key x.Key=false)(he:x=y):L++bE (a.drop (i+1)) (b.drop (k+1))=bE a b:=by
 rw [<- hm,ko hx,ko hy,od,if_neg (by rw [h];decide),if_neg (by rw [h2];decide),if_pos he]
theorem S8 (hm:L++bE (a.drop i) (b.drop k)=bE a b)(hx:a[i]? = some x)(hy:b[k]? = some y)(h:hY x.Key y.Key=false)(h2:hY y.Key x.Key=false)(he:¬ x=y):(L++[y])++bE (a.drop (i+1)) (b.drop (k+1))=bE a b:=by
 rw [<- hm,ko hx,ko hy,od,if_neg (by rw [h];decide),if_neg (by rw [h2];decide),if_neg he,List.append_assoc];rfl
end
theorem Fi (DI:Value)(a:List Change)(Fa:Value)(b:List Change)(w:World)(own:List Nat)(H:HN w own [] [ag.ls DI a,ag.ls Fa b])(hl:a.length<=1000/\b.length<=1000):RC Tryz.prog 41 #[DI,Fa] H (fun z:Value=>z) (fun z=>[ag.row 115 z (bE a b)]) (fun _=>[]):=by
 have m_a:=H.aL 0 rfl
 have m_b:=H.aL 1 rfl
 refine R.eN H ?_
 refine R.row0 (α:=Change) 115<|R.loop (fun g_:Nat×Nat×Value×(List Change)=>[(0,DI),(1,Fa),(5,g_.2.2.1),(6,iV (g_.1:Int)),(7,iV (g_.2.1:Int))]) (fun g_=>[ag.row 115 g_.2.2.1 g_.2.2.2,ag.held w own]) (fun g_=>[ag.ls DI a,ag.ls Fa b]) (fun g_=>g_.1<=a.length/\g_.2.1<=b.length/\g_.2.2.2.length<=g_.1+g_.2.1/\g_.2.2.2++bE (a.drop g_.1) (b.drop g_.2.1)=bE a b) (fun g_=>(a.length-g_.1)+(b.length-g_.2.1)) (0,0,nS,[]) O (by dsimp only;exact ⟨ae,ae,bA,rfl⟩) (sF O) (dX [0,1] [0,1] O) ?_
 rintro ⟨i,k,u,l⟩ ⟨hi,hk,hll,HM⟩
 dsimp only at *
 refine U ?_
 refine C (i<a.length) ?_ ?_ <;> intro h1
 .
  refine C (k=b.length) ?_ ?_ <;> intro h2
  .
   refine R.c6 O mixed ay<|U ?_
   obtain ⟨x1,hx1⟩:=gE a i
   refine U ?_
   refine R.s O (s.bs (l:=([(⟨x1.Key,⟨#[]⟩,true⟩:Change)]:List Change)) cD ct O O O O O O O) fun b1=>?_
   refine R.ap fun v1=>?_
   refine R.back ((i+1),k,v1,(l++([(⟨x1.Key,⟨#[]⟩,true⟩:Change)]))) O (by (try dsimp only);exact ⟨ae,ae,aG,by exact Qn HM hx1 ae⟩) aJ (sF O) (cw [1,2] [0,1] O)
  obtain ⟨x2,hx2⟩:=gE a i
  obtain ⟨x3,hx3⟩:=gE b k
  rcases Bool.eq_false_or_eq_true (hY x2.Key x3.Key) with h3|h3
  .
   refine R.c6 O mixed ay<|U ?_
   refine Q.qg O (q.Rn O O h3) O<|U ?_
   refine R.s O (s.bs (l:=([(⟨x2.Key,⟨#[]⟩,true⟩:Change)]:List Change)) cD ct O O O O O O O) fun b2=>?_
   refine R.ap fun v2=>?_
   refine R.back ((i+1),k,v2,(l++([(⟨x2.Key,⟨#[]⟩,true⟩:Change)]))) O (by (try dsimp only);exact ⟨ae,ae,aG,by exact S5 HM hx2 af af⟩) aJ (sF O) (cw [1,2] [0,1] O)
  refine R.c6 O mixed ay<|U ?_
  refine Q.qg O (q.Rn O O h3) O<|U ?_
  rcases Bool.eq_false_or_eq_true (hY x3.Key x2.Key) with h4|h4
  .
   refine R.c6 O mixed ay<|U ?_
   refine Q.qg O (q.Rn O O h4) O<|U ?_
   refine R.s O (s.bs (l:=([x3]:List Change)) cD ct O O O O O O O) fun b3=>?_
   refine R.ap fun v3=>?_
   refine R.back (i,k+1,v3,(l++([x3]))) O (by (try dsimp only);exact ⟨ae,ae,aG,by exact W8 HM af hx3 af af⟩) aJ (sF O) (cw [1,2] [0,1] O)
  refine R.c6 O mixed ay<|U ?_
  refine Q.qg O (q.Rn O O h4) O<|U ?_
  refine C (x2=x3) ?_ ?_ <;> intro h5
  .
   refine R.c6 O mixed ay<|U ?_
   refine Q.q (q.oP (x:=x2) (y:=x3) EW O O h5) O<|U ?_
   refine R.back ((i+1),k+1,u,l) O (by (try dsimp only);exact ⟨ae,ae,ae,by exact S7 HM hx2 hx3 af af af⟩) aJ (sF O) (cw [0,1] [0,1] O)
  refine R.c6 O mixed ay<|U ?_
  refine Q.q (q.oQ (x:=x2) (y:=x3) EW O O h5) O<|U ?_
  refine R.s O (s.bs (l:=([x3]:List Change)) cD ct O O O O O O O) fun b4=>?_
  refine R.ap fun v4=>?_
  refine R.back ((i+1),k+1,v4,(l++([x3]))) O (by (try dsimp only);exact ⟨ae,ae,aG,by exact S8 HM hx2 hx3 af af af⟩) aJ (sF O) (cw [1,2] [0,1] O)
 refine C (k<b.length) ?_ ?_ <;> intro h6
 .
  refine R.c6 O mixed ay<|U ?_
  refine R.c6 O mixed ay<|U ?_
  obtain ⟨x4,hx4⟩:=gE b k
  refine U ?_
  refine R.s O (s.bs (l:=([x4]:List Change)) cD ct O O O O O O O) fun b5=>?_
  refine R.ap fun v5=>?_
  refine R.back (i,k+1,v5,(l++([x4]))) O (by (try dsimp only);exact ⟨ae,ae,aG,by exact S6 HM hx4 ae⟩) aJ (sF O) (cw [1,2] [0,1] O)
 rw [show bE a b=_ from by (rewrite [List.drop_of_length_le (l:=a) ae,List.drop_of_length_le (l:=b) ae,nG,List.append_nil] at HM;exact HM.symm) <;> rfl]
 exact R.x1 u [0,1] []
end
section
open Go Go.RowKit
attribute [local irreducible] Run Rg Rq Qt Qa Stp Dg Do Dm bQ
attribute [local irreducible] bL cC bf jE eA dNew dU kb fB mM
theorem MR (many:Int)(w:World)(own:List Nat)(H:HN w own [] [])(hn:1<=many/\many<=1000):RC Tryz.prog 8 #[iV many] H (fun z:Nat×Value×Value×Value×Value×Nat×Value=>pV z.1) (fun z=>[ag.box z.1 [pV z.2.2.2.2.2.1,z.2.1,z.2.2.1,z.2.2.2.1,z.2.2.2.2.1,iV (⟨(⟨[],[],[],[],1,1⟩:aB)⟩:j3).R.ah,iV (⟨(⟨[],[],[],[],1,1⟩:aB)⟩:j3).R.ai] 50,ag.box z.2.2.2.2.2.1 [z.2.2.2.2.2.2,iV (mM (⟨[],0,many⟩:iO) (aY (⟨[],[],[],[],1,1⟩:aB))).1.Used,iV (mM (⟨[],0,many⟩:iO) (aY (⟨[],[],[],[],1,1⟩:aB))).1.Many] 41]) (fun z=>[ag.ls z.2.1 ((⟨(⟨[],[],[],[],1,1⟩:aB)⟩:j3).R.aj:List ak),ag.ls z.2.2.1 ((⟨(⟨[],[],[],[],1,1⟩:aB)⟩:j3).R.Things:List aA),ag.ls z.2.2.2.1 ((⟨(⟨[],[],[],[],1,1⟩:aB)⟩:j3).R.Held:List Held),ag.ls z.2.2.2.2.1 ((⟨(⟨[],[],[],[],1,1⟩:aB)⟩:j3).R.Notes:List Note),ag.ls z.2.2.2.2.2.2 ((mM (⟨[],0,many⟩:iO) (aY (⟨[],[],[],[],1,1⟩:aB))).1.Rows:List Change)]):=by
 obtain ⟨manyN,Ji⟩:∃m:Nat,many=(m:Int):=⟨many.toNat,ae⟩;subst Ji
 have n1:=P1;have n2:=j2;have n3:=jt j2
 refine R.eN H ?_
 refine R.nb fun b1=>?_
 refine R.s O (s.aH [0,1] [] _ _ _ O O O YM O O (fun w own hw H=>MK w own H) O) ?_
 rintro ⟨z1,z2,z3,z4⟩
 dsimp only
 refine R.q (q.Ea YF O (fun w hw=>l8 O (l8 O D8)) O) O<|R.nb fun b2=>?_
 refine R.cO (fuel:=10) [0,2] O O mixed O<|D.l a8 [0,2] bm O<|U ?_
 refine D.p 8 O [1,3] bm (s.aH [0,1,2] bm _ _ _ O O O OL O O (fun w own hw H=>xB z1 z2 z3 z4 (⟨[],[],[],[],1,1⟩:aB) w own H af af) O) fun z7=>?_
 refine D.p 9 O [1,2] [3,4,5,6] (s.pre (fun _ hw=>hw.Iy (α:=Change)) (s.pre (fun _ hw=>hw.aO 0 _ O O) (s.aH [1,0,2] [1,0] _ _ _ O O O T6 O O (fun w own hw H=>yg b1 nS (⟨[],0,(manyN:Int)⟩:iO) z7 (aY (⟨[],[],[],[],1,1⟩:aB)) w own H (by (refine ⟨?_,?_,?_,?_,?_,?_⟩ <;> first|omega|decide|(simp;done)|(simp;omega)))) O))) fun z8=>?_
 refine D.done<|U ?_
 have hz:((⟨(⟨[],[],[],[],1,1⟩:aB)⟩:j3),(mM (⟨[],0,((manyN:Nat):Int)⟩:iO) (aY (⟨[],[],[],[],1,1⟩:aB))).1)=((⟨(⟨[],[],[],[],1,1⟩:aB)⟩:j3),(mM (⟨[],0,(manyN:Int)⟩:iO) (aY (⟨[],[],[],[],1,1⟩:aB))).1):=by (rfl)
 have hz0:(mM (⟨[],0,((manyN:Nat):Int)⟩:iO) (aY (⟨[],[],[],[],1,1⟩:aB))).1=(mM (⟨[],0,(manyN:Int)⟩:iO) (aY (⟨[],[],[],[],1,1⟩:aB))).1:=congrArg (fun t_=>t_.2) hz
 rw [hz0]
 exact R.x1 (b2,z1,z2,z3,z4,b1,z8) [1,0,2] [3,4,5,6,0]
theorem MS (mh:Nat)(da df dh dj:Value)(UJ:Nat)(m:j3)(w:World)(own:List Nat)(H:HN w own [ag.box mh [pV UJ,da,df,dh,dj,iV m.R.ah,iV m.R.ai] 50] [ag.ls da m.R.aj,ag.ls df m.R.Things,ag.ls dh m.R.Held,ag.ls dj m.R.Notes])(hk:Ok m.R)(hI:Inv m.R):RS Tryz.prog 11 #[pV mh] H (⟨aN m.R⟩:j3) (fun _ (_:Value×Value×Value×Value) => .tuple #[]) (fun s z=>[ag.box mh [pV UJ,z.1,z.2.1,z.2.2.1,z.2.2.2,iV s.R.ah,iV s.R.ai] 50]) (fun s z=>[ag.ls z.1 s.R.aj,ag.ls z.2.1 s.R.Things,ag.ls z.2.2.1 s.R.Held,ag.ls z.2.2.2 s.R.Notes]):=by
 have mP:=H.aL 0 rfl
 have lE:=H.aL 1 rfl
 have oG:=H.aL 2 rfl
 have mQ:=H.aL 3 rfl
 refine R.eN H ?_
 refine R.s O (s.aH [0,1] bm _ _ _ O O O T9 O O (fun w own hw H=>BJ da df dh dj m.R w own H af af) O) ?_
 rintro ⟨z1,z2,z3,z4⟩
 dsimp only
 refine U ?_
 exact R.x0 (z1,z2,z3,z4) [0,1] [0,1,2,3]
theorem j4 (mh:Nat)(da df dh dj:Value)(m:j3)(aX aR aS aT:Value)(r:aB)(f:Int)(iq:Nat)(bj:Value)(ms:iO)(w:World)(own:List Nat)(H:HN w own [ag.box mh [pV iq,da,df,dh,dj,iV m.R.ah,iV m.R.ai] 50,ag.box iq [bj,iV ms.Used,iV ms.Many] 41] [ag.ls da m.R.aj,ag.ls df m.R.Things,ag.ls dh m.R.Held,ag.ls dj m.R.Notes,ag.ls aX r.aj,ag.ls aR r.Things,ag.ls aS r.Held,ag.ls aT r.Notes,ag.ls bj ms.Rows])(hb:0<=ms.Many/\ms.Many<=1000/\0<=ms.Used/\ms.Used<=1000/\ms.Rows.length<=1000)(hk:Ok m.R)(hI:Inv m.R)(h0:0<=f)(hz:f=0->Ok r/\Inv r):RS Tryz.prog 13 #[pV mh,.agg #[aX,aR,aS,aT,iV r.ah,iV r.ai],iV f] H (fB m ms (r,f)) (fun s (_:Value×Value×Value×Value×Value)=>iV s.2.2) (fun s z=>[ag.box mh [pV iq,z.1,z.2.1,z.2.2.1,z.2.2.2.1,iV s.1.R.ah,iV s.1.R.ai] 50,ag.box iq [z.2.2.2.2,iV s.2.1.Used,iV s.2.1.Many] 41]) (fun s z=>[ag.ls z.1 s.1.R.aj,ag.ls z.2.1 s.1.R.Things,ag.ls z.2.2.1 s.1.R.Held,ag.ls z.2.2.2.1 s.1.R.Notes,ag.ls z.2.2.2.2 s.2.1.Rows]):=by
 have mP:=H.aL 0 rfl
 have lE:=H.aL 1 rfl
 have oG:=H.aL 2 rfl
 have mQ:=H.aL 3 rfl
 have bT:=H.aL 4 rfl
 have bH:=H.aL 5 rfl
 have cr:=H.aL 6 rfl
 have bU:=H.aL 7 rfl
 have tI:=H.aL 8 rfl
 have g0:=jt hI;have g3:=fun (h:f=0)=>jt (hz h).2;have gm:=fun (h:f=0)=>(P3 hI (hz h).2)
 refine R.eN H ?_
 refine R.nb fun b1=>?_
 refine C (0<f) ?_ ?_ <;> intro h1
 .
  rw [show fB m ms (r,f)=_ from by rewrite [UC (m:=m) (ms:=ms) (z:=(r,f)) af] <;> rfl]
  exact R.x1 (da,df,dh,dj,bj) [1,2,3] [0,1,2,3,8]
 obtain ⟨hk2,hI2⟩:=hz ae;have g4:=g3 ae;have g5:=gm ae
 refine U ?_
 refine R.cO (fuel:=9) bm O O mixed O<|D.l rL bm bZ O<|U ?_
 refine D.p 4 O j6 bZ (s.aH bm bm _ _ _ O O O OL O O (fun w own hw H=>xB da df dh dj m.R w own H af af) O) fun z4=>?_
 refine D.p 6 O eO bZ (s.aH bV [4,5,6,7] _ _ _ O O O OL O O (fun w own hw H=>xB aX aR aS aT r w own H af af) O) fun z5=>?_
 refine D.p 7 O [3,4,5,6] bZ (s.Eb (Bl:=[ag.row 115 z4 (aY m.R),ag.row 115 z5 (aY r)]) (Fl:=[ag.ls z4 (aY m.R),ag.ls z5 (aY r)]) [1,0,2,3,4,5] [0,1] (fun kJ:Value=>kJ) (fun kJ:Value=>[ag.row 115 kJ (bE (aY m.R) (aY r))]) O O (nC (nC vx)) O YU O O (fun w own hw H=>Fi z4 (aY m.R) z5 (aY r) w own H ae) O) fun z6=>?_
 refine D.l [8] [3,4,5,6] bZ O<|U ?_
 refine D.done<|U ?_
 refine C (0<(bE (aY m.R) (aY r)).length) ?_ ?_ <;> intro h2
 .
  refine R.s O (s.pre (fun _ hw=>hw.aO 0 _ O O) (s.aH [4,0,1,2,3,5] [9,0] _ _ _ O O O T6 O O (fun w own hw H=>yg iq bj ms z6 (bE (aY m.R) (aY r)) w own H ae) O)) fun z7=>?_
  refine U ?_
  refine C (0<(mM ms (bE (aY m.R) (aY r))).2) ?_ ?_ <;> intro h3
  .
   rw [show fB m ms (r,f)=_ from by rewrite [ZN (m:=m) (ms:=ms) (z:=(r,f)) af af af] <;> rfl]
   exact R.x1 (da,df,dh,dj,z7) [4,0,5] [2,3,4,5,0]
  rw [show fB m ms (r,f)=_ from by rewrite [UE (m:=m) (ms:=ms) (z:=(r,f)) af af af] <;> rfl]
  exact R.x1 (aX,aR,aS,aT,z7) [4,0,5] [6,7,8,9,0]
 rw [show fB m ms (r,f)=_ from by rewrite [UD (m:=m) (ms:=ms) (z:=(r,f)) af af] <;> rfl]
 exact R.x1 (aX,aR,aS,aT,bj) [4,5,6] [4,5,6,7,8]
end
end Go.Proofs.YtnmpibjlnninjaaGreatDoor
section
set_option maxRecDepth 100000
namespace Go.Proofs
open Go.Shelf
def Tryz.lays144_ren:Go.Shelf.Ren:=⟨fun|144=>220|143=>219|219=>259|217=>291|225=>292|224=>293|267=>294|266=>309|314=>310|n=>n,fun|9=>9|4=>4|3=>3|5=>5|46=>183|146=>237|51=>236|n=>n,fun|1=>0|n=>n⟩
theorem Tryz.lays144:Go.Proofs.Lays.n144 Tryz.prog Tryz.lays144_ren:={
 mixed:=by kernel_rfl
 f143:=Tryz.func219.trans (congrArg some (by kernel_rfl))
 f144:=Tryz.func220.trans (congrArg some (by kernel_rfl))
 f217:=Tryz.func291.trans (congrArg some (by kernel_rfl))
 f219:=Tryz.func259.trans (congrArg some (by kernel_rfl))
 f224:=Tryz.func293.trans (congrArg some (by kernel_rfl))
 f225:=Tryz.func292.trans (congrArg some (by kernel_rfl))
 f266:=Tryz.func309.trans (congrArg some (by kernel_rfl))
 f267:=Tryz.func294.trans (congrArg some (by kernel_rfl))
 f314:=Tryz.func310.trans (congrArg some (by kernel_rfl))
 t3:=Tryz.underlying3
 a3:=Tryz.isAgg3
 z3:=Tryz.sizeOf3
 v3:=Tryz.zeroValue3
 t4:=Tryz.underlying4
 a4:=Tryz.isAgg4
 z4:=Tryz.sizeOf4
 v4:=Tryz.zeroValue4
 t5:=Tryz.underlying5
 a5:=Tryz.isAgg5
 z5:=Tryz.sizeOf5
 v5:=Tryz.zeroValue5
 t9:=Tryz.underlying9
 a9:=Tryz.isAgg9
 z9:=Tryz.sizeOf9
 v9:=Tryz.zeroValue9
 t46:=Tryz.underlying183
 a46:=Tryz.isAgg183
 z46:=Tryz.sizeOf183
 v46:=Tryz.zeroValue183
 t51:=Tryz.underlying236
 a51:=Tryz.isAgg236
 z51:=Tryz.sizeOf236
 v51:=Tryz.zeroValue236
 t146:=Tryz.underlying237
 a146:=Tryz.isAgg237
 z146:=Tryz.sizeOf237
 v146:=Tryz.zeroValue237
 g1:=by kernel_rfl}
def Tryz.lays146_ren:Go.Shelf.Ren:=⟨fun|146=>110|221=>171|268=>217|138=>218|143=>219|195=>256|197=>257|218=>258|219=>259|260=>290|217=>291|225=>292|224=>293|267=>294|266=>309|314=>310|n=>n,fun|9=>9|31=>61|3=>3|4=>4|0=>0|105=>289|21=>21|5=>5|46=>183|119=>333|139=>336|138=>335|146=>237|51=>236|n=>n,fun|1=>0|3=>4|4=>5|n=>n⟩
theorem Tryz.lays146:Go.Proofs.Lays.n146 Tryz.prog Tryz.lays146_ren:={
 mixed:=by kernel_rfl
 f138:=Tryz.func218.trans (congrArg some (by kernel_rfl))
 f143:=Tryz.func219.trans (congrArg some (by kernel_rfl))
 f146:=Tryz.func110.trans (congrArg some (by kernel_rfl))
 f195:=Tryz.func256.trans (congrArg some (by kernel_rfl))
 f197:=Tryz.func257.trans (congrArg some (by kernel_rfl))
 f217:=Tryz.func291.trans (congrArg some (by kernel_rfl))
 f218:=Tryz.func258.trans (congrArg some (by kernel_rfl))
 f219:=Tryz.func259.trans (congrArg some (by kernel_rfl))
 f221:=Tryz.func171.trans (congrArg some (by kernel_rfl))
 f224:=Tryz.func293.trans (congrArg some (by kernel_rfl))
 f225:=Tryz.func292.trans (congrArg some (by kernel_rfl))
 f260:=Tryz.func290.trans (congrArg some (by kernel_rfl))
 f266:=Tryz.func309.trans (congrArg some (by kernel_rfl))
 f267:=Tryz.func294.trans (congrArg some (by kernel_rfl))
 f268:=Tryz.func217.trans (congrArg some (by kernel_rfl))
 f314:=Tryz.func310.trans (congrArg some (by kernel_rfl))
 t0:=Tryz.underlying0
 a0:=Tryz.isAgg0
 z0:=Tryz.sizeOf0
 v0:=Tryz.zeroValue0
 t3:=Tryz.underlying3
 a3:=Tryz.isAgg3
 z3:=Tryz.sizeOf3
 v3:=Tryz.zeroValue3
 t4:=Tryz.underlying4
 a4:=Tryz.isAgg4
 z4:=Tryz.sizeOf4
 v4:=Tryz.zeroValue4
 t5:=Tryz.underlying5
 a5:=Tryz.isAgg5
 z5:=Tryz.sizeOf5
 v5:=Tryz.zeroValue5
 t9:=Tryz.underlying9
 a9:=Tryz.isAgg9
 z9:=Tryz.sizeOf9
 v9:=Tryz.zeroValue9
 t21:=Tryz.underlying21
 a21:=Tryz.isAgg21
 z21:=Tryz.sizeOf21
 v21:=Tryz.zeroValue21
 t31:=Tryz.underlying61
 a31:=Tryz.isAgg61
 z31:=Tryz.sizeOf61
 v31:=Tryz.zeroValue61
 t46:=Tryz.underlying183
 a46:=Tryz.isAgg183
 z46:=Tryz.sizeOf183
 v46:=Tryz.zeroValue183
 t51:=Tryz.underlying236
 a51:=Tryz.isAgg236
 z51:=Tryz.sizeOf236
 v51:=Tryz.zeroValue236
 t105:=Tryz.underlying289
 a105:=Tryz.isAgg289
 z105:=Tryz.sizeOf289
 v105:=Tryz.zeroValue289
 t119:=Tryz.underlying333
 a119:=Tryz.isAgg333
 z119:=Tryz.sizeOf333
 t138:=Tryz.underlying335
 a138:=Tryz.isAgg335
 z138:=Tryz.sizeOf335
 v138:=Tryz.zeroValue335
 t139:=Tryz.underlying336
 a139:=Tryz.isAgg336
 z139:=Tryz.sizeOf336
 v139:=Tryz.zeroValue336
 t146:=Tryz.underlying237
 a146:=Tryz.isAgg237
 z146:=Tryz.sizeOf237
 v146:=Tryz.zeroValue237
 g1:=by kernel_rfl
 g3:=by kernel_rfl
 g4:=by kernel_rfl}
open Go.RowKit in
theorem Tryz.strconv_Atoi_ok (s:ByteArray)(hmax:s.size<=9223372036854775806)(v:Int)(h:Lib.atoiAll s.data.toList = .ok v)(w:World) :
    Calls Tryz.prog 197 #[.string s] w fun e w'=>e = .returned (.tuple #[.int .i64 v,.nilIface])/\(w'=w ∨ ∃t,w'=Lib.bytesWorld w 5 t):=Any.strconv_Atoi_ok Tryz.laysC172 s hmax v h w
open Go.RowKit in
theorem Tryz.strconv_Atoi_syntax_var (s:ByteArray)(hlim:s.size≤281474976710656)(h:Lib.atoiAll s.data.toList ≠ .range ∧ ∀v,Lib.atoiAll s.data.toList ≠ .ok v)(tp:TypeId)(p:Value)(w:World)(hvar:w.var? Tryz.prog "strconv.ErrSyntax" = some #[.iface tp p]) :
    Calls Tryz.prog 197 #[.string s] w fun e w' => ∃N,e = .returned (.tuple #[.int .i64 0,.iface 300 (.pointer (some ⟨N,0,none⟩))])/\w.heap.size<=N/\w'.heap[N]? = some (.cells #[.string ⟨#[65,116,111,105]⟩,.string s,.iface tp p] 325 (0,0))/\Below w.heap.size w w':=Any.strconv_Atoi_syntax_var Tryz.laysC172 s hlim (by cases hq:Lib.atoiAll s.data.toList with|ok v=>exact absurd hq (h.2 v)|range=>exact absurd hq h.1|_=>rfl) tp p w hvar
open Go.RowKit in
theorem Tryz.strconv_Atoi_range_var (s:ByteArray)(hlim:s.size≤281474976710656)(h:Lib.atoiAll s.data.toList = .range)(tp:TypeId)(p:Value)(w:World)(hvar:w.var? Tryz.prog "strconv.ErrRange" = some #[.iface tp p]) :
    Calls Tryz.prog 197 #[.string s] w fun e w' => ∃N,e = .returned (.tuple #[.int .i64 (Lib.atoiSat s.data.toList),.iface 300 (.pointer (some ⟨N,0,none⟩))])/\w.heap.size<=N/\w'.heap[N]? = some (.cells #[.string ⟨#[65,116,111,105]⟩,.string s,.iface tp p] 325 (0,0))/\Below w.heap.size w w':=Any.strconv_Atoi_range_var Tryz.laysC172 s hlim h tp p w hvar
open Go.RowKit Go.Lib in
theorem Tryz.strings_Contains_one (s:ByteArray)(c:UInt8)(w:World) :
    Calls Tryz.prog 220 #[.string s,.string ⟨#[c]⟩] w fun e w'=>e = .returned (.bool (decide (0<=Lib.indexByte s.data.toList c)))/\w'=w:=Any.strings_Contains_one Tryz.lays144 s c w
end Go.Proofs
end
namespace Go.Proofs.YtnmpibjlnninjaaGreatDoor
set_option linter.unusedVariables false
set_option linter.unusedSimpArgs false
set_option maxRecDepth 100000
set_option maxHeartbeats 90000000
section
open Go Go.RowKit
abbrev sp:ByteArray:=⟨#[32]⟩
def spl (s:ByteArray):List ByteArray:=Lib.splitB sp 0 (Lib.countB s sp) s
def wd (w:List ByteArray)(i:Nat):ByteArray:=(w[i]?).getD ⟨#[]⟩
theorem Fj {s:ByteArray}{i:Nat}(h:Lib.indexB s sp=i):spl s=s.extract 0 i::spl (s.extract (i+1) s.size):=by
 unfold spl
 rw [Lib.countB_hit s sp i aC h,Nat.add_comm 1,Lib.splitB_hit _ _ _ _ _ h];rfl
theorem BL {s:ByteArray}(h:Lib.indexB s sp = -1):spl s=[s]:=Lib.splitB_miss _ _ _ _ h
theorem W9 {s:ByteArray}{i:Nat}(hi:s.data[i]? = some 32)(h:∀j,j<i->¬ s.data[j]? = some 32):Lib.indexB s sp=i:=by
 have hl:i<s.data.toList.length:=az
 refine Lib.index_first ae ?_ (fun j hj=>?_)
 .
  show ([32]:List UInt8).isPrefixOf (s.data.toList.drop i)=true
  rw [List.drop_eq_getElem_cons hl];grind
 show ([32]:List UInt8).isPrefixOf (s.data.toList.drop j)=false
 rw [List.drop_eq_getElem_cons ae]
 have:=h j hj
 grind
theorem Xa {s:ByteArray}(h:∀j,j<s.size->¬ s.data[j]? = some 32):Lib.indexB s sp = -1:=by
 refine Lib.index_none fun j hj=>?_
 show ([32]:List UInt8).isPrefixOf (s.data.toList.drop j)=false
 by_cases hl:j<s.data.toList.length
 .
  rw [List.drop_eq_getElem_cons hl]
  have:=h j hl
  grind
 rw [List.drop_eq_nil_of_le ae];rfl
theorem y8 (s:ByteArray):1<=(spl s).length/\(spl s).length<=s.size+1:=by
 have:=Lib.splitB_all sp aC 0 _ s rfl
 have:=Lib.countB_le sp aC s.size s (Nat.le_refl _)
 unfold spl;omega
theorem Ih:∀ (k:Nat) (s:ByteArray),∀x∈Lib.splitB sp 0 k s,x.size<=s.size
 | 0,s,x,hx=>by
  have:x=s:=by simpa [Lib.splitB] using hx
  subst this;exact Nat.le_refl _
 | k+1,s,x,hx=>by
  unfold Lib.splitB at hx
  split at hx
  .
   have:x=s:=by simpa using hx
   subst this;exact Nat.le_refl _
  rcases List.mem_cons.1 hx with rfl|hx
  .rw [ByteArray.size_extract];omega
  have:=Ih k _ x hx
  rw [ByteArray.size_extract] at this;omega
theorem Xb {s x:ByteArray}(h:x∈spl s):x.size<=s.size:=Ih _ s x h
theorem S9 {s:ByteArray}(h:(spl s).length=1):spl s=[s]:=by
 rcases Lib.indexB_cases s sp with h1|⟨i,h1,_⟩
 .exact BL h1
 rw [Fj h1] at h ⊢
 have:=(y8 (s.extract (i+1) s.size)).1
 rw [List.length_cons] at h;omega
def nk:List UInt8->Nat->Option Nat
  | [],n=>some n
  | x::l,n=>if x.toNat<48∨57<x.toNat then none else nk l (10*n+(x.toNat-48))
def bu (s:ByteArray):Int :=
  if s.size<1∨9<s.size∨(s.data[0]? = some 48/\1<s.size) then -1
  else match nk s.data.toList 0 with|none => -1|some n=>if 999<n then -1 else n
def fP (w:List ByteArray):Bool:=w.all fun x=>decide (0<=bu x)
def nth (l:List Int)(i:Nat):Int:=(l[i]?).getD 0
theorem Xc {s:ByteArray}(h:s.size<1∨9<s.size∨(s.data[0]? = some 48/\1<s.size)):bu s = -1:=if_pos h
theorem ZY {s:ByteArray}(h1:¬ s.size<1)(h2:¬ 9<s.size)(h3:¬ (s.data[0]? = some 48/\1<s.size)):bu s=match nk s.data.toList 0 with|none => -1|some n=>if 999<n then -1 else n :=
 if_neg (fun q=>by rcases q with q|q|q <;> first|omega|exact h3 q)
theorem xC:∀ (l:List UInt8) (u n:Nat) (x:UInt8),nk l u=some n->nk (l++[x]) u=(if x.toNat<48∨57<x.toNat then none else some (10*n+(x.toNat-48)))
 | [],u,n,x,h=>by
  have:u=n:=by simpa [nk] using h
  subst this;rfl
 | y::l,u,n,x,h=>by
  simp only [nk,List.cons_append] at h ⊢
  split at h
  .cases h
  rename_i hy;rw [if_neg hy];exact xC l _ n x h
theorem DN:∀ (l r:List UInt8) (u:Nat),nk l u=none->nk (l++r) u=none
 | [],r,u,h=>by simp [nk] at h
 | y::l,r,u,h=>by
  simp only [nk,List.cons_append] at h ⊢
  split
  .rfl
  rename_i hy;rw [if_neg hy] at h;exact DN l r _ h
theorem Qo {u d:Nat}(hu:0<u)(hd:d<10):Lib.decDigits (10*u+d)=Lib.decDigits u++[d8 d]:=by
 rw [LO,if_neg ae,show (10*u+d) / 10=u by omega,show (10*u+d) % 10=d by omega]
theorem ZZ {x:UInt8}(h:48<=x.toNat):d8 (x.toNat-48)=x:=by
 unfold d8;rw [show 48+(x.toNat-48)=x.toNat by omega];exact UInt8.ofNat_toNat
theorem K3:∀ (l:List UInt8) (u n:Nat),0<u->nk l u=some n->Lib.decDigits n=Lib.decDigits u++l
 | [],u,n,hu,h=>by
  have:u=n:=by simpa [nk] using h
  subst this;simp
 | x::l,u,n,hu,h=>by
  simp only [nk] at h
  split at h
  .cases h
  rw [K3 l _ n ae h,Qo hu ae,ZZ ae];simp
theorem JF {s:ByteArray}(h:0<=bu s):bS (bu s)=s/\bu s<=999:=by
 revert h
 unfold bu
 split
 .intro h;exact absurd h aC
 rename_i hs
 split
 .intro h;exact absurd h aC
 rename_i n hn
 split
 .intro h;exact absurd h aC
 intro _
 refine ⟨?_,ae⟩
 have e:Lib.decDigits n=s.data.toList:=by
  cases hl:s.data.toList with
  | nil =>
   exfalso;have:s.size=0:=by show s.data.toList.length=0;rw [hl];rfl
   omega
  | cons x r =>
   rw [hl] at hn
   simp only [nk] at hn
   split at hn
   .cases hn
   rename_i hx
   by_cases h0:x.toNat=48
   .
    have hr:r=[]:=by
     have h1:¬ (s.data[0]? = some 48/\1<s.size):=fun q=>hs (.inr (.inr q))
     have h2:s.data[0]? = some 48:=by
      rw [<- Array.getElem?_toList,hl]
      exact congrArg some (UInt8.toNat_inj.1 h0)
     have h3:s.size=(x::r).length:=by rw [<- hl];rfl
     cases r with
     | nil=>rfl
     | cons y r=>exact absurd ⟨h2,by rw [h3];simp⟩ h1
    subst hr
    simp only [nk,Option.some.injEq] at hn
    have:x=48:=UInt8.toNat_inj.1 h0
    subst this;subst hn;exact LP aC
   rw [K3 r _ n ae hn,LP ae,Nat.mul_zero,Nat.zero_add,ZZ ae];rfl
 refine fY ?_
 show Lib.itoa (n:Int)=_
 rw [<- e];exact vO (n:=(n:Int)) ae
theorem Ta:∀k:Fin 1000,bu (bS ((k.val:Nat):Int))=((k.val:Nat):Int)/\Lib.atoiAll (Lib.itoa ((k.val:Nat):Int)) = .ok ((k.val:Nat):Int):=by decide +kernel
theorem Qp {n:Int}(h0:0<=n)(h:n<=999):bu (bS n)=n/\Lib.atoiAll (Lib.itoa n) = .ok n:=by
 obtain ⟨k,rfl⟩:=Int.eq_ofNat_of_zero_le h0
 exact Ta ⟨k,ae⟩
def UK (s:ByteArray):Bool:=match Lib.atoiAll s.data.toList with | .ok _=>true|_=>false
def aW (s:ByteArray):Int:=match Lib.atoiAll s.data.toList with | .ok n=>n|_=>0
theorem Z0 {s:ByteArray}(h:0<=bu s):UK s=true/\aW s=bu s:=by
 obtain ⟨h1,h2⟩:=JF h
 have h3:=(Qp h h2).2
 have e:Lib.itoa (bu s)=s.data.toList:=congrArg (fun b:ByteArray=>b.data.toList) h1
 rw [e] at h3
 unfold UK aW;rw [h3];exact ⟨rfl,rfl⟩
theorem Tb {s:ByteArray}(h:bS (aW s)=s)(h0:¬ aW s<0)(h1:¬ 999<aW s):bu s=aW s:=by
 rw [<- h];rw [(Qp (n:=aW s) ae ae).1,h]
theorem Fo {s:ByteArray}(h:¬ UK s=true∨¬ bS (aW s)=s∨aW s<0∨999<aW s):¬ 0<=bu s:=fun h0=>by
 obtain ⟨h1,h2⟩:=Z0 h0
 obtain ⟨h3,h4⟩:=JF h0
 rw [h2] at h
 rcases h with h|h|h|h
 .exact h h1
 .exact h h3
 .omega
 omega
end
section
open Go Go.RowKit Go.Shelf
theorem Tc {P:Program}{ρ:Ren}(L:Lays.n146 P ρ)(hi9:(P.info? (ρ.t 9)).map (fun i=>(i.zero,i.size,i.bytes))=some (some (.string ByteArray.empty),1,16))(s:ByteArray)(w:World)(hs:s.size<4294967281) :
 Calls P (ρ.f 146) #[.string s,.string sp] w fun e w' =>
  e = .returned (.slice (some ⟨w.heap.size,0,none⟩) (Lib.countB s sp+1) (Lib.countB s sp+1))/\w'=w.alloc (.cells ((spl s).map Value.string).toArray (ρ.t 9)):=by
 have hlen:(spl s).length=Lib.countB s sp+1:=Lib.splitB_all sp aC 0 _ s rfl
 have hle:=Lib.countB_le sp aC s.size s (Nat.le_refl _)
 have c:=Any.strings_genSplit_core { L with} hi9 s sp 0 (-1) (Lib.countB s sp+1) w hs aC aC
  (fun x c hx=>(Any.strings_Index_one { L with} x 32 _).mono fun e w' ⟨h1,h2⟩=>⟨by rw [h1];show _=Ending.returned (Value.int .i64 (Lib.index x.data.toList [32]));rw [Lib.index_one],h2⟩)
  ((Any.strings_Count_one { L with} s 32 w).mono fun e w' ⟨h1,h2⟩=>⟨by rw [h1];show _=Ending.returned (Value.int .i64 ((Lib.count s.data.toList [32]:Nat):Int));rw [Lib.count_one];rfl,h2⟩)
  aC aC (by rw [if_pos aC];omega)
 rw [Nat.add_sub_cancel] at c
 have e2:Lib.cellsOf (Lib.splitB sp 0 (Lib.countB s sp) s) (Lib.countB s sp+1)=((spl s).map Value.string).toArray:=by rw [<- hlen];exact Lib.cellsOf_full _
 rw [e2,show (Lib.splitB sp 0 (Lib.countB s sp) s).length=Lib.countB s sp+1 from hlen] at c
 have t3:=L.t3;have t9:=L.t9;have t31:=L.t31
 have a3:=L.a3;have a9:=L.a9;have a31:=L.a31
 have z3:=L.z3;have v3:=L.v3;have z9:=L.z9;have v9:=L.v9;have z31:=L.z31;have v31:=L.v31
 have e221:∀args w,(callFunc (ρ.f 221) args).run P w = .ok (.enter (ρ.f 221) args) w:=enters_of L.f221 ay rfl
 go_enter L.f146,Body.n146_ntmps ρ
 go_wp2_with (go_at_fn (ρ.f 221);refine c.mono ?_;rintro e w' ⟨rfl,hw⟩;rw [hw])
 go_ret
 exact ⟨rfl,rfl⟩
theorem Xd (l:List ByteArray)(w:World)(t:TypeId)(hl:l.length<=maxLen):Sl (w.alloc (.cells (l.map Value.string).toArray t)) (.slice (some ⟨w.heap.size,0,none⟩) l.length l.length) l:=by
 have h:=heap_alloc_new w (.cells (l.map Value.string).toArray t)
 refine ⟨_,_,rfl,Nat.le_refl _,hl,fun i x hx=>⟨w.heap.size,0,rfl,(Array.getElem?_eq_some_iff.1 h).1,fun j u hu=>?_⟩⟩
 have hj:j=0:=by
  have:=(List.getElem?_eq_some_iff.1 hu).1
  have e:(Enc.cells x).length=1:=rfl
  omega
 subst hj
 have hu':u = .string x:=by
  have:(Enc.cells x)[0]? = some (Value.string x):=rfl
  rw [this] at hu;injection hu with hu;exact hu.symm
 subst hu'
 have e:0+i*Enc.k ByteArray+0=i:=by show 0+i*1+0=i;omega
 rw [e]
 unfold World.cell?
 rw [h]
 simp [hx]
theorem MU (s:ByteArray)(w:World)(own:List Nat)(H:HN w own [] [])(hs:s.size<=100):RC Tryz.prog 110 #[.string s,.string sp] H (fun z:Value=>z) (fun _=>[]) (fun z=>[ag.ls z (spl s)]):=by
 refine (Tc Tryz.lays146 ay s w ae).mono fun e w' ⟨h1,h2⟩=>⟨_,h1,?_⟩
 have hlen:(spl s).length=Lib.countB s sp+1:=Lib.splitB_all sp aC 0 _ s rfl
 rw [<- hlen]
 have hg:=H.grow (w':=w') (by rw [h2];exact (Ext.alloc (Ext.refl w) _).upd)
 have hl:=(y8 s).2
 refine hg.fact (by rw [h2];exact Xd _ _ _ (by unfold maxLen;omega)) fun k hk=>?_
 have hk':k=w.heap.size:=by
  have:¬ spl s=[]/\k=w.heap.size:=by simpa [ag.ls,eB] using hk
  exact this.2
 subst hk'
 refine ⟨by rw [h2];exact (Array.getElem?_eq_some_iff.1 (heap_alloc_new w _)).1,fun q=>?_⟩
 have:=(H.own _ q).1
 omega
theorem JG (s sep:ByteArray)(w:World)(own:List Nat)(H:HN w own [] [])(hs:s.size<=100)(he:sep=⟨#[32]⟩):RC Tryz.prog 110 #[.string s,.string sep] H (fun z:Value=>z) (fun _=>[]) (fun z=>[ag.ls z (spl s)]):=by
 subst he;exact MU s w own H hs
theorem Td (s:ByteArray)(w:World)(h:UK s=true)(hs:s.size<=100):Calls Tryz.prog 197 #[.string s] w fun e w'=>e = .returned (.tuple #[.int .i64 (aW s),.nilIface])/\Ext w w':=by
 unfold UK at h
 cases hq:Lib.atoiAll s.data.toList with
 | ok n =>
  refine (Tryz.strconv_Atoi_ok s ae n hq w).mono fun e w' h=>?_
  have e:aW s=n:=by unfold aW;rw [hq]
  rw [e];exact ⟨h.1,h.2.elim (fun q=>q▸Ext.refl w) fun ⟨t,q⟩=>Ext.mk (q▸Joins.below_bytesWorld _ w _ t (Nat.le_refl _))⟩
 | _=>rw [hq] at h;cases h
theorem Te (s:ByteArray)(w:World)(own:List Nat)(H:Wd w (blks []++own) ([]++[ag.held w own]) [bJ] w)(h:¬ UK s=true)(hs:s.size<=100) :
 Calls Tryz.prog 197 #[.string s] w fun e w' => ∃z:Int×Value,e = .returned (.tuple #[.int .i64 z.1,.iface 300 z.2])/\Wd w (blks []++own) ([]++[ag.held w own]) [] w':=by
 have ht:BD w:=H.okF bJ (List.Mem.head _)
 have fin:∀w',Below w.heap.size w w'->Wd w (blks []++own) ([]++[ag.held w own]) [] w':=fun w' h4=>by
  have hw:=H.grow (Ext.mk h4).upd
  exact ⟨hw.upd,hw.okB,(fun r hr=>by cases hr),hw.sep,hw.own,(fun k hk=>by cases hk)⟩
 cases hq:Lib.atoiAll s.data.toList with
 | ok n=>exact absurd (by unfold UK;rw [hq]) h
 | range =>
  obtain ⟨tp,p,he⟩:=ht.rng
  exact (Tryz.strconv_Atoi_range_var s ae hq tp p w he).mono fun e w' ⟨N,h1,_,_,h4⟩=>⟨(_,_),h1,fin w' h4⟩
 | _ =>
  obtain ⟨tp,p,he⟩:=ht.err
  exact (Tryz.strconv_Atoi_syntax_var s ae ⟨by simp [hq],by simp [hq]⟩ tp p w he).mono fun e w' ⟨N,h1,_,_,h4⟩=>⟨(_,_),h1,fin w' h4⟩
end
end Go.Proofs.YtnmpibjlnninjaaGreatDoor
