import Derived.Test.YtnmpibjlnninjaaGreatDoorKT28
import Derived.Test.YtnmpibjlnninjaaGreatDoorRows
import Derived.Stop.LaidErr
import Derived.Lib.LaidTab
import Derived.MakeChecks
namespace Go.Proofs.YtnmpibjlnninjaaGreatDoor
set_option linter.unusedVariables false
set_option linter.unusedSimpArgs false
set_option maxRecDepth 100000
set_option maxHeartbeats 90000000
section
open Go Go.RowKit
attribute [local irreducible] Run Rg Rq Qt Qa Stp Dg Do Dm bN
theorem zq (aW aS aT aU:Value)(r:aA)(w:World)(own:List Nat)(H:HN w own [] [ah.ls aW r.aj,ah.ls aS r.Things,ah.ls aT r.Held,ah.ls aU r.Notes])(hk:Ok r)(hI:Inv r):RS Tryz.prog 32 #[.agg #[aW,aS,aT,aU,iV r.ag,iV r.ai]] H (aK r) (fun s (z:Value×Value×Value×Value) => .agg #[z.1,z.2.1,z.2.2.1,z.2.2.2,iV s.ag,iV s.ai]) (fun _ _=>[]) (fun s z=>[ah.ls z.1 s.aj,ah.ls z.2.1 s.Things,ah.ls z.2.2.1 s.Held,ah.ls z.2.2.2 s.Notes]):=by
 have bS:=H.aZ 0 rfl
 have bH:=H.aZ 1 rfl
 have cu:=H.aZ 2 rfl
 have bT:=H.aZ 3 rfl
 have bw:=hk.wl;have bt:=hk.tl;have bh:=hk.hl;have bn:=hk.nl;have wN:=hk.w0;have wO:=hk.w1;have wP:=hk.t0;have wQ:=hk.t1
 refine R.eN H ?_
 refine R.nb fun b1=>?_
 refine R.nb fun b2=>?_
 refine R.loop (fun g_:Nat×Value×(List ak)=>[(1,pV b1),(2,pV b2),(3,iV (g_.1:Int))]) (fun g_=>[ah.box b2 sR 48,ah.box b1 [g_.2.1,aS,aT,aU,iV r.ag,iV r.ai] 48,ah.held w own]) (fun g_=>[ah.ls g_.2.1 g_.2.2,ah.ls aW r.aj,ah.ls aS r.Things,ah.ls aT r.Held,ah.ls aU r.Notes]) (fun g_=>g_.1<=r.Notes.length/\g_.2.2=fE (r.Notes.take g_.1) r.aj) (fun g_=>r.Notes.length-g_.1) (0,aW,r.aj) O (by exact ⟨ae,rfl⟩) (sF O) (dE [0,1,2] [0,0,1,2,3] O) ?_
 rintro ⟨j,vw,ws⟩ ⟨hj1,HW⟩
 dsimp only at *
 have hws:ws.length<=2000:=by rw [HW];exact Nat.le_trans (r6 _ _) hk.wl
 have hwt:cb ws:=by rw [HW];exact qa _ _ hI.tree
 refine U ?_
 refine C (j<r.Notes.length) ?_ ?_ <;> intro h1
 .
  obtain ⟨x1,hx1⟩:=gE r.Notes j
  refine U ?_
  refine C (0<x1.ak) ?_ ?_ <;> intro h2
  .
   refine R.dC (fuel:=11) [0,2] O O mixed O<|D.l [0,2,4] [0,2] ct O<|U ?_
   refine D.two (i:=1) (j:=3) O O ?_ ?_
   .
    refine Do.k [0,2] ct (q.ld 1 O O fZ O) ?_
    refine D.k 3 O [0,2] ct (q.ld 1 O O dh O) ?_
    refine D.l [5,6,7] [0,2] ct O<|U ?_
    refine D.p 8 O [1,3] ct (s.nE Ir O O (fun w hw=>lK _ ws x1.ak w (hw.cq 0 O) ae af) O) fun v1=>?_
    refine D.l [9] [1,3] ct O<|U ?_
    refine D.p 10 O [1,3] ct (s.lr 2 _ O O O (fun w hw=>Sl.cL (hw.row 0 O)) (.inr ⟨fZ,rfl⟩) (fun w hw=>br (Sl.one (hw.row 0 O)) bV) O O O) fun _=>?_
    refine D.done<|U ?_
    refine R.mp (fun _ hw=>hw.aR 0 _ O O)<|R.back (j+1,v1,(without ws x1.ak)) O (by exact ⟨ae,by rw [l8 hx1,if_pos ae,HW]⟩) aG (sF O) (ck [0,1,2] zX O)
   refine Do.k [0,2] ct (q.ld 1 O O dh O) ?_
   refine D.l [5,6,7] [0,2] ct O<|U ?_
   refine D.k 1 O [0,2] ct (q.ld 1 O O fZ O) ?_
   refine D.p 8 O [1,3] ct (s.nE Ir O O (fun w hw=>lK _ ws x1.ak w (hw.cq 0 O) ae af) O) fun v2=>?_
   refine D.l [9] [1,3] ct O<|U ?_
   refine D.p 10 O [1,3] ct (s.lr 2 _ O O O (fun w hw=>Sl.cL (hw.row 0 O)) (.inr ⟨fZ,rfl⟩) (fun w hw=>br (Sl.one (hw.row 0 O)) bV) O O O) fun _=>?_
   refine D.done<|U ?_
   refine R.mp (fun _ hw=>hw.aR 0 _ O O)<|R.back (j+1,v2,(without ws x1.ak)) O (by exact ⟨ae,by rw [l8 hx1,if_pos ae,HW]⟩) aG (sF O) (ck [0,1,2] zX O)
  refine R.back (j+1,vw,ws) O (by exact ⟨ae,by rw [l8 hx1,if_neg ae,HW]⟩) aG (sF O) (ck [0,1,2] ct O)
 have hwq:ws=fE r.Notes r.aj:=by rw [HW,List.take_of_length_le ae]
 have hok:Ok (⟨ws,r.Things,r.Held,[],r.ag,r.ai⟩:aA):=⟨hws,hk.tl,hk.hl,Nat.zero_le _,by rw [hwq];exact uA _ _ hk.ri,hk.w0,hk.w1,hk.t0,hk.t1⟩
 have hqp:Pre (⟨ws,r.Things,r.Held,[],r.ag,r.ai⟩:aA):=by rw [hwq];exact hI.Ar
 refine U ?_
 refine R.s O (s.pre (fun _ hw=>hw.FR (α:=Note)) (s.aJ [0,1,2] [1,3,4,0] _ _ _ O O O Mb O O (fun w own hw H=>sG vw aS aT nS (⟨ws,r.Things,r.Held,[],r.ag,r.ai⟩:aA) w own H af af) O)) ?_
 rintro ⟨z1,z2,z3,z4⟩
 dsimp only
 refine U ?_
 have hz:aK r=(dF (⟨ws,r.Things,r.Held,[],r.ag,r.ai⟩:aA)):=by (unfold aK;rw [hwq])
 rw [hz]
 exact R.x1 (z1,z2,z3,z4) [2] [0,1,2,3]
theorem IJ (aW aS aT aU:Value)(r:aA)(a:eU)(w:World)(own:List Nat)(H:HN w own [] [ah.ls aW r.aj,ah.ls aS r.Things,ah.ls aT r.Held,ah.ls aU r.Notes])(hk:Ok r)(hI:Inv r):RS Tryz.prog 12 #[.agg #[aW,aS,aT,aU,iV r.ag,iV r.ai],.agg #[.string a.Kind,.string a.S,iV a.P.aB,iV a.P.Slot,iV a.Q.aB,iV a.Q.Slot,iV a.A,iV a.B,iV a.N,.int .u64 a.K,a.cv]] H (cJ r a) (fun s (z:Value×Value×Value×Value) => .tuple #[.agg #[z.1,z.2.1,z.2.2.1,z.2.2.2,iV s.1.ag,iV s.1.ai],iV s.2]) (fun _ _=>[]) (fun s z=>[ah.ls z.1 s.1.aj,ah.ls z.2.1 s.1.Things,ah.ls z.2.2.1 s.1.Held,ah.ls z.2.2.2 s.1.Notes]):=by
 have bS:=H.aZ 0 rfl
 have bH:=H.aZ 1 rfl
 have cu:=H.aZ 2 rfl
 have bT:=H.aZ 3 rfl
 refine R.eN H ?_
 refine R.nb fun b1=>?_
 refine R.nb fun b2=>?_
 refine R.nb fun b3=>?_
 refine C (a.Kind=⟨#[109,97,107,101]⟩) ?_ ?_ <;> intro h1
 .
  refine R.q (q.iQ O O h1) O<|U ?_
  refine R.s O (s.aJ aX aX _ _ _ O O O UI O O (fun w own hw H=>Kd aW aS aT aU r a.P a.A w own H af af) O) ?_
  rintro ⟨z1,z2,z3,z4⟩
  dsimp only
  refine U ?_
  rw [show cJ r a=_ from by unfold cJ;exact iE]
  exact R.x2 (z1,z2,z3,z4) [3] [0,1,2,3]
 refine R.q (q.iR O O h1) O<|U ?_
 refine C (a.Kind=⟨#[103,105,118,101]⟩) ?_ ?_ <;> intro h2
 .
  refine R.q (q.iQ O O h2) O<|U ?_
  refine R.s O (s.aJ aX aX _ _ _ O O O UJ O O (fun w own hw H=>Ke aW aS aT aU r a.P a.Q a.A a.B w own H af af) O) ?_
  rintro ⟨z5,z6,z7,z8⟩
  dsimp only
  refine U ?_
  rw [show cJ r a=_ from by unfold cJ;exact iE]
  exact R.x2 (z5,z6,z7,z8) [3] [0,1,2,3]
 refine R.q (q.iR O O h2) O<|U ?_
 refine C (a.Kind=⟨#[109,111,118,101]⟩) ?_ ?_ <;> intro h3
 .
  refine R.q (q.iQ O O h3) O<|U ?_
  refine R.s O (s.aJ aX aX _ _ _ O O O UK O O (fun w own hw H=>Kf aW aS aT aU r a.P a.A w own H af af) O) ?_
  rintro ⟨z9,lu,mG,z12⟩
  dsimp only
  refine U ?_
  rw [show cJ r a=_ from by unfold cJ;exact iE]
  exact R.x2 (z9,lu,mG,z12) [3] [0,1,2,3]
 refine R.q (q.iR O O h3) O<|U ?_
 refine C (a.Kind=⟨#[100,114,111,112]⟩) ?_ ?_ <;> intro h4
 .
  refine R.q (q.iQ O O h4) O<|U ?_
  refine R.s O (s.aJ aX aX _ _ _ O O O UL O O (fun w own hw H=>Kh aW aS aT aU r a.P w own H af af) O) ?_
  rintro ⟨nX,zA,FM,Ba⟩
  dsimp only
  refine U ?_
  rw [show cJ r a=_ from by unfold cJ;exact iE]
  exact R.x2 (nX,zA,FM,Ba) [3] [0,1,2,3]
 refine R.q (q.iR O O h4) O<|U ?_
 refine C (a.Kind=⟨#[114,101,118,111,107,101]⟩) ?_ ?_ <;> intro h5
 .
  refine R.q (q.iQ O O h5) O<|U ?_
  refine R.s O (s.aJ aX aX _ _ _ O O O UM O O (fun w own hw H=>FE aW aS aT aU r a.P w own H af af) O) ?_
  rintro ⟨z17,vK,zN,z20⟩
  dsimp only
  refine U ?_
  rw [show cJ r a=_ from by unfold cJ;exact iE]
  exact R.x2 (z17,vK,zN,z20) [3] [0,1,2,3]
 refine R.q (q.iR O O h5) O<|U ?_
 refine C (a.Kind=⟨#[119,114,105,116,101]⟩) ?_ ?_ <;> intro h6
 .
  refine R.q (q.iQ O O h6) O<|U ?_
  refine R.s O (s.aJ aX aX _ _ _ O O O UN O O (fun w own hw H=>G3 aW aS aT aU r a.P a.S w own H af af) O) ?_
  rintro ⟨z21,z22,z23,z24⟩
  dsimp only
  refine U ?_
  rw [show cJ r a=_ from by unfold cJ;exact iE]
  exact R.x2 (z21,z22,z23,z24) [3] [0,1,2,3]
 refine R.q (q.iR O O h6) O<|U ?_
 refine C (a.Kind=⟨#[115,101,110,100]⟩) ?_ ?_ <;> intro h7
 .
  refine R.q (q.iQ O O h7) O<|U ?_
  refine R.s O (s.aJ aX aX _ _ _ O O O UO O O (fun w own hw H=>Ki aW aS aT aU r a.P a.S a.A a.B w own H af af) O) ?_
  rintro ⟨z25,z26,z27,z28⟩
  dsimp only
  refine U ?_
  rw [show cJ r a=_ from by unfold cJ;exact iE]
  exact R.x2 (z25,z26,z27,z28) [3] [0,1,2,3]
 refine R.q (q.iR O O h7) O<|U ?_
 refine C (a.Kind=⟨#[116,97,107,101]⟩) ?_ ?_ <;> intro h8
 .
  refine R.q (q.iQ O O h8) O<|U ?_
  refine R.s O (s.aJ aX aX _ _ _ O O O UQ O O (fun w own hw H=>Kj aW aS aT aU r a.P w own H af af) O) ?_
  rintro ⟨z29,z30,z31,z32⟩
  dsimp only
  refine U ?_
  refine R.nb fun b4=>?_
  refine R.nb fun b5=>?_
  rw [show cJ r a=_ from by unfold cJ;exact iE]
  exact R.x2 (z29,z30,z31,z32) [5] [0,1,2,3]
 refine R.q (q.iR O O h8) O<|U ?_
 rw [show cJ r a=_ from by unfold cJ;exact iE]
 exact R.x2 (aW,aS,aT,aU) [3] [0,1,2,3]
end
section
open Go Go.RowKit
attribute [local irreducible] Run Rg Rq Qt Qa Stp Dg Do Dm bN
theorem zr {n:Int}(h:0<=n):Lib.itoa n=Lib.decDigits n.toNat:=wD h
theorem QX {n:Int}{k:Nat}(h:n=(k:Int)):u8 (48+n)=d8 k:=by
 unfold u8 d8;rw [h,show ((48:Int)+(k:Int)).toNat=48+k by omega]
theorem Ns {n:Int}(h0:0<=n)(h:n<10):(⟨[u8 (48+n)].toArray⟩:ByteArray)=dx n:=by
 unfold dx;rw [zr h0,Oh ae,QX (k:=n.toNat) ae]
theorem vf {n:Int}(h:10<=n):dx (n / 10)++(⟨[u8 (48+n % 10)].toArray⟩:ByteArray)=dx n:=by
 refine gX ?_
 rw [ByteArray.data_append,Array.toList_append]
 show Lib.itoa (n / 10)++[u8 (48+n % 10)]=Lib.itoa n
 rw [zr ae,zr ae,Lr n.toNat,if_neg ae,QX (k:=n.toNat % 10) ae,show (n / 10).toNat=n.toNat / 10 by omega]
theorem wT {n:Int}(h:0<=n/\n<=9223372036854775807):(dx n).size<=21:=tZ ae
theorem Nt (j:Nat)(s:ByteArray):(⟨#[48]⟩:ByteArray)++((⟨(Lib.repeatL [48] j).toArray⟩:ByteArray)++s)=(⟨(Lib.repeatL [48] (j+1)).toArray⟩:ByteArray)++s:=by
 refine gX ?_
 simp [ByteArray.data_append,Lib.repeatL]
theorem Nu (s:ByteArray):s=(⟨(Lib.repeatL [48] 0).toArray⟩:ByteArray)++s:=by
 refine gX ?_
 simp [ByteArray.data_append,Lib.repeatL]
theorem Kk {n:Int}{s:ByteArray}{j:Nat}(hs:s=(⟨(Lib.repeatL [48] j).toArray⟩:ByteArray)++dx n)(hz:s.size=j+(dx n).size)(hj:j=0∨s.size<=4)(h:¬ s.size<4):bm n=s:=by
 unfold bm;rw [show 4-(dx n).size=j by omega];exact hs.symm
theorem Nv (n:Int)(w:World)(hn:0<=n/\n<=9223372036854775807)(ih:∀ (m:Int) (w:World),0<=m/\m<n->Calls Tryz.prog 55 #[iV m] w fun e w'=>e = .returned (.string (dx m))/\Ext w w'):Calls Tryz.prog 55 #[iV n] w fun e w'=>e = .returned (.string (dx n))/\Ext w w':=by
 refine R.eV ?_
 refine C (n<10) ?_ ?_ <;> intro h1
 .
  refine R.q (q.mJ (r:=(48+n)) O (by rw [Tryz.underlying3];rfl) Tryz.underlying5 (sZ ae)) O<|R.s O (s.bs (l:=([u8 (48+n)]:List UInt8)) aM dH O O O O O (bO (eR ae) eM) O) fun b1=>?_
  refine R.q (q.jg (cm 0 O) O aM Tryz.underlying5 Tryz.underlying9) O<|U ?_
  refine R.rt ?_
  (exact Ns ae ae)
 refine R.dC (fuel:=11) [] O O mixed O<|D.l [0,1,3,4,5,6] [] [] O<|U ?_
 refine Dm.yy O O (q.quo (r:=n / 10) O O ae (rR ae)) O<|U ?_
 refine Dm.yy O O (q.rem (r:=n % 10) O O ae (rm ae)) O<|U ?_
 refine Dm.yy O O (q.mJ (r:=(48+(n % 10))) O (by rw [Tryz.underlying3];rfl) Tryz.underlying5 (sZ ae)) O<|U ?_
 refine D.two (i:=2) (j:=7) O O ?_ ?_
 .
  refine Do.p [] [] (s.c (q.call EB O O (fun w hw=>ih (n / 10) w ae)) O) fun _=>?_
  refine D.p 7 O [] [] (s.bs (l:=([u8 (48+(n % 10))]:List UInt8)) aM dH O O O O O (bO (eR ae) eM) O) fun b2=>?_
  refine D.k 8 O [] [] (q.jg (cm 0 O) O aM Tryz.underlying5 Tryz.underlying9) ?_
  refine D.l [9,10] [] [] O<|Dm.yy O O (q.cat O O (by have:=wT (n:=n / 10) ae;(simp only [ByteArray.size_append,da,List.length_cons,List.length_nil];omega))) O<|U ?_
  refine D.done<|R.rt ?_
  (exact vf ae)
 refine Do.p [] [] (s.bs (l:=([u8 (48+(n % 10))]:List UInt8)) aM dH O O O O O (bO (eR ae) eM) O) fun b3=>?_
 refine D.two (i:=2) (j:=8) O O ?_ ?_
 .
  refine Do.p [] [] (s.c (q.call EB O O (fun w hw=>ih (n / 10) w ae)) O) fun _=>?_
  refine D.k 8 O [] [] (q.jg (cm 0 O) O aM Tryz.underlying5 Tryz.underlying9) ?_
  refine D.l [9,10] [] [] O<|Dm.yy O O (q.cat O O (by have:=wT (n:=n / 10) ae;(simp only [ByteArray.size_append,da,List.length_cons,List.length_nil];omega))) O<|U ?_
  refine D.done<|R.rt ?_
  (exact vf ae)
 refine Do.k [] [] (q.jg (cm 0 O) O aM Tryz.underlying5 Tryz.underlying9) ?_
 refine D.p 2 O [] [] (s.c (q.call EB O O (fun w hw=>ih (n / 10) w ae)) O) fun _=>?_
 refine D.l [9,10] [] [] O<|Dm.yy O O (q.cat O O (by have:=wT (n:=n / 10) ae;(simp only [ByteArray.size_append,da,List.length_cons,List.length_nil];omega))) O<|U ?_
 refine D.done<|R.rt ?_
 (exact vf ae)
theorem IK:∀ (k:Nat) (n:Int) (w:World),0<=n/\n<=9223372036854775807/\n.toNat<k->Calls Tryz.prog 55 #[.int .i64 n] w fun e w'=>e = .returned (.string (dx n))/\Ext w w'
 | 0,n,w,h=>absurd h.2.2 (Nat.not_lt_zero _)
 | k+1,n,w,h=>Nv n w ⟨h.1,h.2.1⟩ fun m w2 hm=>IK k m w2 ⟨hm.1,ae,ae⟩
theorem CY (n:Int)(w:World)(hn:0<=n/\n<=9223372036854775807):Calls Tryz.prog 55 #[.int .i64 n] w fun e w'=>e = .returned (.string (dx n))/\Ext w w':=IK _ n w ⟨hn.1,hn.2,Nat.lt_succ_self _⟩
theorem gV (n:Int)(w:World)(hn:0<=n/\n<=9223372036854775807):Calls Tryz.prog 67 #[iV n] w fun e w'=>e = .returned (.string (bm n))/\Ext w w':=by
 have il:=wT hn
 refine R.eV ?_
 refine R.kc O O (fun w hw=>CY n w ae)<|U ?_
 refine R.loop (fun g_:Nat×ByteArray=>[(3,.string g_.2)]) (fun g_=>[]) (fun g_=>[]) (fun g_=>g_.2=(⟨(Lib.repeatL [48] g_.1).toArray⟩:ByteArray)++dx n/\g_.2.size=g_.1+(dx n).size/\(g_.1=0∨g_.2.size<=4)) (fun g_=>4-g_.1) (0,(dx n)) O (by dsimp only;exact ⟨Nu _,ae,.inl O⟩) (sF O) (dE [] [] O) ?_
 rintro ⟨j,s1⟩ ⟨hs,hz,hj⟩
 dsimp only at *
 refine U ?_
 refine C (s1.size<4) ?_ ?_ <;> intro h1
 .
  refine R.q (q.cat O O (by simp only [ByteArray.size_append,da,List.length_cons,List.length_nil];omega)) O<|U ?_
  refine R.back (j+1,((⟨#[48]⟩:ByteArray)++s1)) O (by (try dsimp only);exact ⟨by rw [hs];exact Nt j _,by simp only [ByteArray.size_append,da,List.length_cons,List.length_nil];omega,.inr (by simp only [ByteArray.size_append,da,List.length_cons,List.length_nil];omega)⟩) aG (sF O) (dE [] [] O)
 refine R.rt ?_
 (exact (Kk hs hz hj ae).symm)
theorem vg (aW aS aT aU:Value)(r:aA)(w:World)(own:List Nat)(H:HN w own [] [ah.ls aW r.aj,ah.ls aS r.Things,ah.ls aT r.Held,ah.ls aU r.Notes])(hk:Ok r)(hI:Inv r):RC Tryz.prog 27 #[.agg #[aW,aS,aT,aU,iV r.ag,iV r.ai]] H (fun z:Value=>z) (fun z=>[ah.row 115 z (aQ r)]) (fun _=>[]):=by
 have bS:=H.aZ 0 rfl
 have bH:=H.aZ 1 rfl
 have cu:=H.aZ 2 rfl
 have bT:=H.aZ 3 rfl
 have bw:=hk.wl;have bt:=hk.tl;have bh:=hk.hl;have bn:=hk.nl;have wN:=hk.w0;have wO:=hk.w1;have wP:=hk.t0;have wQ:=hk.t1
 have hq:=(gq hI).1.Yk
 have hn:=hq.n;have nM:=hq.i.nM;have pI:=hq.i.pI;have oF:=hq.i.oF;have oG:=hq.i.oG;have hl0:=p9 hq.i;have Zt:=hq.i.ia;have Zu:=(gq hI).2.2.2.1
 refine R.eN H ?_
 refine R.nb fun b1=>?_
 refine R.s O (s.aJ [0,1] aX _ _ _ O O O Qr O O (fun w own hw H=>zq aW aS aT aU r w own H af af) O) ?_
 rintro ⟨z1,z2,z3,z4⟩
 dsimp only
 refine U ?_
 refine R.row0 (α:=Change) 115<|R.loop (fun g_:Nat×Value×(List Change)=>[(1,pV b1),(3,g_.2.1),(4,iV (g_.1:Int))]) (fun g_=>[ah.row 115 g_.2.1 g_.2.2,ah.box b1 [z1,z2,z3,z4,iV (aK r).ag,iV (aK r).ai] 48,ah.held w own]) (fun g_=>[ah.ls z1 (aK r).aj,ah.ls z2 (aK r).Things,ah.ls z3 (aK r).Held,ah.ls z4 (aK r).Notes,ah.ls aW r.aj,ah.ls aS r.Things,ah.ls aT r.Held,ah.ls aU r.Notes]) (fun g_=>g_.1<=(aK r).Held.length/\g_.2.2=((aK r).Held.take g_.1).map hrow) (fun g_=>(aK r).Held.length-g_.1) (0,nS,[]) O (by exact ⟨ae,rfl⟩) (sF O) (dE [0,1,2] bL O) ?_
 rintro ⟨k,u,l⟩ ⟨hk_,HL⟩
 dsimp only at *
 have ll:l.length<=24:=by rw [HL,List.length_map,List.length_take];omega
 refine U ?_
 refine C (k<(aK r).Held.length) ?_ ?_ <;> intro h1
 .
  obtain ⟨x1,hx1⟩:=gE (aK r).Held k
  have OJ:=hq.h _ (List.mem_of_getElem? hx1);have X4:=bG (hq.i.H5 (List.mem_of_getElem? hx1)).1
  refine U ?_
  refine R.nb fun b2=>?_
  refine R.dC (fuel:=18) [0,2,3] O O mixed O<|D.l [0,1,2,3,6,7,8,11,12] [0,2,3] bL O<|U ?_
  refine D.p 4 O [0,2,3] bL (s.c (q.call EB O O (fun w hw=>CY x1.Place.aB w ae)) O) fun _=>?_
  refine D.l [5] [0,2,3] bL O<|Dm.yy O O (q.cat O O (by simp only [ByteArray.size_append,da,List.length_cons,List.length_nil];omega)) O<|U ?_
  refine D.p 9 O [0,2,3] bL (s.c (q.call EB O O (fun w hw=>CY x1.Place.Slot w ae)) O) fun _=>?_
  refine D.l [10] [0,2,3] bL O<|Dm.yy O O (q.cat O O (by simp only [ByteArray.size_append,da,List.length_cons,List.length_nil];omega)) O<|U ?_
  refine D.p 13 O [0,2,3] bL (s.c (q.call rL O O (fun w hw=>gV x1.ak w ae)) O) fun _=>?_
  refine D.l [14] [0,2,3] bL O<|U ?_
  refine D.p 15 O [1,3,4] bL (s.bs (l:=([(⟨(⟨#[104]⟩++dx x1.Place.aB)++dx x1.Place.Slot,bm x1.ak,false⟩:Change)]:List Change)) bX bR O O O O O O O) fun b3=>?_
  refine D.p 16 O [1,3,4] bL (s.app 2 _ O O O (cm 0 O) je aE aE (fun _=>rfl) O) fun v1=>?_
  refine D.l [17] [1,3,4] bL O<|U ?_
  refine D.done<|U ?_
  refine R.back (k+1,v1,(l++([(⟨(⟨#[104]⟩++dx x1.Place.aB)++dx x1.Place.Slot,bm x1.ak,false⟩:Change)]))) O (by exact ⟨ae,by rw [lq hrow hx1,<- HL];rfl⟩) aG (sF O) (ck [2,3,4] bL O)
 refine R.loop (fun g_:Nat×Value×(List Change)=>[(1,pV b1),(3,g_.2.1),(6,iV (g_.1:Int))]) (fun g_=>[ah.row 115 g_.2.1 g_.2.2,ah.box b1 [z1,z2,z3,z4,iV (aK r).ag,iV (aK r).ai] 48,ah.held w own]) (fun g_=>[ah.ls z1 (aK r).aj,ah.ls z2 (aK r).Things,ah.ls z3 (aK r).Held,ah.ls z4 (aK r).Notes,ah.ls aW r.aj,ah.ls aS r.Things,ah.ls aT r.Held,ah.ls aU r.Notes]) (fun g_=>g_.1<=(aK r).Things.length/\g_.2.2=(aK r).Held.map hrow++((aK r).Things.take g_.1).map kr) (fun g_=>(aK r).Things.length-g_.1) (0,u,l) O (by exact ⟨ae,by rw [HL,oc _ ae];exact (List.append_nil _).symm⟩) (sF O) (dE [0,1,2] bL O) ?_
 rintro ⟨j,u2,l2⟩ ⟨hj,HL2⟩
 dsimp only at *
 have Xw:l2.length<=34:=by rw [HL2,List.length_append,List.length_map,List.length_map,List.length_take];omega
 refine U ?_
 refine C (j<(aK r).Things.length) ?_ ?_ <;> intro h2
 .
  obtain ⟨x2,hx2⟩:=gE (aK r).Things j
  have Wm:=hq.t _ (List.mem_of_getElem? hx2)
  refine U ?_
  refine R.nb fun b4=>?_
  refine R.dC (fuel:=15) [0,2,3] O O mixed O<|D.l [0,1,2,5,6,8,9] [0,2,3] bL O<|U ?_
  refine D.p 3 O [0,2,3] bL (s.c (q.call rL O O (fun w hw=>gV x2.ID w ae)) O) fun _=>?_
  refine D.l [4] [0,2,3] bL O<|Dm.yy O O (q.cat O O (by simp only [ByteArray.size_append,da,List.length_cons,List.length_nil];omega)) O<|U ?_
  refine D.p 7 O [0,2,3] bL (s.c (q.call rL O O (fun w hw=>gV x2.Kind w ae)) O) fun _=>?_
  refine D.l [10,11] [0,2,3] bL O<|Dm.yy O O (q.cat O O ae) O<|U ?_
  refine D.p 12 O [1,3,4] bL (s.bs (l:=([(⟨⟨#[116]⟩++bm x2.ID,bm x2.Kind++x2.Data,false⟩:Change)]:List Change)) bX bR O O O O O O O) fun b5=>?_
  refine D.p 13 O [1,3,4] bL (s.app 2 _ O O O (cm 0 O) je aE aE (fun _=>rfl) O) fun v2=>?_
  refine D.l [14] [1,3,4] bL O<|U ?_
  refine D.done<|U ?_
  refine R.back (j+1,v2,(l2++([(⟨⟨#[116]⟩++bm x2.ID,bm x2.Kind++x2.Data,false⟩:Change)]))) O (by exact ⟨ae,by rw [lq kr hx2,<- List.append_assoc,<- HL2];rfl⟩) aG (sF O) (ck [2,3,4] bL O)
 refine R.loop (fun g_:Nat×Value×(List Change)=>[(1,pV b1),(3,g_.2.1),(8,iV (g_.1:Int))]) (fun g_=>[ah.row 115 g_.2.1 g_.2.2,ah.box b1 [z1,z2,z3,z4,iV (aK r).ag,iV (aK r).ai] 48,ah.held w own]) (fun g_=>[ah.ls z1 (aK r).aj,ah.ls z2 (aK r).Things,ah.ls z3 (aK r).Held,ah.ls z4 (aK r).Notes,ah.ls aW r.aj,ah.ls aS r.Things,ah.ls aT r.Held,ah.ls aU r.Notes]) (fun g_=>g_.1<=(aK r).aj.length/\g_.2.2=(aK r).Held.map hrow++(aK r).Things.map kr++((aK r).aj.take g_.1).map mK) (fun g_=>(aK r).aj.length-g_.1) (0,u2,l2) O (by exact ⟨ae,by rw [HL2,oc _ ae];exact (List.append_nil _).symm⟩) (sF O) (dE [0,1,2] bL O) ?_
 rintro ⟨i,u3,l3⟩ ⟨hi,S3⟩
 dsimp only at *
 have Zv:l3.length<=58:=by rw [S3,List.length_append,List.length_append,List.length_map,List.length_map,List.length_map,List.length_take];omega
 refine U ?_
 refine C (i<(aK r).aj.length) ?_ ?_ <;> intro h3
 .
  obtain ⟨x3,hx3⟩:=gE (aK r).aj i
  have Zw:=hq.w _ (List.mem_of_getElem? hx3)
  refine U ?_
  refine R.nb fun b6=>?_
  refine R.dC (fuel:=24) [0,2,3] O O mixed O<|D.l [0,1,2,5,6,8,9,12,13,16,17] [0,2,3] bL O<|U ?_
  refine D.p 3 O [0,2,3] bL (s.c (q.call rL O O (fun w hw=>gV x3.ID w ae)) O) fun _=>?_
  refine D.l [4] [0,2,3] bL O<|Dm.yy O O (q.cat O O (by simp only [ByteArray.size_append,da,List.length_cons,List.length_nil];omega)) O<|U ?_
  refine D.p 7 O [0,2,3] bL (s.c (q.call rL O O (fun w hw=>gV x3.av w ae)) O) fun _=>?_
  refine D.p 10 O [0,2,3] bL (s.c (q.call rL O O (fun w hw=>gV x3.Rights w ae)) O) fun _=>?_
  refine D.l [11] [0,2,3] bL O<|Dm.yy O O (q.cat O O ae) O<|U ?_
  refine D.p 14 O [0,2,3] bL (s.c (q.call rL O O (fun w hw=>gV x3.aO w ae)) O) fun _=>?_
  refine D.l [15] [0,2,3] bL O<|Dm.yy O O (q.cat O O (by simp only [ByteArray.size_append,da,List.length_cons,List.length_nil];omega)) O<|U ?_
  refine D.p 18 O [0,2,3] bL (s.c (q.call rL O O (fun w hw=>gV x3.From w ae)) O) fun _=>?_
  refine D.l [19,20] [0,2,3] bL O<|Dm.yy O O (q.cat O O (by simp only [ByteArray.size_append,da,List.length_cons,List.length_nil];omega)) O<|U ?_
  refine D.p 21 O [1,3,4] bL (s.bs (l:=([(⟨⟨#[119]⟩++bm x3.ID,((bm x3.av++bm x3.Rights)++bm x3.aO)++bm x3.From,false⟩:Change)]:List Change)) bX bR O O O O O O O) fun b7=>?_
  refine D.p 22 O [1,3,4] bL (s.app 2 _ O O O (cm 0 O) je aE aE (fun _=>rfl) O) fun v3=>?_
  refine D.l [23] [1,3,4] bL O<|U ?_
  refine D.done<|U ?_
  refine R.back (i+1,v3,(l3++([(⟨⟨#[119]⟩++bm x3.ID,((bm x3.av++bm x3.Rights)++bm x3.aO)++bm x3.From,false⟩:Change)]))) O (by exact ⟨ae,by rw [lq mK hx3,<- List.append_assoc,<- S3];rfl⟩) aG (sF O) (ck [2,3,4] bL O)
 refine R.dC (fuel:=12) [1,2] O O mixed O<|D.l [0,1,2,4,5] [1,2] bL O<|U ?_
 refine D.p 3 O [1,2] bL (s.c (q.call rL O O (fun w hw=>gV (aK r).ag w ae)) O) fun _=>?_
 refine D.p 6 O [1,2] bL (s.c (q.call rL O O (fun w hw=>gV (aK r).ai w ae)) O) fun _=>?_
 refine D.l [7,8] [1,2] bL O<|Dm.yy O O (q.cat O O ae) O<|U ?_
 refine D.p 9 O [2,3] bL (s.bs (l:=([(⟨⟨#[120]⟩,bm (aK r).ag++bm (aK r).ai,false⟩:Change)]:List Change)) bX bR O O O O O O O) fun b8=>?_
 refine D.p 10 O [2,3] bL (s.app 1 _ O O O (cm 0 O) je aE aE (fun _=>rfl) O) fun v4=>?_
 refine D.l [11] [2,3] bL O<|U ?_
 refine D.done ?_
 have hz:aQ r=(l3++([(⟨⟨#[120]⟩,bm (aK r).ag++bm (aK r).ai,false⟩:Change)])):=by (unfold aQ rowsOf;rw [S3,oc _ ae];rfl)
 rw [hz]
 exact R.x1 v4 [1,3] []
theorem i6 {α:Type}{l:List α}{i:Nat}{x:α}(h:l[i]? = some x):l.drop i=x::l.drop (i+1):=by
 obtain ⟨h1,h2⟩:=List.getElem?_eq_some_iff.1 h
 rw [List.drop_eq_getElem_cons h1,h2]
section
variable {a b:List Change} {i k:Nat} {x y:Change} {L:List Change}
theorem Nw (hm:L++bj (a.drop i) (b.drop k)=bj a b)(hx:a[i]? = some x)(hk:k=b.length):(L++[⟨x.Key,⟨#[]⟩,true⟩])++bj (a.drop (i+1)) (b.drop k)=bj a b:=by
 rw [<- hm,i6 hx,List.drop_of_length_le (l:=b) ae,Az,List.append_assoc];rfl
theorem PG (hm:L++bj (a.drop i) (b.drop k)=bj a b)(hx:a[i]? = some x)(hy:b[k]? = some y)(h:fR x.Key y.Key=true):(L++[⟨x.Key,⟨#[]⟩,true⟩])++bj (a.drop (i+1)) (b.drop k)=bj a b:=by
 rw [<- hm,i6 hx,i6 hy,l9,if_pos h,List.append_assoc];rfl
theorem PH (hm:L++bj (a.drop i) (b.drop k)=bj a b)(hy:b[k]? = some y)(hi:i=a.length):(L++[y])++bj (a.drop i) (b.drop (k+1))=bj a b:=by
 rw [<- hm,List.drop_of_length_le (l:=a) ae,lQ,lQ,i6 hy,List.append_assoc];rfl
theorem Ta (hm:L++bj (a.drop i) (b.drop k)=bj a b)(hx:a[i]? = some x)(hy:b[k]? = some y)(h:fR x.Key y.Key=false)(h2:fR y.Key x.Key=true):(L++[y])++bj (a.drop i) (b.drop (k+1))=bj a b:=by
 rw [<- hm,i6 hx,i6 hy,l9,if_neg (by rw [h];decide),if_pos h2,List.append_assoc];rfl
theorem PK (hm:L++bj (a.drop i) (b.drop k)=bj a b)(hx:a[i]? = some x)(hy:b[k]? = some y)(h:fR x.Key y.Key=false)(h2:fR y.Key x.Key=false)(he:x=y):L++bj (a.drop (i+1)) (b.drop (k+1))=bj a b:=by
 rw [<- hm,i6 hx,i6 hy,l9,if_neg (by rw [h];decide),if_neg (by rw [h2];decide),if_pos he]
theorem PL (hm:L++bj (a.drop i) (b.drop k)=bj a b)(hx:a[i]? = some x)(hy:b[k]? = some y)(h:fR x.Key y.Key=false)(h2:fR y.Key x.Key=false)(he:¬ x=y):(L++[y])++bj (a.drop (i+1)) (b.drop (k+1))=bj a b:=by
 rw [<- hm,i6 hx,i6 hy,l9,if_neg (by rw [h];decide),if_neg (by rw [h2];decide),if_neg he,List.append_assoc];rfl
end
theorem CZ (wK:Value)(a:List Change)(yB:Value)(b:List Change)(w:World)(own:List Nat)(H:HN w own [] [ah.ls wK a,ah.ls yB b])(hl:a.length<=1000/\b.length<=1000):RC Tryz.prog 41 #[wK,yB] H (fun z:Value=>z) (fun z=>[ah.row 115 z (bj a b)]) (fun _=>[]):=by
 have Zz:=H.aZ 0 rfl
 have ZA:=H.aZ 1 rfl
 refine R.eN H ?_
 refine R.row0 (α:=Change) 115<|R.loop (fun g_:Nat×Nat×Value×(List Change)=>[(0,wK),(1,yB),(5,g_.2.2.1),(6,iV (g_.1:Int)),(7,iV (g_.2.1:Int))]) (fun g_=>[ah.row 115 g_.2.2.1 g_.2.2.2,ah.held w own]) (fun g_=>[ah.ls wK a,ah.ls yB b]) (fun g_=>g_.1<=a.length/\g_.2.1<=b.length/\g_.2.2.2.length<=g_.1+g_.2.1/\g_.2.2.2++bj (a.drop g_.1) (b.drop g_.2.1)=bj a b) (fun g_=>(a.length-g_.1)+(b.length-g_.2.1)) (0,0,nS,[]) O (by dsimp only;exact ⟨ae,ae,bC,rfl⟩) (sF O) (dE [0,1] [0,1] O) ?_
 rintro ⟨i,k,u,l⟩ ⟨hi,hk,hll,HM⟩
 dsimp only at *
 refine U ?_
 refine C (i<a.length) ?_ ?_ <;> intro h1
 .
  refine C (k=b.length) ?_ ?_ <;> intro h2
  .
   refine R.cG O mixed ao<|U ?_
   obtain ⟨x1,hx1⟩:=gE a i
   refine U ?_
   refine R.s O (s.bs (l:=([(⟨x1.Key,⟨#[]⟩,true⟩:Change)]:List Change)) bX bR O O O O O O O) fun b1=>?_
   refine R.ap fun v1=>?_
   refine R.back ((i+1),k,v1,(l++([(⟨x1.Key,⟨#[]⟩,true⟩:Change)]))) O (by (try dsimp only);exact ⟨ae,ae,aE,by exact Nw HM hx1 ae⟩) aG (sF O) (ck [1,2] [0,1] O)
  obtain ⟨x2,hx2⟩:=gE a i
  obtain ⟨x3,hx3⟩:=gE b k
  rcases Bool.eq_false_or_eq_true (fR x2.Key x3.Key) with h3|h3
  .
   refine R.cG O mixed ao<|U ?_
   refine Q.qg O (q.NS O O h3) O<|U ?_
   refine R.s O (s.bs (l:=([(⟨x2.Key,⟨#[]⟩,true⟩:Change)]:List Change)) bX bR O O O O O O O) fun b2=>?_
   refine R.ap fun v2=>?_
   refine R.back ((i+1),k,v2,(l++([(⟨x2.Key,⟨#[]⟩,true⟩:Change)]))) O (by (try dsimp only);exact ⟨ae,ae,aE,by exact PG HM hx2 af af⟩) aG (sF O) (ck [1,2] [0,1] O)
  refine R.cG O mixed ao<|U ?_
  refine Q.qg O (q.NS O O h3) O<|U ?_
  rcases Bool.eq_false_or_eq_true (fR x3.Key x2.Key) with h4|h4
  .
   refine R.cG O mixed ao<|U ?_
   refine Q.qg O (q.NS O O h4) O<|U ?_
   refine R.s O (s.bs (l:=([x3]:List Change)) bX bR O O O O O O O) fun b3=>?_
   refine R.ap fun v3=>?_
   refine R.back (i,k+1,v3,(l++([x3]))) O (by (try dsimp only);exact ⟨ae,ae,aE,by exact Ta HM af hx3 af af⟩) aG (sF O) (ck [1,2] [0,1] O)
  refine R.cG O mixed ao<|U ?_
  refine Q.qg O (q.NS O O h4) O<|U ?_
  refine C (x2=x3) ?_ ?_ <;> intro h5
  .
   refine R.cG O mixed ao<|U ?_
   refine Q.q (q.j3 (x:=x2) (y:=x3) Ct O O h5) O<|U ?_
   refine R.back ((i+1),k+1,u,l) O (by (try dsimp only);exact ⟨ae,ae,ae,by exact PK HM hx2 hx3 af af af⟩) aG (sF O) (ck [0,1] [0,1] O)
  refine R.cG O mixed ao<|U ?_
  refine Q.q (q.j4 (x:=x2) (y:=x3) Ct O O h5) O<|U ?_
  refine R.s O (s.bs (l:=([x3]:List Change)) bX bR O O O O O O O) fun b4=>?_
  refine R.ap fun v4=>?_
  refine R.back ((i+1),k+1,v4,(l++([x3]))) O (by (try dsimp only);exact ⟨ae,ae,aE,by exact PL HM hx2 hx3 af af af⟩) aG (sF O) (ck [1,2] [0,1] O)
 refine C (k<b.length) ?_ ?_ <;> intro h6
 .
  refine R.cG O mixed ao<|U ?_
  refine R.cG O mixed ao<|U ?_
  obtain ⟨x4,hx4⟩:=gE b k
  refine U ?_
  refine R.s O (s.bs (l:=([x4]:List Change)) bX bR O O O O O O O) fun b5=>?_
  refine R.ap fun v5=>?_
  refine R.back (i,k+1,v5,(l++([x4]))) O (by (try dsimp only);exact ⟨ae,ae,aE,by exact PH HM hx4 ae⟩) aG (sF O) (ck [1,2] [0,1] O)
 rw [show bj a b=_ from by (rewrite [List.drop_of_length_le (l:=a) ae,List.drop_of_length_le (l:=b) ae,lQ,List.append_nil] at HM;exact HM.symm) <;> rfl]
 exact R.x1 u [0,1] []
end
section
open Go Go.RowKit
attribute [local irreducible] Run Rg Rq Qt Qa Stp Dg Do Dm bN
attribute [local irreducible] bF cj bg jE dM dNew cJ gU iY lH
theorem Kl (many:Int)(w:World)(own:List Nat)(H:HN w own [] [])(hn:1<=many/\many<=1000):RC Tryz.prog 8 #[iV many] H (fun z:Nat×Value×Value×Value×Value×Nat×Value=>pV z.1) (fun z=>[ah.box z.1 [pV z.2.2.2.2.2.1,z.2.1,z.2.2.1,z.2.2.2.1,z.2.2.2.2.1,iV (⟨(⟨[],[],[],[],1,1⟩:aA)⟩:jV).R.ag,iV (⟨(⟨[],[],[],[],1,1⟩:aA)⟩:jV).R.ai] 50,ah.box z.2.2.2.2.2.1 [z.2.2.2.2.2.2,iV (lH (⟨[],0,many⟩:jv) (aQ (⟨[],[],[],[],1,1⟩:aA))).1.Used,iV (lH (⟨[],0,many⟩:jv) (aQ (⟨[],[],[],[],1,1⟩:aA))).1.Many] 41]) (fun z=>[ah.ls z.2.1 ((⟨(⟨[],[],[],[],1,1⟩:aA)⟩:jV).R.aj:List ak),ah.ls z.2.2.1 ((⟨(⟨[],[],[],[],1,1⟩:aA)⟩:jV).R.Things:List av),ah.ls z.2.2.2.1 ((⟨(⟨[],[],[],[],1,1⟩:aA)⟩:jV).R.Held:List Held),ah.ls z.2.2.2.2.1 ((⟨(⟨[],[],[],[],1,1⟩:aA)⟩:jV).R.Notes:List Note),ah.ls z.2.2.2.2.2.2 ((lH (⟨[],0,many⟩:jv) (aQ (⟨[],[],[],[],1,1⟩:aA))).1.Rows:List Change)]):=by
 obtain ⟨manyN,Gx⟩:∃m:Nat,many=(m:Int):=⟨many.toNat,ae⟩;subst Gx
 have n1:=GQ;have n2:=hY;have n3:=gQ hY
 refine R.eN H ?_
 refine R.nb fun b1=>?_
 refine R.s O (s.aJ [0,1] [] _ _ _ O O O UF O O (fun w own hw H=>Kc w own H) O) ?_
 rintro ⟨z1,z2,z3,z4⟩
 dsimp only
 refine R.q (q.Bu Ux O (fun w hw=>kB O (kB O Bs)) O) O<|R.nb fun b2=>?_
 refine R.dC (fuel:=10) [0,2] O O mixed O<|D.l bL [0,2] aX O<|U ?_
 refine D.p 8 O [1,3] aX (s.aJ [0,1,2] aX _ _ _ O O O L8 O O (fun w own hw H=>vg z1 z2 z3 z4 (⟨[],[],[],[],1,1⟩:aA) w own H af af) O) fun z7=>?_
 refine D.p 9 O [1,2] [3,4,5,6] (s.pre (fun _ hw=>hw.FR (α:=Change)) (s.pre (fun _ hw=>hw.aR 0 _ O O) (s.aJ [1,0,2] [1,0] _ _ _ O O O Qo O O (fun w own hw H=>vO b1 nS (⟨[],0,(manyN:Int)⟩:jv) z7 (aQ (⟨[],[],[],[],1,1⟩:aA)) w own H (by (refine ⟨?_,?_,?_,?_,?_,?_⟩ <;> first|omega|decide|(simp;done)|(simp;omega)))) O))) fun z8=>?_
 refine D.done<|U ?_
 have hz:((⟨(⟨[],[],[],[],1,1⟩:aA)⟩:jV),(lH (⟨[],0,((manyN:Nat):Int)⟩:jv) (aQ (⟨[],[],[],[],1,1⟩:aA))).1)=((⟨(⟨[],[],[],[],1,1⟩:aA)⟩:jV),(lH (⟨[],0,(manyN:Int)⟩:jv) (aQ (⟨[],[],[],[],1,1⟩:aA))).1):=by (rfl)
 have hz0:(lH (⟨[],0,((manyN:Nat):Int)⟩:jv) (aQ (⟨[],[],[],[],1,1⟩:aA))).1=(lH (⟨[],0,(manyN:Int)⟩:jv) (aQ (⟨[],[],[],[],1,1⟩:aA))).1:=congrArg (fun t_=>t_.2) hz
 rw [hz0]
 exact R.x1 (b2,z1,z2,z3,z4,b1,z8) [1,0,2] [3,4,5,6,0]
theorem Km (JW:Nat)(C0 C2 C4 C5:Value)(QY:Nat)(m:jV)(w:World)(own:List Nat)(H:HN w own [ah.box JW [pV QY,C0,C2,C4,C5,iV m.R.ag,iV m.R.ai] 50] [ah.ls C0 m.R.aj,ah.ls C2 m.R.Things,ah.ls C4 m.R.Held,ah.ls C5 m.R.Notes])(hk:Ok m.R)(hI:Inv m.R):RS Tryz.prog 11 #[pV JW] H (⟨aK m.R⟩:jV) (fun _ (_:Value×Value×Value×Value) => .tuple #[]) (fun s z=>[ah.box JW [pV QY,z.1,z.2.1,z.2.2.1,z.2.2.2,iV s.R.ag,iV s.R.ai] 50]) (fun s z=>[ah.ls z.1 s.R.aj,ah.ls z.2.1 s.R.Things,ah.ls z.2.2.1 s.R.Held,ah.ls z.2.2.2 s.R.Notes]):=by
 have FG:=H.aZ 0 rfl
 have C6:=H.aZ 1 rfl
 have G4:=H.aZ 2 rfl
 have FH:=H.aZ 3 rfl
 refine R.eN H ?_
 refine R.s O (s.aJ [0,1] aX _ _ _ O O O Qr O O (fun w own hw H=>zq C0 C2 C4 C5 m.R w own H af af) O) ?_
 rintro ⟨z1,z2,z3,z4⟩
 dsimp only
 refine U ?_
 exact R.x0 (z1,z2,z3,z4) [0,1] [0,1,2,3]
theorem PN (JW:Nat)(C0 C2 C4 C5:Value)(m:jV)(aW aS aT aU:Value)(r:aA)(f:Int)(Nx:Nat)(qD:Value)(ms:jv)(w:World)(own:List Nat)(H:HN w own [ah.box JW [pV Nx,C0,C2,C4,C5,iV m.R.ag,iV m.R.ai] 50,ah.box Nx [qD,iV ms.Used,iV ms.Many] 41] [ah.ls C0 m.R.aj,ah.ls C2 m.R.Things,ah.ls C4 m.R.Held,ah.ls C5 m.R.Notes,ah.ls aW r.aj,ah.ls aS r.Things,ah.ls aT r.Held,ah.ls aU r.Notes,ah.ls qD ms.Rows])(hb:0<=ms.Many/\ms.Many<=1000/\0<=ms.Used/\ms.Used<=1000/\ms.Rows.length<=1000)(hk:Ok m.R)(hI:Inv m.R)(h0:0<=f)(hz:f=0->Ok r/\Inv r):RS Tryz.prog 13 #[pV JW,.agg #[aW,aS,aT,aU,iV r.ag,iV r.ai],iV f] H (iY m ms (r,f)) (fun s (_:Value×Value×Value×Value×Value)=>iV s.2.2) (fun s z=>[ah.box JW [pV Nx,z.1,z.2.1,z.2.2.1,z.2.2.2.1,iV s.1.R.ag,iV s.1.R.ai] 50,ah.box Nx [z.2.2.2.2,iV s.2.1.Used,iV s.2.1.Many] 41]) (fun s z=>[ah.ls z.1 s.1.R.aj,ah.ls z.2.1 s.1.R.Things,ah.ls z.2.2.1 s.1.R.Held,ah.ls z.2.2.2.1 s.1.R.Notes,ah.ls z.2.2.2.2 s.2.1.Rows]):=by
 have FG:=H.aZ 0 rfl
 have C6:=H.aZ 1 rfl
 have G4:=H.aZ 2 rfl
 have FH:=H.aZ 3 rfl
 have bS:=H.aZ 4 rfl
 have bH:=H.aZ 5 rfl
 have cu:=H.aZ 6 rfl
 have bT:=H.aZ 7 rfl
 have Tx:=H.aZ 8 rfl
 have g0:=gQ hI;have g3:=fun (h:f=0)=>gQ (hz h).2;have gm:=fun (h:f=0)=>(M8 hI (hz h).2)
 refine R.eN H ?_
 refine R.nb fun b1=>?_
 refine C (0<f) ?_ ?_ <;> intro h1
 .
  rw [show iY m ms (r,f)=_ from by rewrite [QO (m:=m) (ms:=ms) (z:=(r,f)) af] <;> rfl]
  exact R.x1 (C0,C2,C4,C5,qD) [1,2,3] [0,1,2,3,8]
 obtain ⟨hk2,hI2⟩:=hz ae;have g4:=g3 ae;have g5:=gm ae
 refine U ?_
 refine R.dC (fuel:=9) aX O O mixed O<|D.l rD aX cy O<|U ?_
 refine D.p 4 O [1,2,3,4] cy (s.aJ aX aX _ _ _ O O O L8 O O (fun w own hw H=>vg C0 C2 C4 C5 m.R w own H af af) O) fun z4=>?_
 refine D.p 6 O [2,3,4,5] cy (s.aJ ct [4,5,6,7] _ _ _ O O O L8 O O (fun w own hw H=>vg aW aS aT aU r w own H af af) O) fun z5=>?_
 refine D.p 7 O [3,4,5,6] cy (s.Bv (Bl:=[ah.row 115 z4 (aQ m.R),ah.row 115 z5 (aQ r)]) (Fl:=[ah.ls z4 (aQ m.R),ah.ls z5 (aQ r)]) [1,0,2,3,4,5] [0,1] (fun jo:Value=>jo) (fun jo:Value=>[ah.row 115 jo (bj (aQ m.R) (aQ r))]) O O (lN (lN s7)) O UR O O (fun w own hw H=>CZ z4 (aQ m.R) z5 (aQ r) w own H ae) O) fun z6=>?_
 refine D.l [8] [3,4,5,6] cy O<|U ?_
 refine D.done<|U ?_
 refine C (0<(bj (aQ m.R) (aQ r)).length) ?_ ?_ <;> intro h2
 .
  refine R.s O (s.pre (fun _ hw=>hw.aR 0 _ O O) (s.aJ [4,0,1,2,3,5] [9,0] _ _ _ O O O Qo O O (fun w own hw H=>vO Nx qD ms z6 (bj (aQ m.R) (aQ r)) w own H ae) O)) fun z7=>?_
  refine U ?_
  refine C (0<(lH ms (bj (aQ m.R) (aQ r))).2) ?_ ?_ <;> intro h3
  .
   rw [show iY m ms (r,f)=_ from by rewrite [VO (m:=m) (ms:=ms) (z:=(r,f)) af af af] <;> rfl]
   exact R.x1 (C0,C2,C4,C5,z7) [4,0,5] [2,3,4,5,0]
  rw [show iY m ms (r,f)=_ from by rewrite [QR (m:=m) (ms:=ms) (z:=(r,f)) af af af] <;> rfl]
  exact R.x1 (aW,aS,aT,aU,z7) [4,0,5] [6,7,8,9,0]
 rw [show iY m ms (r,f)=_ from by rewrite [QP (m:=m) (ms:=ms) (z:=(r,f)) af af] <;> rfl]
 exact R.x1 (aW,aS,aT,aU,qD) [4,5,6] [4,5,6,7,8]
end
section
open Go Go.RowKit
attribute [local irreducible] Run Rg Rq Qt Qa Stp Dg Do Dm bN
attribute [local irreducible] bF cj bg jE dM dNew cJ gU
theorem FJ (w:World)(own:List Nat)(H:HN w own [] [eh]):RC Tryz.prog 7 #[] H (fun z:Nat×Value×Value×Value×Nat×Value×Value×Value×Value×Nat×Value×Nat => .tuple #[pV z.1,pV z.2.2.2.2.1,.bool true]) (fun z=>[ah.box z.1 [z.2.1,z.2.2.1,z.2.2.2.1,iV gL.Fuse,.bool gL.Down] 120,ah.row 9 z.2.1 gL.Kept,ah.row 9 z.2.2.1 gL.Now,ah.row 196 z.2.2.2.1 gL.Wait,ah.box z.2.2.2.2.1 [pV z.2.2.2.2.2.2.2.2.2.1,z.2.2.2.2.2.1,z.2.2.2.2.2.2.1,z.2.2.2.2.2.2.2.1,z.2.2.2.2.2.2.2.2.1,iV ft.R.ag,iV ft.R.ai] 78,ah.box z.2.2.2.2.2.2.2.2.2.1 [pV z.1,iV gx.Epoch,iV gx.Side,iV gx.Size,iV gx.First,pV z.2.2.2.2.2.2.2.2.2.2.2,z.2.2.2.2.2.2.2.2.2.2.1] 132,ah.box z.2.2.2.2.2.2.2.2.2.2.2 [pV z.1,iV ml.From,iV ml.Many,iV ml.First,iV ml.Next] 193]) (fun z=>[ah.ls z.2.2.2.2.2.1 ft.R.aj,ah.ls z.2.2.2.2.2.2.1 ft.R.Things,ah.ls z.2.2.2.2.2.2.2.1 ft.R.Held,ah.ls z.2.2.2.2.2.2.2.2.1 ft.R.Notes,ah.ls z.2.2.2.2.2.2.2.2.2.2.1 gx.Rows]):=by
 obtain ⟨w1,w2,w3,w4,w5,u0,w6⟩:=CJ;have w7:=w6.anew ae;have w8:=w6.pre ae
 have x1:(rA (dNew (Int.toNat 170))).2.2=0:=w1;have x2:(rA (dNew (Int.toNat 170))).2.1.Down=false:=w7.1;have x3:jE (rA (dNew (Int.toNat 170))).2.1=0:=w7.2.1;have x4:fx (rA (dNew (Int.toNat 170))).2.1.Now.length 90000 (rA (dNew (Int.toNat 170))).2.1/\(rA (dNew (Int.toNat 170))).2.1.Now.length<=200:=w7.2.2.1;have x5:(bQ (bg (rA (dNew (Int.toNat 170))).2.1).c.Rows).2=0:=w7.2.2.2.1;have x6:(bg (rA (dNew (Int.toNat 170))).2.1).c.Rows.length<=60 /\ ∀c∈(bg (rA (dNew (Int.toNat 170))).2.1).c.Rows,c.Key.size<=1000/\c.Val.size<=1000:=w7.2.2.2.2.1
 refine R.eN H ?_
 refine R.s O (s.aJ [0] [] _ _ _ O O O UD O O (fun w own hw H=>Mu 170 w own H ae) O) ?_
 rintro ⟨z1,z2,z3,z4⟩
 dsimp only
 refine U ?_
 refine R.s O (s.aJ ct [0] _ _ _ O O O UE O O (fun w own hw H=>FC z1 z2 z3 z4 (dNew (Int.toNat 170)) w own H eF) O) ?_
 rintro ⟨z5,z6,z7⟩
 dsimp only
 refine U ?_
 refine R.s O (s.aJ ct [0] _ _ _ O O O L5 O O (fun w own hw H=>u7 z1 z5 z6 z7 (rA (dNew (Int.toNat 170))).2.1 w own H af af af af af) O) ?_
 rintro ⟨z8,z9,lu,mG,z12,nX,zA,FM,Ba,z17,vK⟩
 dsimp only
 refine U ?_
 have hz:(gL,ft,gx,ml)=(((rA (dNew (Int.toNat 170))).2.1),(⟨(bQ (bg (rA (dNew (Int.toNat 170))).2.1).c.Rows).1⟩:lj),(bg (rA (dNew (Int.toNat 170))).2.1).c,(bg (rA (dNew (Int.toNat 170))).2.1).L):=by (rfl)
 have hz0:gL=(rA (dNew (Int.toNat 170))).2.1:=congrArg (fun t_=>t_.1) hz
 rw [hz0]
 have hz1:ft=(⟨(bQ (bg (rA (dNew (Int.toNat 170))).2.1).c.Rows).1⟩:lj):=congrArg (fun t_=>t_.2.1) hz
 rw [hz1]
 have hz2:gx=(bg (rA (dNew (Int.toNat 170))).2.1).c:=congrArg (fun t_=>t_.2.2.1) hz
 rw [hz2]
 have hz3:ml=(bg (rA (dNew (Int.toNat 170))).2.1).L:=congrArg (fun t_=>t_.2.2.2) hz
 rw [hz3]
 exact R.x3 (z1,z8,z9,lu,mG,z12,nX,zA,FM,Ba,z17,vK) bL [0,1,2,3,4]
theorem G5 {d:bZ}{sc:gZ}{lg:Lg}{u:Nat}{k:lj}{a:eU}(h:KI d sc lg nR u 1)(hf:d.Fuse = -1)(e:k.R=nR)(h1:a.Kind=(⟨#[109,97,107,101]⟩:ByteArray))(h2:a.P=⟨1,0⟩)(h3:a.A=1) :
 (gU k sc d lg (cJ k.R a)).2.2.2.2=0 /\ ∃z u1,KI (gU k sc d lg (cJ k.R a)).2.2.1 (gU k sc d lg (cJ k.R a)).2.1 (gU k sc d lg (cJ k.R a)).2.2.2.1 z u1 2/\(aK z).Things.length=1/\Ok (aK z):=by
 have hd:cJ nR a=(⟨[⟨1,1,7,0,0⟩],[⟨1,1,⟨#[]⟩⟩],[⟨⟨1,0⟩,1⟩],[],2,2⟩,0):=by unfold cJ;rw [if_pos h1,h2,h3];exact SZ
 have h0:(cJ nR a).2=0:=by rw [hd]
 obtain ⟨_,b⟩:=h.do (z:=cJ nR a) ae (wM h.inv a)
 have ek:k=⟨nR⟩:=by rw [<- e]
 rw [e,ek]
 have hs:Sz 1 (cJ nR a).1:=Lc Sz.new a
 rcases b h0 with ⟨c1,c2,c3,u2,c4⟩ | ⟨_,_,c3,_⟩
 .
  refine ⟨c1,_,u2,c4,?_,(Ea hs).ok ae⟩
  rw [xW c4.inv (by rw [hd])]
  rw [hd];rfl
 exact absurd hf c3
end
section
open Go Go.RowKit
attribute [local irreducible] Run Rg Rq Qt Qa Stp Dg Do Dm bN
attribute [local irreducible] bF cj bg jE dM dNew cJ gU iY lH bQ
theorem Kn (w:World)(ht:Fi w):Calls Tryz.prog 5 #[] w fun e w'=>e = .returned (.bool true)/\Ext w w':=by
 obtain ⟨w1,w2,w3,w4,w5,u0,w6⟩:=CJ;have w7:=w6.anew ae;have w8:=w6.pre ae
 have wi:Inv ft.R:=w5.symm▸hY;have wo:Ok ft.R:=w5.symm▸GQ;obtain ⟨wa,wb,wc,wd⟩:=w8;have wz:(cJ ft.R (⟨⟨#[109,97,107,101]⟩,⟨#[]⟩,⟨1,0⟩,⟨0,0⟩,1,0,0,0,none,0,0,[]⟩:eU)).2=0->Ok (cJ ft.R (⟨⟨#[109,97,107,101]⟩,⟨#[]⟩,⟨1,0⟩,⟨0,0⟩,1,0,0,0,none,0,0,[]⟩:eU)).1:=QN (k:=0) (w5.symm▸Sz.new) _ ae
 obtain ⟨v1,z1,u1,v2,v3,v13⟩:=G5 w6 w2 w5 (a:=(⟨⟨#[109,97,107,101]⟩,⟨#[]⟩,⟨1,0⟩,⟨0,0⟩,1,0,0,0,none,0,0,[]⟩:eU)) rfl rfl rfl;have v4:=v2.anew ae;obtain ⟨v5,v6,v7,v8,v9,v10,v11⟩:=v4;have v12:(bQ (bg (gU ft gx gL ml (cJ ft.R (⟨⟨#[109,97,107,101]⟩,⟨#[]⟩,⟨1,0⟩,⟨0,0⟩,1,0,0,0,none,0,0,[]⟩:eU))).2.2.1).c.Rows).1.Things.length=1:=(by rw [v10];exact v3);have v14:Ok (bQ (bg (gU ft gx gL ml (cJ ft.R (⟨⟨#[109,97,107,101]⟩,⟨#[]⟩,⟨1,0⟩,⟨0,0⟩,1,0,0,0,none,0,0,[]⟩:eU))).2.2.1).c.Rows).1:=(by rw [v10];exact v13)
 refine R.enter [] [] Tryz.func5 O O O O<|R.nH (r:=eh) ht (CP ht)<|U ?_
 refine R.s O (s.aJ [] [0] _ _ _ O O O UA O O (fun w own hw H=>FJ w own H) O) ?_
 rintro ⟨z1,z2,z3,z4,z5,z6,z7,z8,z9,lu,mG,z12⟩
 dsimp only
 refine U ?_
 refine R.s O (s.aJ [4,5,0,1,2,3,6] mH _ _ _ O O O Qn O O (fun w own hw H=>zo z5 z6 z7 z8 z9 ft (⟨⟨#[109,97,107,101]⟩,⟨#[]⟩,⟨1,0⟩,⟨0,0⟩,1,0,0,0,none,0,0,[]⟩:eU) lu mG gx z1 z2 z3 z4 gL z12 ml w own H af af ae af af af af) O) ?_
 rintro ⟨nX,zA,FM,Ba,z17,vK,zN,z20,z21⟩
 dsimp only
 refine U ?_
 refine R.s O (s.aJ [2,3,4,5,0,1,6] [10] _ _ _ O O O L5 O O (fun w own hw H=>u7 z1 vK zN z20 (gU ft gx gL ml (cJ ft.R (⟨⟨#[109,97,107,101]⟩,⟨#[]⟩,⟨1,0⟩,⟨0,0⟩,1,0,0,0,none,0,0,[]⟩:eU))).2.2.1 w own H af af af af af) O) ?_
 rintro ⟨z22,z23,z24,z25,z26,z27,z28,z29,z30,z31,z32⟩
 dsimp only
 refine U ?_
 refine R.s O (s.aJ [4,0,1,2,3,5,6,7,8,9] aX _ _ _ O O O Ip O O (fun w own hw H=>pg z25 z26 z27 z28 z29 z30 (⟨(bQ (bg (gU ft gx gL ml (cJ ft.R (⟨⟨#[109,97,107,101]⟩,⟨#[]⟩,⟨1,0⟩,⟨0,0⟩,1,0,0,0,none,0,0,[]⟩:eU))).2.2.1).c.Rows).1⟩:lj) w own H af) O) ?_
 rintro ⟨z33,z34,z35,z36,z37,z38,z39,z40⟩
 dsimp only
 refine U ?_
 refine R.rt ?_
 rfl
theorem C8 (bA:Value)(l:List eU)(w:World)(fC:Sl w bA l)(Jz:∀x∈l,Sl w x.cv x.Changes)(ht:Fi w):Calls Tryz.prog 3 #[bA] w fun e w'=>e = .returned (.bool true)/\Ext w w':=by
 have uO:=fC.dY
 refine R.enter [] [(0,bA)] Tryz.func3 O O O O<|R.nH (r:=eh) ht (CP ht)<|R.pQ fC<|R.nH (r:=ah.acts l) Jz (Hl Jz)<|U ?_
 refine R.kc O O (fun w hw=>Kn w (by exact hw.okF eh uc)) ?_
 refine U ?_
 rcases Bool.eq_false_or_eq_true (p8 l 60) with h1|h1
 .
  refine R.kc O O (fun w hw=>cv (congrArg Value.bool h1) (zh _ l 60 w (hw.cq 1 O) (hw.acts 0 O)))<|U ?_
  have hll:=F3 (l:=l) (most:=60) af
  obtain ⟨w1,w2,w3,w4,w5,u0,w6⟩:=CJ;have w7:=w6.anew ae;have w8:=w6.pre ae
  refine U ?_
  refine R.s O (s.aJ [] [2] _ _ _ O O O UA O O (fun w own hw H=>FJ w own H) O) ?_
  rintro ⟨z1,z2,z3,z4,z5,z6,z7,z8,z9,lu,mG,z12⟩
  dsimp only
  refine U ?_
  have wm:KM gx 2 M9:=SU;have w9:KI gL gx ml nR 2 1:=ln.2.2.2.2.2
  refine U ?_
  refine R.s O (s.aJ jF [] _ _ _ O O O WZ O O (fun w own hw H=>Kl 68 w own H ae) O) ?_
  rintro ⟨nX,zA,FM,Ba,z17,vK,zN⟩
  dsimp only
  refine U ?_
  refine R.loop (fun g_:Nat×Nat×bZ×Value×Value×Value×lj×Value×Value×Value×Value×Nat×gZ×Value×Nat×Lg×Nat×jV×Value×Value×Value×Value×jv×Value=>[(0,bA),(4,pV z1),(5,pV g_.2.2.2.2.2.2.2.2.2.2.2.1),(6,pV nX),(7,iV (g_.1:Int))]) (fun g_=>[ah.box nX [pV vK,g_.2.2.2.2.2.2.2.2.2.2.2.2.2.2.2.2.2.2.1,g_.2.2.2.2.2.2.2.2.2.2.2.2.2.2.2.2.2.2.2.1,g_.2.2.2.2.2.2.2.2.2.2.2.2.2.2.2.2.2.2.2.2.1,g_.2.2.2.2.2.2.2.2.2.2.2.2.2.2.2.2.2.2.2.2.2.1,iV g_.2.2.2.2.2.2.2.2.2.2.2.2.2.2.2.2.2.1.R.ag,iV g_.2.2.2.2.2.2.2.2.2.2.2.2.2.2.2.2.2.1.R.ai] 50,ah.box vK [g_.2.2.2.2.2.2.2.2.2.2.2.2.2.2.2.2.2.2.2.2.2.2.2,iV g_.2.2.2.2.2.2.2.2.2.2.2.2.2.2.2.2.2.2.2.2.2.2.1.Used,iV g_.2.2.2.2.2.2.2.2.2.2.2.2.2.2.2.2.2.2.2.2.2.2.1.Many] 41,ah.box z1 [g_.2.2.2.1,g_.2.2.2.2.1,g_.2.2.2.2.2.1,iV g_.2.2.1.Fuse,.bool g_.2.2.1.Down] 120,ah.row 9 g_.2.2.2.1 g_.2.2.1.Kept,ah.row 9 g_.2.2.2.2.1 g_.2.2.1.Now,ah.row 196 g_.2.2.2.2.2.1 g_.2.2.1.Wait,ah.box g_.2.2.2.2.2.2.2.2.2.2.2.1 [pV g_.2.2.2.2.2.2.2.2.2.2.2.2.2.2.1,g_.2.2.2.2.2.2.2.1,g_.2.2.2.2.2.2.2.2.1,g_.2.2.2.2.2.2.2.2.2.1,g_.2.2.2.2.2.2.2.2.2.2.1,iV g_.2.2.2.2.2.2.1.R.ag,iV g_.2.2.2.2.2.2.1.R.ai] 78,ah.box g_.2.2.2.2.2.2.2.2.2.2.2.2.2.2.1 [pV z1,iV g_.2.2.2.2.2.2.2.2.2.2.2.2.1.Epoch,iV g_.2.2.2.2.2.2.2.2.2.2.2.2.1.Side,iV g_.2.2.2.2.2.2.2.2.2.2.2.2.1.Size,iV g_.2.2.2.2.2.2.2.2.2.2.2.2.1.First,pV g_.2.2.2.2.2.2.2.2.2.2.2.2.2.2.2.2.1,g_.2.2.2.2.2.2.2.2.2.2.2.2.2.1] 132,ah.box g_.2.2.2.2.2.2.2.2.2.2.2.2.2.2.2.2.1 [pV z1,iV g_.2.2.2.2.2.2.2.2.2.2.2.2.2.2.2.1.From,iV g_.2.2.2.2.2.2.2.2.2.2.2.2.2.2.2.1.Many,iV g_.2.2.2.2.2.2.2.2.2.2.2.2.2.2.2.1.First,iV g_.2.2.2.2.2.2.2.2.2.2.2.2.2.2.2.1.Next] 193]) (fun g_=>[ah.ls g_.2.2.2.2.2.2.2.1 g_.2.2.2.2.2.2.1.R.aj,ah.ls g_.2.2.2.2.2.2.2.2.1 g_.2.2.2.2.2.2.1.R.Things,ah.ls g_.2.2.2.2.2.2.2.2.2.1 g_.2.2.2.2.2.2.1.R.Held,ah.ls g_.2.2.2.2.2.2.2.2.2.2.1 g_.2.2.2.2.2.2.1.R.Notes,ah.ls g_.2.2.2.2.2.2.2.2.2.2.2.2.2.1 g_.2.2.2.2.2.2.2.2.2.2.2.2.1.Rows,ah.ls g_.2.2.2.2.2.2.2.2.2.2.2.2.2.2.2.2.2.2.1 g_.2.2.2.2.2.2.2.2.2.2.2.2.2.2.2.2.2.1.R.aj,ah.ls g_.2.2.2.2.2.2.2.2.2.2.2.2.2.2.2.2.2.2.2.1 g_.2.2.2.2.2.2.2.2.2.2.2.2.2.2.2.2.2.1.R.Things,ah.ls g_.2.2.2.2.2.2.2.2.2.2.2.2.2.2.2.2.2.2.2.2.1 g_.2.2.2.2.2.2.2.2.2.2.2.2.2.2.2.2.2.1.R.Held,ah.ls g_.2.2.2.2.2.2.2.2.2.2.2.2.2.2.2.2.2.2.2.2.2.1 g_.2.2.2.2.2.2.2.2.2.2.2.2.2.2.2.2.2.1.R.Notes,ah.ls g_.2.2.2.2.2.2.2.2.2.2.2.2.2.2.2.2.2.2.2.2.2.2.2 g_.2.2.2.2.2.2.2.2.2.2.2.2.2.2.2.2.2.2.2.2.2.2.1.Rows,ah.ls zA ((⟨(⟨[],[],[],[],1,1⟩:aA)⟩:jV).R.aj:List ak),ah.ls FM ((⟨(⟨[],[],[],[],1,1⟩:aA)⟩:jV).R.Things:List av),ah.ls Ba ((⟨(⟨[],[],[],[],1,1⟩:aA)⟩:jV).R.Held:List Held),ah.ls z17 ((⟨(⟨[],[],[],[],1,1⟩:aA)⟩:jV).R.Notes:List Note),ah.ls zN ((lH (⟨[],0,68⟩:jv) (aQ (⟨[],[],[],[],1,1⟩:aA))).1.Rows:List Change),ah.ls z6 ft.R.aj,ah.ls z7 ft.R.Things,ah.ls z8 ft.R.Held,ah.ls z9 ft.R.Notes,ah.ls mG gx.Rows,ah.acts l,ah.ls bA l,eh]) (fun g_=>g_.1<=l.length/\KI g_.2.2.1 g_.2.2.2.2.2.2.2.2.2.2.2.2.1 g_.2.2.2.2.2.2.2.2.2.2.2.2.2.2.2.1 g_.2.2.2.2.2.2.1.R g_.2.1 (g_.1+1)/\g_.2.2.1.Fuse = -1/\Sz g_.1 g_.2.2.2.2.2.2.1.R/\g_.2.2.2.2.2.2.2.2.2.2.2.2.2.2.2.2.2.1.R=g_.2.2.2.2.2.2.1.R/\KM g_.2.2.2.2.2.2.2.2.2.2.2.2.1 g_.2.1 g_.2.2.2.2.2.2.2.2.2.2.2.2.2.2.2.2.2.2.2.2.2.2.1) (fun g_=>l.length-g_.1) (0,2,gL,z2,z3,z4,ft,z6,z7,z8,z9,z5,gx,mG,lu,ml,z12,(⟨(⟨[],[],[],[],1,1⟩:aA)⟩:jV),zA,FM,Ba,z17,(lH (⟨[],0,68⟩:jv) (aQ (⟨[],[],[],[],1,1⟩:aA))).1,zN) O (by (try dsimp only);exact ⟨ae,w5.symm▸w9,w2,w5.symm▸Sz.new,w5.symm,wm⟩) (sF O) (dE cy [5,6,7,8,9,0,1,2,3,4,0,1,2,3,4,5,6,7,8,9,10,11,12] O) ?_
  rintro ⟨i,u,em,t7,zt,t8,kc,PO,PQ,PS,PT,bk,sc,wU,bs,lg,bl,m,ze,C9,CN,CO,ms,ua⟩ ⟨hi,hV,hf,hS,hm,hM⟩
  dsimp only at *
  have hI:=hV.inv;have hk:=hS.ok ae;have g1:=hV.pre ae;obtain ⟨g2,g3,g4,g5⟩:=g1;have hI2:Inv m.R:=hm.symm▸hI;have hk2:Ok m.R:=hm.symm▸hk;have g6:=hM.small hV ae
  refine U ?_
  refine C (i<l.length) ?_ ?_ <;> intro h2
  .
   obtain ⟨x1,hx1⟩:=gE l i
   refine U ?_
   refine R.nb fun b1=>?_
   refine C (x1.Kind=⟨#[115,97,118,101]⟩) ?_ ?_ <;> intro h3
   .
    refine R.q (q.iQ O O h3) O<|U ?_
    have k1:=hV.save ae hf;obtain ⟨k2,k3,k4⟩:=k1;have e1:decide (kc.R=m.R)=true:=decide_eq_true hm.symm
    refine U ?_
    refine R.s O (s.aJ [7,8,3,4,5,6,9,0,1,2] ct _ _ _ O O O W2 O O (fun w own hw H=>J9 bk PO PQ PS PT kc bs wU sc z1 t7 zt t8 em bl lg w own H af af ae af) O) ?_
    rintro ⟨z20,z21,z22,z23,z24,z25,z26,z27,z28⟩
    dsimp only
    refine U ?_
    have h4:(decide (kc.R=m.R))=true:=by have Tb:(decide (kc.R=m.R))=true:=(by exact e1);simp only [Tb];done
    refine R.dC (fuel:=8) ly O O mixed O<|D.l zX ly [0,1,2,3,4,5,6,7,8,9,10,11,12,13,14,15,16,17,18,19,20,21,22,23,24,25,26,27] O<|U ?_
    refine D.p 1 O ly Kr (s.aJ j1 aX _ _ _ O O O Ip O O (fun w own hw H=>pg bk z20 z21 z22 z23 bs kc w own H af) O) ?_
    rintro ⟨z45,z46,z47,z48,z49,z50,z51,z52⟩
    dsimp only
    refine D.p 6 O ly Kr (s.c (q.call L6 O O (fun w hw=>cv (congrArg Value.bool h4) (nu _ _ _ _ kc.R _ _ _ _ m.R w (hw.cq 4 O) (hw.cq 5 O) (hw.cq 6 O) (hw.cq 7 O) (hw.cq 18 O) (hw.cq 19 O) (hw.cq 20 O) (hw.cq 21 O)))) O) fun _=>?_
    refine D.l [7] ly Kr O<|Dm.yy O O (q.not O) O<|U ?_
    refine D.done<|U ?_
    refine R.back (i+1,0,(cj (mkS sc lg) em).2.1,z25,z26,z27,kc,z45,z46,z47,z48,bk,(cj (mkS sc lg) em).1.c,z24,bs,(cj (mkS sc lg) em).1.L,z28,m,ze,C9,CN,CO,(⟨ms.Rows,0,ms.Many⟩:jv),ua) O (by (try dsimp only);exact ⟨ae,k4,k3,hS.up ae,hm,⟨hM.rows.trans (hV.rows.trans k4.rows.symm),rfl,hM.many⟩⟩) aG (sF O) (ck [8,9,2,3,4,5,0,1,6] [0,1,2,3,12,18,19,20,21,22,23,24,25,26,27,28,29,30,31,32,33,34,35] O)
   refine R.q (q.iR O O h3) O<|U ?_
   refine C (x1.Kind=⟨#[111,112,101,110]⟩) ?_ ?_ <;> intro h5
   .
    refine R.q (q.iQ O O h5) O<|U ?_
    have k1:=hV.anew ae;obtain ⟨v5,v6,v7,v8,v9,v10,v11⟩:=k1;have e1:decide ((bQ (bg em).c.Rows).1=aK m.R)=true:=decide_eq_true (by rw [v10,hm]);have sz:=Ea hS;have v12:Ok (bQ (bg em).c.Rows).1:=(by rw [v10];exact sz.ok ae);have v13:Ok (aK m.R):=(by rw [hm];exact sz.ok ae)
    refine U ?_
    refine R.s O (s.aJ [3,4,5,6,0,1,2,7,8,9] [22] _ _ _ O O O L5 O O (fun w own hw H=>u7 z1 t7 zt t8 em w own H af af af af af) O) ?_
    rintro ⟨z53,z54,z55,z56,z57,z58,z59,z60,z61,z62,z63⟩
    dsimp only
    refine U ?_
    refine R.s O (s.aJ [8,0,1,2,3,4,5,6,7,9,10,11,12] [10,11,12,13] _ _ _ O O O UB O O (fun w own hw H=>Km nX ze C9 CN CO vK m w own H af af) O) ?_
    rintro ⟨z64,z65,z66,z67⟩
    dsimp only
    refine U ?_
    have h6:(decide (((bQ (bg em).c.Rows).1)=(aK m.R)))=true:=by have Tb:(decide (((bQ (bg em).c.Rows).1)=(aK m.R)))=true:=(by exact e1);simp only [Tb];done
    refine R.dC (fuel:=8) [0,1,2,3,4,6,7,8,9,10,11,12] O O mixed O<|D.l zX [0,1,2,3,4,6,7,8,9,10,11,12] [0,1,2,3,4,5,6,7,8,9,10,11,12,13,14,15,16,17,18,19,20,21,22,23,24,25,26,27,28,29,30,31] O<|U ?_
    refine D.p 1 O [1,2,3,4,5,6,7,8,9,10,11,12] Ks (s.aJ [5,0,1,2,3,4,6,7,8,9,10,11,12] [4,5,6,7] _ _ _ O O O Ip O O (fun w own hw H=>pg z56 z57 z58 z59 z60 z61 (⟨(bQ (bg em).c.Rows).1⟩:lj) w own H af) O) ?_
    rintro ⟨z84,z85,z86,z87,z88,z89,z90,z91⟩
    dsimp only
    refine D.p 6 O [1,2,3,4,5,6,7,8,9,10,11,12] Ks (s.c (q.call L6 O O (fun w hw=>cv (congrArg Value.bool h6) (cv (show (.bool (decide (((bQ (bg em).c.Rows).1)=(⟨aK m.R⟩:jV).R)):Value) = .bool (decide (((bQ (bg em).c.Rows).1)=(aK m.R))) from O) (nu _ _ _ _ (bQ (bg em).c.Rows).1 _ _ _ _ (⟨aK m.R⟩:jV).R w (hw.cq 4 O) (hw.cq 5 O) (hw.cq 6 O) (hw.cq 7 O) (hw.cq 8 O) (hw.cq 9 O) (hw.cq 10 O) (hw.cq 11 O))))) O) fun _=>?_
    refine D.l [7] [1,2,3,4,5,6,7,8,9,10,11,12] Ks O<|Dm.yy O O (q.not O) O<|U ?_
    refine D.done<|U ?_
    refine R.back (i+1,u,em,z53,z54,z55,(⟨(bQ (bg em).c.Rows).1⟩:lj),z84,z85,z86,z87,z56,(bg em).c,z62,z61,(bg em).L,z63,(⟨aK m.R⟩:jV),z64,z65,z66,z67,ms,ua) O (by (try dsimp only);exact ⟨ae,by rw [v10];exact v11.up ae,hf,by rw [v10];exact sz.up ae,by rw [v10,hm],⟨hM.rows.trans (hV.rows.trans ((yk hI).symm.trans v11.rows.symm)),hM.used,hM.many⟩⟩) aG (sF O) (ck [1,9,2,3,4,5,0,6,7] [0,1,2,3,16,8,9,10,11,26,27,28,29,30,31,32,33,34,35,36,37,38,39] O)
   refine R.q (q.iR O O h5) O<|U ?_
   have zc0:=qZ (r:=kc.R) x1;have zi:=wM hI x1;have hzx:=QN hS x1 ae;have k1:=JY (m:=m) hV ae hf hM hm hS x1;obtain ⟨k2,k3,k4,u2,k5,k6,k7⟩:=k1;have k8:Ok (gU kc sc em lg (cJ kc.R x1)).1.R:=k7.ok ae;have zm:=qZ (r:=m.R) x1;have k9:0<=(gU kc sc em lg (cJ kc.R x1)).2.2.2.2:=(by rw [k2];exact GR);have hzm:(cJ m.R x1).2=0->Ok (cJ m.R x1).1/\Inv (cJ m.R x1).1:=(by rw [hm];exact fun q=>⟨hzx q,(zi q).1⟩);have e1:decide ((gU kc sc em lg (cJ kc.R x1)).1.R=(iY m ms ((cJ m.R x1).1,(cJ m.R x1).2)).1.R)=true:=decide_eq_true k3.symm;have e2:decide ((gU kc sc em lg (cJ kc.R x1)).2.2.2.2=(iY m ms ((cJ m.R x1).1,(cJ m.R x1).2)).2.2)=true:=decide_eq_true k2
   refine R.cut 1 (fun g_:Value×Value×Value×Value×Nat=>[(0,bA),(4,pV z1),(5,pV bk),(6,pV nX),(7,iV (i:Int)),(8,pV b1),(11,pV g_.2.2.2.2),(12,iV (cJ m.R x1).2)]) (fun g_:Value×Value×Value×Value×Nat=>[ah.box g_.2.2.2.2 [g_.1,g_.2.1,g_.2.2.1,g_.2.2.2.1,iV (cJ m.R x1).1.ag,iV (cJ m.R x1).1.ai] 48,ah.box b1 (FT x1) 36,ah.box nX [pV vK,ze,C9,CN,CO,iV m.R.ag,iV m.R.ai] 50,ah.box vK [ua,iV ms.Used,iV ms.Many] 41,ah.box z1 [t7,zt,t8,iV em.Fuse,.bool em.Down] 120,ah.row 9 t7 em.Kept,ah.row 9 zt em.Now,ah.row 196 t8 em.Wait,ah.box bk [pV bs,PO,PQ,PS,PT,iV kc.R.ag,iV kc.R.ai] 78,ah.box bs [pV z1,iV sc.Epoch,iV sc.Side,iV sc.Size,iV sc.First,pV bl,wU] 132,ah.box bl [pV z1,iV lg.From,iV lg.Many,iV lg.First,iV lg.Next] 193]) (fun g_:Value×Value×Value×Value×Nat=>[ah.ls g_.1 (cJ m.R x1).1.aj,ah.ls g_.2.1 (cJ m.R x1).1.Things,ah.ls g_.2.2.1 (cJ m.R x1).1.Held,ah.ls g_.2.2.2.1 (cJ m.R x1).1.Notes,ah.ls PO kc.R.aj,ah.ls PQ kc.R.Things,ah.ls PS kc.R.Held,ah.ls PT kc.R.Notes,ah.ls wU sc.Rows,ah.ls ze m.R.aj,ah.ls C9 m.R.Things,ah.ls CN m.R.Held,ah.ls CO m.R.Notes,ah.ls ua ms.Rows,ah.ls zA ((⟨(⟨[],[],[],[],1,1⟩:aA)⟩:jV).R.aj:List ak),ah.ls FM ((⟨(⟨[],[],[],[],1,1⟩:aA)⟩:jV).R.Things:List av),ah.ls Ba ((⟨(⟨[],[],[],[],1,1⟩:aA)⟩:jV).R.Held:List Held),ah.ls z17 ((⟨(⟨[],[],[],[],1,1⟩:aA)⟩:jV).R.Notes:List Note),ah.ls zN ((lH (⟨[],0,68⟩:jv) (aQ (⟨[],[],[],[],1,1⟩:aA))).1.Rows:List Change),ah.ls z6 ft.R.aj,ah.ls z7 ft.R.Things,ah.ls z8 ft.R.Held,ah.ls z9 ft.R.Notes,ah.ls mG gx.Rows,ah.acts l,ah.ls bA l,eh]) (fun g_:Value×Value×Value×Value×Nat=>True) O O O ?_ ?_
   .
    refine R.dC (fuel:=12) j1 O O mixed O<|D.l ct j1 [0,1,2,3,4,5,6,7,8,9,10,11,12,13,14,15,16,17,18,19,20,21,22] O<|U ?_
    refine D.two (i:=5) (j:=9) O O ?_ ?_
    .
     refine Do.p j1 sQ (s.aJ j1 [5,6,7,8] _ _ _ O O O Qm O O (fun w own hw H=>IJ ze C9 CN CO m.R x1 w own H af af) O) ?_
     rintro ⟨XA,z105,XB,z107⟩
     dsimp only
     refine D.l [6,7,8] j1 sQ O<|U ?_
     refine D.p 9 O mM sQ (s.alloc yl O O) fun b5=>?_
     refine D.p 10 O mM sQ (s.lr 0 _ O O O (fun _ _=>rfl) (.inl jc) (fun w hw=>xg (hw.cq 0 O) (hw.cq 1 O) (hw.cq 2 O) (hw.cq 3 O) O O) O O O) fun _=>?_
     refine D.l [11] mM sQ O<|U ?_
     exact D.done<|R.meet (XA,z105,XB,z107,b5) O G6 (sF O) (dE sJ [0,1,2,3,4,5,6,7,8,9,10,11,12,13,14,15,16,17,18,19,20,21,22,23,24,25,26] O)
    refine Do.p mM [0,1,2,3,4,5,6,7,8,9,10,11,12,13,14,15,16,17,18,19,20,21,22] (s.alloc yl O O) fun b6=>?_
    refine D.p 5 O mM sQ (s.aJ sJ [5,6,7,8] _ _ _ O O O Qm O O (fun w own hw H=>IJ ze C9 CN CO m.R x1 w own H af af) O) ?_
    rintro ⟨XC,z109,XD,XE⟩
    dsimp only
    refine D.l [6,7,8] mM sQ O<|U ?_
    refine D.p 10 O mM sQ (s.lr 0 _ O O O (fun _ _=>rfl) (.inl jc) (fun w hw=>xg (hw.cq 0 O) (hw.cq 1 O) (hw.cq 2 O) (hw.cq 3 O) O O) O O O) fun _=>?_
    refine D.l [11] mM sQ O<|U ?_
    exact D.done<|R.meet (XC,z109,XD,XE,b6) O G6 (sF O) (dE sJ [0,1,2,3,4,5,6,7,8,9,10,11,12,13,14,15,16,17,18,19,20,21,22,23,24,25,26] O)
   rintro ⟨ZD,ZE,ZF,ZG,b3⟩ _
   dsimp only
   refine U ?_
   refine R.s O (s.aJ [2,3,0,1,4,5,6,7,8,9,10] [9,10,11,12,0,1,2,3,13] _ _ _ O O O UC O O (fun w own hw H=>PN nX ze C9 CN CO m ZD ZE ZF ZG (cJ m.R x1).1 (cJ m.R x1).2 vK ua ms w own H ae af af af af) O) ?_
   rintro ⟨XF,XG,XH,XI,z116⟩
   dsimp only
   refine U ?_
   refine R.s O (s.aJ [8,9,4,5,6,7,10,0,1,2,3] [9,10,11,12,13,31] _ _ _ O O O Qn O O (fun w own hw H=>zo bk PO PQ PS PT kc x1 bs wU sc z1 t7 zt t8 em bl lg w own H af af ae af af af af) O) ?_
   rintro ⟨z117,XJ,z119,XK,XL,XM,XO,z124,XP⟩
   dsimp only
   refine U ?_
   have h7:(decide (((gU kc sc em lg (cJ kc.R x1)).2.2.2.2)=(iY m ms (((cJ m.R x1).1),(cJ m.R x1).2)).2.2))=true:=by have Tb:(decide (((gU kc sc em lg (cJ kc.R x1)).2.2.2.2)=(iY m ms (((cJ m.R x1).1),(cJ m.R x1).2)).2.2))=true:=(by exact e2);simp only [Tb];done
   refine R.kc O O (fun w hw=>cv (congrArg Value.bool h7) (Nf (gU kc sc em lg (cJ kc.R x1)).2.2.2.2 (iY m ms (((cJ m.R x1).1),(cJ m.R x1).2)).2.2 w ae))<|U ?_
   have h8:(decide (((gU kc sc em lg (cJ kc.R x1)).1.R)=(iY m ms (((cJ m.R x1).1),(cJ m.R x1).2)).1.R))=true:=by have Tb:(decide (((gU kc sc em lg (cJ kc.R x1)).1.R)=(iY m ms (((cJ m.R x1).1),(cJ m.R x1).2)).1.R))=true:=(by exact e1);simp only [Tb];done
   refine R.dC (fuel:=8) mM O O mixed O<|D.l zX mM [0,1,2,3,4,5,6,7,8,9,10,11,12,13,14,15,16,17,18,19,20,21,22,23,24,25,26,27,28,29,30,31,32,33,34,35,36] O<|U ?_
   refine D.p 1 O mM Kt (s.aJ sJ aX _ _ _ O O O Ip O O (fun w own hw H=>pg bk z117 XJ z119 XK bs (gU kc sc em lg (cJ kc.R x1)).1 w own H af) O) ?_
   rintro ⟨XQ,z143,XR,z145,z146,ZH,z148,ZI⟩
   dsimp only
   refine D.p 6 O mM Kt (s.c (q.call L6 O O (fun w hw=>cv (congrArg Value.bool h8) (nu _ _ _ _ (gU kc sc em lg (cJ kc.R x1)).1.R _ _ _ _ (iY m ms (((cJ m.R x1).1),(cJ m.R x1).2)).1.R w (hw.cq 4 O) (hw.cq 5 O) (hw.cq 6 O) (hw.cq 7 O) (hw.cq 13 O) (hw.cq 14 O) (hw.cq 15 O) (hw.cq 16 O)))) O) fun _=>?_
   refine D.l [7] mM Kt O<|Dm.yy O O (q.not O) O<|U ?_
   refine D.done<|U ?_
   refine R.back (i+1,u2,(gU kc sc em lg (cJ kc.R x1)).2.2.1,XM,XO,z124,(gU kc sc em lg (cJ kc.R x1)).1,XQ,z143,XR,z145,bk,(gU kc sc em lg (cJ kc.R x1)).2.1,XL,bs,(gU kc sc em lg (cJ kc.R x1)).2.2.2.1,XP,(iY m ms (((cJ m.R x1).1),(cJ m.R x1).2)).1,XF,XG,XH,XI,(iY m ms (((cJ m.R x1).1),(cJ m.R x1).2)).2.1,z116) O (by (try dsimp only);exact ⟨ae,k5,k4,k7,k3,k6⟩) aG (sF O) (ck [7,8,2,3,4,5,0,1,6] [0,1,2,3,12,13,14,15,16,17,32,33,34,35,36,37,38,39,40,41,42,43,44] O)
  refine R.rt ?_
  (rfl)
 refine R.kc O O (fun w hw=>cv (congrArg Value.bool h1) (zh _ l 60 w (hw.cq 1 O) (hw.acts 0 O)))<|U ?_
 refine R.rt ?_
 rfl
end
section
open Go Go.RowKit
theorem V2:(Tryz.prog.globals[1]?).map (·.type)=some 318:=ao
theorem V4:(Tryz.prog.globals[2]?).map (·.type)=some 38:=ao
theorem V5:(Tryz.prog.globals[3]?).map (·.type)=some 38:=ao
theorem PU:Tryz.prog.cellsOf 318=20:=ao
theorem Tc:∀t,Tryz.prog.underlying 318=some (.array 20 t)->Tryz.prog.cellsOf t=1:=fun t h=>by
 rw [Tryz.underlying318] at h;injection h with h;injection h with _ h;subst h;kernel_rfl
theorem QZ : "*" ++ "errors.errorString" = "*errors.errorString" :=aD
theorem Ny:∀u,Tryz.prog.typeName? 3 u=some "*errors.errorString" → u=340:=fun u h =>
 typeName_ptr_named (nm:= "errors.errorString") (by rw [QZ];kernel_rfl) ao aD u (by rw [QZ];exact h)
theorem PW {W:World}(h:laidMetH Tryz.prog [("math/bits.deBruijn32tab",Rows.laid_math_bits_deBruijn32tab),("math/bits.deBruijn64tab",Rows.laid_math_bits_deBruijn64tab),("internal/strconv.uint64pow10",Rows.laid_internal_strconv_uint64pow10),("strconv.ErrRange",Rows.laid_strconv_ErrRange),("strconv.ErrSyntax",Rows.laid_strconv_ErrSyntax)] W):Fi W:=by
 rw [MakeChecks.laidMetH_plain _ _ _ ao] at h
 have h3:=h.tail.tail
 have h5:=h3.tail.tail
 have hp:Lib.TabIs Tryz.prog W "internal/strconv.uint64pow10" .u64 Lib.pow10Tab:=Lib.tabIs_of_head S0 V2 Tryz.underlying318 Tryz.underlying33 (Tc _ Tryz.underlying318) PU (rest:=[("strconv.ErrRange",Rows.laid_strconv_ErrRange),("strconv.ErrSyntax",Rows.laid_strconv_ErrSyntax)]) h3
 have h4:=h3.tail
 obtain ⟨a,s,h6,_⟩:=laid_sentinel (text:=[105,110,118,97,108,105,100,32,115,121,110,116,97,120]) h5 S1 V4 Tryz.underlying38 Ny Tryz.underlying340 Tryz.underlying342 rfl rfl Tryz.underlying9 ao ao
 obtain ⟨b,t,h7,_⟩:=laid_sentinel (text:=[118,97,108,117,101,32,111,117,116,32,111,102,32,114,97,110,103,101]) h4 S2 V5 Tryz.underlying38 Ny Tryz.underlying340 Tryz.underlying342 rfl rfl Tryz.underlying9 ao ao
 exact ⟨hp,⟨_,_,h6⟩,_,_,h7⟩
end
end Go.Proofs.YtnmpibjlnninjaaGreatDoor
