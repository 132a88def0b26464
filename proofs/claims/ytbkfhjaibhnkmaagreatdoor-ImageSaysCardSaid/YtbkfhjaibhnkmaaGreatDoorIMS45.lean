import Derived.Test.YtbkfhjaibhnkmaaGreatDoorIMS40
import Derived.Test.YtbkfhjaibhnkmaaGreatDoorIMS44
namespace Go.Proofs.YtbkfhjaibhnkmaaGreatDoor
open Go Go.RowKit
set_option linter.unusedVariables false
set_option linter.unusedSimpArgs false
set_option maxRecDepth 100000
theorem sn {n:Int}(h:0≤n):Lib.itoa n=Lib.decDigits n.toNat:=qD h
theorem EX {n:Int}{k:Nat}(h:n=(k:Int)):u8 (48+n)=d8 k:=by
 unfold u8 d8;rw [h,show ((48:Int)+(k:Int)).toNat=48+k by omega]
theorem CK {n:Int}(h0:0≤n)(h:n<10):(⟨[u8 (48+n)].toArray⟩:ByteArray)=dr n:=by
 unfold dr;rw [sn h0,DL (by omega),EX (k:=n.toNat) (by omega)]
theorem pG {n:Int}(h:10≤n):dr (n / 10)++(⟨[u8 (48+n % 10)].toArray⟩:ByteArray)=dr n:=by
 refine iw ?_
 rw [ByteArray.data_append,Array.toList_append]
 show Lib.itoa (n / 10)++[u8 (48+n % 10)]=Lib.itoa n
 rw [sn (by omega),sn (by omega),BX n.toNat,if_neg (by omega),EX (k:=n.toNat % 10) (by omega),show (n / 10).toNat=n.toNat / 10 by omega]
theorem qH {n:Int}(h:0≤n∧n≤9223372036854775807):(dr n).size≤21:=oO (by omega)
theorem CL (j:Nat)(s:ByteArray):(⟨#[48]⟩:ByteArray)++((⟨(Lib.repeatL [48] j).toArray⟩:ByteArray)++s)=(⟨(Lib.repeatL [48] (j+1)).toArray⟩:ByteArray)++s:=by
 refine iw ?_
 simp [ByteArray.data_append,Lib.repeatL]
theorem CM (s:ByteArray):s=(⟨(Lib.repeatL [48] 0).toArray⟩:ByteArray)++s:=by
 refine iw ?_
 simp [ByteArray.data_append,Lib.repeatL]
theorem Af {n:Int}{s:ByteArray}{j:Nat}(hs:s=(⟨(Lib.repeatL [48] j).toArray⟩:ByteArray)++dr n)(hz:s.size=j+(dr n).size)(hj:j=0∨s.size≤4)(h:¬ s.size<4):aW n=s:=by
 unfold aW;rw [show 4-(dr n).size=j by omega];exact hs.symm
theorem CN (n:Int)(w:World)(hn:0≤n∧n≤9223372036854775807)(ih:∀ (m:Int) (w:World),0≤m∧m<n→Calls Tryz.prog 48 #[iV m] w fun e w'=>e = .returned (.string (dr m))∧Ext w w'):Calls Tryz.prog 48 #[iV n] w fun e w'=>e = .returned (.string (dr n))∧Ext w w':=by
 refine R.enter (n:=26) (vs:=[iV n]) [] [(0,iV n)] Tryz.func48 O O O O ?_
 refine R.reg O<|R.u 1 O<|R.nil ?_
 refine R.reg O<|R.u 1 O<|R.q (q.lss O O (decide_eq_false (by omega))) O<|R.nil ?_
 refine R.aF O O ?_
 refine R.reg O<|R.u 1 O<|?_
 by_cases h1:n<10
 ·
  refine R.q (q.lss O O (decide_eq_true (by omega))) O<|R.nil ?_
  refine R.aE O O ?_
  refine R.reg O<|R.u 1 O<|R.q (q.add (r:=48+n) O O (wr (by omega))) O<|R.q (q.Em (r:=(48+n)) O (by rw [Tryz.underlying3];rfl) Tryz.underlying5 (Et (by omega))) O<|R.s O (s.bs (l:=([(u8 (48+n))]:List UInt8)) ln tP O O O O O (uz (uy (by omega)) xJ) O) fun b1=>R.q (q.Ij (cJ 0 O) O ln Tryz.underlying5 Tryz.underlying9) O<|R.u 1 O<|R.nil ?_
  exact R.rv O Tryz.results48 O (rS (by (exact CK (by omega) (by omega))))
 ·
  refine R.q (q.lss O O (decide_eq_false (by omega))) O<|R.nil ?_
  refine R.aF O O ?_
  refine R.e8 (fuel:=11) (Wd w [] [] []) O mixed O ?_
  refine D.q (i:=0) O (by kernel_rfl) (aK [] [] O O O) O (q.mv O) O<|D.q (i:=1) O (by kernel_rfl) (aK [] [] O O O) O (q.quo (r:=n / 10) O O (by omega) (nG (by omega))) O<|D.q (i:=3) O (by kernel_rfl) (aK [] [] O O O) O (q.mv O) O<|D.q (i:=4) O (by kernel_rfl) (aK [] [] O O O) O (q.rem (r:=n % 10) O O (by omega) (nH (by omega))) O<|D.q (i:=5) O (by kernel_rfl) (aK [] [] O O O) O (q.add (r:=48+(n % 10)) O O (wr (by omega))) O<|D.q (i:=6) O (by kernel_rfl) (aK [] [] O O O) O (q.Em (r:=(48+(n % 10))) O (by rw [Tryz.underlying3];rfl) Tryz.underlying5 (Et (by omega))) O<|D.two (i:=2) (j:=7) (by kernel_rfl) O O ?_ ?_
  ·
   refine Do.s (s.c (q.call sS O O (fun w hw=>(ih ((n / 10)) w  (by omega)))) O) (fun _=>(aK [] [] O O O)) O fun _=>D.one (i:=7) (by kernel_rfl) O ?_
   refine Do.s (s.bs (l:=([(u8 (48+(n % 10)))]:List UInt8)) ln tP O O O O O (uz (uy (by omega)) xJ) O) (fun _=>(aK [] [] O O O)) O fun b2=>D.one (i:=8) (by kernel_rfl) O ?_
   exact Do.s (s.c (Qt.a (q.Ij (fun _=>Wd.row 0 rfl) rfl ln Tryz.underlying5 Tryz.underlying9)) rfl) (fun _=>(fun _=>Wd.uO [] [] rfl rfl rfl)) rfl fun _=>D.q (i:=9) rfl (by kernel_rfl) (fun _=>Wd.uO [] [] rfl rfl rfl) rfl (q.cat rfl rfl (by have:=qH (n:=n / 10) (by omega);(simp only [ByteArray.size_append,eG,List.length_cons,List.length_nil];omega))) rfl<|D.q (i:=10) rfl (by kernel_rfl) (fun _=>Wd.uO [] [] rfl rfl rfl) rfl (q.as rfl) rfl<|D.done (by kernel_rfl)<|R.rv rfl Tryz.results48 rfl (rS (by (exact pG (by omega))))
  ·
   refine Do.s (s.bs (l:=([(u8 (48+(n % 10)))]:List UInt8)) ln tP O O O O O (uz (uy (by omega)) xJ) O) (fun _=>(aK [] [] O O O)) O fun b3=>D.two (i:=2) (j:=8) (by kernel_rfl) O O ?_ ?_
   ·
    refine Do.s (s.c (q.call sS O O (fun w hw=>(ih ((n / 10)) w  (by omega)))) O) (fun _=>(aK [] [] O O O)) O fun _=>D.one (i:=8) (by kernel_rfl) O ?_
    exact Do.s (s.c (Qt.a (q.Ij (fun _=>Wd.row 0 rfl) rfl ln Tryz.underlying5 Tryz.underlying9)) rfl) (fun _=>(fun _=>Wd.uO [] [] rfl rfl rfl)) rfl fun _=>D.q (i:=9) rfl (by kernel_rfl) (fun _=>Wd.uO [] [] rfl rfl rfl) rfl (q.cat rfl rfl (by have:=qH (n:=n / 10) (by omega);(simp only [ByteArray.size_append,eG,List.length_cons,List.length_nil];omega))) rfl<|D.q (i:=10) rfl (by kernel_rfl) (fun _=>Wd.uO [] [] rfl rfl rfl) rfl (q.as rfl) rfl<|D.done (by kernel_rfl)<|R.rv rfl Tryz.results48 rfl (rS (by (exact pG (by omega))))
   ·
    refine Do.s (s.c (Qt.a (q.Ij (cJ 0 O) O ln Tryz.underlying5 Tryz.underlying9)) O) (fun _=>(aK [] [] O O O)) O fun _=>D.one (i:=2) (by kernel_rfl) O ?_
    exact Do.s (s.c (q.call sS rfl rfl (fun w hw=>(ih ((n / 10)) w  (by omega)))) rfl) (fun _=>(fun _=>Wd.uO [] [] rfl rfl rfl)) rfl fun _=>D.q (i:=9) rfl (by kernel_rfl) (fun _=>Wd.uO [] [] rfl rfl rfl) rfl (q.cat rfl rfl (by have:=qH (n:=n / 10) (by omega);(simp only [ByteArray.size_append,eG,List.length_cons,List.length_nil];omega))) rfl<|D.q (i:=10) rfl (by kernel_rfl) (fun _=>Wd.uO [] [] rfl rfl rfl) rfl (q.as rfl) rfl<|D.done (by kernel_rfl)<|R.rv rfl Tryz.results48 rfl (rS (by (exact pG (by omega))))
theorem y9:∀ (k:Nat) (n:Int) (w:World),0≤n∧n≤9223372036854775807∧n.toNat<k→Calls Tryz.prog 48 #[.int .i64 n] w fun e w'=>e = .returned (.string (dr n))∧Ext w w'
 | 0,n,w,h=>absurd h.2.2 (Nat.not_lt_zero _)
 | k+1,n,w,h=>CN n w ⟨h.1,h.2.1⟩ fun m w2 hm=>y9 k m w2 ⟨hm.1,by omega,by omega⟩
theorem uL (n:Int)(w:World)(hn:0≤n∧n≤9223372036854775807):Calls Tryz.prog 48 #[.int .i64 n] w fun e w'=>e = .returned (.string (dr n))∧Ext w w':=y9 _ n w ⟨hn.1,hn.2,Nat.lt_succ_self _⟩
theorem f9 (n:Int)(w:World)(hn:0≤n∧n≤9223372036854775807):Calls Tryz.prog 49 #[iV n] w fun e w'=>e = .returned (.string (aW n))∧Ext w w':=by
 have il:=qH hn
 refine R.enter (n:=12) (vs:=[iV n]) [] [(0,iV n)] Tryz.func49 O O O O ?_
 refine R.reg O<|R.u 1 O<|R.nil ?_
 refine R.reg O<|R.u 1 O<|R.c (q.call sS O O (fun w hw=>(uL (n) w  (by omega)))) O<|R.u 1 O<|R.nil ?_
 refine R.loop (fun g_:Nat×ByteArray=>[(3,.string g_.2)]) (fun g_=>[]) (fun g_=>[]) (fun g_=>g_.2=(⟨(Lib.repeatL [48] g_.1).toArray⟩:ByteArray)++dr n∧g_.2.size=g_.1+(dr n).size∧(g_.1=0∨g_.2.size≤4)) (fun g_=>4-g_.1) (0,(dr n)) O (by dsimp only;exact ⟨CM _,by omega,.inl O⟩) ⟨rfl,trivial⟩ (fun _=>Wd.pick [] [] O O O) ?_
 rintro ⟨j,s1⟩ ⟨hs,hz,hj⟩
 dsimp only at *
 refine R.reg O<|R.u 1 O<|R.q (q.lV O Tryz.underlying9) O<|?_
 by_cases h1:s1.size<4
 ·
  refine R.q (q.lss O O (decide_eq_true (by omega))) O<|R.nil ?_
  refine R.aE O O ?_
  refine R.reg O<|R.u 1 O<|R.q (q.cat O O (by (simp only [ByteArray.size_append,eG,List.length_cons,List.length_nil];omega))) O<|R.u 1 O<|R.nil ?_
  refine R.back (j+1,((⟨#[48]⟩:ByteArray)++s1)) O (by ((try dsimp only);exact ⟨by rw [hs];exact CL j _,by simp only [ByteArray.size_append,eG,List.length_cons,List.length_nil];omega,.inr (by simp only [ByteArray.size_append,eG,List.length_cons,List.length_nil];omega)⟩)) (by dsimp only;omega) ⟨rfl,trivial⟩ (fun _=>Wd.pick [] [] O O O)
 ·
  refine R.q (q.lss O O (decide_eq_false (by omega))) O<|R.nil ?_
  refine R.aF O O ?_
  refine R.reg O<|R.u 2 O<|R.nil ?_
  exact R.rv O Tryz.results49 O (rS (by (exact (Af hs hz hj (by omega)).symm)))
set_option maxRecDepth 100000 in
set_option maxHeartbeats 1600000 in
theorem tJ (aD az aB aC:Value)(r:ar)(w:World)(own:List Nat)(H:Wd w (blks []++own) ([]++[ag.held w own]) [ag.ls aD (r.ai:List ak),ag.ls az (r.Things:List ao),ag.ls aB (r.Held:List Held),ag.ls aC (r.Notes:List Note)] w)(hk:Ok r)(hI:Inv r):Calls Tryz.prog 16 #[.agg #[aD,az,aB,aC,iV r.ae,iV r.af]] w fun e w' => ∃z:Value,e = .returned (z)∧Wd w (blks []++own) ([ag.row 52 z ((aU r):List Change)]++[ag.held w own]) [] w':=by
 have cS:=H.ct 0 rfl
 have cy:=H.ct 1 rfl
 have dq:=H.ct 2 rfl
 have cT:=H.ct 3 rfl
 have bw:=hk.wl;have bt:=hk.tl;have bh:=hk.hl;have bn:=hk.nl;have rL:=hk.w0;have rM:=hk.w1;have rN:=hk.t0;have rO:=hk.t1
 have hq:=(iM hI).1.Jn
 have hn:=hq.n;have ki:=hq.i.ki;have lC:=hq.i.lC;have kv:=hq.i.kv;have ky:=hq.i.ky;have hl0:=oK hq.i;have J0:=hq.i.gh;have J1:=(iM hI).2.2.2.1
 refine R.da (n:=113) (vs:=[.agg #[aD,az,aB,aC,iV r.ae,iV r.af]]) (B:=[ag.held w own]) [(0,.agg #[aD,az,aB,aC,iV r.ae,iV r.af])] Tryz.func16 O O O O H ?_
 refine R.reg O<|R.s O (s.box (cs:=[aD,az,aB,aC,iV r.ae,iV r.af]) O O O) fun b1=>R.u 1 O<|R.nil ?_
 refine R.reg O<|R.q (q.cj 0 O O ap) O<|R.s (B':=(fun g_:Value×Value×Value×Value=>[ag.box b1 [aD,az,aB,aC,iV r.ae,iV r.af] 32,ag.held w own])) (F':=(fun g_=>[ag.ls g_.1 ((aH r)).ai,ag.ls g_.2.1 ((aH r)).Things,ag.ls g_.2.2.1 ((aH r)).Held,ag.ls g_.2.2.2 ((aH r)).Notes,ag.ls aD r.ai,ag.ls az r.Things,ag.ls aB r.Held,ag.ls aC r.Notes])) O (s.bP (B0:=[]) (Br:=[ag.box b1 [aD,az,aB,aC,iV r.ae,iV r.af] 32,ag.held w own]) (F0:=[ag.ls aD r.ai,ag.ls az r.Things,ag.ls aB r.Held,ag.ls aC r.Notes]) [0,1] bm (fun g_:Value×Value×Value×Value => .agg #[g_.1,g_.2.1,g_.2.2.1,g_.2.2.2,iV (((aH r)).ae),iV (((aH r)).af)]) (fun g_=>[]) (fun g_=>[ag.ls g_.1 ((aH r)).ai,ag.ls g_.2.1 ((aH r)).Things,ag.ls g_.2.2.1 ((aH r)).Held,ag.ls g_.2.2.2 ((aH r)).Notes]) O O O Ez O O (fun w own hw H=>sk aD az aB aC (r) w own H ‹_› ‹_›) O) ?_
 rintro ⟨z1,z2,z3,z4⟩
 dsimp only
 refine R.s O (s.dy (us:=[z1,z2,z3,z4,iV ((aH r).ae),iV ((aH r).af)]) (cs':=[z1,z2,z3,z4,iV ((aH r).ae),iV ((aH r).af)]) 0 _ O O O (fun _ _=>rfl) (.inl ap) (fun w hw=>(ah (Sl.one (hw.bq 0 O)) (ah (Sl.one (hw.bq 1 O)) (ah (Sl.one (hw.bq 2 O)) (ah (Sl.one (hw.bq 3 O)) (ah O (ah O aL))))))) O O O) fun _=>R.nil ?_
 refine R.reg O<|R.u 1 O<|R.nil ?_
 refine R.reg O<|R.u 1 O<|R.nil ?_
 refine R.row0 (α:=Change) 52 ?_
 refine R.loop (fun g_:Nat×Value×(List Change)=>[(1,.pointer (some ⟨b1,0,none⟩)),(3,g_.2.1),(4,iV (g_.1:Int))]) (fun g_=>[ag.row 52 g_.2.1 g_.2.2,ag.box b1 [z1,z2,z3,z4,iV ((aH r).ae),iV ((aH r).af)] 32,ag.held w own]) (fun g_=>[ag.ls z1 (aH r).ai,ag.ls z2 (aH r).Things,ag.ls z3 (aH r).Held,ag.ls z4 (aH r).Notes,ag.ls aD r.ai,ag.ls az r.Things,ag.ls aB r.Held,ag.ls aC r.Notes]) (fun g_=>g_.1≤(aH r).Held.length∧g_.2.2=((aH r).Held.take g_.1).map hrow) (fun g_=>(aH r).Held.length-g_.1) (0,(nS),[]) O (by exact ⟨by omega,rfl⟩) ⟨rfl,rfl,rfl,trivial⟩ (fun _=>Wd.pick [0,1,2] bS O O O) ?_
 rintro ⟨k,u,l⟩ ⟨KE,HL⟩
 dsimp only at *
 have ll:l.length≤24:=by rw [HL,List.length_map,List.length_take];omega
 refine R.reg O<|R.u 1 O<|R.q (q.aT (off':=2) O bB O) O<|R.q (q.ld 1 O O bZ O) O<|R.q (q.len' (bJ 2 O) O Tryz.underlying29) O<|?_
 by_cases h1:k<((aH r).Held).length
 ·
  refine R.q (q.lss O O (decide_eq_true (by omega))) O<|R.nil ?_
  refine R.aE O O ?_
  refine R.reg O<|R.q (q.aT (off':=2) O bB O) O<|R.q (q.ld 1 O O bZ O) O<|R.u 1 O<|?_
  obtain ⟨x1,hx1⟩:∃z,((aH r).Held)[k]? = some z:=⟨_,List.getElem?_eq_getElem (by omega)⟩
  have Jo:=hq.h _ (List.mem_of_getElem? hx1);have KF:=ck (hq.i.CX (List.mem_of_getElem? hx1)).1
  refine R.q (q.idx (i:=k) (bJ 2 O) O O bK O hx1) O<|R.q (q.cY (ds:=dJ x1) (bJ 2 O) hx1 O dB O) O<|R.s O (s.alloc (cs:=CZ) dk O O) fun b2=>R.s O (s.st (us:=dJ x1) (cs':=dJ x1) 0 _ O O O O (.inl dB) O O O O) fun _=>R.nil ?_
  refine R.e8 (fuel:=18) (Wd w (blks []++own) [ag.box b2 (dJ x1) 85,ag.box b1 [z1,z2,z3,z4,iV ((aH r).ae),iV ((aH r).af)] 32,ag.held w own] [ag.ls z1 (aH r).ai,ag.ls z2 (aH r).Things,ag.ls z3 (aH r).Held,ag.ls z4 (aH r).Notes,ag.ls aD r.ai,ag.ls az r.Things,ag.ls aB r.Held,ag.ls aC r.Notes]) O mixed O ?_
  refine D.q (i:=0) O (by kernel_rfl) (aK [0,2,3] bS O O O) O (q.mv O) O<|D.q (i:=1) O (by kernel_rfl) (aK [0,2,3] bS O O O) O (q.aT (off':=0) O gI O) O<|D.q (i:=2) O (by kernel_rfl) (aK [0,2,3] bS O O O) O (q.aT (off':=0) O cF O) O<|D.q (i:=3) O (by kernel_rfl) (aK [0,2,3] bS O O O) O (q.ld 0 O O aA O) O<|D.q (i:=6) O (by kernel_rfl) (aK [0,2,3] bS O O O) O (q.aT (off':=0) O gI O) O<|D.q (i:=7) O (by kernel_rfl) (aK [0,2,3] bS O O O) O (q.aT (off':=1) O ff O) O<|D.q (i:=8) O (by kernel_rfl) (aK [0,2,3] bS O O O) O (q.ld 0 O O aA O) O<|D.q (i:=11) O (by kernel_rfl) (aK [0,2,3] bS O O O) O (q.aT (off':=2) O fL O) O<|D.q (i:=12) O (by kernel_rfl) (aK [0,2,3] bS O O O) O (q.ld 0 O O aA O) O<|D.one (i:=4) (by kernel_rfl) O ?_
  refine Do.s (s.c (q.call sS O O (fun w hw=>(uL (x1.Place.aj) w  (by omega)))) O) (fun _=>(aK [0,2,3] bS O O O)) O fun _=>D.q (i:=5) O (by kernel_rfl) (aK [0,2,3] bS O O O) O (q.cat O O (by (simp only [ByteArray.size_append,eG,List.length_cons,List.length_nil];omega))) O<|D.one (i:=9) (by kernel_rfl) O ?_
  refine Do.s (s.c (q.call sS O O (fun w hw=>(uL (x1.Place.Slot) w  (by omega)))) O) (fun _=>(aK [0,2,3] bS O O O)) O fun _=>D.q (i:=10) O (by kernel_rfl) (aK [0,2,3] bS O O O) O (q.cat O O (by (simp only [ByteArray.size_append,eG,List.length_cons,List.length_nil];omega))) O<|D.one (i:=13) (by kernel_rfl) O ?_
  refine Do.s (s.c (q.call nw O O (fun w hw=>(f9 (x1.ak) w  (by omega)))) O) (fun _=>(aK [0,2,3] bS O O O)) O fun _=>D.q (i:=14) O (by kernel_rfl) (aK [0,2,3] bS O O O) O (q.build (cs:=[.string ((⟨#[104]⟩++dr x1.Place.aj)++dr x1.Place.Slot),.string (aW x1.ak),.bool false]) kJ O O) O<|D.one (i:=15) (by kernel_rfl) O ?_
  refine Do.s (s.bs (l:=([(⟨((⟨#[104]⟩++dr x1.Place.aj)++dr x1.Place.Slot),aW x1.ak,false⟩:Change)]:List Change)) bL dI O O O O O O O) (fun _=>(aK [1,3,4] bS O O O)) O fun b3=>D.one (i:=16) (by kernel_rfl) O ?_
  refine Do.s (s.app (l2:=[(⟨((⟨#[104]⟩++dr x1.Place.aj)++dr x1.Place.Slot),aW x1.ak,false⟩:Change)]) 2 _ O O O (cJ 0 O) eQ (by (simp;omega)) (by (simp;omega)) (fun _=>rfl) O) (fun _=>(aK [1,3,4] bS O O O)) O fun v1=>D.q (i:=17) O (by kernel_rfl) (aK [1,3,4] bS O O O) O (q.as O) O<|D.done (by kernel_rfl)<|R.reg O<|R.u 1 O<|R.q (q.add (r:=((k+1:Nat):Int)) O O (wr (by omega))) O<|R.u 1 O<|R.nil ?_
  refine R.back (k+1,v1,(l++([(⟨((⟨#[104]⟩++dr x1.Place.aj)++dr x1.Place.Slot),aW x1.ak,false⟩:Change)]))) O (by (exact ⟨by omega,by rw [ji hrow hx1,← HL];rfl⟩)) (by dsimp only;omega) ⟨rfl,rfl,rfl,trivial⟩ (aK [2,3,4] bS O O O)
 ·
  refine R.q (q.lss O O (decide_eq_false (by omega))) O<|R.nil ?_
  refine R.aF O O ?_
  refine R.reg O<|R.u 1 O<|R.nil ?_
  refine R.loop (fun g_:Nat×Value×(List Change)=>[(1,.pointer (some ⟨b1,0,none⟩)),(3,g_.2.1),(6,iV (g_.1:Int))]) (fun g_=>[ag.row 52 g_.2.1 g_.2.2,ag.box b1 [z1,z2,z3,z4,iV ((aH r).ae),iV ((aH r).af)] 32,ag.held w own]) (fun g_=>[ag.ls z1 (aH r).ai,ag.ls z2 (aH r).Things,ag.ls z3 (aH r).Held,ag.ls z4 (aH r).Notes,ag.ls aD r.ai,ag.ls az r.Things,ag.ls aB r.Held,ag.ls aC r.Notes]) (fun g_=>g_.1≤(aH r).Things.length∧g_.2.2=(aH r).Held.map hrow++((aH r).Things.take g_.1).map gV) (fun g_=>(aH r).Things.length-g_.1) (0,u,l) O (by exact ⟨by omega,by rw [HL,kY _ (by omega)];exact (List.append_nil _).symm⟩) ⟨rfl,rfl,rfl,trivial⟩ (fun _=>Wd.pick [0,1,2] bS O O O) ?_
  rintro ⟨j,u2,l2⟩ ⟨hj,HL2⟩
  dsimp only at *
  have I8:l2.length≤34:=by rw [HL2,List.length_append,List.length_map,List.length_map,List.length_take];omega
  refine R.reg O<|R.u 1 O<|R.q (q.aT (off':=1) O bM O) O<|R.q (q.ld 1 O O cq O) O<|R.q (q.len' (bJ 1 O) O Tryz.underlying28) O<|?_
  by_cases h2:j<((aH r).Things).length
  ·
   refine R.q (q.lss O O (decide_eq_true (by omega))) O<|R.nil ?_
   refine R.aE O O ?_
   refine R.reg O<|R.q (q.aT (off':=1) O bM O) O<|R.q (q.ld 1 O O cq O) O<|R.u 1 O<|?_
   obtain ⟨x2,hx2⟩:∃z,((aH r).Things)[j]? = some z:=⟨_,List.getElem?_eq_getElem (by omega)⟩
   have Im:=hq.t _ (List.mem_of_getElem? hx2)
   refine R.q (q.idx (i:=j) (bJ 1 O) O O ew O hx2) O<|R.q (q.cY (ds:=eE x2) (bJ 1 O) hx2 O fu O) O<|R.s O (s.alloc (cs:=[iV 0,iV 0,.string (⟨#[]⟩)]) fw O O) fun b4=>R.s O (s.st (us:=eE x2) (cs':=eE x2) 0 _ O O O O (.inl fu) O O O O) fun _=>R.nil ?_
   refine R.e8 (fuel:=15) (Wd w (blks []++own) [ag.box b4 (eE x2) 62,ag.box b1 [z1,z2,z3,z4,iV ((aH r).ae),iV ((aH r).af)] 32,ag.held w own] [ag.ls z1 (aH r).ai,ag.ls z2 (aH r).Things,ag.ls z3 (aH r).Held,ag.ls z4 (aH r).Notes,ag.ls aD r.ai,ag.ls az r.Things,ag.ls aB r.Held,ag.ls aC r.Notes]) O mixed O ?_
   refine D.q (i:=0) O (by kernel_rfl) (aK [0,2,3] bS O O O) O (q.mv O) O<|D.q (i:=1) O (by kernel_rfl) (aK [0,2,3] bS O O O) O (q.aT (off':=0) O g9 O) O<|D.q (i:=2) O (by kernel_rfl) (aK [0,2,3] bS O O O) O (q.ld 0 O O aA O) O<|D.q (i:=5) O (by kernel_rfl) (aK [0,2,3] bS O O O) O (q.aT (off':=1) O mN O) O<|D.q (i:=6) O (by kernel_rfl) (aK [0,2,3] bS O O O) O (q.ld 0 O O aA O) O<|D.q (i:=8) O (by kernel_rfl) (aK [0,2,3] bS O O O) O (q.aT (off':=2) O mO O) O<|D.q (i:=9) O (by kernel_rfl) (aK [0,2,3] bS O O O) O (q.ld 0 O O bV O) O<|D.one (i:=3) (by kernel_rfl) O ?_
   refine Do.s (s.c (q.call nw O O (fun w hw=>(f9 (x2.ID) w  (by omega)))) O) (fun _=>(aK [0,2,3] bS O O O)) O fun _=>D.q (i:=4) O (by kernel_rfl) (aK [0,2,3] bS O O O) O (q.cat O O (by (simp only [ByteArray.size_append,eG,List.length_cons,List.length_nil];omega))) O<|D.one (i:=7) (by kernel_rfl) O ?_
   refine Do.s (s.c (q.call nw O O (fun w hw=>(f9 (x2.Kind) w  (by omega)))) O) (fun _=>(aK [0,2,3] bS O O O)) O fun _=>D.q (i:=10) O (by kernel_rfl) (aK [0,2,3] bS O O O) O (q.cat O O (by omega)) O<|D.q (i:=11) O (by kernel_rfl) (aK [0,2,3] bS O O O) O (q.build (cs:=[.string (⟨#[116]⟩++aW x2.ID),.string (aW x2.Kind++x2.Data),.bool false]) kJ O O) O<|D.one (i:=12) (by kernel_rfl) O ?_
   refine Do.s (s.bs (l:=([(⟨(⟨#[116]⟩++aW x2.ID),(aW x2.Kind++x2.Data),false⟩:Change)]:List Change)) bL dI O O O O O O O) (fun _=>(aK [1,3,4] bS O O O)) O fun b5=>D.one (i:=13) (by kernel_rfl) O ?_
   refine Do.s (s.app (l2:=[(⟨(⟨#[116]⟩++aW x2.ID),(aW x2.Kind++x2.Data),false⟩:Change)]) 2 _ O O O (cJ 0 O) eQ (by (simp;omega)) (by (simp;omega)) (fun _=>rfl) O) (fun _=>(aK [1,3,4] bS O O O)) O fun v2=>D.q (i:=14) O (by kernel_rfl) (aK [1,3,4] bS O O O) O (q.as O) O<|D.done (by kernel_rfl)<|R.reg O<|R.u 1 O<|R.q (q.add (r:=((j+1:Nat):Int)) O O (wr (by omega))) O<|R.u 1 O<|R.nil ?_
   refine R.back (j+1,v2,(l2++([(⟨(⟨#[116]⟩++aW x2.ID),(aW x2.Kind++x2.Data),false⟩:Change)]))) O (by (exact ⟨by omega,by rw [ji gV hx2,← List.append_assoc,← HL2];rfl⟩)) (by dsimp only;omega) ⟨rfl,rfl,rfl,trivial⟩ (aK [2,3,4] bS O O O)
  ·
   refine R.q (q.lss O O (decide_eq_false (by omega))) O<|R.nil ?_
   refine R.aF O O ?_
   refine R.reg O<|R.u 1 O<|R.nil ?_
   refine R.loop (fun g_:Nat×Value×(List Change)=>[(1,.pointer (some ⟨b1,0,none⟩)),(3,g_.2.1),(8,iV (g_.1:Int))]) (fun g_=>[ag.row 52 g_.2.1 g_.2.2,ag.box b1 [z1,z2,z3,z4,iV ((aH r).ae),iV ((aH r).af)] 32,ag.held w own]) (fun g_=>[ag.ls z1 (aH r).ai,ag.ls z2 (aH r).Things,ag.ls z3 (aH r).Held,ag.ls z4 (aH r).Notes,ag.ls aD r.ai,ag.ls az r.Things,ag.ls aB r.Held,ag.ls aC r.Notes]) (fun g_=>g_.1≤(aH r).ai.length∧g_.2.2=(aH r).Held.map hrow++(aH r).Things.map gV++((aH r).ai.take g_.1).map jo) (fun g_=>(aH r).ai.length-g_.1) (0,u2,l2) O (by exact ⟨by omega,by rw [HL2,kY _ (by omega)];exact (List.append_nil _).symm⟩) ⟨rfl,rfl,rfl,trivial⟩ (fun _=>Wd.pick [0,1,2] bS O O O) ?_
   rintro ⟨i,u3,l3⟩ ⟨hi,FU⟩
   dsimp only at *
   have J2:l3.length≤58:=by rw [FU,List.length_append,List.length_append,List.length_map,List.length_map,List.length_map,List.length_take];omega
   refine R.reg O<|R.u 1 O<|R.q (q.aT (off':=0) O bf O) O<|R.q (q.ld 1 O O bE O) O<|R.q (q.len' (bJ 0 O) O Tryz.underlying27) O<|?_
   by_cases h3:i<((aH r).ai).length
   ·
    refine R.q (q.lss O O (decide_eq_true (by omega))) O<|R.nil ?_
    refine R.aE O O ?_
    refine R.reg O<|R.q (q.aT (off':=0) O bf O) O<|R.q (q.ld 1 O O bE O) O<|R.u 1 O<|?_
    obtain ⟨x3,hx3⟩:∃z,((aH r).ai)[i]? = some z:=⟨_,List.getElem?_eq_getElem (by omega)⟩
    have J3:=hq.w _ (List.mem_of_getElem? hx3)
    refine R.q (q.idx (i:=i) (bJ 0 O) O O cK O hx3) O<|R.q (q.cY (ds:=ay x3) (bJ 0 O) hx3 O aP O) O<|R.s O (s.alloc (cs:=cC) bF O O) fun b6=>R.s O (s.st (us:=ay x3) (cs':=ay x3) 0 _ O O O O (.inl aP) O O O O) fun _=>R.nil ?_
    refine R.e8 (fuel:=24) (Wd w (blks []++own) [ag.box b6 (ay x3) 88,ag.box b1 [z1,z2,z3,z4,iV ((aH r).ae),iV ((aH r).af)] 32,ag.held w own] [ag.ls z1 (aH r).ai,ag.ls z2 (aH r).Things,ag.ls z3 (aH r).Held,ag.ls z4 (aH r).Notes,ag.ls aD r.ai,ag.ls az r.Things,ag.ls aB r.Held,ag.ls aC r.Notes]) O mixed O ?_
    refine D.q (i:=0) O (by kernel_rfl) (aK [0,2,3] bS O O O) O (q.mv O) O<|D.q (i:=1) O (by kernel_rfl) (aK [0,2,3] bS O O O) O (q.aT (off':=0) O bI O) O<|D.q (i:=2) O (by kernel_rfl) (aK [0,2,3] bS O O O) O (q.ld 0 O O aA O) O<|D.q (i:=5) O (by kernel_rfl) (aK [0,2,3] bS O O O) O (q.aT (off':=1) O dw O) O<|D.q (i:=6) O (by kernel_rfl) (aK [0,2,3] bS O O O) O (q.ld 0 O O aA O) O<|D.q (i:=8) O (by kernel_rfl) (aK [0,2,3] bS O O O) O (q.aT (off':=2) O fj O) O<|D.q (i:=9) O (by kernel_rfl) (aK [0,2,3] bS O O O) O (q.ld 0 O O aA O) O<|D.q (i:=12) O (by kernel_rfl) (aK [0,2,3] bS O O O) O (q.aT (off':=3) O ei O) O<|D.q (i:=13) O (by kernel_rfl) (aK [0,2,3] bS O O O) O (q.ld 0 O O aA O) O<|D.q (i:=16) O (by kernel_rfl) (aK [0,2,3] bS O O O) O (q.aT (off':=4) O dX O) O<|D.q (i:=17) O (by kernel_rfl) (aK [0,2,3] bS O O O) O (q.ld 0 O O aA O) O<|D.one (i:=3) (by kernel_rfl) O ?_
    refine Do.s (s.c (q.call nw O O (fun w hw=>(f9 (x3.ID) w  (by omega)))) O) (fun _=>(aK [0,2,3] bS O O O)) O fun _=>D.q (i:=4) O (by kernel_rfl) (aK [0,2,3] bS O O O) O (q.cat O O (by (simp only [ByteArray.size_append,eG,List.length_cons,List.length_nil];omega))) O<|D.one (i:=7) (by kernel_rfl) O ?_
    refine Do.s (s.c (q.call nw O O (fun w hw=>(f9 (x3.ao) w  (by omega)))) O) (fun _=>(aK [0,2,3] bS O O O)) O fun _=>D.one (i:=10) (by kernel_rfl) O ?_
    refine Do.s (s.c (q.call nw O O (fun w hw=>(f9 (x3.Rights) w  (by omega)))) O) (fun _=>(aK [0,2,3] bS O O O)) O fun _=>D.q (i:=11) O (by kernel_rfl) (aK [0,2,3] bS O O O) O (q.cat O O (by omega)) O<|D.one (i:=14) (by kernel_rfl) O ?_
    refine Do.s (s.c (q.call nw O O (fun w hw=>(f9 (x3.aI) w  (by omega)))) O) (fun _=>(aK [0,2,3] bS O O O)) O fun _=>D.q (i:=15) O (by kernel_rfl) (aK [0,2,3] bS O O O) O (q.cat O O (by (simp only [ByteArray.size_append,eG,List.length_cons,List.length_nil];omega))) O<|D.one (i:=18) (by kernel_rfl) O ?_
    refine Do.s (s.c (q.call nw O O (fun w hw=>(f9 (x3.From) w  (by omega)))) O) (fun _=>(aK [0,2,3] bS O O O)) O fun _=>D.q (i:=19) O (by kernel_rfl) (aK [0,2,3] bS O O O) O (q.cat O O (by (simp only [ByteArray.size_append,eG,List.length_cons,List.length_nil];omega))) O<|D.q (i:=20) O (by kernel_rfl) (aK [0,2,3] bS O O O) O (q.build (cs:=[.string (⟨#[119]⟩++aW x3.ID),.string (((aW x3.ao++aW x3.Rights)++aW x3.aI)++aW x3.From),.bool false]) kJ O O) O<|D.one (i:=21) (by kernel_rfl) O ?_
    refine Do.s (s.bs (l:=([(⟨(⟨#[119]⟩++aW x3.ID),(((aW x3.ao++aW x3.Rights)++aW x3.aI)++aW x3.From),false⟩:Change)]:List Change)) bL dI O O O O O O O) (fun _=>(aK [1,3,4] bS O O O)) O fun b7=>D.one (i:=22) (by kernel_rfl) O ?_
    refine Do.s (s.app (l2:=[(⟨(⟨#[119]⟩++aW x3.ID),(((aW x3.ao++aW x3.Rights)++aW x3.aI)++aW x3.From),false⟩:Change)]) 2 _ O O O (cJ 0 O) eQ (by (simp;omega)) (by (simp;omega)) (fun _=>rfl) O) (fun _=>(aK [1,3,4] bS O O O)) O fun v3=>D.q (i:=23) O (by kernel_rfl) (aK [1,3,4] bS O O O) O (q.as O) O<|D.done (by kernel_rfl)<|R.reg O<|R.u 1 O<|R.q (q.add (r:=((i+1:Nat):Int)) O O (wr (by omega))) O<|R.u 1 O<|R.nil ?_
    refine R.back (i+1,v3,(l3++([(⟨(⟨#[119]⟩++aW x3.ID),(((aW x3.ao++aW x3.Rights)++aW x3.aI)++aW x3.From),false⟩:Change)]))) O (by (exact ⟨by omega,by rw [ji jo hx3,← List.append_assoc,← FU];rfl⟩)) (by dsimp only;omega) ⟨rfl,rfl,rfl,trivial⟩ (aK [2,3,4] bS O O O)
   ·
    refine R.q (q.lss O O (decide_eq_false (by omega))) O<|R.nil ?_
    refine R.aF O O ?_
    refine R.e8 (fuel:=12) (Wd w (blks []++own) [ag.box b1 [z1,z2,z3,z4,iV ((aH r).ae),iV ((aH r).af)] 32,ag.held w own] [ag.ls z1 (aH r).ai,ag.ls z2 (aH r).Things,ag.ls z3 (aH r).Held,ag.ls z4 (aH r).Notes,ag.ls aD r.ai,ag.ls az r.Things,ag.ls aB r.Held,ag.ls aC r.Notes]) O mixed O ?_
    refine D.q (i:=0) O (by kernel_rfl) (aK [1,2] bS O O O) O (q.mv O) O<|D.q (i:=1) O (by kernel_rfl) (aK [1,2] bS O O O) O (q.aT (off':=4) O bW O) O<|D.q (i:=2) O (by kernel_rfl) (aK [1,2] bS O O O) O (q.ld 0 O O aA O) O<|D.q (i:=4) O (by kernel_rfl) (aK [1,2] bS O O O) O (q.aT (off':=5) O cI O) O<|D.q (i:=5) O (by kernel_rfl) (aK [1,2] bS O O O) O (q.ld 0 O O aA O) O<|D.one (i:=3) (by kernel_rfl) O ?_
    refine Do.s (s.c (q.call nw O O (fun w hw=>(f9 ((aH r).ae) w  (by omega)))) O) (fun _=>(aK [1,2] bS O O O)) O fun _=>D.one (i:=6) (by kernel_rfl) O ?_
    refine Do.s (s.c (q.call nw O O (fun w hw=>(f9 ((aH r).af) w  (by omega)))) O) (fun _=>(aK [1,2] bS O O O)) O fun _=>D.q (i:=7) O (by kernel_rfl) (aK [1,2] bS O O O) O (q.cat O O (by omega)) O<|D.q (i:=8) O (by kernel_rfl) (aK [1,2] bS O O O) O (q.build (cs:=[.string (⟨#[120]⟩),.string (aW ((aH r).ae)++aW ((aH r).af)),.bool false]) kJ O O) O<|D.one (i:=9) (by kernel_rfl) O ?_
    refine Do.s (s.bs (l:=([(⟨⟨#[120]⟩,(aW ((aH r).ae)++aW ((aH r).af)),false⟩:Change)]:List Change)) bL dI O O O O O O O) (fun _=>(aK [2,3] bS O O O)) O fun b8=>D.one (i:=10) (by kernel_rfl) O ?_
    refine Do.s (s.app (l2:=[(⟨⟨#[120]⟩,(aW ((aH r).ae)++aW ((aH r).af)),false⟩:Change)]) 1 _ O O O (cJ 0 O) eQ (by (simp;omega)) (by (simp;omega)) (fun _=>rfl) O) (fun _=>(aK [2,3] bS O O O)) O fun v4=>D.q (i:=11) O (by kernel_rfl) (aK [2,3] bS O O O) O (q.as O) O<|D.done (by kernel_rfl)<|?_
    have hz:aU r=(l3++([(⟨⟨#[120]⟩,(aW ((aH r).ae)++aW ((aH r).af)),false⟩:Change)])):=by (unfold aU rowsOf;rw [FU,kY _ (by omega)];rfl)
    rw [hz]
    exact R.w1 v4 [1,3] [] O Tryz.results16 (RV.tmp O) O O O O
theorem gP {α:Type}{l:List α}{i:Nat}{x:α}(h:l[i]? = some x):l.drop i=x::l.drop (i+1):=by
 obtain ⟨h1,h2⟩:=List.getElem?_eq_some_iff.1 h
 rw [List.drop_eq_getElem_cons h1,h2]
section
variable {a b:List Change} {i k:Nat} {x y:Change} {L:List Change}
theorem wO (hm:L++cG (a.drop i) (b.drop k)=cG a b)(hx:a[i]? = some x)(hk:k=b.length):(L++[⟨x.Key,⟨#[]⟩,true⟩])++cG (a.drop (i+1)) (b.drop k)=cG a b:=by
 rw [← hm,gP hx,List.drop_of_length_le (l:=b) (by omega),tH,List.append_assoc];rfl
theorem Ec (hm:L++cG (a.drop i) (b.drop k)=cG a b)(hx:a[i]? = some x)(hy:b[k]? = some y)(h:fS x.Key y.Key=true):(L++[⟨x.Key,⟨#[]⟩,true⟩])++cG (a.drop (i+1)) (b.drop k)=cG a b:=by
 rw [← hm,gP hx,gP hy,jU,if_pos h,List.append_assoc];rfl
theorem uM (hm:L++cG (a.drop i) (b.drop k)=cG a b)(hy:b[k]? = some y)(hi:i=a.length):(L++[y])++cG (a.drop i) (b.drop (k+1))=cG a b:=by
 rw [← hm,List.drop_of_length_le (l:=a) (by omega),m7,m7,gP hy,List.append_assoc];rfl
theorem F7 (hm:L++cG (a.drop i) (b.drop k)=cG a b)(hx:a[i]? = some x)(hy:b[k]? = some y)(h:fS x.Key y.Key=false)(h2:fS y.Key x.Key=true):(L++[y])++cG (a.drop i) (b.drop (k+1))=cG a b:=by
 rw [← hm,gP hx,gP hy,jU,if_neg (by rw [h];decide),if_pos h2,List.append_assoc];rfl
theorem Ed (hm:L++cG (a.drop i) (b.drop k)=cG a b)(hx:a[i]? = some x)(hy:b[k]? = some y)(h:fS x.Key y.Key=false)(h2:fS y.Key x.Key=false)(he:x=y):L++cG (a.drop (i+1)) (b.drop (k+1))=cG a b:=by
 rw [← hm,gP hx,gP hy,jU,if_neg (by rw [h];decide),if_neg (by rw [h2];decide),if_pos he]
theorem Ee (hm:L++cG (a.drop i) (b.drop k)=cG a b)(hx:a[i]? = some x)(hy:b[k]? = some y)(h:fS x.Key y.Key=false)(h2:fS y.Key x.Key=false)(he:¬ x=y):(L++[y])++cG (a.drop (i+1)) (b.drop (k+1))=cG a b:=by
 rw [← hm,gP hx,gP hy,jU,if_neg (by rw [h];decide),if_neg (by rw [h2];decide),if_neg he,List.append_assoc];rfl
end
set_option maxRecDepth 100000 in
set_option maxHeartbeats 1600000 in
theorem uN (k9:Value)(a:List Change)(lq:Value)(b:List Change)(w:World)(own:List Nat)(H:Wd w (blks []++own) ([]++[ag.held w own]) [ag.ls k9 (a:List Change),ag.ls lq (b:List Change)] w)(hl:a.length≤1000∧b.length≤1000):Calls Tryz.prog 21 #[k9,lq] w fun e w' => ∃z:Value,e = .returned (z)∧Wd w (blks []++own) ([ag.row 52 z ((cG a b):List Change)]++[ag.held w own]) [] w':=by
 have J6:=H.ct 0 rfl
 have J7:=H.ct 1 rfl
 refine R.da (n:=99) (vs:=[k9,lq]) (B:=[ag.held w own]) [(0,k9),(1,lq)] Tryz.func21 O O O O H ?_
 refine R.reg O<|R.u 1 O<|R.nil ?_
 refine R.reg O<|R.u 1 O<|R.nil ?_
 refine R.reg O<|R.u 1 O<|R.nil ?_
 refine R.reg O<|R.u 1 O<|R.nil ?_
 refine R.row0 (α:=Change) 52 ?_
 refine R.loop (fun g_:Nat×Nat×Value×(List Change)=>[(0,k9),(1,lq),(5,g_.2.2.1),(6,iV (g_.1:Int)),(7,iV (g_.2.1:Int))]) (fun g_=>[ag.row 52 g_.2.2.1 g_.2.2.2,ag.held w own]) (fun g_=>[ag.ls k9 a,ag.ls lq b]) (fun g_=>g_.1≤a.length∧g_.2.1≤b.length∧g_.2.2.2.length≤g_.1+g_.2.1∧g_.2.2.2++cG (a.drop g_.1) (b.drop g_.2.1)=cG a b) (fun g_=>(a.length-g_.1)+(b.length-g_.2.1)) (0,0,(nS),[]) O (by dsimp only;exact ⟨by omega,by omega,by simp,rfl⟩) ⟨rfl,rfl,rfl,rfl,rfl,trivial⟩ (fun _=>Wd.pick [0,1] [0,1] O O O) ?_
 rintro ⟨i,k,u,l⟩ ⟨hi,hk,hll,HM⟩
 dsimp only at *
 refine R.reg O<|R.u 2 O<|R.q (q.len' (bJ 0 O) O Tryz.underlying23) O<|?_
 by_cases h1:i<a.length
 ·
  refine R.q (q.lss O O (decide_eq_true (by omega))) O<|R.u 6 O<|R.nil ?_
  refine R.aE O O ?_
  by_cases h2:k=b.length
  ·
   refine R.dP O mixed (by kernel_rfl)<|Q.u 2 O<|Q.q (q.len' (bJ 1 O) O Tryz.underlying23) O<|Q.q (q.eql O O (beq_iff_eq.2 (by omega))) O<|Q.u 19 O<|Q.nil ?_
   refine R.aE O O ?_
   refine R.reg O<|R.u 3 O<|?_
   obtain ⟨x1,hx1⟩:∃z,a[i]? = some z:=⟨_,List.getElem?_eq_getElem (by omega)⟩
   refine R.q (q.idx (i:=i) (bJ 0 O) O O bL O hx1) O<|R.q (q.dF (j':=0) (bJ 0 O) hx1 O bD O) O<|R.q (q.fb (bJ 0 O) hx1 O bV O) O<|R.q (q.build (cs:=[.string x1.Key,.string (⟨#[]⟩),.bool true]) kJ O O) O<|R.s O (s.bs (l:=([(⟨x1.Key,⟨#[]⟩,true⟩:Change)]:List Change)) bL dI O O O O O O O) fun b1=>R.s O (s.app (l2:=[(⟨x1.Key,⟨#[]⟩,true⟩:Change)]) 1 _ O O O (cJ 0 O) eQ (by (simp;omega)) (by (simp;omega)) (fun _=>rfl) O) fun v1=>R.u 1 O<|R.nil ?_
   refine R.reg O<|R.u 1 O<|R.q (q.add (r:=((i+1:Nat):Int)) O O (wr (by omega))) O<|R.u 1 O<|R.nil ?_
   refine R.back ((i+1),k,v1,(l++([(⟨x1.Key,⟨#[]⟩,true⟩:Change)]))) O (by ((try dsimp only);exact ⟨by omega,by omega,by (simp;omega),by exact wO HM hx1 (by omega)⟩)) (by dsimp only;omega) ⟨rfl,rfl,rfl,rfl,rfl,trivial⟩ (aK [1,2] [0,1] O O O)
  ·
   obtain ⟨x2,hx2⟩:∃z,a[i]? = some z:=⟨_,List.getElem?_eq_getElem (by omega)⟩
   obtain ⟨x3,hx3⟩:∃z,b[k]? = some z:=⟨_,List.getElem?_eq_getElem (by omega)⟩
   rcases Bool.eq_false_or_eq_true (fS x2.Key x3.Key) with h3|h3
   ·
    refine R.dP O mixed (by kernel_rfl)<|Q.u 2 O<|Q.q (q.len' (bJ 1 O) O Tryz.underlying23) O<|Q.q (q.eql O O (beq_eq_false_iff_ne.2 (by omega))) O<|Q.u 3 O<|Q.qg O (q.len' (bJ 0 O) O Tryz.underlying23) O<|Q.qg O (q.lss O O (decide_eq_true (by omega))) O<|Q.u 3 O<|Q.qg O (q.idx (i:=i) (bJ 0 O) O O bL O hx2) O<|Q.qg O (q.dF (j':=0) (bJ 0 O) hx2 O bD O) O<|Q.qg O (q.fb (bJ 0 O) hx2 O bV O) O<|Q.u 2 O<|Q.qg O (q.idx (i:=k) (bJ 1 O) O O bL O hx3) O<|Q.qg O (q.dF (j':=0) (bJ 1 O) hx3 O bD O) O<|Q.qg O (q.fb (bJ 1 O) hx3 O bV O) O<|Q.qg O (q.zf O O h3) O<|Q.u 2 O<|Q.nil ?_
    refine R.aE O O ?_
    refine R.reg O<|R.u 3 O<|R.q (q.idx (i:=i) (bJ 0 O) O O bL O hx2) O<|R.q (q.dF (j':=0) (bJ 0 O) hx2 O bD O) O<|R.q (q.fb (bJ 0 O) hx2 O bV O) O<|R.q (q.build (cs:=[.string x2.Key,.string (⟨#[]⟩),.bool true]) kJ O O) O<|R.s O (s.bs (l:=([(⟨x2.Key,⟨#[]⟩,true⟩:Change)]:List Change)) bL dI O O O O O O O) fun b2=>R.s O (s.app (l2:=[(⟨x2.Key,⟨#[]⟩,true⟩:Change)]) 1 _ O O O (cJ 0 O) eQ (by (simp;omega)) (by (simp;omega)) (fun _=>rfl) O) fun v2=>R.u 1 O<|R.nil ?_
    refine R.reg O<|R.u 1 O<|R.q (q.add (r:=((i+1:Nat):Int)) O O (wr (by omega))) O<|R.u 1 O<|R.nil ?_
    refine R.back ((i+1),k,v2,(l++([(⟨x2.Key,⟨#[]⟩,true⟩:Change)]))) O (by ((try dsimp only);exact ⟨by omega,by omega,by (simp;omega),by exact Ec HM hx2 ‹_› ‹_›⟩)) (by dsimp only;omega) ⟨rfl,rfl,rfl,rfl,rfl,trivial⟩ (aK [1,2] [0,1] O O O)
   ·
    refine R.dP O mixed (by kernel_rfl)<|Q.u 2 O<|Q.q (q.len' (bJ 1 O) O Tryz.underlying23) O<|Q.q (q.eql O O (beq_eq_false_iff_ne.2 (by omega))) O<|Q.u 3 O<|Q.qg O (q.len' (bJ 0 O) O Tryz.underlying23) O<|Q.qg O (q.lss O O (decide_eq_true (by omega))) O<|Q.u 3 O<|Q.qg O (q.idx (i:=i) (bJ 0 O) O O bL O hx2) O<|Q.qg O (q.dF (j':=0) (bJ 0 O) hx2 O bD O) O<|Q.qg O (q.fb (bJ 0 O) hx2 O bV O) O<|Q.u 2 O<|Q.qg O (q.idx (i:=k) (bJ 1 O) O O bL O hx3) O<|Q.qg O (q.dF (j':=0) (bJ 1 O) hx3 O bD O) O<|Q.qg O (q.fb (bJ 1 O) hx3 O bV O) O<|Q.qg O (q.zf O O h3) O<|Q.u 2 O<|Q.nil ?_
    refine R.aF O O ?_
    by_cases h4:i=a.length
    ·
     refine R.dP O mixed (by kernel_rfl)<|Q.u 2 O<|Q.q (q.len' (bJ 0 O) O Tryz.underlying23) O<|Q.q (q.eql O O (beq_iff_eq.2 (by omega))) O<|Q.u 13 O<|Q.nil ?_
     refine R.aE O O ?_
     refine R.reg O<|R.u 3 O<|R.q (q.idx (i:=k) (bJ 1 O) O O bL O hx3) O<|R.q (q.cY (ds:=bY x3) (bJ 1 O) hx3 O dm O) O<|R.s O (s.bs (l:=([x3]:List Change)) bL dI O O O O O O O) fun b3=>R.s O (s.app (l2:=[x3]) 1 _ O O O (cJ 0 O) eQ (by omega) (by omega) (fun _=>rfl) O) fun v3=>R.u 1 O<|R.nil ?_
     refine R.reg O<|R.u 1 O<|R.q (q.add (r:=((k+1:Nat):Int)) O O (wr (by omega))) O<|R.u 1 O<|R.nil ?_
     refine R.back (i,(k+1),v3,(l++([x3]))) O (by ((try dsimp only);exact ⟨by omega,by omega,by (simp;omega),by exact uM HM hx3 (by omega)⟩)) (by dsimp only;omega) ⟨rfl,rfl,rfl,rfl,rfl,trivial⟩ (aK [1,2] [0,1] O O O)
    ·
     rcases Bool.eq_false_or_eq_true (fS x3.Key x2.Key) with h5|h5
     ·
      refine R.dP O mixed (by kernel_rfl)<|Q.u 2 O<|Q.q (q.len' (bJ 0 O) O Tryz.underlying23) O<|Q.q (q.eql O O (beq_eq_false_iff_ne.2 (by omega))) O<|Q.u 3 O<|Q.qg O (q.idx (i:=k) (bJ 1 O) O O bL O hx3) O<|Q.qg O (q.dF (j':=0) (bJ 1 O) hx3 O bD O) O<|Q.qg O (q.fb (bJ 1 O) hx3 O bV O) O<|Q.u 2 O<|Q.qg O (q.idx (i:=i) (bJ 0 O) O O bL O hx2) O<|Q.qg O (q.dF (j':=0) (bJ 0 O) hx2 O bD O) O<|Q.qg O (q.fb (bJ 0 O) hx2 O bV O) O<|Q.qg O (q.zf O O h5) O<|Q.u 1 O<|Q.nil ?_
      refine R.aE O O ?_
      refine R.reg O<|R.u 3 O<|R.q (q.idx (i:=k) (bJ 1 O) O O bL O hx3) O<|R.q (q.cY (ds:=bY x3) (bJ 1 O) hx3 O dm O) O<|R.s O (s.bs (l:=([x3]:List Change)) bL dI O O O O O O O) fun b4=>R.s O (s.app (l2:=[x3]) 1 _ O O O (cJ 0 O) eQ (by (simp;omega)) (by (simp;omega)) (fun _=>rfl) O) fun v4=>R.u 1 O<|R.nil ?_
      refine R.reg O<|R.u 1 O<|R.q (q.add (r:=((k+1:Nat):Int)) O O (wr (by omega))) O<|R.u 1 O<|R.nil ?_
      refine R.back (i,(k+1),v4,(l++([x3]))) O (by ((try dsimp only);exact ⟨by omega,by omega,by (simp;omega),by exact F7 HM ‹_› hx3 ‹_› ‹_›⟩)) (by dsimp only;omega) ⟨rfl,rfl,rfl,rfl,rfl,trivial⟩ (aK [1,2] [0,1] O O O)
     ·
      refine R.dP O mixed (by kernel_rfl)<|Q.u 2 O<|Q.q (q.len' (bJ 0 O) O Tryz.underlying23) O<|Q.q (q.eql O O (beq_eq_false_iff_ne.2 (by omega))) O<|Q.u 3 O<|Q.qg O (q.idx (i:=k) (bJ 1 O) O O bL O hx3) O<|Q.qg O (q.dF (j':=0) (bJ 1 O) hx3 O bD O) O<|Q.qg O (q.fb (bJ 1 O) hx3 O bV O) O<|Q.u 2 O<|Q.qg O (q.idx (i:=i) (bJ 0 O) O O bL O hx2) O<|Q.qg O (q.dF (j':=0) (bJ 0 O) hx2 O bD O) O<|Q.qg O (q.fb (bJ 0 O) hx2 O bV O) O<|Q.qg O (q.zf O O h5) O<|Q.u 1 O<|Q.nil ?_
      refine R.aF O O ?_
      by_cases h6:x2=x3
      ·
       refine R.dP O mixed (by kernel_rfl)<|Q.u 2 O<|Q.q (q.idx (i:=i) (bJ 0 O) O O bL O hx2) O<|Q.q (q.cY (ds:=bY x2) (bJ 0 O) hx2 O dm O) O<|Q.u 2 O<|Q.q (q.idx (i:=k) (bJ 1 O) O O bL O hx3) O<|Q.q (q.cY (ds:=bY x3) (bJ 1 O) hx3 O dm O) O<|Q.q (q.gX (x:=x2) (y:=x3) pT O O h6) O<|Q.nil ?_
       refine R.aF O O ?_
       refine R.reg O<|R.u 1 O<|R.q (q.add (r:=((i+1:Nat):Int)) O O (wr (by omega))) O<|R.u 1 O<|R.nil ?_
       refine R.reg O<|R.u 1 O<|R.q (q.add (r:=((k+1:Nat):Int)) O O (wr (by omega))) O<|R.u 1 O<|R.nil ?_
       refine R.back ((i+1),(k+1),u,l) O (by ((try dsimp only);exact ⟨by omega,by omega,by omega,by exact Ed HM hx2 hx3 ‹_› ‹_› ‹_›⟩)) (by dsimp only;omega) ⟨rfl,rfl,rfl,rfl,rfl,trivial⟩ (aK [0,1] [0,1] O O O)
      ·
       refine R.dP O mixed (by kernel_rfl)<|Q.u 2 O<|Q.q (q.idx (i:=i) (bJ 0 O) O O bL O hx2) O<|Q.q (q.cY (ds:=bY x2) (bJ 0 O) hx2 O dm O) O<|Q.u 2 O<|Q.q (q.idx (i:=k) (bJ 1 O) O O bL O hx3) O<|Q.q (q.cY (ds:=bY x3) (bJ 1 O) hx3 O dm O) O<|Q.q (q.gY (x:=x2) (y:=x3) pT O O h6) O<|Q.nil ?_
       refine R.aE O O ?_
       refine R.reg O<|R.u 3 O<|R.q (q.idx (i:=k) (bJ 1 O) O O bL O hx3) O<|R.q (q.cY (ds:=bY x3) (bJ 1 O) hx3 O dm O) O<|R.s O (s.bs (l:=([x3]:List Change)) bL dI O O O O O O O) fun b5=>R.s O (s.app (l2:=[x3]) 1 _ O O O (cJ 0 O) eQ (by (simp;omega)) (by (simp;omega)) (fun _=>rfl) O) fun v5=>R.u 1 O<|R.nil ?_
       refine R.reg O<|R.u 1 O<|R.q (q.add (r:=((i+1:Nat):Int)) O O (wr (by omega))) O<|R.u 1 O<|R.nil ?_
       refine R.reg O<|R.u 1 O<|R.q (q.add (r:=((k+1:Nat):Int)) O O (wr (by omega))) O<|R.u 1 O<|R.nil ?_
       refine R.back ((i+1),(k+1),v5,(l++([x3]))) O (by ((try dsimp only);exact ⟨by omega,by omega,by (simp;omega),by exact Ee HM hx2 hx3 ‹_› ‹_› ‹_›⟩)) (by dsimp only;omega) ⟨rfl,rfl,rfl,rfl,rfl,trivial⟩ (aK [1,2] [0,1] O O O)
 ·
  refine R.q (q.lss O O (decide_eq_false (by omega))) O<|R.u 3 O<|R.qg O (q.len' (bJ 1 O) O Tryz.underlying23) O<|?_
  by_cases h7:k<b.length
  ·
   refine R.qg O (q.lss O O (decide_eq_true (by omega))) O<|R.u 1 O<|R.nil ?_
   refine R.aE O O ?_
   by_cases h8:k=b.length
   ·
    refine R.dP O mixed (by kernel_rfl)<|Q.u 2 O<|Q.q (q.len' (bJ 1 O) O Tryz.underlying23) O<|Q.q (q.eql O O (beq_iff_eq.2 (by omega))) O<|Q.u 19 O<|Q.nil ?_
    refine R.aE O O ?_
    refine R.reg O<|R.u 3 O<|?_
    obtain ⟨x4,hx4⟩:∃z,a[i]? = some z:=⟨_,List.getElem?_eq_getElem (by omega)⟩
    refine R.q (q.idx (i:=i) (bJ 0 O) O O bL O hx4) O<|R.q (q.dF (j':=0) (bJ 0 O) hx4 O bD O) O<|R.q (q.fb (bJ 0 O) hx4 O bV O) O<|R.q (q.build (cs:=[.string x4.Key,.string (⟨#[]⟩),.bool true]) kJ O O) O<|R.s O (s.bs (l:=([(⟨x4.Key,⟨#[]⟩,true⟩:Change)]:List Change)) bL dI O O O O O O O) fun b6=>R.s O (s.app (l2:=[(⟨x4.Key,⟨#[]⟩,true⟩:Change)]) 1 _ O O O (cJ 0 O) eQ (by omega) (by omega) (fun _=>rfl) O) fun v6=>R.u 1 O<|R.nil ?_
    refine R.reg O<|R.u 1 O<|R.q (q.add (r:=((i+1:Nat):Int)) O O (wr (by omega))) O<|R.u 1 O<|R.nil ?_
    refine R.back ((i+1),k,v6,(l++([(⟨x4.Key,⟨#[]⟩,true⟩:Change)]))) O (by ((try dsimp only);exact ⟨by omega,by omega,by (simp;omega),by exact wO HM hx4 (by omega)⟩)) (by dsimp only;omega) ⟨rfl,rfl,rfl,rfl,rfl,trivial⟩ (aK [1,2] [0,1] O O O)
   ·
    refine R.dP O mixed (by kernel_rfl)<|Q.u 2 O<|Q.q (q.len' (bJ 1 O) O Tryz.underlying23) O<|Q.q (q.eql O O (beq_eq_false_iff_ne.2 (by omega))) O<|Q.u 3 O<|Q.qg O (q.len' (bJ 0 O) O Tryz.underlying23) O<|Q.qg O (q.lss O O (decide_eq_false (by omega))) O<|Q.u 14 O<|Q.nil ?_
    refine R.aF O O ?_
    by_cases h9:i=a.length
    ·
     refine R.dP O mixed (by kernel_rfl)<|Q.u 2 O<|Q.q (q.len' (bJ 0 O) O Tryz.underlying23) O<|Q.q (q.eql O O (beq_iff_eq.2 (by omega))) O<|Q.u 13 O<|Q.nil ?_
     refine R.aE O O ?_
     refine R.reg O<|R.u 3 O<|?_
     obtain ⟨x5,hx5⟩:∃z,b[k]? = some z:=⟨_,List.getElem?_eq_getElem (by omega)⟩
     refine R.q (q.idx (i:=k) (bJ 1 O) O O bL O hx5) O<|R.q (q.cY (ds:=bY x5) (bJ 1 O) hx5 O dm O) O<|R.s O (s.bs (l:=([x5]:List Change)) bL dI O O O O O O O) fun b7=>R.s O (s.app (l2:=[x5]) 1 _ O O O (cJ 0 O) eQ (by (simp;omega)) (by (simp;omega)) (fun _=>rfl) O) fun v7=>R.u 1 O<|R.nil ?_
     refine R.reg O<|R.u 1 O<|R.q (q.add (r:=((k+1:Nat):Int)) O O (wr (by omega))) O<|R.u 1 O<|R.nil ?_
     refine R.back (i,(k+1),v7,(l++([x5]))) O (by ((try dsimp only);exact ⟨by omega,by omega,by (simp;omega),by exact uM HM hx5 (by omega)⟩)) (by dsimp only;omega) ⟨rfl,rfl,rfl,rfl,rfl,trivial⟩ (aK [1,2] [0,1] O O O)
    ·
     obtain ⟨x6,hx6⟩:∃z,b[k]? = some z:=⟨_,List.getElem?_eq_getElem (by omega)⟩
     obtain ⟨x7,hx7⟩:∃z,a[i]? = some z:=⟨_,List.getElem?_eq_getElem (by omega)⟩
     rcases Bool.eq_false_or_eq_true (fS x6.Key x7.Key) with h10|h10
     ·
      refine R.dP O mixed (by kernel_rfl)<|Q.u 2 O<|Q.q (q.len' (bJ 0 O) O Tryz.underlying23) O<|Q.q (q.eql O O (beq_eq_false_iff_ne.2 (by omega))) O<|Q.u 3 O<|Q.qg O (q.idx (i:=k) (bJ 1 O) O O bL O hx6) O<|Q.qg O (q.dF (j':=0) (bJ 1 O) hx6 O bD O) O<|Q.qg O (q.fb (bJ 1 O) hx6 O bV O) O<|Q.u 2 O<|Q.qg O (q.idx (i:=i) (bJ 0 O) O O bL O hx7) O<|Q.qg O (q.dF (j':=0) (bJ 0 O) hx7 O bD O) O<|Q.qg O (q.fb (bJ 0 O) hx7 O bV O) O<|Q.qg O (q.zf O O h10) O<|Q.u 1 O<|Q.nil ?_
      refine R.aE O O ?_
      refine R.reg O<|R.u 3 O<|R.q (q.idx (i:=k) (bJ 1 O) O O bL O hx6) O<|R.q (q.cY (ds:=bY x6) (bJ 1 O) hx6 O dm O) O<|R.s O (s.bs (l:=([x6]:List Change)) bL dI O O O O O O O) fun b8=>R.s O (s.app (l2:=[x6]) 1 _ O O O (cJ 0 O) eQ (by omega) (by omega) (fun _=>rfl) O) fun v8=>R.u 1 O<|R.nil ?_
      refine R.reg O<|R.u 1 O<|R.q (q.add (r:=((k+1:Nat):Int)) O O (wr (by omega))) O<|R.u 1 O<|R.nil ?_
      refine R.back (i,(k+1),v8,(l++([x6]))) O (by ((try dsimp only);exact ⟨by omega,by omega,by (simp;omega),by exact uM HM hx6 (by omega)⟩)) (by dsimp only;omega) ⟨rfl,rfl,rfl,rfl,rfl,trivial⟩ (aK [1,2] [0,1] O O O)
     ·
      refine R.dP O mixed (by kernel_rfl)<|Q.u 2 O<|Q.q (q.len' (bJ 0 O) O Tryz.underlying23) O<|Q.q (q.eql O O (beq_eq_false_iff_ne.2 (by omega))) O<|Q.u 3 O<|Q.qg O (q.idx (i:=k) (bJ 1 O) O O bL O hx6) O<|Q.qg O (q.dF (j':=0) (bJ 1 O) hx6 O bD O) O<|Q.qg O (q.fb (bJ 1 O) hx6 O bV O) O<|Q.u 2 O<|Q.qg O (q.idx (i:=i) (bJ 0 O) O O bL O hx7) O<|Q.qg O (q.dF (j':=0) (bJ 0 O) hx7 O bD O) O<|Q.qg O (q.fb (bJ 0 O) hx7 O bV O) O<|Q.qg O (q.zf O O h10) O<|Q.u 1 O<|Q.nil ?_
      refine R.aF O O ?_
      by_cases h11:x7=x6
      ·
       refine R.dP O mixed (by kernel_rfl)<|Q.u 2 O<|Q.q (q.idx (i:=i) (bJ 0 O) O O bL O hx7) O<|Q.q (q.cY (ds:=bY x7) (bJ 0 O) hx7 O dm O) O<|Q.u 2 O<|Q.q (q.idx (i:=k) (bJ 1 O) O O bL O hx6) O<|Q.q (q.cY (ds:=bY x6) (bJ 1 O) hx6 O dm O) O<|Q.q (q.gX (x:=x7) (y:=x6) pT O O h11) O<|Q.nil ?_
       refine R.aF O O ?_
       refine R.reg O<|R.u 1 O<|R.q (q.add (r:=((i+1:Nat):Int)) O O (wr (by omega))) O<|R.u 1 O<|R.nil ?_
       refine R.reg O<|R.u 1 O<|R.q (q.add (r:=((k+1:Nat):Int)) O O (wr (by omega))) O<|R.u 1 O<|R.nil ?_
       refine R.back ((i+1),(k+1),u,l) O (by ((try dsimp only);exact ⟨by omega,by omega,by omega,by (exfalso;omega)⟩)) (by dsimp only;omega) ⟨rfl,rfl,rfl,rfl,rfl,trivial⟩ (aK [0,1] [0,1] O O O)
      ·
       refine R.dP O mixed (by kernel_rfl)<|Q.u 2 O<|Q.q (q.idx (i:=i) (bJ 0 O) O O bL O hx7) O<|Q.q (q.cY (ds:=bY x7) (bJ 0 O) hx7 O dm O) O<|Q.u 2 O<|Q.q (q.idx (i:=k) (bJ 1 O) O O bL O hx6) O<|Q.q (q.cY (ds:=bY x6) (bJ 1 O) hx6 O dm O) O<|Q.q (q.gY (x:=x7) (y:=x6) pT O O h11) O<|Q.nil ?_
       refine R.aE O O ?_
       refine R.reg O<|R.u 3 O<|R.q (q.idx (i:=k) (bJ 1 O) O O bL O hx6) O<|R.q (q.cY (ds:=bY x6) (bJ 1 O) hx6 O dm O) O<|R.s O (s.bs (l:=([x6]:List Change)) bL dI O O O O O O O) fun b9=>R.s O (s.app (l2:=[x6]) 1 _ O O O (cJ 0 O) eQ (by omega) (by omega) (fun _=>rfl) O) fun v9=>R.u 1 O<|R.nil ?_
       refine R.reg O<|R.u 1 O<|R.q (q.add (r:=((i+1:Nat):Int)) O O (wr (by omega))) O<|R.u 1 O<|R.nil ?_
       refine R.reg O<|R.u 1 O<|R.q (q.add (r:=((k+1:Nat):Int)) O O (wr (by omega))) O<|R.u 1 O<|R.nil ?_
       refine R.back ((i+1),(k+1),v9,(l++([x6]))) O (by ((try dsimp only);exact ⟨by omega,by omega,by (simp;omega),by (exfalso;omega)⟩)) (by dsimp only;omega) ⟨rfl,rfl,rfl,rfl,rfl,trivial⟩ (aK [1,2] [0,1] O O O)
  ·
   refine R.qg O (q.lss O O (decide_eq_false (by omega))) O<|R.u 1 O<|R.nil ?_
   refine R.aF O O ?_
   refine R.reg O<|R.u 2 O<|R.nil ?_
   have hz:cG a b=l:=by (rw [List.drop_of_length_le (l:=a) (by omega),List.drop_of_length_le (l:=b) (by omega),m7,List.append_nil] at HM;exact HM.symm)
   rw [hz]
   exact R.w1 u [0,1] [] O Tryz.results21 (RV.tmp O) O O O O
end Go.Proofs.YtbkfhjaibhnkmaaGreatDoor
