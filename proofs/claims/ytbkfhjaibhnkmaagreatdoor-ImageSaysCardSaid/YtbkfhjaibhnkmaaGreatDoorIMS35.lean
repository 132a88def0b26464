import Derived.Test.YtbkfhjaibhnkmaaGreatDoorIMS32
import Derived.Test.YtbkfhjaibhnkmaaGreatDoorIMS34
namespace Go.Proofs.YtbkfhjaibhnkmaaGreatDoor
open Go Go.RowKit
set_option linter.unusedVariables false
set_option linter.unusedSimpArgs false
set_option maxRecDepth 100000
theorem f7 (n:Int)(w:World)(ht:wh w)(hn : -9223372036854775808≤n∧n≤9223372036854775807):Calls Tryz.prog 47 #[iV n] w fun e w'=>e = .returned (.string (aW n))∧Ext w w':=by
 have il:=oO hn;have ip:=Cj n
 refine R.enter (n:=13) (vs:=[iV n]) [] [(0,iV n)] Tryz.func47 O O O O ?_
 refine R.qd (r:=bR) ht (ux ht) ?_
 refine R.reg O<|R.u 1 O<|R.nil ?_
 refine R.reg O<|R.u 1 O<|R.c (q.call AB O O (fun w hw=>(r6 (n) w  (by exact hw.okF bR (by repeat (exact List.Mem.head _))) ‹_›))) O<|R.u 1 O<|R.nil ?_
 refine R.reg O<|R.u 1 O<|R.q (q.lV O Tryz.underlying9) O<|R.q (q.sub (r:=4-((dr n).size:Int)) O O (wr (by omega))) O<|R.q (q.max (r:=max 0 (4-((dr n).size:Int))) O O O) O<|R.c (q.call Hy O O (fun w hw=>(xI (⟨#[48]⟩) ((max 0 (4-((dr n).size:Int)))) w  (rfl) (by omega)))) O<|R.u 1 O<|R.q (q.cat O O (by (rw [yQ];omega))) O<|R.u 1 O<|R.nil ?_
 exact R.rv O Tryz.results47 O (rS (by (unfold aW;rw [show (max 0 (4-((dr n).size:Int))).toNat=4-(dr n).size by omega])))
def numsL (s:ByteArray)(m:Nat):List Int:=(cx s m).getD []
def ea (s:ByteArray)(m:Nat):Bool:=(cx s m).isSome
theorem DT {s:ByteArray}{m:Nat}(h:s.size<4*m):(numsL s m,ea s m)=([],false):=by unfold numsL ea cx;rw [if_pos h];rfl
theorem wq {s:ByteArray}{m k:Nat}{l:List Int}(h:¬ s.size<4*m)(hk:k<m)(hl:fR s k=some l)(hn:nn (s.extract (4*k) (4*k+4))=none):(numsL s m,ea s m)=([],false):=by
 unfold numsL ea cx;rw [if_neg h,zH hk hl hn];rfl
theorem DU {s:ByteArray}{m:Nat}{l:List Int}(h:¬ s.size<4*m)(hl:fR s m=some l):(numsL s m,ea s m)=(l,true):=by
 unfold numsL ea cx;rw [if_neg h,hl];rfl
theorem DV {s:ByteArray}(h:¬ (Lib.atoi s.data.toList).isSome=true):nn s=none:=by
 unfold nn;cases hq:Lib.atoi s.data.toList with|none=>rfl|some n=>rw [hq] at h;exact absurd rfl h
theorem DW {s:ByteArray}(h:¬ aW (aV s)=s):nn s=none:=by
 unfold nn;unfold aV at h
 cases hq:Lib.atoi s.data.toList with
 | none=>rfl
 | some n=>rw [hq] at h;dsimp only;exact if_neg h
theorem Ct {s:ByteArray}(h:(Lib.atoi s.data.toList).isSome=true)(he:aW (aV s)=s):nn s=some (aV s):=by
 unfold nn;unfold aV at he ⊢
 cases hq:Lib.atoi s.data.toList with
 | none=>rw [hq] at h;cases h
 | some n=>rw [hq] at he;dsimp only;exact if_pos he
theorem jh (sb:ByteArray)(m:Nat)(w:World)(own:List Nat)(H:Wd w (blks []++own) ([]++[ag.held w own]) [bR] w)(hs:sb.size≤1000000∧m≤4):Calls Tryz.prog 98 #[.string sb,iV (m:Int)] w fun e w' => ∃z:Value,e = .returned (.tuple #[z,.bool ((ea sb m))])∧Wd w (blks []++own) ([ag.row 3 z ((numsL sb m):List Int)]++[ag.held w own]) [] w':=by
 refine R.da (n:=50) (vs:=[.string sb,iV (m:Int)]) (B:=[ag.held w own]) [(0,.string sb),(1,iV (m:Int))] Tryz.func98 O O O O H ?_
 refine R.reg O<|R.u 2 O<|R.nil ?_
 refine R.reg O<|R.u 1 O<|R.q (q.lV O Tryz.underlying9) O<|R.u 1 O<|R.q (q.mul (r:=((4*m:Nat):Int)) O O (wr (by omega))) O<|?_
 by_cases h1:sb.size<(4*m)
 ·
  refine R.q (q.lss O O (decide_eq_true (by omega))) O<|R.nil ?_
  refine R.aE O O ?_
  refine R.reg O<|R.u 2 O<|R.nil ?_
  refine R.row0 (α:=Int) 3 ?_
  have hz:(numsL sb m,ea sb m)=([],false):=by (exact DT (by omega))
  have hz0:numsL sb m=[]:=congrArg (fun t_=>t_.1) hz
  rw [hz0]
  have hz1:ea sb m=false:=congrArg (fun t_=>t_.2) hz
  rw [hz1]
  exact R.w2 (nS) [0,1] [] O Tryz.results98 (RV.tmp O) (RV.tmp O) O O O (cD O O)
 ·
  refine R.q (q.lss O O (decide_eq_false (by omega))) O<|R.nil ?_
  refine R.aF O O ?_
  refine R.reg O<|R.u 1 O<|R.nil ?_
  refine R.reg O<|R.u 2 O<|R.nil ?_
  refine R.row0 (α:=Int) 3 ?_
  refine R.loop (fun g_:Nat×Value×(List Int)=>[(0,.string sb),(6,g_.2.1),(15,iV (m:Int)),(16,iV (g_.1:Int))]) (fun g_=>[ag.row 3 g_.2.1 g_.2.2,ag.held w own]) (fun g_=>[bR]) (fun g_=>g_.1≤m∧fR sb g_.1=some g_.2.2) (fun g_=>m-g_.1) (0,(nS),[]) O (by exact ⟨by omega,rfl⟩) ⟨rfl,rfl,rfl,rfl,trivial⟩ (fun _=>Wd.pick [0,1] [0] O O O) ?_
  rintro ⟨k,u,l⟩ ⟨hk,HL⟩
  dsimp only at *
  have ab:=Ci (s:=sb.extract (4*k) (4*k+4)) (by rw [ByteArray.size_extract];omega);have gl:=kU HL
  refine R.reg O<|?_
  by_cases h2:k<m
  ·
   refine R.q (q.lss O O (decide_eq_true (by omega))) O<|R.nil ?_
   refine R.aE O O ?_
   refine R.reg O<|R.u 2 O<|R.nil ?_
   refine R.reg O<|R.u 2 O<|R.q (q.mul (r:=((4*k:Nat):Int)) O O (wr (by omega))) O<|R.u 1 O<|R.q (q.mul (r:=((4*k:Nat):Int)) O O (wr (by omega))) O<|R.q (q.add (r:=(((4*k)+4:Nat):Int)) O O (wr (by omega))) O<|R.q (q.IG (i:=(4*k)) (j:=((4*k)+4)) O O O Tryz.underlying9 O O (by omega) (by omega)) O<|?_
   by_cases h3:(Lib.atoi (sb.extract (4*k) ((4*k)+4)).data.toList).isSome=true
   ·
    refine R.c (q.call AR O O (fun w hw=>(Cg ((sb.extract (4*k) ((4*k)+4))) w  ‹_› (by rw [ByteArray.size_extract];omega)))) O<|R.u 5 O<|R.nil ?_
    by_cases h4:aW (aV (sb.extract (4*k) ((4*k)+4)))=(sb.extract (4*k) ((4*k)+4))
    ·
     refine R.dP O mixed (by kernel_rfl)<|Q.u 1 O<|Q.q (q.Am O O Tryz.underlying35) O<|Q.u 2 O<|Q.cg O (q.call lS O O (fun w hw=>(f7 (aV (sb.extract (4*k) ((4*k)+4))) w  (by exact hw.okF bR (by repeat (exact List.Mem.head _))) ‹_›))) O<|Q.u 2 O<|Q.qg O (q.mul (r:=((4*k:Nat):Int)) O O (wr (by omega))) O<|Q.u 1 O<|Q.qg O (q.mul (r:=((4*k:Nat):Int)) O O (wr (by omega))) O<|Q.qg O (q.add (r:=(((4*k)+4:Nat):Int)) O O (wr (by omega))) O<|Q.qg O (q.IG (i:=(4*k)) (j:=((4*k)+4)) O O O Tryz.underlying9 O O (by omega) (by omega)) O<|Q.qg O (q.Ek O O h4) O<|Q.u 1 O<|Q.nil ?_
     refine R.aF O O ?_
     refine R.reg O<|R.u 2 O<|R.s O (s.bs (l:=([aV (sb.extract (4*k) ((4*k)+4))]:List Int)) dK iO O O O O O O O) fun b1=>R.s O (s.app (l2:=[aV (sb.extract (4*k) ((4*k)+4))]) 1 _ O O O (cJ 0 O) jq (by (simp;omega)) (by (simp;omega)) (fun _=>rfl) O) fun v1=>R.u 1 O<|R.nil ?_
     refine R.reg O<|R.q (q.add (r:=((k+1:Nat):Int)) O O (wr (by omega))) O<|R.u 1 O<|R.nil ?_
     refine R.back (k+1,v1,(l++([aV (sb.extract (4*k) ((4*k)+4))]))) O (by (exact ⟨by omega,rZ HL (Ct ‹_› ‹_›)⟩)) (by dsimp only;omega) ⟨rfl,rfl,rfl,rfl,trivial⟩ (aK [1,2] [0] O O O)
    ·
     refine R.dP O mixed (by kernel_rfl)<|Q.u 1 O<|Q.q (q.Am O O Tryz.underlying35) O<|Q.u 2 O<|Q.cg O (q.call lS O O (fun w hw=>(f7 (aV (sb.extract (4*k) ((4*k)+4))) w  (by exact hw.okF bR (by repeat (exact List.Mem.head _))) ‹_›))) O<|Q.u 2 O<|Q.qg O (q.mul (r:=((4*k:Nat):Int)) O O (wr (by omega))) O<|Q.u 1 O<|Q.qg O (q.mul (r:=((4*k:Nat):Int)) O O (wr (by omega))) O<|Q.qg O (q.add (r:=(((4*k)+4:Nat):Int)) O O (wr (by omega))) O<|Q.qg O (q.IG (i:=(4*k)) (j:=((4*k)+4)) O O O Tryz.underlying9 O O (by omega) (by omega)) O<|Q.qg O (q.El O O h4) O<|Q.u 1 O<|Q.nil ?_
     refine R.aE O O ?_
     refine R.reg O<|R.u 2 O<|R.nil ?_
     refine R.row0 (α:=Int) 3 ?_
     have hz:(numsL sb m,ea sb m)=([],false):=by (exact wq (by omega) (by omega) HL (DW ‹_›))
     have hz0:numsL sb m=[]:=congrArg (fun t_=>t_.1) hz
     rw [hz0]
     have hz1:ea sb m=false:=congrArg (fun t_=>t_.2) hz
     rw [hz1]
     exact R.w2 (nS) [0,2] [] O Tryz.results98 (RV.tmp O) (RV.tmp O) O O O (cD O O)
   ·
    refine R.s (B':=(fun aN:Value=>[ag.row 3 u l,ag.held w own])) (F':=(fun aN:Value=>[bR])) O (s.bP (B0:=[]) (Br:=[ag.row 3 u l,ag.held w own]) (F0:=[bR]) [0,1] [0] (fun aN:Value => .tuple #[iV 0,.iface 219 (aN)]) (fun aN:Value=>[]) (fun aN:Value=>[]) O O O AR O O (fun w own hw H=>Ch ((sb.extract (4*k) ((4*k)+4))) w own H ‹_› (by rw [ByteArray.size_extract];omega)) O) fun z1=>R.u 5 O<|R.nil ?_
    refine R.dP O mixed (by kernel_rfl)<|Q.u 1 O<|Q.q (q.Ej O O Tryz.underlying35) O<|Q.u 12 O<|Q.nil ?_
    refine R.aE O O ?_
    refine R.reg O<|R.u 2 O<|R.nil ?_
    refine R.row0 (α:=Int) 3 ?_
    have hz:(numsL sb m,ea sb m)=([],false):=by (exact wq (by omega) (by omega) HL (DV ‹_›))
    have hz0:numsL sb m=[]:=congrArg (fun t_=>t_.1) hz
    rw [hz0]
    have hz1:ea sb m=false:=congrArg (fun t_=>t_.2) hz
    rw [hz1]
    exact R.w2 (nS) [0,2] [] O Tryz.results98 (RV.tmp O) (RV.tmp O) O O O (cD O O)
  ·
   refine R.q (q.lss O O (decide_eq_false (by omega))) O<|R.nil ?_
   refine R.aF O O ?_
   refine R.reg O<|R.u 3 O<|R.nil ?_
   have hz:(numsL sb m,ea sb m)=(l,true):=by ((have e:k=m:=(by omega);subst e;exact DU (by omega) HL))
   have hz0:numsL sb m=l:=congrArg (fun t_=>t_.1) hz
   rw [hz0]
   have hz1:ea sb m=true:=congrArg (fun t_=>t_.2) hz
   rw [hz1]
   exact R.w2 u [0,1] [] O Tryz.results98 (RV.tmp O) (RV.tmp O) O O O (cD O O)
theorem ji {α β:Type}(f:α→β){L:List α}{k:Nat}{x:α}(hx:L[k]? = some x):(L.take (k+1)).map f=(L.take k).map f++[f x]:=by
 rw [List.take_add_one,hx,List.map_append];rfl
theorem kY {α β:Type}(f:α→β){L:List α}{k:Nat}(h:L.length≤k):(L.take k).map f=L.map f:=by rw [List.take_of_length_le h]
structure JZ (q:ar):Prop where
  i:Inv q
  h:∀x∈q.Held,(dr x.Place.aj).size≤21∧(dr x.Place.Slot).size≤21∧(aW x.ak).size≤25∧0≤x.Place.aj∧x.Place.aj≤4∧0≤x.Place.Slot∧x.Place.Slot≤5∧0≤x.ak∧x.ak≤10000
  t:∀x∈q.Things,(aW x.ID).size≤25∧(aW x.Kind).size≤25∧x.Data.size≤8∧0≤x.ID∧x.ID≤10000∧0≤x.Kind∧x.Kind≤2
  w:∀x∈q.ai,((aW x.ID).size≤25∧(aW x.ao).size≤25∧(aW x.Rights).size≤25∧(aW x.aI).size≤25∧(aW x.From).size≤25)∧0≤x.ID∧x.ID≤999∧0≤x.ao∧x.ao≤999∧0≤x.Rights∧x.Rights≤7∧0≤x.aI∧x.aI≤99∧0≤x.From∧x.From≤999
  n:(aW q.ae).size≤25∧(aW q.af).size≤25
theorem iX {n:Int}(h:0≤n∧n≤10000):(aW n).size≤25:=Ck (by omega)
theorem yV {n:Int}(h:0≤n∧n≤10000):(dr n).size≤21:=oO (by omega)
theorem Inv.Jn {q:ar}(i:Inv q):JZ q where
 i:=i
 h:=fun x hx=>by
  have k:=i.CX hx;have p:=ck k.1;have k1:=k.2.1;have k2:=k.2.2
  exact ⟨yV (by omega),yV (by omega),iX (by omega),by omega,by omega,by omega,by omega,by omega,by omega⟩
 t:=fun x hx=>by
  have k:=i.ET hx;have a:=k.i0;have b:=k.i9;have c:=k.kd;have d:=k.ds
  exact ⟨iX (by omega),iX (by omega),d,a,by omega,by omega,by omega⟩
 w:=fun x hx=>by
  have k:=i.tree.mem hx;have i1:=k.id1;have i9:=k.Dl;have t1:=k.EH;have t9:=k.Fu;have a0:=k.Fv;have a9:=k.Fw;have f0:=k.EI;have fl:=k.EJ;have q0:=k.Bm;have q7:=k.Bn
  exact ⟨⟨iX (by omega),iX (by omega),iX (by omega),iX (by omega),iX (by omega)⟩,by omega,by omega,by omega,by omega,by omega,by omega,by omega,by omega,by omega,by omega⟩
 n:=by
  have a1:=i.ki;have a2:=i.lC;have a3:=i.kv;have a4:=i.ky
  exact ⟨iX (by omega),iX (by omega)⟩
set_option maxRecDepth 100000 in
set_option maxHeartbeats 1600000 in
theorem sd (aD az aB aC:Value)(r:ar)(w:World)(own:List Nat)(H:Wd w (blks []++own) ([]++[ag.held w own]) [ag.ls aD (r.ai:List ak),ag.ls az (r.Things:List ao),ag.ls aB (r.Held:List Held),ag.ls aC (r.Notes:List Note),bR] w)(hk:Ok r)(hI:Inv r):Calls Tryz.prog 15 #[.agg #[aD,az,aB,aC,iV r.ae,iV r.af]] w fun e w' => ∃z:Value,e = .returned (z)∧Wd w (blks []++own) ([ag.row 52 z ((aU r):List Change)]++[ag.held w own]) [] w':=by
 have cS:=H.ct 0 rfl
 have cy:=H.ct 1 rfl
 have dq:=H.ct 2 rfl
 have cT:=H.ct 3 rfl
 have bw:=hk.wl;have bt:=hk.tl;have bh:=hk.hl;have bn:=hk.nl;have rL:=hk.w0;have rM:=hk.w1;have rN:=hk.t0;have rO:=hk.t1
 have hq:=(iM hI).1.Jn
 have hn:=hq.n;have ki:=hq.i.ki;have lC:=hq.i.lC;have kv:=hq.i.kv;have ky:=hq.i.ky;have hl0:=oK hq.i;have J0:=hq.i.gh;have J1:=(iM hI).2.2.2.1
 refine R.da (n:=101) (vs:=[.agg #[aD,az,aB,aC,iV r.ae,iV r.af]]) (B:=[ag.held w own]) [(0,.agg #[aD,az,aB,aC,iV r.ae,iV r.af])] Tryz.func15 O O O O H ?_
 refine R.reg O<|R.s O (s.box (cs:=[aD,az,aB,aC,iV r.ae,iV r.af]) O O O) fun b1=>R.u 1 O<|R.nil ?_
 refine R.reg O<|R.q (q.cj 0 O O ap) O<|R.s (B':=(fun g_:Value×Value×Value×Value=>[ag.box b1 [aD,az,aB,aC,iV r.ae,iV r.af] 32,ag.held w own])) (F':=(fun g_=>[ag.ls g_.1 ((aH r)).ai,ag.ls g_.2.1 ((aH r)).Things,ag.ls g_.2.2.1 ((aH r)).Held,ag.ls g_.2.2.2 ((aH r)).Notes,ag.ls aD r.ai,ag.ls az r.Things,ag.ls aB r.Held,ag.ls aC r.Notes,bR])) O (s.bP (B0:=[]) (Br:=[ag.box b1 [aD,az,aB,aC,iV r.ae,iV r.af] 32,ag.held w own]) (F0:=[ag.ls aD r.ai,ag.ls az r.Things,ag.ls aB r.Held,ag.ls aC r.Notes]) [0,1] bm (fun g_:Value×Value×Value×Value => .agg #[g_.1,g_.2.1,g_.2.2.1,g_.2.2.2,iV (((aH r)).ae),iV (((aH r)).af)]) (fun g_=>[]) (fun g_=>[ag.ls g_.1 ((aH r)).ai,ag.ls g_.2.1 ((aH r)).Things,ag.ls g_.2.2.1 ((aH r)).Held,ag.ls g_.2.2.2 ((aH r)).Notes]) O O O GY O O (fun w own hw H=>xL aD az aB aC (r) w own H ‹_›) O) ?_
 rintro ⟨z1,z2,z3,z4⟩
 dsimp only
 refine R.s O (s.dy (us:=[z1,z2,z3,z4,iV ((aH r).ae),iV ((aH r).af)]) (cs':=[z1,z2,z3,z4,iV ((aH r).ae),iV ((aH r).af)]) 0 _ O O O (fun _ _=>rfl) (.inl ap) (fun w hw=>(ah (Sl.one (hw.bq 0 O)) (ah (Sl.one (hw.bq 1 O)) (ah (Sl.one (hw.bq 2 O)) (ah (Sl.one (hw.bq 3 O)) (ah O (ah O aL))))))) O O O) fun _=>R.nil ?_
 refine R.reg O<|R.u 1 O<|R.nil ?_
 refine R.reg O<|R.q (q.aT (off':=2) O bB O) O<|R.q (q.ld 0 O O bZ O) O<|R.q (q.len' (bJ 2 O) O Tryz.underlying29) O<|R.u 1 O<|R.nil ?_
 refine R.row0 (α:=Change) 52 ?_
 refine R.loop (fun g_:Nat×Value×(List Change)=>[(1,.pointer (some ⟨b1,0,none⟩)),(3,g_.2.1),(13,z3),(14,iV (((aH r).Held).length:Int)),(15,iV (g_.1:Int))]) (fun g_=>[ag.row 52 g_.2.1 g_.2.2,ag.box b1 [z1,z2,z3,z4,iV ((aH r).ae),iV ((aH r).af)] 32,ag.held w own]) (fun g_=>[ag.ls z1 (aH r).ai,ag.ls z2 (aH r).Things,ag.ls z3 (aH r).Held,ag.ls z4 (aH r).Notes,ag.ls aD r.ai,ag.ls az r.Things,ag.ls aB r.Held,ag.ls aC r.Notes,bR]) (fun g_=>g_.1≤(aH r).Held.length∧g_.2.2=((aH r).Held.take g_.1).map hrow) (fun g_=>(aH r).Held.length-g_.1) (0,(nS),[]) O (by exact ⟨by omega,rfl⟩) ⟨rfl,rfl,rfl,rfl,rfl,trivial⟩ (fun _=>Wd.pick [0,1,2] cU O O O) ?_
 rintro ⟨k,u,l⟩ ⟨hk,HL⟩
 dsimp only at *
 have ll:l.length≤24:=by rw [HL,List.length_map,List.length_take];omega
 refine R.reg O<|?_
 by_cases h1:k<((aH r).Held).length
 ·
  refine R.q (q.lss O O (decide_eq_true (by omega))) O<|R.nil ?_
  refine R.aE O O ?_
  refine R.reg O<|?_
  obtain ⟨x1,hx1⟩:∃z,((aH r).Held)[k]? = some z:=⟨_,List.getElem?_eq_getElem (by omega)⟩
  have Jo:=hq.h _ (List.mem_of_getElem? hx1)
  refine R.q (q.idx (i:=k) (bJ 2 O) O O bK O hx1) O<|R.q (q.cY (ds:=dJ x1) (bJ 2 O) hx1 O dB O) O<|R.s O (s.alloc (cs:=CZ) dk O O) fun b2=>R.s O (s.st (us:=dJ x1) (cs':=dJ x1) 0 _ O O O O (.inl dB) O O O O) fun _=>R.nil ?_
  refine R.e8 (fuel:=18) (Wd w (blks []++own) [ag.box b2 (dJ x1) 85,ag.box b1 [z1,z2,z3,z4,iV ((aH r).ae),iV ((aH r).af)] 32,ag.held w own] [ag.ls z1 (aH r).ai,ag.ls z2 (aH r).Things,ag.ls z3 (aH r).Held,ag.ls z4 (aH r).Notes,ag.ls aD r.ai,ag.ls az r.Things,ag.ls aB r.Held,ag.ls aC r.Notes,bR]) O mixed O ?_
  refine D.q (i:=0) O (by kernel_rfl) (aK [0,2,3] cU O O O) O (q.mv O) O<|D.q (i:=1) O (by kernel_rfl) (aK [0,2,3] cU O O O) O (q.aT (off':=0) O gI O) O<|D.q (i:=2) O (by kernel_rfl) (aK [0,2,3] cU O O O) O (q.aT (off':=0) O cF O) O<|D.q (i:=3) O (by kernel_rfl) (aK [0,2,3] cU O O O) O (q.ld 0 O O aA O) O<|D.q (i:=6) O (by kernel_rfl) (aK [0,2,3] cU O O O) O (q.aT (off':=0) O gI O) O<|D.q (i:=7) O (by kernel_rfl) (aK [0,2,3] cU O O O) O (q.aT (off':=1) O ff O) O<|D.q (i:=8) O (by kernel_rfl) (aK [0,2,3] cU O O O) O (q.ld 0 O O aA O) O<|D.q (i:=11) O (by kernel_rfl) (aK [0,2,3] cU O O O) O (q.aT (off':=2) O fL O) O<|D.q (i:=12) O (by kernel_rfl) (aK [0,2,3] cU O O O) O (q.ld 0 O O aA O) O<|D.one (i:=4) (by kernel_rfl) O ?_
  refine Do.s (s.c (q.call AB O O (fun w hw=>(r6 (x1.Place.aj) w  (by exact hw.okF bR (by repeat (first|exact List.Mem.head _|refine List.Mem.tail _ ?_))) (by omega)))) O) (fun _=>(aK [0,2,3] cU O O O)) O fun _=>?_
  refine D.q (i:=5) O (by kernel_rfl) (aK [0,2,3] cU O O O) O (q.cat O O (by (simp only [ByteArray.size_append,eG,List.length_cons,List.length_nil];omega))) O<|D.one (i:=9) (by kernel_rfl) O ?_
  refine Do.s (s.c (q.call AB O O (fun w hw=>(r6 (x1.Place.Slot) w  (by exact hw.okF bR (by repeat (first|exact List.Mem.head _|refine List.Mem.tail _ ?_))) (by omega)))) O) (fun _=>(aK [0,2,3] cU O O O)) O fun _=>?_
  refine D.q (i:=10) O (by kernel_rfl) (aK [0,2,3] cU O O O) O (q.cat O O (by (simp only [ByteArray.size_append,eG,List.length_cons,List.length_nil];omega))) O<|D.one (i:=13) (by kernel_rfl) O ?_
  refine Do.s (s.c (q.call lS O O (fun w hw=>(f7 (x1.ak) w  (by exact hw.okF bR (by repeat (first|exact List.Mem.head _|refine List.Mem.tail _ ?_))) (by omega)))) O) (fun _=>(aK [0,2,3] cU O O O)) O fun _=>?_
  refine D.q (i:=14) O (by kernel_rfl) (aK [0,2,3] cU O O O) O (q.build (cs:=[.string ((⟨#[104]⟩++dr x1.Place.aj)++dr x1.Place.Slot),.string (aW x1.ak),.bool false]) kJ O O) O<|D.one (i:=15) (by kernel_rfl) O ?_
  refine Do.s (s.bs (l:=([(⟨((⟨#[104]⟩++dr x1.Place.aj)++dr x1.Place.Slot),aW x1.ak,false⟩:Change)]:List Change)) bL dI O O O O O O O) (fun _=>(aK [1,3,4] cU O O O)) O fun b3=>D.one (i:=16) (by kernel_rfl) O ?_
  refine Do.s (s.app (l2:=[(⟨((⟨#[104]⟩++dr x1.Place.aj)++dr x1.Place.Slot),aW x1.ak,false⟩:Change)]) 2 _ O O O (cJ 0 O) eQ (by (simp;omega)) (by (simp;omega)) (fun _=>rfl) O) (fun _=>(aK [1,3,4] cU O O O)) O fun v1=>D.q (i:=17) O (by kernel_rfl) (aK [1,3,4] cU O O O) O (q.as O) O<|D.done (by kernel_rfl)<|R.reg O<|R.q (q.add (r:=((k+1:Nat):Int)) O O (wr (by omega))) O<|R.u 1 O<|R.nil ?_
  refine R.back (k+1,v1,(l++([(⟨((⟨#[104]⟩++dr x1.Place.aj)++dr x1.Place.Slot),aW x1.ak,false⟩:Change)]))) O (by (exact ⟨by omega,by rw [ji hrow hx1,← HL];rfl⟩)) (by dsimp only;omega) ⟨rfl,rfl,rfl,rfl,rfl,trivial⟩ (aK [2,3,4] cU O O O)
 ·
  refine R.q (q.lss O O (decide_eq_false (by omega))) O<|R.nil ?_
  refine R.aF O O ?_
  refine R.reg O<|R.q (q.aT (off':=1) O bM O) O<|R.q (q.ld 1 O O cq O) O<|R.q (q.len' (bJ 1 O) O Tryz.underlying28) O<|R.u 1 O<|R.nil ?_
  refine R.loop (fun g_:Nat×Value×(List Change)=>[(1,.pointer (some ⟨b1,0,none⟩)),(3,g_.2.1),(38,z2),(39,iV (((aH r).Things).length:Int)),(40,iV (g_.1:Int))]) (fun g_=>[ag.row 52 g_.2.1 g_.2.2,ag.box b1 [z1,z2,z3,z4,iV ((aH r).ae),iV ((aH r).af)] 32,ag.held w own]) (fun g_=>[ag.ls z1 (aH r).ai,ag.ls z2 (aH r).Things,ag.ls z3 (aH r).Held,ag.ls z4 (aH r).Notes,ag.ls aD r.ai,ag.ls az r.Things,ag.ls aB r.Held,ag.ls aC r.Notes,bR]) (fun g_=>g_.1≤(aH r).Things.length∧g_.2.2=(aH r).Held.map hrow++((aH r).Things.take g_.1).map gV) (fun g_=>(aH r).Things.length-g_.1) (0,u,l) O (by exact ⟨by omega,by rw [HL,kY _ (by omega)];exact (List.append_nil _).symm⟩) ⟨rfl,rfl,rfl,rfl,rfl,trivial⟩ (fun _=>Wd.pick [0,1,2] cU O O O) ?_
  rintro ⟨j,u2,l2⟩ ⟨hj,HL2⟩
  dsimp only at *
  have I8:l2.length≤34:=by rw [HL2,List.length_append,List.length_map,List.length_map,List.length_take];omega
  refine R.reg O<|?_
  by_cases h2:j<((aH r).Things).length
  ·
   refine R.q (q.lss O O (decide_eq_true (by omega))) O<|R.nil ?_
   refine R.aE O O ?_
   refine R.reg O<|?_
   obtain ⟨x2,hx2⟩:∃z,((aH r).Things)[j]? = some z:=⟨_,List.getElem?_eq_getElem (by omega)⟩
   have Im:=hq.t _ (List.mem_of_getElem? hx2)
   refine R.q (q.idx (i:=j) (bJ 1 O) O O ew O hx2) O<|R.q (q.cY (ds:=eE x2) (bJ 1 O) hx2 O fu O) O<|R.s O (s.alloc (cs:=[iV 0,iV 0,.string (⟨#[]⟩)]) fw O O) fun b4=>R.s O (s.st (us:=eE x2) (cs':=eE x2) 0 _ O O O O (.inl fu) O O O O) fun _=>R.nil ?_
   refine R.e8 (fuel:=15) (Wd w (blks []++own) [ag.box b4 (eE x2) 62,ag.box b1 [z1,z2,z3,z4,iV ((aH r).ae),iV ((aH r).af)] 32,ag.held w own] [ag.ls z1 (aH r).ai,ag.ls z2 (aH r).Things,ag.ls z3 (aH r).Held,ag.ls z4 (aH r).Notes,ag.ls aD r.ai,ag.ls az r.Things,ag.ls aB r.Held,ag.ls aC r.Notes,bR]) O mixed O ?_
   refine D.q (i:=0) O (by kernel_rfl) (aK [0,2,3] cU O O O) O (q.mv O) O<|D.q (i:=1) O (by kernel_rfl) (aK [0,2,3] cU O O O) O (q.aT (off':=0) O g9 O) O<|D.q (i:=2) O (by kernel_rfl) (aK [0,2,3] cU O O O) O (q.ld 0 O O aA O) O<|D.q (i:=5) O (by kernel_rfl) (aK [0,2,3] cU O O O) O (q.aT (off':=1) O mN O) O<|D.q (i:=6) O (by kernel_rfl) (aK [0,2,3] cU O O O) O (q.ld 0 O O aA O) O<|D.q (i:=8) O (by kernel_rfl) (aK [0,2,3] cU O O O) O (q.aT (off':=2) O mO O) O<|D.q (i:=9) O (by kernel_rfl) (aK [0,2,3] cU O O O) O (q.ld 0 O O bV O) O<|D.one (i:=3) (by kernel_rfl) O ?_
   refine Do.s (s.c (q.call lS O O (fun w hw=>(f7 (x2.ID) w  (by exact hw.okF bR (by repeat (first|exact List.Mem.head _|refine List.Mem.tail _ ?_))) (by omega)))) O) (fun _=>(aK [0,2,3] cU O O O)) O fun _=>?_
   refine D.q (i:=4) O (by kernel_rfl) (aK [0,2,3] cU O O O) O (q.cat O O (by (simp only [ByteArray.size_append,eG,List.length_cons,List.length_nil];omega))) O<|D.one (i:=7) (by kernel_rfl) O ?_
   refine Do.s (s.c (q.call lS O O (fun w hw=>(f7 (x2.Kind) w  (by exact hw.okF bR (by repeat (first|exact List.Mem.head _|refine List.Mem.tail _ ?_))) (by omega)))) O) (fun _=>(aK [0,2,3] cU O O O)) O fun _=>?_
   refine D.q (i:=10) O (by kernel_rfl) (aK [0,2,3] cU O O O) O (q.cat O O (by omega)) O<|D.q (i:=11) O (by kernel_rfl) (aK [0,2,3] cU O O O) O (q.build (cs:=[.string (⟨#[116]⟩++aW x2.ID),.string (aW x2.Kind++x2.Data),.bool false]) kJ O O) O<|D.one (i:=12) (by kernel_rfl) O ?_
   refine Do.s (s.bs (l:=([(⟨(⟨#[116]⟩++aW x2.ID),(aW x2.Kind++x2.Data),false⟩:Change)]:List Change)) bL dI O O O O O O O) (fun _=>(aK [1,3,4] cU O O O)) O fun b5=>D.one (i:=13) (by kernel_rfl) O ?_
   refine Do.s (s.app (l2:=[(⟨(⟨#[116]⟩++aW x2.ID),(aW x2.Kind++x2.Data),false⟩:Change)]) 2 _ O O O (cJ 0 O) eQ (by (simp;omega)) (by (simp;omega)) (fun _=>rfl) O) (fun _=>(aK [1,3,4] cU O O O)) O fun v2=>D.q (i:=14) O (by kernel_rfl) (aK [1,3,4] cU O O O) O (q.as O) O<|D.done (by kernel_rfl)<|R.reg O<|R.q (q.add (r:=((j+1:Nat):Int)) O O (wr (by omega))) O<|R.u 1 O<|R.nil ?_
   refine R.back (j+1,v2,(l2++([(⟨(⟨#[116]⟩++aW x2.ID),(aW x2.Kind++x2.Data),false⟩:Change)]))) O (by (exact ⟨by omega,by rw [ji gV hx2,← List.append_assoc,← HL2];rfl⟩)) (by dsimp only;omega) ⟨rfl,rfl,rfl,rfl,rfl,trivial⟩ (aK [2,3,4] cU O O O)
  ·
   refine R.q (q.lss O O (decide_eq_false (by omega))) O<|R.nil ?_
   refine R.aF O O ?_
   refine R.reg O<|R.q (q.aT (off':=0) O bf O) O<|R.q (q.ld 1 O O bE O) O<|R.q (q.len' (bJ 0 O) O Tryz.underlying27) O<|R.u 1 O<|R.nil ?_
   refine R.loop (fun g_:Nat×Value×(List Change)=>[(1,.pointer (some ⟨b1,0,none⟩)),(3,g_.2.1),(60,z1),(61,iV (((aH r).ai).length:Int)),(62,iV (g_.1:Int))]) (fun g_=>[ag.row 52 g_.2.1 g_.2.2,ag.box b1 [z1,z2,z3,z4,iV ((aH r).ae),iV ((aH r).af)] 32,ag.held w own]) (fun g_=>[ag.ls z1 (aH r).ai,ag.ls z2 (aH r).Things,ag.ls z3 (aH r).Held,ag.ls z4 (aH r).Notes,ag.ls aD r.ai,ag.ls az r.Things,ag.ls aB r.Held,ag.ls aC r.Notes,bR]) (fun g_=>g_.1≤(aH r).ai.length∧g_.2.2=(aH r).Held.map hrow++(aH r).Things.map gV++((aH r).ai.take g_.1).map jo) (fun g_=>(aH r).ai.length-g_.1) (0,u2,l2) O (by exact ⟨by omega,by rw [HL2,kY _ (by omega)];exact (List.append_nil _).symm⟩) ⟨rfl,rfl,rfl,rfl,rfl,trivial⟩ (fun _=>Wd.pick [0,1,2] cU O O O) ?_
   rintro ⟨i,u3,l3⟩ ⟨hi,FU⟩
   dsimp only at *
   have J2:l3.length≤58:=by rw [FU,List.length_append,List.length_append,List.length_map,List.length_map,List.length_map,List.length_take];omega
   refine R.reg O<|?_
   by_cases h3:i<((aH r).ai).length
   ·
    refine R.q (q.lss O O (decide_eq_true (by omega))) O<|R.nil ?_
    refine R.aE O O ?_
    refine R.reg O<|?_
    obtain ⟨x3,hx3⟩:∃z,((aH r).ai)[i]? = some z:=⟨_,List.getElem?_eq_getElem (by omega)⟩
    have J3:=hq.w _ (List.mem_of_getElem? hx3)
    refine R.q (q.idx (i:=i) (bJ 0 O) O O cK O hx3) O<|R.q (q.cY (ds:=ay x3) (bJ 0 O) hx3 O aP O) O<|R.s O (s.alloc (cs:=cC) bF O O) fun b6=>R.s O (s.st (us:=ay x3) (cs':=ay x3) 0 _ O O O O (.inl aP) O O O O) fun _=>R.nil ?_
    refine R.e8 (fuel:=24) (Wd w (blks []++own) [ag.box b6 (ay x3) 88,ag.box b1 [z1,z2,z3,z4,iV ((aH r).ae),iV ((aH r).af)] 32,ag.held w own] [ag.ls z1 (aH r).ai,ag.ls z2 (aH r).Things,ag.ls z3 (aH r).Held,ag.ls z4 (aH r).Notes,ag.ls aD r.ai,ag.ls az r.Things,ag.ls aB r.Held,ag.ls aC r.Notes,bR]) O mixed O ?_
    refine D.q (i:=0) O (by kernel_rfl) (aK [0,2,3] cU O O O) O (q.mv O) O<|D.q (i:=1) O (by kernel_rfl) (aK [0,2,3] cU O O O) O (q.aT (off':=0) O bI O) O<|D.q (i:=2) O (by kernel_rfl) (aK [0,2,3] cU O O O) O (q.ld 0 O O aA O) O<|D.q (i:=5) O (by kernel_rfl) (aK [0,2,3] cU O O O) O (q.aT (off':=1) O dw O) O<|D.q (i:=6) O (by kernel_rfl) (aK [0,2,3] cU O O O) O (q.ld 0 O O aA O) O<|D.q (i:=8) O (by kernel_rfl) (aK [0,2,3] cU O O O) O (q.aT (off':=2) O fj O) O<|D.q (i:=9) O (by kernel_rfl) (aK [0,2,3] cU O O O) O (q.ld 0 O O aA O) O<|D.q (i:=12) O (by kernel_rfl) (aK [0,2,3] cU O O O) O (q.aT (off':=3) O ei O) O<|D.q (i:=13) O (by kernel_rfl) (aK [0,2,3] cU O O O) O (q.ld 0 O O aA O) O<|D.q (i:=16) O (by kernel_rfl) (aK [0,2,3] cU O O O) O (q.aT (off':=4) O dX O) O<|D.q (i:=17) O (by kernel_rfl) (aK [0,2,3] cU O O O) O (q.ld 0 O O aA O) O<|D.one (i:=3) (by kernel_rfl) O ?_
    refine Do.s (s.c (q.call lS O O (fun w hw=>(f7 (x3.ID) w  (by exact hw.okF bR (by repeat (first|exact List.Mem.head _|refine List.Mem.tail _ ?_))) (by omega)))) O) (fun _=>(aK [0,2,3] cU O O O)) O fun _=>?_
    refine D.q (i:=4) O (by kernel_rfl) (aK [0,2,3] cU O O O) O (q.cat O O (by (simp only [ByteArray.size_append,eG,List.length_cons,List.length_nil];omega))) O<|D.one (i:=7) (by kernel_rfl) O ?_
    refine Do.s (s.c (q.call lS O O (fun w hw=>(f7 (x3.ao) w  (by exact hw.okF bR (by repeat (first|exact List.Mem.head _|refine List.Mem.tail _ ?_))) (by omega)))) O) (fun _=>(aK [0,2,3] cU O O O)) O fun _=>?_
    refine D.one (i:=10) (by kernel_rfl) O ?_
    refine Do.s (s.c (q.call lS O O (fun w hw=>(f7 (x3.Rights) w  (by exact hw.okF bR (by repeat (first|exact List.Mem.head _|refine List.Mem.tail _ ?_))) (by omega)))) O) (fun _=>(aK [0,2,3] cU O O O)) O fun _=>?_
    refine D.q (i:=11) O (by kernel_rfl) (aK [0,2,3] cU O O O) O (q.cat O O (by omega)) O<|D.one (i:=14) (by kernel_rfl) O ?_
    refine Do.s (s.c (q.call lS O O (fun w hw=>(f7 (x3.aI) w  (by exact hw.okF bR (by repeat (first|exact List.Mem.head _|refine List.Mem.tail _ ?_))) (by omega)))) O) (fun _=>(aK [0,2,3] cU O O O)) O fun _=>?_
    refine D.q (i:=15) O (by kernel_rfl) (aK [0,2,3] cU O O O) O (q.cat O O (by (simp only [ByteArray.size_append,eG,List.length_cons,List.length_nil];omega))) O<|D.one (i:=18) (by kernel_rfl) O ?_
    refine Do.s (s.c (q.call lS O O (fun w hw=>(f7 (x3.From) w  (by exact hw.okF bR (by repeat (first|exact List.Mem.head _|refine List.Mem.tail _ ?_))) (by omega)))) O) (fun _=>(aK [0,2,3] cU O O O)) O fun _=>?_
    refine D.q (i:=19) O (by kernel_rfl) (aK [0,2,3] cU O O O) O (q.cat O O (by (simp only [ByteArray.size_append,eG,List.length_cons,List.length_nil];omega))) O<|D.q (i:=20) O (by kernel_rfl) (aK [0,2,3] cU O O O) O (q.build (cs:=[.string (⟨#[119]⟩++aW x3.ID),.string (((aW x3.ao++aW x3.Rights)++aW x3.aI)++aW x3.From),.bool false]) kJ O O) O<|D.one (i:=21) (by kernel_rfl) O ?_
    refine Do.s (s.bs (l:=([(⟨(⟨#[119]⟩++aW x3.ID),(((aW x3.ao++aW x3.Rights)++aW x3.aI)++aW x3.From),false⟩:Change)]:List Change)) bL dI O O O O O O O) (fun _=>(aK [1,3,4] cU O O O)) O fun b7=>D.one (i:=22) (by kernel_rfl) O ?_
    refine Do.s (s.app (l2:=[(⟨(⟨#[119]⟩++aW x3.ID),(((aW x3.ao++aW x3.Rights)++aW x3.aI)++aW x3.From),false⟩:Change)]) 2 _ O O O (cJ 0 O) eQ (by (simp;omega)) (by (simp;omega)) (fun _=>rfl) O) (fun _=>(aK [1,3,4] cU O O O)) O fun v3=>D.q (i:=23) O (by kernel_rfl) (aK [1,3,4] cU O O O) O (q.as O) O<|D.done (by kernel_rfl)<|R.reg O<|R.q (q.add (r:=((i+1:Nat):Int)) O O (wr (by omega))) O<|R.u 1 O<|R.nil ?_
    refine R.back (i+1,v3,(l3++([(⟨(⟨#[119]⟩++aW x3.ID),(((aW x3.ao++aW x3.Rights)++aW x3.aI)++aW x3.From),false⟩:Change)]))) O (by (exact ⟨by omega,by rw [ji jo hx3,← List.append_assoc,← FU];rfl⟩)) (by dsimp only;omega) ⟨rfl,rfl,rfl,rfl,rfl,trivial⟩ (aK [2,3,4] cU O O O)
   ·
    refine R.q (q.lss O O (decide_eq_false (by omega))) O<|R.nil ?_
    refine R.aF O O ?_
    refine R.e8 (fuel:=12) (Wd w (blks []++own) [ag.box b1 [z1,z2,z3,z4,iV ((aH r).ae),iV ((aH r).af)] 32,ag.held w own] [ag.ls z1 (aH r).ai,ag.ls z2 (aH r).Things,ag.ls z3 (aH r).Held,ag.ls z4 (aH r).Notes,ag.ls aD r.ai,ag.ls az r.Things,ag.ls aB r.Held,ag.ls aC r.Notes,bR]) O mixed O ?_
    refine D.q (i:=0) O (by kernel_rfl) (aK [1,2] cU O O O) O (q.mv O) O<|D.q (i:=1) O (by kernel_rfl) (aK [1,2] cU O O O) O (q.aT (off':=4) O bW O) O<|D.q (i:=2) O (by kernel_rfl) (aK [1,2] cU O O O) O (q.ld 0 O O aA O) O<|D.q (i:=4) O (by kernel_rfl) (aK [1,2] cU O O O) O (q.aT (off':=5) O cI O) O<|D.q (i:=5) O (by kernel_rfl) (aK [1,2] cU O O O) O (q.ld 0 O O aA O) O<|D.one (i:=3) (by kernel_rfl) O ?_
    refine Do.s (s.c (q.call lS O O (fun w hw=>(f7 ((aH r).ae) w  (by exact hw.okF bR (by repeat (first|exact List.Mem.head _|refine List.Mem.tail _ ?_))) (by omega)))) O) (fun _=>(aK [1,2] cU O O O)) O fun _=>?_
    refine D.one (i:=6) (by kernel_rfl) O ?_
    refine Do.s (s.c (q.call lS O O (fun w hw=>(f7 ((aH r).af) w  (by exact hw.okF bR (by repeat (first|exact List.Mem.head _|refine List.Mem.tail _ ?_))) (by omega)))) O) (fun _=>(aK [1,2] cU O O O)) O fun _=>?_
    refine D.q (i:=7) O (by kernel_rfl) (aK [1,2] cU O O O) O (q.cat O O (by omega)) O<|D.q (i:=8) O (by kernel_rfl) (aK [1,2] cU O O O) O (q.build (cs:=[.string (⟨#[120]⟩),.string (aW ((aH r).ae)++aW ((aH r).af)),.bool false]) kJ O O) O<|D.one (i:=9) (by kernel_rfl) O ?_
    refine Do.s (s.bs (l:=([(⟨⟨#[120]⟩,(aW ((aH r).ae)++aW ((aH r).af)),false⟩:Change)]:List Change)) bL dI O O O O O O O) (fun _=>(aK [2,3] cU O O O)) O fun b8=>D.one (i:=10) (by kernel_rfl) O ?_
    refine Do.s (s.app (l2:=[(⟨⟨#[120]⟩,(aW ((aH r).ae)++aW ((aH r).af)),false⟩:Change)]) 1 _ O O O (cJ 0 O) eQ (by (simp;omega)) (by (simp;omega)) (fun _=>rfl) O) (fun _=>(aK [2,3] cU O O O)) O fun v4=>D.q (i:=11) O (by kernel_rfl) (aK [2,3] cU O O O) O (q.as O) O<|D.done (by kernel_rfl)<|?_
    have hz:aU r=(l3++([(⟨⟨#[120]⟩,(aW ((aH r).ae)++aW ((aH r).af)),false⟩:Change)])):=by (unfold aU rowsOf;rw [FU,kY _ (by omega)];rfl)
    rw [hz]
    exact R.w1 v4 [1,3] [] O Tryz.results15 (RV.tmp O) O O O O
theorem sf (k9:Value)(a:List Int)(lq:Value)(b:List Int)(w:World)(nK:Sl w k9 a)(o6:Sl w lq b):Calls Tryz.prog 100 #[k9,lq] w fun e w'=>e = .returned (.bool (decide (a=b)))∧Ext w w':=by
 have IJ:=nK.ec
 have IK:=o6.ec
 refine R.enter (n:=26) (vs:=[k9,lq]) [] [(0,k9),(1,lq)] Tryz.func100 O O O O ?_
 refine R.reg O<|R.u 1 O<|R.nil ?_
 refine R.reg O<|R.u 1 O<|R.q (q.len' (fun _=>Wd.old nK) O Tryz.underlying60) O<|R.u 1 O<|R.q (q.len' (fun _=>Wd.old o6) O Tryz.underlying60) O<|?_
 by_cases h1:a.length=b.length
 ·
  refine R.q (q.neq O O (bne_eq_false_iff_eq.2 (by omega))) O<|R.nil ?_
  refine R.aF O O ?_
  refine R.reg O<|R.u 1 O<|R.q (q.len' (fun _=>Wd.old nK) O Tryz.underlying60) O<|R.u 1 O<|R.nil ?_
  refine R.loop (fun k:Nat=>[(0,k9),(1,lq),(12,iV (a.length:Int)),(13,iV (k:Int))]) (fun k:Nat=>[]) (fun k:Nat=>[]) (fun k:Nat=>k≤a.length ∧ ∀j,j<k→a[j]? = b[j]?) (fun k:Nat=>a.length-k) 0 O (by exact ⟨by omega,fun j hj=>absurd hj (Nat.not_lt_zero _)⟩) ⟨rfl,rfl,rfl,rfl,trivial⟩ (fun _=>Wd.pick [] [] O O O) ?_
  rintro k ⟨hk,HA⟩
  refine R.reg O<|?_
  by_cases h2:k<a.length
  ·
   refine R.q (q.lss O O (decide_eq_true (by omega))) O<|R.nil ?_
   refine R.aE O O ?_
   refine R.reg O<|R.u 2 O<|R.nil ?_
   obtain ⟨x1,hx1⟩:∃z,a[k]? = some z:=⟨_,List.getElem?_eq_getElem (by omega)⟩
   obtain ⟨x2,hx2⟩:∃z,b[k]? = some z:=⟨_,List.getElem?_eq_getElem (by omega)⟩
   by_cases h3:x1=x2
   ·
    refine R.dP O mixed (by kernel_rfl)<|Q.u 2 O<|Q.q (q.idx (i:=k) (fun _=>Wd.old nK) O O dK O hx1) O<|Q.q (q.fb (fun _=>Wd.old nK) hx1 O aA O) O<|Q.u 2 O<|Q.q (q.idx (i:=k) (fun _=>Wd.old o6) O O dK O hx2) O<|Q.q (q.fb (fun _=>Wd.old o6) hx2 O aA O) O<|Q.q (q.neq O O (bne_eq_false_iff_eq.2 (by omega))) O<|Q.nil ?_
    refine R.aF O O ?_
    refine R.reg O<|R.q (q.add (r:=((k+1:Nat):Int)) O O (wr (by omega))) O<|R.u 1 O<|R.nil ?_
    refine R.back (k+1) O (by (exact ⟨by omega,jA HA hx1 hx2 ‹_›⟩)) (by omega) ⟨rfl,rfl,rfl,rfl,trivial⟩ (fun _=>Wd.pick [] [] O O O)
   ·
    refine R.dP O mixed (by kernel_rfl)<|Q.u 2 O<|Q.q (q.idx (i:=k) (fun _=>Wd.old nK) O O dK O hx1) O<|Q.q (q.fb (fun _=>Wd.old nK) hx1 O aA O) O<|Q.u 2 O<|Q.q (q.idx (i:=k) (fun _=>Wd.old o6) O O dK O hx2) O<|Q.q (q.fb (fun _=>Wd.old o6) hx2 O aA O) O<|Q.q (q.neq O O (bne_iff_ne.2 (by omega))) O<|Q.nil ?_
    refine R.aE O O ?_
    refine R.reg O<|R.u 1 O<|R.nil ?_
    exact R.rv O Tryz.results100 O (rB (by (exact ox hx1 hx2 ‹_›)))
  ·
   refine R.q (q.lss O O (decide_eq_false (by omega))) O<|R.nil ?_
   refine R.aF O O ?_
   refine R.reg O<|R.u 1 O<|R.nil ?_
   exact R.rv O Tryz.results100 O (rB (by (exact kK ‹_› ‹_› HA)))
 ·
  refine R.q (q.neq O O (bne_iff_ne.2 (by omega))) O<|R.nil ?_
  refine R.aE O O ?_
  refine R.reg O<|R.u 1 O<|R.nil ?_
  exact R.rv O Tryz.results100 O (rB (by (exact ow ‹_›)))
end Go.Proofs.YtbkfhjaibhnkmaaGreatDoor
