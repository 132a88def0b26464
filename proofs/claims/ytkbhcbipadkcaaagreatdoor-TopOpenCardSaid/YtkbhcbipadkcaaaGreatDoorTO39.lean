import Derived.Test.YtkbhcbipadkcaaaGreatDoorTO38
namespace Go.Proofs.YtkbhcbipadkcaaaGreatDoor
set_option linter.unusedVariables false
set_option linter.unusedSimpArgs false
open Go Go.RowKit
set_option maxRecDepth 100000
set_option maxHeartbeats 1000000
theorem iC (n:Int)(w:World)(ht:DN w)(hn : -9223372036854775808<=n/\n<=9223372036854775807):Calls Tryz.prog 131 #[iV n] w fun e w'=>e = .returned (.string (bO n))/\Ext w w':=by
 have il:=yk hn;have ip:=Ln n
 exact R.enter [] [(0,iV n)] Tryz.func131 rfl rfl rfl rfl<|R.nH (r:=dc) ht (BR ht)<|R.reg rfl<|R.u 1 rfl<|R.nil<|R.reg rfl<|R.u 1 rfl<|R.c (q.call EB rfl rfl (fun w hw=>(yj n w (by exact hw.okF dc (by repeat (exact List.Mem.head _))) ‹_›))) rfl<|R.u 1 rfl<|R.nil<|R.reg rfl<|R.u 1 rfl<|R.q (q.iy rfl Tryz.underlying9) rfl<|R.q (q.lV (r:=4-((gU n).size:Int)) rfl rfl) rfl<|R.q (q.max (r:=max 0 (4-((gU n).size:Int))) rfl rfl rfl) rfl<|R.c (q.call Pv rfl rfl (fun w hw=>(Fq (⟨#[48]⟩) (max 0 (4-((gU n).size:Int))) w rfl (by omega)))) rfl<|R.u 1 rfl<|R.q (q.cat rfl rfl (by (rw [GH];omega))) rfl<|R.u 1 rfl<|R.nil<|R.rv rfl Tryz.results131 rfl (rS (by (unfold bO;rw [show (max 0 (4-((gU n).size:Int))).toNat=4-(gU n).size by omega])))
def numsL (s:ByteArray)(m:Nat):List Int:=(dW s m).getD []
def eD (s:ByteArray)(m:Nat):Bool:=(dW s m).isSome
theorem M9 {s:ByteArray}{m:Nat}(h:s.size<4*m):(numsL s m,eD s m)=([],false):=by unfold numsL eD dW;rw [if_pos h];rfl
theorem DX {s:ByteArray}{m k:Nat}{l:List Int}(h:¬ s.size<4*m)(hk:k<m)(hl:jM s k=some l)(hn:vp (s.extract (4*k) (4*k+4))=none):(numsL s m,eD s m)=([],false):=by
 unfold numsL eD dW;rw [if_neg h,Ij hk hl hn];rfl
theorem Na {s:ByteArray}{m:Nat}{l:List Int}(h:¬ s.size<4*m)(hl:jM s m=some l):(numsL s m,eD s m)=(l,true):=by
 unfold numsL eD dW;rw [if_neg h,hl];rfl
theorem Nb {s:ByteArray}(h:¬ (Lib.atoi s.data.toList).isSome=true):vp s=none:=by
 unfold vp;cases hq:Lib.atoi s.data.toList with|none=>rfl|some n=>rw [hq] at h;exact absurd rfl h
theorem Nc {s:ByteArray}(h:¬ bO (aV s)=s):vp s=none:=by
 unfold vp;unfold aV at h
 cases hq:Lib.atoi s.data.toList with
 | none=>rfl
 | some n=>rw [hq] at h;dsimp only;exact if_neg h
theorem Lu {s:ByteArray}(h:(Lib.atoi s.data.toList).isSome=true)(he:bO (aV s)=s):vp s=some (aV s):=by
 unfold vp;unfold aV at he ⊢
 cases hq:Lib.atoi s.data.toList with
 | none=>rw [hq] at h;cases h
 | some n=>rw [hq] at he;dsimp only;exact if_pos he
theorem lD (sb:ByteArray)(m:Nat)(w:World)(own:List Nat)(H:HN w own [] [dc])(hs:sb.size<=1000000/\m<=4):RC Tryz.prog 150 #[.string sb,iV (m:Int)] H (fun z:Value => .tuple #[z,.bool (eD sb m)]) (fun z=>[af.row 3 z (numsL sb m)]) (fun _=>[]):=by
 refine R.bF [(0,.string sb),(1,iV (m:Int))] Tryz.func150 O O O O H<|R.reg O<|R.u 2 O<|R.nil<|R.reg O<|R.u 1 O<|R.q (q.iy O Tryz.underlying9) O<|R.u 1 O<|R.q (q.uZ (r:=((4*m:Nat):Int)) O O) O<|?_
 by_cases h1:sb.size<(4*m)
 .
  refine R.q (q.dy O O) O<|R.nil<|R.ay O O<|R.reg O<|R.u 2 O<|R.nil<|R.row0 (α:=Int) 3 ?_
  have hz:(numsL sb m,eD sb m)=([],false):=by (exact M9 (by omega))
  have hz0:numsL sb m=[]:=congrArg (fun t_=>t_.1) hz
  rw [hz0]
  have hz1:eD sb m=false:=congrArg (fun t_=>t_.2) hz
  rw [hz1]
  exact R.w2 (nS) [0,1] [] O Tryz.results150 (RV.tmp O) (RV.tmp O) O O O (dz O O)
 refine R.q (q.cW O O) O<|R.nil<|R.aB O O<|R.reg O<|R.u 1 O<|R.nil<|R.reg O<|R.u 2 O<|R.nil<|R.row0 (α:=Int) 3<|R.loop (fun g_:Nat×Value×(List Int)=>[(0,.string sb),(6,g_.2.1),(15,iV (m:Int)),(16,iV (g_.1:Int))]) (fun g_=>[af.row 3 g_.2.1 g_.2.2,af.held w own]) (fun g_=>[dc]) (fun g_=>g_.1<=m/\jM sb g_.1=some g_.2.2) (fun g_=>m-g_.1) (0,(nS),[]) O (by exact ⟨by omega,rfl⟩) (sF O) (fun _=>Wd.pick [0,1] [0] O O O) ?_
 rintro ⟨k,u,l⟩ ⟨hk,HL⟩
 dsimp only at *
 have ab:=Lm (s:=sb.extract (4*k) (4*k+4)) (by rw [ByteArray.size_extract];omega);have gl:=uk HL
 refine R.reg O<|?_
 by_cases h2:k<m
 .
  refine R.q (q.dy O O) O<|R.nil<|R.ay O O<|R.reg O<|R.u 2 O<|R.nil<|R.reg O<|R.u 2 O<|R.q (q.uZ (r:=((4*k:Nat):Int)) O O) O<|R.u 1 O<|R.q (q.uZ (r:=((4*k:Nat):Int)) O O) O<|R.q (q.bA (r:=(((4*k)+4:Nat):Int)) O O) O<|R.q (q.Cp (i:=(4*k)) (j:=((4*k)+4)) O O O Tryz.underlying9 O O (by omega) (by omega)) O<|?_
  by_cases h3:(Lib.atoi (sb.extract (4*k) ((4*k)+4)).data.toList).isSome=true
  .
   refine R.c (q.call Jy O O (fun w hw=>(Lk (sb.extract (4*k) ((4*k)+4)) w ‹_› (by rw [ByteArray.size_extract];omega)))) O<|R.u 5 O<|R.nil ?_
   by_cases h4:bO (aV (sb.extract (4*k) ((4*k)+4)))=(sb.extract (4*k) ((4*k)+4))
   .
    refine R.ew O mixed (by kernel_rfl)<|Q.u 1 O<|Q.q (q.vU O O Tryz.underlying38) O<|Q.u 2 O<|Q.cg O (q.call lJ O O (fun w hw=>(iC (aV (sb.extract (4*k) ((4*k)+4))) w (by exact hw.okF dc (by repeat (exact List.Mem.head _))) ‹_›))) O<|Q.u 2 O<|Q.qg O (q.uZ (r:=((4*k:Nat):Int)) O O) O<|Q.u 1 O<|Q.qg O (q.uZ (r:=((4*k:Nat):Int)) O O) O<|Q.qg O (q.bA (r:=(((4*k)+4:Nat):Int)) O O) O<|Q.qg O (q.Cp (i:=(4*k)) (j:=((4*k)+4)) O O O Tryz.underlying9 O O (by omega) (by omega)) O<|Q.qg O (q.uB O O h4) O<|Q.u 1 O<|Q.nil<|R.aB O O<|R.reg O<|R.u 2 O<|R.s O (s.bs (l:=([aV (sb.extract (4*k) ((4*k)+4))]:List Int)) da lW O O O O O O O) fun b1=>R.s O (s.app 1 _ O O O (ck 0 O) nM (by (simp;omega)) (by (simp;omega)) (fun _=>rfl) O) fun v1=>R.u 1 O<|R.nil<|R.reg O<|R.q (q.bA (r:=((k+1:Nat):Int)) O O) O<|R.u 1 O<|R.nil<|R.back (k+1,v1,(l++([aV (sb.extract (4*k) ((4*k)+4))]))) O (by (exact ⟨by omega,Fj HL (Lu ‹_› ‹_›)⟩)) (by dsimp only;omega) (sF O) (aC [1,2] [0] O O O)
   refine R.ew O mixed (by kernel_rfl)<|Q.u 1 O<|Q.q (q.vU O O Tryz.underlying38) O<|Q.u 2 O<|Q.cg O (q.call lJ O O (fun w hw=>(iC (aV (sb.extract (4*k) ((4*k)+4))) w (by exact hw.okF dc (by repeat (exact List.Mem.head _))) ‹_›))) O<|Q.u 2 O<|Q.qg O (q.uZ (r:=((4*k:Nat):Int)) O O) O<|Q.u 1 O<|Q.qg O (q.uZ (r:=((4*k:Nat):Int)) O O) O<|Q.qg O (q.bA (r:=(((4*k)+4:Nat):Int)) O O) O<|Q.qg O (q.Cp (i:=(4*k)) (j:=((4*k)+4)) O O O Tryz.underlying9 O O (by omega) (by omega)) O<|Q.qg O (q.zd O O h4) O<|Q.u 1 O<|Q.nil<|R.ay O O<|R.reg O<|R.u 2 O<|R.nil<|R.row0 (α:=Int) 3 ?_
   have hz:(numsL sb m,eD sb m)=([],false):=by (exact DX (by omega) (by omega) HL (Nc ‹_›))
   have hz0:numsL sb m=[]:=congrArg (fun t_=>t_.1) hz
   rw [hz0]
   have hz1:eD sb m=false:=congrArg (fun t_=>t_.2) hz
   rw [hz1]
   exact R.w2 (nS) [0,2] [] O Tryz.results150 (RV.tmp O) (RV.tmp O) O O O (dz O O)
  refine R.s O (s.aW [0,1] [0] _ _ _ O O O Jy O O (fun w own hw H=>Ll (sb.extract (4*k) ((4*k)+4)) w own H ‹_› (by rw [ByteArray.size_extract];omega)) O) fun z1=>R.u 5 O<|R.nil<|R.ew O mixed (by kernel_rfl)<|Q.u 1 O<|Q.q (q.NH O O Tryz.underlying38) O<|Q.u 12 O<|Q.nil<|R.ay O O<|R.reg O<|R.u 2 O<|R.nil<|R.row0 (α:=Int) 3 ?_
  have hz:(numsL sb m,eD sb m)=([],false):=by (exact DX (by omega) (by omega) HL (Nb ‹_›))
  have hz0:numsL sb m=[]:=congrArg (fun t_=>t_.1) hz
  rw [hz0]
  have hz1:eD sb m=false:=congrArg (fun t_=>t_.2) hz
  rw [hz1]
  exact R.w2 (nS) [0,2] [] O Tryz.results150 (RV.tmp O) (RV.tmp O) O O O (dz O O)
 refine R.q (q.cW O O) O<|R.nil<|R.aB O O<|R.reg O<|R.u 3 O<|R.nil ?_
 have hz:(numsL sb m,eD sb m)=(l,true):=by (have e:k=m:=(by omega);subst e;exact Na (by omega) HL)
 have hz0:numsL sb m=l:=congrArg (fun t_=>t_.1) hz
 rw [hz0]
 have hz1:eD sb m=true:=congrArg (fun t_=>t_.2) hz
 rw [hz1]
 exact R.w2 u [0,1] [] O Tryz.results150 (RV.tmp O) (RV.tmp O) O O O (dz O O)
theorem qt {α β:Type}(f:α->β){L:List α}{k:Nat}{x:α}(hx:L[k]? = some x):(L.take (k+1)).map f=(L.take k).map f++[f x]:=by
 rw [List.take_add_one,hx,List.map_append];rfl
theorem yo {α β:Type}(f:α->β){L:List α}{k:Nat}(h:L.length<=k):(L.take k).map f=L.map f:=by rw [List.take_of_length_le h]
structure VY (q:aD):Prop where
  i:Inv q
  h:∀x∈q.Held,(gU x.Place.az).size<=21/\(gU x.Place.Slot).size<=21/\(bO x.ap).size<=25/\0<=x.Place.az/\x.Place.az<=4/\0<=x.Place.Slot/\x.Place.Slot<=5/\0<=x.ap/\x.ap<=10000
  t:∀x∈q.Things,(bO x.ID).size<=25/\(bO x.Kind).size<=25/\x.Data.size<=8/\0<=x.ID/\x.ID<=10000/\0<=x.Kind/\x.Kind<=2
  w:∀x∈q.aj,((bO x.ID).size<=25/\(bO x.aE).size<=25/\(bO x.Rights).size<=25/\(bO x.aN).size<=25/\(bO x.From).size<=25)/\0<=x.ID/\x.ID<=999/\0<=x.aE/\x.aE<=999/\0<=x.Rights/\x.Rights<=7/\0<=x.aN/\x.aN<=99/\0<=x.From/\x.From<=999
  n:(bO q.ae).size<=25/\(bO q.ah).size<=25
theorem lp {n:Int}(h:0<=n/\n<=10000):(bO n).size<=25:=Lp (by omega)
theorem GK {n:Int}(h:0<=n/\n<=10000):(gU n).size<=21:=yk (by omega)
theorem Inv.VZ {q:aD}(i:Inv q):VY q where
 i:=i
 h:=fun x hx=>by
  have k:=i.Iq hx;have p:=cC k.1;have k1:=k.2.1;have k2:=k.2.2
  exact ⟨GK (by omega),GK (by omega),lp (by omega),by omega,by omega,by omega,by omega,by omega,by omega⟩
 t:=fun x hx=>by
  have k:=i.Oz hx;have a:=k.i0;have b:=k.i9;have c:=k.kd;have d:=k.ds
  exact ⟨lp (by omega),lp (by omega),d,a,by omega,by omega,by omega⟩
 w:=fun x hx=>by
  have k:=i.tree.mem hx;have i1:=k.id1;have i9:=k.Oo;have t1:=k.Qg;have t9:=k.Qh;have a0:=k.Qi;have a9:=k.Qj;have f0:=k.Q7;have fl:=k.Qk;have q0:=k.KA;have q7:=k.KB
  exact ⟨⟨lp (by omega),lp (by omega),lp (by omega),lp (by omega),lp (by omega)⟩,by omega,by omega,by omega,by omega,by omega,by omega,by omega,by omega,by omega,by omega⟩
 n:=by
  have a1:=i.oV;have a2:=i.qZ;have a3:=i.pz;have a4:=i.pA
  exact ⟨lp (by omega),lp (by omega)⟩
set_option maxRecDepth 100000 in
set_option maxHeartbeats 1600000 in
theorem yp (bH bB bC bD:Value)(r:aD)(w:World)(own:List Nat)(H:HN w own [] [af.ls bH r.aj,af.ls bB r.Things,af.ls bC r.Held,af.ls bD r.Notes,dc])(hk:Ok r)(hI:Inv r):RC Tryz.prog 64 #[.agg #[bH,bB,bC,bD,iV r.ae,iV r.ah]] H (fun z:Value=>z) (fun z=>[af.row 117 z (bL r)]) (fun _=>[]):=by
 have eJ:=H.cx 0 rfl
 have dM:=H.cx 1 rfl
 have fI:=H.cx 2 rfl
 have eK:=H.cx 3 rfl
 have bw:=hk.wl;have bt:=hk.tl;have bh:=hk.hl;have bn:=hk.nl;have KO:=hk.w0;have KP:=hk.w1;have KQ:=hk.t0;have KR:=hk.t1
 have hq:=(jy hI).1.VZ
 have hn:=hq.n;have oV:=hq.i.oV;have qZ:=hq.i.qZ;have pz:=hq.i.pz;have pA:=hq.i.pA;have hl0:=tC hq.i;have Wn:=hq.i.jq;have Wo:=(jy hI).2.2.2.1
 refine R.bF [(0,.agg #[bH,bB,bC,bD,iV r.ae,iV r.ah])] Tryz.func64 O O O O H<|R.reg O<|R.s O (s.box O O O) fun b1=>R.u 1 O<|R.nil<|R.reg O<|R.q (q.dv 0 O O ar) O<|R.s O (s.aW [0,1] bS _ _ _ O O O NS O O (fun w own hw H=>ym bH bB bC bD r w own H ‹_›) O) ?_
 rintro ⟨z1,z2,z3,z4⟩
 dsimp only
 refine R.s O (s.fZ 0 _ O O O (fun _ _=>rfl) (.inl ar) (fun w hw=>(ag (Sl.one (hw.bT 0 O)) (ag (Sl.one (hw.bT 1 O)) (ag (Sl.one (hw.bT 2 O)) (ag (Sl.one (hw.bT 3 O)) (ag O (ag O aP))))))) O O O) fun _=>R.nil<|R.reg O<|R.u 1 O<|R.nil<|R.reg O<|R.q (q.aO O cG O) O<|R.q (q.ld 0 O O dE O) O<|R.q (q.len' (dr 2 O) O Tryz.underlying45) O<|R.u 1 O<|R.nil<|R.row0 (α:=Change) 117<|R.loop (fun g_:Nat×Value×(List Change)=>[(1,.pointer (some ⟨b1,0,none⟩)),(3,g_.2.1),(13,z3),(14,iV ((aR r).Held.length:Int)),(15,iV (g_.1:Int))]) (fun g_=>[af.row 117 g_.2.1 g_.2.2,af.box b1 [z1,z2,z3,z4,iV (aR r).ae,iV (aR r).ah] 48,af.held w own]) (fun g_=>[af.ls z1 (aR r).aj,af.ls z2 (aR r).Things,af.ls z3 (aR r).Held,af.ls z4 (aR r).Notes,af.ls bH r.aj,af.ls bB r.Things,af.ls bC r.Held,af.ls bD r.Notes,dc]) (fun g_=>g_.1<=(aR r).Held.length/\g_.2.2=((aR r).Held.take g_.1).map hrow) (fun g_=>(aR r).Held.length-g_.1) (0,(nS),[]) O (by exact ⟨by omega,rfl⟩) (sF O) (fun _=>Wd.pick [0,1,2] bN O O O) ?_
 rintro ⟨k,u,l⟩ ⟨hk,HL⟩
 dsimp only at *
 have ll:l.length<=24:=by rw [HL,List.length_map,List.length_take];omega
 refine R.reg O<|?_
 by_cases h1:k<(aR r).Held.length
 .
  refine R.q (q.dy O O) O<|R.nil<|R.ay O O<|R.reg O<|?_
  obtain ⟨x1,hx1⟩:∃z,((aR r).Held)[k]? = some z:=⟨_,List.getElem?_eq_getElem (by omega)⟩
  have PZ:=hq.h _ (List.mem_of_getElem? hx1)
  refine R.q (q.idx (i:=k) (dr 2 O) O O cL O hx1) O<|R.q (q.eV (ds:=kG x1) (dr 2 O) hx1 O eX O) O<|R.s O (s.alloc gZ O O) fun b2=>R.s O (s.st 0 _ O O O O (.inl eX) O O O O) fun _=>R.nil<|R.fu (fuel:=18) (Wd w (blks []++own) [af.box b2 (kG x1) 124,af.box b1 [z1,z2,z3,z4,iV (aR r).ae,iV (aR r).ah] 48,af.held w own] [af.ls z1 (aR r).aj,af.ls z2 (aR r).Things,af.ls z3 (aR r).Held,af.ls z4 (aR r).Notes,af.ls bH r.aj,af.ls bB r.Things,af.ls bC r.Held,af.ls bD r.Notes,dc]) O mixed O<|D.q (i:=0) O (aC [0,2,3] bN O O O) O (q.mv O) O<|D.q (i:=1) O (aC [0,2,3] bN O O O) O (q.aO O rR O) O<|D.q (i:=2) O (aC [0,2,3] bN O O O) O (q.aO O fx O) O<|D.q (i:=3) O (aC [0,2,3] bN O O O) O (q.ld 0 O O av O) O<|D.q (i:=6) O (aC [0,2,3] bN O O O) O (q.aO O rR O) O<|D.q (i:=7) O (aC [0,2,3] bN O O O) O (q.aO O nI O) O<|D.q (i:=8) O (aC [0,2,3] bN O O O) O (q.ld 0 O O av O) O<|D.q (i:=11) O (aC [0,2,3] bN O O O) O (q.aO O jQ O) O<|D.q (i:=12) O (aC [0,2,3] bN O O O) O (q.ld 0 O O av O) O<|D.one (i:=4) O<|Do.s (s.c (q.call EB O O (fun w hw=>(yj x1.Place.az w (by exact hw.okF dc (by repeat (first|exact List.Mem.head _|refine List.Mem.tail _ ?_))) (by omega)))) O) (fun _=>(aC [0,2,3] bN O O O)) O fun _=>?_
  refine D.q (i:=5) O (aC [0,2,3] bN O O O) O (q.cat O O (by (simp only [ByteArray.size_append,aH,List.length_cons,List.length_nil];omega))) O<|D.one (i:=9) O<|Do.s (s.c (q.call EB O O (fun w hw=>(yj x1.Place.Slot w (by exact hw.okF dc (by repeat (first|exact List.Mem.head _|refine List.Mem.tail _ ?_))) (by omega)))) O) (fun _=>(aC [0,2,3] bN O O O)) O fun _=>?_
  refine D.q (i:=10) O (aC [0,2,3] bN O O O) O (q.cat O O (by (simp only [ByteArray.size_append,aH,List.length_cons,List.length_nil];omega))) O<|D.one (i:=13) O<|Do.s (s.c (q.call lJ O O (fun w hw=>(iC x1.ap w (by exact hw.okF dc (by repeat (first|exact List.Mem.head _|refine List.Mem.tail _ ?_))) (by omega)))) O) (fun _=>(aC [0,2,3] bN O O O)) O fun _=>?_
  refine D.q (i:=14) O (aC [0,2,3] bN O O O) O (q.build kK O O) O<|D.one (i:=15) O<|Do.s (s.bs (l:=([(⟨((⟨#[104]⟩++gU x1.Place.az)++gU x1.Place.Slot),bO x1.ap,false⟩:Change)]:List Change)) cp cJ O O O O O O O) (fun _=>(aC [1,3,4] bN O O O)) O fun b3=>D.one (i:=16) O<|Do.s (s.app 2 _ O O O (ck 0 O) jv (by (simp;omega)) (by (simp;omega)) (fun _=>rfl) O) (fun _=>(aC [1,3,4] bN O O O)) O fun v1=>D.q (i:=17) O (aC [1,3,4] bN O O O) O (q.as O) O<|D.done<|R.reg O<|R.q (q.bA (r:=((k+1:Nat):Int)) O O) O<|R.u 1 O<|R.nil<|R.back (k+1,v1,(l++([(⟨((⟨#[104]⟩++gU x1.Place.az)++gU x1.Place.Slot),bO x1.ap,false⟩:Change)]))) O (by (exact ⟨by omega,by rw [qt hrow hx1,<- HL];rfl⟩)) (by dsimp only;omega) (sF O) (aC [2,3,4] bN O O O)
 refine R.q (q.cW O O) O<|R.nil<|R.aB O O<|R.reg O<|R.q (q.aO O cF O) O<|R.q (q.ld 1 O O dD O) O<|R.q (q.len' (dr 1 O) O Tryz.underlying44) O<|R.u 1 O<|R.nil<|R.loop (fun g_:Nat×Value×(List Change)=>[(1,.pointer (some ⟨b1,0,none⟩)),(3,g_.2.1),(38,z2),(39,iV ((aR r).Things.length:Int)),(40,iV (g_.1:Int))]) (fun g_=>[af.row 117 g_.2.1 g_.2.2,af.box b1 [z1,z2,z3,z4,iV (aR r).ae,iV (aR r).ah] 48,af.held w own]) (fun g_=>[af.ls z1 (aR r).aj,af.ls z2 (aR r).Things,af.ls z3 (aR r).Held,af.ls z4 (aR r).Notes,af.ls bH r.aj,af.ls bB r.Things,af.ls bC r.Held,af.ls bD r.Notes,dc]) (fun g_=>g_.1<=(aR r).Things.length/\g_.2.2=(aR r).Held.map hrow++((aR r).Things.take g_.1).map l4) (fun g_=>(aR r).Things.length-g_.1) (0,u,l) O (by exact ⟨by omega,by rw [HL,yo _ (by omega)];exact (List.append_nil _).symm⟩) (sF O) (fun _=>Wd.pick [0,1,2] bN O O O) ?_
 rintro ⟨j,u2,l2⟩ ⟨hj,HL2⟩
 dsimp only at *
 have U0:l2.length<=34:=by rw [HL2,List.length_append,List.length_map,List.length_map,List.length_take];omega
 refine R.reg O<|?_
 by_cases h2:j<(aR r).Things.length
 .
  refine R.q (q.dy O O) O<|R.nil<|R.ay O O<|R.reg O<|?_
  obtain ⟨x2,hx2⟩:∃z,((aR r).Things)[j]? = some z:=⟨_,List.getElem?_eq_getElem (by omega)⟩
  have V0:=hq.t _ (List.mem_of_getElem? hx2)
  refine R.q (q.idx (i:=j) (dr 1 O) O O iK O hx2) O<|R.q (q.eV (ds:=lT x2) (dr 1 O) hx2 O gy O) O<|R.s O (s.alloc jt O O) fun b4=>R.s O (s.st 0 _ O O O O (.inl gy) O O O O) fun _=>R.nil<|R.fu (fuel:=15) (Wd w (blks []++own) [af.box b4 (lT x2) 100,af.box b1 [z1,z2,z3,z4,iV (aR r).ae,iV (aR r).ah] 48,af.held w own] [af.ls z1 (aR r).aj,af.ls z2 (aR r).Things,af.ls z3 (aR r).Held,af.ls z4 (aR r).Notes,af.ls bH r.aj,af.ls bB r.Things,af.ls bC r.Held,af.ls bD r.Notes,dc]) O mixed O<|D.q (i:=0) O (aC [0,2,3] bN O O O) O (q.mv O) O<|D.q (i:=1) O (aC [0,2,3] bN O O O) O (q.aO O ow O) O<|D.q (i:=2) O (aC [0,2,3] bN O O O) O (q.ld 0 O O av O) O<|D.q (i:=5) O (aC [0,2,3] bN O O O) O (q.aO O wq O) O<|D.q (i:=6) O (aC [0,2,3] bN O O O) O (q.ld 0 O O av O) O<|D.q (i:=8) O (aC [0,2,3] bN O O O) O (q.aO O wt O) O<|D.q (i:=9) O (aC [0,2,3] bN O O O) O (q.ld 0 O O bK O) O<|D.one (i:=3) O<|Do.s (s.c (q.call lJ O O (fun w hw=>(iC x2.ID w (by exact hw.okF dc (by repeat (first|exact List.Mem.head _|refine List.Mem.tail _ ?_))) (by omega)))) O) (fun _=>(aC [0,2,3] bN O O O)) O fun _=>?_
  refine D.q (i:=4) O (aC [0,2,3] bN O O O) O (q.cat O O (by (simp only [ByteArray.size_append,aH,List.length_cons,List.length_nil];omega))) O<|D.one (i:=7) O<|Do.s (s.c (q.call lJ O O (fun w hw=>(iC x2.Kind w (by exact hw.okF dc (by repeat (first|exact List.Mem.head _|refine List.Mem.tail _ ?_))) (by omega)))) O) (fun _=>(aC [0,2,3] bN O O O)) O fun _=>?_
  refine D.q (i:=10) O (aC [0,2,3] bN O O O) O (q.cat O O (by omega)) O<|D.q (i:=11) O (aC [0,2,3] bN O O O) O (q.build kK O O) O<|D.one (i:=12) O<|Do.s (s.bs (l:=([(⟨(⟨#[116]⟩++bO x2.ID),(bO x2.Kind++x2.Data),false⟩:Change)]:List Change)) cp cJ O O O O O O O) (fun _=>(aC [1,3,4] bN O O O)) O fun b5=>D.one (i:=13) O<|Do.s (s.app 2 _ O O O (ck 0 O) jv (by (simp;omega)) (by (simp;omega)) (fun _=>rfl) O) (fun _=>(aC [1,3,4] bN O O O)) O fun v2=>D.q (i:=14) O (aC [1,3,4] bN O O O) O (q.as O) O<|D.done<|R.reg O<|R.q (q.bA (r:=((j+1:Nat):Int)) O O) O<|R.u 1 O<|R.nil<|R.back (j+1,v2,(l2++([(⟨(⟨#[116]⟩++bO x2.ID),(bO x2.Kind++x2.Data),false⟩:Change)]))) O (by (exact ⟨by omega,by rw [qt l4 hx2,<- List.append_assoc,<- HL2];rfl⟩)) (by dsimp only;omega) (sF O) (aC [2,3,4] bN O O O)
 refine R.q (q.cW O O) O<|R.nil<|R.aB O O<|R.reg O<|R.q (q.aO O bg O) O<|R.q (q.ld 1 O O bV O) O<|R.q (q.len' (dr 0 O) O Tryz.underlying43) O<|R.u 1 O<|R.nil<|R.loop (fun g_:Nat×Value×(List Change)=>[(1,.pointer (some ⟨b1,0,none⟩)),(3,g_.2.1),(60,z1),(61,iV ((aR r).aj.length:Int)),(62,iV (g_.1:Int))]) (fun g_=>[af.row 117 g_.2.1 g_.2.2,af.box b1 [z1,z2,z3,z4,iV (aR r).ae,iV (aR r).ah] 48,af.held w own]) (fun g_=>[af.ls z1 (aR r).aj,af.ls z2 (aR r).Things,af.ls z3 (aR r).Held,af.ls z4 (aR r).Notes,af.ls bH r.aj,af.ls bB r.Things,af.ls bC r.Held,af.ls bD r.Notes,dc]) (fun g_=>g_.1<=(aR r).aj.length/\g_.2.2=(aR r).Held.map hrow++(aR r).Things.map l4++((aR r).aj.take g_.1).map od) (fun g_=>(aR r).aj.length-g_.1) (0,u2,l2) O (by exact ⟨by omega,by rw [HL2,yo _ (by omega)];exact (List.append_nil _).symm⟩) (sF O) (fun _=>Wd.pick [0,1,2] bN O O O) ?_
 rintro ⟨i,u3,l3⟩ ⟨hi,Ut⟩
 dsimp only at *
 have Wp:l3.length<=58:=by rw [Ut,List.length_append,List.length_append,List.length_map,List.length_map,List.length_map,List.length_take];omega
 refine R.reg O<|?_
 by_cases h3:i<(aR r).aj.length
 .
  refine R.q (q.dy O O) O<|R.nil<|R.ay O O<|R.reg O<|?_
  obtain ⟨x3,hx3⟩:∃z,((aR r).aj)[i]? = some z:=⟨_,List.getElem?_eq_getElem (by omega)⟩
  have Wq:=hq.w _ (List.mem_of_getElem? hx3)
  refine R.q (q.idx (i:=i) (dr 0 O) O O dJ O hx3) O<|R.q (q.eV (ds:=gk x3) (dr 0 O) hx3 O aL O) O<|R.s O (s.alloc bQ O O) fun b6=>R.s O (s.st 0 _ O O O O (.inl aL) O O O O) fun _=>R.nil<|R.fu (fuel:=24) (Wd w (blks []++own) [af.box b6 (gk x3) 127,af.box b1 [z1,z2,z3,z4,iV (aR r).ae,iV (aR r).ah] 48,af.held w own] [af.ls z1 (aR r).aj,af.ls z2 (aR r).Things,af.ls z3 (aR r).Held,af.ls z4 (aR r).Notes,af.ls bH r.aj,af.ls bB r.Things,af.ls bC r.Held,af.ls bD r.Notes,dc]) O mixed O<|D.q (i:=0) O (aC [0,2,3] bN O O O) O (q.mv O) O<|D.q (i:=1) O (aC [0,2,3] bN O O O) O (q.aO O bX O) O<|D.q (i:=2) O (aC [0,2,3] bN O O O) O (q.ld 0 O O av O) O<|D.q (i:=5) O (aC [0,2,3] bN O O O) O (q.aO O fT O) O<|D.q (i:=6) O (aC [0,2,3] bN O O O) O (q.ld 0 O O av O) O<|D.q (i:=8) O (aC [0,2,3] bN O O O) O (q.aO O jR O) O<|D.q (i:=9) O (aC [0,2,3] bN O O O) O (q.ld 0 O O av O) O<|D.q (i:=12) O (aC [0,2,3] bN O O O) O (q.aO O iZ O) O<|D.q (i:=13) O (aC [0,2,3] bN O O O) O (q.ld 0 O O av O) O<|D.q (i:=16) O (aC [0,2,3] bN O O O) O (q.aO O eZ O) O<|D.q (i:=17) O (aC [0,2,3] bN O O O) O (q.ld 0 O O av O) O<|D.one (i:=3) O<|Do.s (s.c (q.call lJ O O (fun w hw=>(iC x3.ID w (by exact hw.okF dc (by repeat (first|exact List.Mem.head _|refine List.Mem.tail _ ?_))) (by omega)))) O) (fun _=>(aC [0,2,3] bN O O O)) O fun _=>?_
  refine D.q (i:=4) O (aC [0,2,3] bN O O O) O (q.cat O O (by (simp only [ByteArray.size_append,aH,List.length_cons,List.length_nil];omega))) O<|D.one (i:=7) O<|Do.s (s.c (q.call lJ O O (fun w hw=>(iC x3.aE w (by exact hw.okF dc (by repeat (first|exact List.Mem.head _|refine List.Mem.tail _ ?_))) (by omega)))) O) (fun _=>(aC [0,2,3] bN O O O)) O fun _=>?_
  refine D.one (i:=10) O<|Do.s (s.c (q.call lJ O O (fun w hw=>(iC x3.Rights w (by exact hw.okF dc (by repeat (first|exact List.Mem.head _|refine List.Mem.tail _ ?_))) (by omega)))) O) (fun _=>(aC [0,2,3] bN O O O)) O fun _=>?_
  refine D.q (i:=11) O (aC [0,2,3] bN O O O) O (q.cat O O (by omega)) O<|D.one (i:=14) O<|Do.s (s.c (q.call lJ O O (fun w hw=>(iC x3.aN w (by exact hw.okF dc (by repeat (first|exact List.Mem.head _|refine List.Mem.tail _ ?_))) (by omega)))) O) (fun _=>(aC [0,2,3] bN O O O)) O fun _=>?_
  refine D.q (i:=15) O (aC [0,2,3] bN O O O) O (q.cat O O (by (simp only [ByteArray.size_append,aH,List.length_cons,List.length_nil];omega))) O<|D.one (i:=18) O<|Do.s (s.c (q.call lJ O O (fun w hw=>(iC x3.From w (by exact hw.okF dc (by repeat (first|exact List.Mem.head _|refine List.Mem.tail _ ?_))) (by omega)))) O) (fun _=>(aC [0,2,3] bN O O O)) O fun _=>?_
  refine D.q (i:=19) O (aC [0,2,3] bN O O O) O (q.cat O O (by (simp only [ByteArray.size_append,aH,List.length_cons,List.length_nil];omega))) O<|D.q (i:=20) O (aC [0,2,3] bN O O O) O (q.build kK O O) O<|D.one (i:=21) O<|Do.s (s.bs (l:=([(⟨(⟨#[119]⟩++bO x3.ID),(((bO x3.aE++bO x3.Rights)++bO x3.aN)++bO x3.From),false⟩:Change)]:List Change)) cp cJ O O O O O O O) (fun _=>(aC [1,3,4] bN O O O)) O fun b7=>D.one (i:=22) O<|Do.s (s.app 2 _ O O O (ck 0 O) jv (by (simp;omega)) (by (simp;omega)) (fun _=>rfl) O) (fun _=>(aC [1,3,4] bN O O O)) O fun v3=>D.q (i:=23) O (aC [1,3,4] bN O O O) O (q.as O) O<|D.done<|R.reg O<|R.q (q.bA (r:=((i+1:Nat):Int)) O O) O<|R.u 1 O<|R.nil<|R.back (i+1,v3,(l3++([(⟨(⟨#[119]⟩++bO x3.ID),(((bO x3.aE++bO x3.Rights)++bO x3.aN)++bO x3.From),false⟩:Change)]))) O (by (exact ⟨by omega,by rw [qt od hx3,<- List.append_assoc,<- Ut];rfl⟩)) (by dsimp only;omega) (sF O) (aC [2,3,4] bN O O O)
 refine R.q (q.cW O O) O<|R.nil<|R.aB O O<|R.fu (fuel:=12) (Wd w (blks []++own) [af.box b1 [z1,z2,z3,z4,iV (aR r).ae,iV (aR r).ah] 48,af.held w own] [af.ls z1 (aR r).aj,af.ls z2 (aR r).Things,af.ls z3 (aR r).Held,af.ls z4 (aR r).Notes,af.ls bH r.aj,af.ls bB r.Things,af.ls bC r.Held,af.ls bD r.Notes,dc]) O mixed O<|D.q (i:=0) O (aC [1,2] bN O O O) O (q.mv O) O<|D.q (i:=1) O (aC [1,2] bN O O O) O (q.aO O cM O) O<|D.q (i:=2) O (aC [1,2] bN O O O) O (q.ld 0 O O av O) O<|D.q (i:=4) O (aC [1,2] bN O O O) O (q.aO O dP O) O<|D.q (i:=5) O (aC [1,2] bN O O O) O (q.ld 0 O O av O) O<|D.one (i:=3) O<|Do.s (s.c (q.call lJ O O (fun w hw=>(iC (aR r).ae w (by exact hw.okF dc (by repeat (first|exact List.Mem.head _|refine List.Mem.tail _ ?_))) (by omega)))) O) (fun _=>(aC [1,2] bN O O O)) O fun _=>?_
 refine D.one (i:=6) O<|Do.s (s.c (q.call lJ O O (fun w hw=>(iC (aR r).ah w (by exact hw.okF dc (by repeat (first|exact List.Mem.head _|refine List.Mem.tail _ ?_))) (by omega)))) O) (fun _=>(aC [1,2] bN O O O)) O fun _=>?_
 refine D.q (i:=7) O (aC [1,2] bN O O O) O (q.cat O O (by omega)) O<|D.q (i:=8) O (aC [1,2] bN O O O) O (q.build kK O O) O<|D.one (i:=9) O<|Do.s (s.bs (l:=([(⟨⟨#[120]⟩,(bO (aR r).ae++bO (aR r).ah),false⟩:Change)]:List Change)) cp cJ O O O O O O O) (fun _=>(aC [2,3] bN O O O)) O fun b8=>D.one (i:=10) O<|Do.s (s.app 1 _ O O O (ck 0 O) jv (by (simp;omega)) (by (simp;omega)) (fun _=>rfl) O) (fun _=>(aC [2,3] bN O O O)) O fun v4=>D.q (i:=11) O (aC [2,3] bN O O O) O (q.as O) O<|D.done<|?_
 have hz:bL r=(l3++([(⟨⟨#[120]⟩,(bO (aR r).ae++bO (aR r).ah),false⟩:Change)])):=by (unfold bL rowsOf;rw [Ut,yo _ (by omega)];rfl)
 rw [hz]
 exact R.w1 v4 [1,3] [] O Tryz.results64 (RV.tmp O) O O O O
theorem yq (wH:Value)(a:List Int)(yC:Value)(b:List Int)(w:World)(wI:Sl w wH a)(zp:Sl w yC b):Calls Tryz.prog 153 #[wH,yC] w fun e w'=>e = .returned (.bool (decide (a=b)))/\Ext w w':=by
 have IV:=wI.fC
 have UE:=zp.fC
 refine R.enter [] [(0,wH),(1,yC)] Tryz.func153 O O O O<|R.reg O<|R.u 1 O<|R.nil<|R.reg O<|R.u 1 O<|R.q (q.len' (fun _=>Wd.old wI) O Tryz.underlying159) O<|R.u 1 O<|R.q (q.len' (fun _=>Wd.old zp) O Tryz.underlying159) O<|?_
 by_cases h1:a.length=b.length
 .
  refine R.q (q.lH O O) O<|R.nil<|R.aB O O<|R.reg O<|R.u 1 O<|R.q (q.len' (fun _=>Wd.old wI) O Tryz.underlying159) O<|R.u 1 O<|R.nil<|R.loop (fun k:Nat=>[(0,wH),(1,yC),(12,iV (a.length:Int)),(13,iV (k:Int))]) (fun k:Nat=>[]) (fun k:Nat=>[]) (fun k:Nat=>k<=a.length /\ ∀j,j<k->a[j]? = b[j]?) (fun k:Nat=>a.length-k) 0 O (by exact ⟨by omega,fun j hj=>absurd hj (Nat.not_lt_zero _)⟩) (sF O) (fun _=>Wd.pick [] [] O O O) ?_
  rintro k ⟨hk,HA⟩
  refine R.reg O<|?_
  by_cases h2:k<a.length
  .
   refine R.q (q.dy O O) O<|R.nil<|R.ay O O<|R.reg O<|R.u 2 O<|R.nil ?_
   obtain ⟨x1,hx1⟩:∃z,a[k]? = some z:=⟨_,List.getElem?_eq_getElem (by omega)⟩
   obtain ⟨x2,hx2⟩:∃z,b[k]? = some z:=⟨_,List.getElem?_eq_getElem (by omega)⟩
   by_cases h3:x1=x2
   .
    refine R.ew O mixed (by kernel_rfl)<|Q.u 2 O<|Q.q (q.idx (i:=k) (fun _=>Wd.old wI) O O da O hx1) O<|Q.q (q.lr (fun _=>Wd.old wI) hx1 O av O) O<|Q.u 2 O<|Q.q (q.idx (i:=k) (fun _=>Wd.old zp) O O da O hx2) O<|Q.q (q.lr (fun _=>Wd.old zp) hx2 O av O) O<|Q.q (q.lH O O) O<|Q.nil<|R.aB O O<|R.reg O<|R.q (q.bA (r:=((k+1:Nat):Int)) O O) O<|R.u 1 O<|R.nil<|R.back (k+1) O (by (exact ⟨by omega,nO HA hx1 hx2 ‹_›⟩)) (by omega) (sF O) (fun _=>Wd.pick [] [] O O O)
   exact R.ew O mixed (by kernel_rfl)<|Q.u 2 O<|Q.q (q.idx (i:=k) (fun _=>Wd.old wI) O O da O hx1) O<|Q.q (q.lr (fun _=>Wd.old wI) hx1 O av O) O<|Q.u 2 O<|Q.q (q.idx (i:=k) (fun _=>Wd.old zp) O O da O hx2) O<|Q.q (q.lr (fun _=>Wd.old zp) hx2 O av O) O<|Q.q (q.lG O O) O<|Q.nil<|R.ay O O<|R.reg O<|R.u 1 O<|R.nil<|R.rv O Tryz.results153 O (rB (by (exact wG hx1 hx2 ‹_›)))
  exact R.q (q.cW O O) O<|R.nil<|R.aB O O<|R.reg O<|R.u 1 O<|R.nil<|R.rv O Tryz.results153 O (rB (by (exact pR ‹_› ‹_› HA)))
 exact R.q (q.lG O O) O<|R.nil<|R.ay O O<|R.reg O<|R.u 1 O<|R.nil<|R.rv O Tryz.results153 O (rB (by (exact wF ‹_›)))
end Go.Proofs.YtkbhcbipadkcaaaGreatDoor
