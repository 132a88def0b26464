import Derived.Test.YtkbhcbipadkcaaaGreatDoorTO38
namespace Go.Proofs.YtkbhcbipadkcaaaGreatDoor
set_option linter.unusedVariables false
set_option linter.unusedSimpArgs false
open Go Go.RowKit
set_option maxRecDepth 100000
set_option maxHeartbeats 90000000
theorem iE (n:Int)(w:World)(ht:DG w)(hn : -9223372036854775808<=n/\n<=9223372036854775807):Calls Tryz.prog 131 #[iV n] w fun e w'=>e = .returned (.string (bK n))/\Ext w w':=by
 have il:=yg hn;have ip:=Ll n
 refine R.enter [] [(0,iV n)] Tryz.func131 O O O O<|R.nI (r:=eC) ht (BM ht)<|R.reg O<|R.u 1 O<|R.nil<|R.reg O<|R.u 1 O<|R.c (q.call Ez O O (fun w hw=>(ye n w (by exact hw.okF eC (by repeat (exact List.Mem.head _))) ‹_›))) O<|R.u 1 O<|R.nil ?_
 refine R.reg O<|R.u 1 O<|R.q (q.iA O Tryz.underlying9) O<|R.q (q.lT (r:=4-((gS n).size:Int)) O O) O<|R.q (q.max (r:=max 0 (4-((gS n).size:Int))) O O O) O<|R.c (q.call Pt O O (fun w hw=>(Fj (⟨#[48]⟩) (max 0 (4-((gS n).size:Int))) w O (by omega)))) O<|R.u 1 O<|R.q (q.cat O O (by (rw [GD];omega))) O<|R.u 1 O<|R.nil ?_
 exact R.rv O Tryz.results131 O (rS (by (unfold bK;rw [show (max 0 (4-((gS n).size:Int))).toNat=4-(gS n).size by omega])))
def numsL (s:ByteArray)(m:Nat):List Int:=(dV s m).getD []
def eD (s:ByteArray)(m:Nat):Bool:=(dV s m).isSome
theorem M8 {s:ByteArray}{m:Nat}(h:s.size<4*m):(numsL s m,eD s m)=([],false):=by unfold numsL eD dV;rw [if_pos h];rfl
theorem DR {s:ByteArray}{m k:Nat}{l:List Int}(h:¬ s.size<4*m)(hk:k<m)(hl:jN s k=some l)(hn:vp (s.extract (4*k) (4*k+4))=none):(numsL s m,eD s m)=([],false):=by
 unfold numsL eD dV;rw [if_neg h,Ig hk hl hn];rfl
theorem M9 {s:ByteArray}{m:Nat}{l:List Int}(h:¬ s.size<4*m)(hl:jN s m=some l):(numsL s m,eD s m)=(l,true):=by
 unfold numsL eD dV;rw [if_neg h,hl];rfl
theorem Na {s:ByteArray}(h:¬ (Lib.atoi s.data.toList).isSome=true):vp s=none:=by
 unfold vp;cases hq:Lib.atoi s.data.toList with|none=>rfl|some n=>rw [hq] at h;exact absurd rfl h
theorem Nb {s:ByteArray}(h:¬ bK (aV s)=s):vp s=none:=by
 unfold vp;unfold aV at h
 cases hq:Lib.atoi s.data.toList with
 | none=>rfl
 | some n=>rw [hq] at h;dsimp only;exact if_neg h
theorem Ls {s:ByteArray}(h:(Lib.atoi s.data.toList).isSome=true)(he:bK (aV s)=s):vp s=some (aV s):=by
 unfold vp;unfold aV at he ⊢
 cases hq:Lib.atoi s.data.toList with
 | none=>rw [hq] at h;cases h
 | some n=>rw [hq] at he;dsimp only;exact if_pos he
theorem lF (sb:ByteArray)(m:Nat)(w:World)(own:List Nat)(H:HN w own [] [eC])(hs:sb.size<=1000000/\m<=4):RC Tryz.prog 150 #[.string sb,iV (m:Int)] H (fun z:Value => .tuple #[z,.bool (eD sb m)]) (fun z=>[ag.row 3 z (numsL sb m)]) (fun _=>[]):=by
 refine R.bC [(0,.string sb),(1,iV (m:Int))] Tryz.func150 O O O O H<|R.reg O<|R.u 2 O<|R.nil<|R.reg O<|R.u 1 O<|R.q (q.iA O Tryz.underlying9) O<|R.u 1 O<|R.q (q.uZ (r:=((4*m:Nat):Int)) O O) O<|?_
 by_cases h1:sb.size<(4*m)
 .
  refine R.q (q.dx O O) O<|R.nil<|R.av O O<|R.reg O<|R.u 2 O<|R.nil<|R.row0 (α:=Int) 3 ?_
  have hz:(numsL sb m,eD sb m)=([],false):=by (exact M8 (by omega))
  have hz0:numsL sb m=[]:=congrArg (fun t_=>t_.1) hz
  rw [hz0]
  have hz1:eD sb m=false:=congrArg (fun t_=>t_.2) hz
  rw [hz1]
  exact R.w2 (nS) [0,1] [] O Tryz.results150 (RV.tmp O) (RV.tmp O) O O O (dy O O)
 refine R.q (q.cU O O) O<|R.nil<|R.aA O O<|R.reg O<|R.u 1 O<|R.nil<|R.reg O<|R.u 2 O<|R.nil<|R.row0 (α:=Int) 3<|R.loop (fun g_:Nat×Value×(List Int)=>[(0,.string sb),(6,g_.2.1),(15,iV (m:Int)),(16,iV (g_.1:Int))]) (fun g_=>[ag.row 3 g_.2.1 g_.2.2,ag.held w own]) (fun g_=>[eC]) (fun g_=>g_.1<=m/\jN sb g_.1=some g_.2.2) (fun g_=>m-g_.1) (0,(nS),[]) O (by exact ⟨by omega,rfl⟩) (sF O) (ic [0,1] [0] O) ?_
 rintro ⟨k,u,l⟩ ⟨hk,HL⟩
 dsimp only at *
 have ab:=Lk (s:=sb.extract (4*k) (4*k+4)) (by rw [ByteArray.size_extract];omega);have gl:=ui HL
 refine R.reg O<|?_
 by_cases h2:k<m
 .
  refine R.q (q.dx O O) O<|R.nil<|R.av O O<|R.reg O<|R.u 2 O<|R.nil<|R.reg O<|R.u 2 O<|R.q (q.uZ (r:=((4*k:Nat):Int)) O O) O<|R.u 1 O<|R.q (q.uZ (r:=((4*k:Nat):Int)) O O) O<|R.q (q.bA (r:=(((4*k)+4:Nat):Int)) O O) O<|R.q (q.Cl (i:=(4*k)) (j:=((4*k)+4)) O O O Tryz.underlying9 O O (by omega) (by omega)) O<|?_
  by_cases h3:(Lib.atoi (sb.extract (4*k) ((4*k)+4)).data.toList).isSome=true
  .
   refine R.c (q.call Ju O O (fun w hw=>(Li (sb.extract (4*k) ((4*k)+4)) w ‹_› (by rw [ByteArray.size_extract];omega)))) O<|R.u 5 O<|R.nil ?_
   by_cases h4:bK (aV (sb.extract (4*k) ((4*k)+4)))=(sb.extract (4*k) ((4*k)+4))
   .
    refine R.eu O mixed (by kernel_rfl)<|Q.u 1 O<|Q.q (q.vS O O Tryz.underlying38) O<|Q.u 2 O<|Q.cg O (q.call lM O O (fun w hw=>(iE (aV (sb.extract (4*k) ((4*k)+4))) w (by exact hw.okF eC (by repeat (exact List.Mem.head _))) ‹_›))) O<|Q.u 2 O<|Q.qg O (q.uZ (r:=((4*k:Nat):Int)) O O) O<|Q.u 1 O<|Q.qg O (q.uZ (r:=((4*k:Nat):Int)) O O) O<|Q.qg O (q.bA (r:=(((4*k)+4:Nat):Int)) O O) O<|Q.qg O (q.Cl (i:=(4*k)) (j:=((4*k)+4)) O O O Tryz.underlying9 O O (by omega) (by omega)) O<|Q.qg O (q.uA O O h4) O<|Q.u 1 O<|Q.nil<|R.aA O O<|R.reg O<|R.u 2 O<|R.s O (s.bs (l:=([aV (sb.extract (4*k) ((4*k)+4))]:List Int)) da lU O O O O O O O) fun b1=>?_
    refine R.s O (s.app 1 _ O O O (bB 0 O) nO (by (simp;omega)) (by (simp;omega)) (fun _=>rfl) O) fun v1=>?_
    refine R.u 1 O<|R.nil<|R.reg O<|R.q (q.bA (r:=((k+1:Nat):Int)) O O) O<|R.u 1 O<|R.nil<|R.back (k+1,v1,(l++([aV (sb.extract (4*k) ((4*k)+4))]))) O (by (exact ⟨by omega,Fg HL (Ls ‹_› ‹_›)⟩)) (by dsimp only;omega) (sF O) (aD [1,2] [0] O)
   refine R.eu O mixed (by kernel_rfl)<|Q.u 1 O<|Q.q (q.vS O O Tryz.underlying38) O<|Q.u 2 O<|Q.cg O (q.call lM O O (fun w hw=>(iE (aV (sb.extract (4*k) ((4*k)+4))) w (by exact hw.okF eC (by repeat (exact List.Mem.head _))) ‹_›))) O<|Q.u 2 O<|Q.qg O (q.uZ (r:=((4*k:Nat):Int)) O O) O<|Q.u 1 O<|Q.qg O (q.uZ (r:=((4*k:Nat):Int)) O O) O<|Q.qg O (q.bA (r:=(((4*k)+4:Nat):Int)) O O) O<|Q.qg O (q.Cl (i:=(4*k)) (j:=((4*k)+4)) O O O Tryz.underlying9 O O (by omega) (by omega)) O<|Q.qg O (q.y9 O O h4) O<|Q.u 1 O<|Q.nil<|R.av O O<|R.reg O<|R.u 2 O<|R.nil<|R.row0 (α:=Int) 3 ?_
   have hz:(numsL sb m,eD sb m)=([],false):=by (exact DR (by omega) (by omega) HL (Nb ‹_›))
   have hz0:numsL sb m=[]:=congrArg (fun t_=>t_.1) hz
   rw [hz0]
   have hz1:eD sb m=false:=congrArg (fun t_=>t_.2) hz
   rw [hz1]
   exact R.w2 (nS) [0,2] [] O Tryz.results150 (RV.tmp O) (RV.tmp O) O O O (dy O O)
  refine R.s O (s.aW [0,1] [0] _ _ _ O O O Ju O O (fun w own hw H=>Lj (sb.extract (4*k) ((4*k)+4)) w own H ‹_› (by rw [ByteArray.size_extract];omega)) O) fun z1=>?_
  refine R.u 5 O<|R.nil<|R.eu O mixed (by kernel_rfl)<|Q.u 1 O<|Q.q (q.NF O O Tryz.underlying38) O<|Q.u 12 O<|Q.nil<|R.av O O<|R.reg O<|R.u 2 O<|R.nil<|R.row0 (α:=Int) 3 ?_
  have hz:(numsL sb m,eD sb m)=([],false):=by (exact DR (by omega) (by omega) HL (Na ‹_›))
  have hz0:numsL sb m=[]:=congrArg (fun t_=>t_.1) hz
  rw [hz0]
  have hz1:eD sb m=false:=congrArg (fun t_=>t_.2) hz
  rw [hz1]
  exact R.w2 (nS) [0,2] [] O Tryz.results150 (RV.tmp O) (RV.tmp O) O O O (dy O O)
 refine R.q (q.cU O O) O<|R.nil<|R.aA O O<|R.reg O<|R.u 3 O<|R.nil ?_
 have hz:(numsL sb m,eD sb m)=(l,true):=by (have e:k=m:=(by omega);subst e;exact M9 (by omega) HL)
 have hz0:numsL sb m=l:=congrArg (fun t_=>t_.1) hz
 rw [hz0]
 have hz1:eD sb m=true:=congrArg (fun t_=>t_.2) hz
 rw [hz1]
 exact R.w2 u [0,1] [] O Tryz.results150 (RV.tmp O) (RV.tmp O) O O O (dy O O)
theorem qt {α β:Type}(f:α->β){L:List α}{k:Nat}{x:α}(hx:L[k]? = some x):(L.take (k+1)).map f=(L.take k).map f++[f x]:=by
 rw [List.take_add_one,hx,List.map_append];rfl
theorem yk {α β:Type}(f:α->β){L:List α}{k:Nat}(h:L.length<=k):(L.take k).map f=L.map f:=by rw [List.take_of_length_le h]
structure VY (q:aC):Prop where
  i:Inv q
  h:∀x∈q.Held,(gS x.Place.aB).size<=21/\(gS x.Place.Slot).size<=21/\(bK x.aj).size<=25/\0<=x.Place.aB/\x.Place.aB<=4/\0<=x.Place.Slot/\x.Place.Slot<=5/\0<=x.aj/\x.aj<=10000
  t:∀x∈q.Things,(bK x.ID).size<=25/\(bK x.Kind).size<=25/\x.Data.size<=8/\0<=x.ID/\x.ID<=10000/\0<=x.Kind/\x.Kind<=2
  w:∀x∈q.ak,((bK x.ID).size<=25/\(bK x.aE).size<=25/\(bK x.Rights).size<=25/\(bK x.aQ).size<=25/\(bK x.From).size<=25)/\0<=x.ID/\x.ID<=999/\0<=x.aE/\x.aE<=999/\0<=x.Rights/\x.Rights<=7/\0<=x.aQ/\x.aQ<=99/\0<=x.From/\x.From<=999
  n:(bK q.ae).size<=25/\(bK q.ah).size<=25
theorem lr {n:Int}(h:0<=n/\n<=10000):(bK n).size<=25:=Lm (by omega)
theorem GH {n:Int}(h:0<=n/\n<=10000):(gS n).size<=21:=yg (by omega)
theorem Inv.VZ {q:aC}(i:Inv q):VY q where
 i:=i
 h:=fun x hx=>by
  have k:=i.Im hx;have p:=cu k.1;have k1:=k.2.1;have k2:=k.2.2
  exact ⟨GH (by omega),GH (by omega),lr (by omega),by omega,by omega,by omega,by omega,by omega,by omega⟩
 t:=fun x hx=>by
  have k:=i.Ox hx;have a:=k.i0;have b:=k.i9;have c:=k.kd;have d:=k.ds
  exact ⟨lr (by omega),lr (by omega),d,a,by omega,by omega,by omega⟩
 w:=fun x hx=>by
  have k:=i.tree.mem hx;have i1:=k.id1;have i9:=k.Ol;have t1:=k.Qf;have t9:=k.Qg;have a0:=k.Qh;have a9:=k.Qi;have f0:=k.Q6;have fl:=k.Qj;have q0:=k.Kx;have q7:=k.Ky
  exact ⟨⟨lr (by omega),lr (by omega),lr (by omega),lr (by omega),lr (by omega)⟩,by omega,by omega,by omega,by omega,by omega,by omega,by omega,by omega,by omega,by omega⟩
 n:=by
  have a1:=i.oX;have a2:=i.qZ;have a3:=i.pA;have a4:=i.pB
  exact ⟨lr (by omega),lr (by omega)⟩
set_option maxRecDepth 100000 in
set_option maxHeartbeats 90000000 in
theorem yl (bR bH bI bJ:Value)(r:aC)(w:World)(own:List Nat)(H:HN w own [] [ag.ls bR r.ak,ag.ls bH r.Things,ag.ls bI r.Held,ag.ls bJ r.Notes,eC])(hk:Ok r)(hI:Inv r):RC Tryz.prog 64 #[.agg #[bR,bH,bI,bJ,iV r.ae,iV r.ah]] H (fun z:Value=>z) (fun z=>[ag.row 117 z (bF r)]) (fun _=>[]):=by
 have eJ:=H.cq 0 rfl
 have dM:=H.cq 1 rfl
 have fG:=H.cq 2 rfl
 have eK:=H.cq 3 rfl
 have bw:=hk.wl;have bt:=hk.tl;have bh:=hk.hl;have bn:=hk.nl;have KM:=hk.w0;have KN:=hk.w1;have KO:=hk.t0;have KP:=hk.t1
 have hq:=(jz hI).1.VZ
 have hn:=hq.n;have oX:=hq.i.oX;have qZ:=hq.i.qZ;have pA:=hq.i.pA;have pB:=hq.i.pB;have hl0:=tw hq.i;have Wn:=hq.i.jr;have Wo:=(jz hI).2.2.2.1
 refine R.bC [(0,.agg #[bR,bH,bI,bJ,iV r.ae,iV r.ah])] Tryz.func64 O O O O H<|R.reg O<|R.s O (s.box O O O) fun b1=>?_
 refine R.u 1 O<|R.nil<|R.reg O<|R.q (q.dt 0 O O ao) O<|R.s O (s.aW [0,1] bL _ _ _ O O O NQ O O (fun w own hw H=>yi bR bH bI bJ r w own H ‹_›) O) ?_
 rintro ⟨z1,z2,z3,z4⟩
 dsimp only
 refine R.s O (s.fX 0 _ O O O (fun _ _=>rfl) (.inl ao) (fun w hw=>(af (Sl.one (hw.bP 0 O)) (af (Sl.one (hw.bP 1 O)) (af (Sl.one (hw.bP 2 O)) (af (Sl.one (hw.bP 3 O)) (af O (af O aP))))))) O O O) fun _=>?_
 refine R.nil<|R.reg O<|R.u 1 O<|R.nil<|R.reg O<|R.q (q.aO O cz O) O<|R.q (q.ld 0 O O dD O) O<|R.q (q.len' (dw 2 O) O Tryz.underlying45) O<|R.u 1 O<|R.nil<|R.row0 (α:=Change) 117<|R.loop (fun g_:Nat×Value×(List Change)=>[(1,.pointer (some ⟨b1,0,none⟩)),(3,g_.2.1),(13,z3),(14,iV ((aZ r).Held.length:Int)),(15,iV (g_.1:Int))]) (fun g_=>[ag.row 117 g_.2.1 g_.2.2,ag.box b1 [z1,z2,z3,z4,iV (aZ r).ae,iV (aZ r).ah] 48,ag.held w own]) (fun g_=>[ag.ls z1 (aZ r).ak,ag.ls z2 (aZ r).Things,ag.ls z3 (aZ r).Held,ag.ls z4 (aZ r).Notes,ag.ls bR r.ak,ag.ls bH r.Things,ag.ls bI r.Held,ag.ls bJ r.Notes,eC]) (fun g_=>g_.1<=(aZ r).Held.length/\g_.2.2=((aZ r).Held.take g_.1).map hrow) (fun g_=>(aZ r).Held.length-g_.1) (0,(nS),[]) O (by exact ⟨by omega,rfl⟩) (sF O) (ic [0,1,2] bZ O) ?_
 rintro ⟨k,u,l⟩ ⟨hk,HL⟩
 dsimp only at *
 have ll:l.length<=24:=by rw [HL,List.length_map,List.length_take];omega
 refine R.reg O<|?_
 by_cases h1:k<(aZ r).Held.length
 .
  refine R.q (q.dx O O) O<|R.nil<|R.av O O<|R.reg O<|?_
  obtain ⟨x1,hx1⟩:∃z,((aZ r).Held)[k]? = some z:=⟨_,List.getElem?_eq_getElem (by omega)⟩
  have PY:=hq.h _ (List.mem_of_getElem? hx1)
  refine R.q (q.idx (i:=k) (dw 2 O) O O cI O hx1) O<|R.q (q.eS (ds:=lI x1) (dw 2 O) hx1 O eV O) O<|R.s O (s.alloc gY O O) fun b2=>?_
  refine R.s O (s.st 0 _ O O O O (.inl eV) O O O O) fun _=>?_
  refine R.nil<|R.fY (fuel:=18) [0,2,3] O O mixed O<|D.q (i:=0) O (aD [0,2,3] bZ O) O (q.mv O) O<|D.q (i:=1) O (aD [0,2,3] bZ O) O (q.aO O rP O) O<|D.q (i:=2) O (aD [0,2,3] bZ O) O (q.aO O fq O) O<|D.q (i:=3) O (aD [0,2,3] bZ O) O (q.ld 0 O O au O) O<|D.q (i:=6) O (aD [0,2,3] bZ O) O (q.aO O rP O) O<|D.q (i:=7) O (aD [0,2,3] bZ O) O (q.aO O nJ O) O<|D.q (i:=8) O (aD [0,2,3] bZ O) O (q.ld 0 O O au O) O<|D.q (i:=11) O (aD [0,2,3] bZ O) O (q.aO O jS O) O<|D.q (i:=12) O (aD [0,2,3] bZ O) O (q.ld 0 O O au O) O<|D.one (i:=4) O<|Do.s (s.c (q.call Ez O O (fun w hw=>(ye x1.Place.aB w (by exact hw.okF eC (by repeat (first|exact List.Mem.head _|refine List.Mem.tail _ ?_))) (by omega)))) O) (fun _=>(aD [0,2,3] bZ O)) O fun _=>?_
  refine D.q (i:=5) O (aD [0,2,3] bZ O) O (q.cat O O (by (simp only [ByteArray.size_append,aI,List.length_cons,List.length_nil];omega))) O<|D.one (i:=9) O<|Do.s (s.c (q.call Ez O O (fun w hw=>(ye x1.Place.Slot w (by exact hw.okF eC (by repeat (first|exact List.Mem.head _|refine List.Mem.tail _ ?_))) (by omega)))) O) (fun _=>(aD [0,2,3] bZ O)) O fun _=>?_
  refine D.q (i:=10) O (aD [0,2,3] bZ O) O (q.cat O O (by (simp only [ByteArray.size_append,aI,List.length_cons,List.length_nil];omega))) O<|D.one (i:=13) O<|Do.s (s.c (q.call lM O O (fun w hw=>(iE x1.aj w (by exact hw.okF eC (by repeat (first|exact List.Mem.head _|refine List.Mem.tail _ ?_))) (by omega)))) O) (fun _=>(aD [0,2,3] bZ O)) O fun _=>?_
  refine D.q (i:=14) O (aD [0,2,3] bZ O) O (q.build kM O O) O<|D.one (i:=15) O<|Do.s (s.bs (l:=([(⟨((⟨#[104]⟩++gS x1.Place.aB)++gS x1.Place.Slot),bK x1.aj,false⟩:Change)]:List Change)) cd cF O O O O O O O) (fun _=>(aD [1,3,4] bZ O)) O fun b3=>?_
  refine D.one (i:=16) O<|Do.s (s.app 2 _ O O O (bB 0 O) jw (by (simp;omega)) (by (simp;omega)) (fun _=>rfl) O) (fun _=>(aD [1,3,4] bZ O)) O fun v1=>?_
  refine D.q (i:=17) O (aD [1,3,4] bZ O) O (q.as O) O<|D.done<|R.reg O<|R.q (q.bA (r:=((k+1:Nat):Int)) O O) O<|R.u 1 O<|R.nil<|R.back (k+1,v1,(l++([(⟨((⟨#[104]⟩++gS x1.Place.aB)++gS x1.Place.Slot),bK x1.aj,false⟩:Change)]))) O (by (exact ⟨by omega,by rw [qt hrow hx1,<- HL];rfl⟩)) (by dsimp only;omega) (sF O) (aD [2,3,4] bZ O)
 refine R.q (q.cU O O) O<|R.nil<|R.aA O O<|R.reg O<|R.q (q.aO O cy O) O<|R.q (q.ld 1 O O dC O) O<|R.q (q.len' (dw 1 O) O Tryz.underlying44) O<|R.u 1 O<|R.nil<|R.loop (fun g_:Nat×Value×(List Change)=>[(1,.pointer (some ⟨b1,0,none⟩)),(3,g_.2.1),(38,z2),(39,iV ((aZ r).Things.length:Int)),(40,iV (g_.1:Int))]) (fun g_=>[ag.row 117 g_.2.1 g_.2.2,ag.box b1 [z1,z2,z3,z4,iV (aZ r).ae,iV (aZ r).ah] 48,ag.held w own]) (fun g_=>[ag.ls z1 (aZ r).ak,ag.ls z2 (aZ r).Things,ag.ls z3 (aZ r).Held,ag.ls z4 (aZ r).Notes,ag.ls bR r.ak,ag.ls bH r.Things,ag.ls bI r.Held,ag.ls bJ r.Notes,eC]) (fun g_=>g_.1<=(aZ r).Things.length/\g_.2.2=(aZ r).Held.map hrow++((aZ r).Things.take g_.1).map lY) (fun g_=>(aZ r).Things.length-g_.1) (0,u,l) O (by exact ⟨by omega,by rw [HL,yk _ (by omega)];exact (List.append_nil _).symm⟩) (sF O) (ic [0,1,2] bZ O) ?_
 rintro ⟨j,u2,l2⟩ ⟨hj,HL2⟩
 dsimp only at *
 have U0:l2.length<=34:=by rw [HL2,List.length_append,List.length_map,List.length_map,List.length_take];omega
 refine R.reg O<|?_
 by_cases h2:j<(aZ r).Things.length
 .
  refine R.q (q.dx O O) O<|R.nil<|R.av O O<|R.reg O<|?_
  obtain ⟨x2,hx2⟩:∃z,((aZ r).Things)[j]? = some z:=⟨_,List.getElem?_eq_getElem (by omega)⟩
  have V0:=hq.t _ (List.mem_of_getElem? hx2)
  refine R.q (q.idx (i:=j) (dw 1 O) O O iM O hx2) O<|R.q (q.eS (ds:=mT x2) (dw 1 O) hx2 O gx O) O<|R.s O (s.alloc ju O O) fun b4=>?_
  refine R.s O (s.st 0 _ O O O O (.inl gx) O O O O) fun _=>?_
  refine R.nil<|R.fY (fuel:=15) [0,2,3] O O mixed O<|D.q (i:=0) O (aD [0,2,3] bZ O) O (q.mv O) O<|D.q (i:=1) O (aD [0,2,3] bZ O) O (q.aO O oy O) O<|D.q (i:=2) O (aD [0,2,3] bZ O) O (q.ld 0 O O au O) O<|D.q (i:=5) O (aD [0,2,3] bZ O) O (q.aO O wm O) O<|D.q (i:=6) O (aD [0,2,3] bZ O) O (q.ld 0 O O au O) O<|D.q (i:=8) O (aD [0,2,3] bZ O) O (q.aO O wn O) O<|D.q (i:=9) O (aD [0,2,3] bZ O) O (q.ld 0 O O bE O) O<|D.one (i:=3) O<|Do.s (s.c (q.call lM O O (fun w hw=>(iE x2.ID w (by exact hw.okF eC (by repeat (first|exact List.Mem.head _|refine List.Mem.tail _ ?_))) (by omega)))) O) (fun _=>(aD [0,2,3] bZ O)) O fun _=>?_
  refine D.q (i:=4) O (aD [0,2,3] bZ O) O (q.cat O O (by (simp only [ByteArray.size_append,aI,List.length_cons,List.length_nil];omega))) O<|D.one (i:=7) O<|Do.s (s.c (q.call lM O O (fun w hw=>(iE x2.Kind w (by exact hw.okF eC (by repeat (first|exact List.Mem.head _|refine List.Mem.tail _ ?_))) (by omega)))) O) (fun _=>(aD [0,2,3] bZ O)) O fun _=>?_
  refine D.q (i:=10) O (aD [0,2,3] bZ O) O (q.cat O O (by omega)) O<|D.q (i:=11) O (aD [0,2,3] bZ O) O (q.build kM O O) O<|D.one (i:=12) O<|Do.s (s.bs (l:=([(⟨(⟨#[116]⟩++bK x2.ID),(bK x2.Kind++x2.Data),false⟩:Change)]:List Change)) cd cF O O O O O O O) (fun _=>(aD [1,3,4] bZ O)) O fun b5=>?_
  refine D.one (i:=13) O<|Do.s (s.app 2 _ O O O (bB 0 O) jw (by (simp;omega)) (by (simp;omega)) (fun _=>rfl) O) (fun _=>(aD [1,3,4] bZ O)) O fun v2=>?_
  refine D.q (i:=14) O (aD [1,3,4] bZ O) O (q.as O) O<|D.done<|R.reg O<|R.q (q.bA (r:=((j+1:Nat):Int)) O O) O<|R.u 1 O<|R.nil<|R.back (j+1,v2,(l2++([(⟨(⟨#[116]⟩++bK x2.ID),(bK x2.Kind++x2.Data),false⟩:Change)]))) O (by (exact ⟨by omega,by rw [qt lY hx2,<- List.append_assoc,<- HL2];rfl⟩)) (by dsimp only;omega) (sF O) (aD [2,3,4] bZ O)
 refine R.q (q.cU O O) O<|R.nil<|R.aA O O<|R.reg O<|R.q (q.aO O bg O) O<|R.q (q.ld 1 O O bS O) O<|R.q (q.len' (dw 0 O) O Tryz.underlying43) O<|R.u 1 O<|R.nil<|R.loop (fun g_:Nat×Value×(List Change)=>[(1,.pointer (some ⟨b1,0,none⟩)),(3,g_.2.1),(60,z1),(61,iV ((aZ r).ak.length:Int)),(62,iV (g_.1:Int))]) (fun g_=>[ag.row 117 g_.2.1 g_.2.2,ag.box b1 [z1,z2,z3,z4,iV (aZ r).ae,iV (aZ r).ah] 48,ag.held w own]) (fun g_=>[ag.ls z1 (aZ r).ak,ag.ls z2 (aZ r).Things,ag.ls z3 (aZ r).Held,ag.ls z4 (aZ r).Notes,ag.ls bR r.ak,ag.ls bH r.Things,ag.ls bI r.Held,ag.ls bJ r.Notes,eC]) (fun g_=>g_.1<=(aZ r).ak.length/\g_.2.2=(aZ r).Held.map hrow++(aZ r).Things.map lY++((aZ r).ak.take g_.1).map og) (fun g_=>(aZ r).ak.length-g_.1) (0,u2,l2) O (by exact ⟨by omega,by rw [HL2,yk _ (by omega)];exact (List.append_nil _).symm⟩) (sF O) (ic [0,1,2] bZ O) ?_
 rintro ⟨i,u3,l3⟩ ⟨hi,Ut⟩
 dsimp only at *
 have Wp:l3.length<=58:=by rw [Ut,List.length_append,List.length_append,List.length_map,List.length_map,List.length_map,List.length_take];omega
 refine R.reg O<|?_
 by_cases h3:i<(aZ r).ak.length
 .
  refine R.q (q.dx O O) O<|R.nil<|R.av O O<|R.reg O<|?_
  obtain ⟨x3,hx3⟩:∃z,((aZ r).ak)[i]? = some z:=⟨_,List.getElem?_eq_getElem (by omega)⟩
  have Wq:=hq.w _ (List.mem_of_getElem? hx3)
  refine R.q (q.idx (i:=i) (dw 0 O) O O dJ O hx3) O<|R.q (q.eS (ds:=im x3) (dw 0 O) hx3 O aM O) O<|R.s O (s.alloc bO O O) fun b6=>?_
  refine R.s O (s.st 0 _ O O O O (.inl aM) O O O O) fun _=>?_
  refine R.nil<|R.fY (fuel:=24) [0,2,3] O O mixed O<|D.q (i:=0) O (aD [0,2,3] bZ O) O (q.mv O) O<|D.q (i:=1) O (aD [0,2,3] bZ O) O (q.aO O bU O) O<|D.q (i:=2) O (aD [0,2,3] bZ O) O (q.ld 0 O O au O) O<|D.q (i:=5) O (aD [0,2,3] bZ O) O (q.aO O fR O) O<|D.q (i:=6) O (aD [0,2,3] bZ O) O (q.ld 0 O O au O) O<|D.q (i:=8) O (aD [0,2,3] bZ O) O (q.aO O jT O) O<|D.q (i:=9) O (aD [0,2,3] bZ O) O (q.ld 0 O O au O) O<|D.q (i:=12) O (aD [0,2,3] bZ O) O (q.aO O iZ O) O<|D.q (i:=13) O (aD [0,2,3] bZ O) O (q.ld 0 O O au O) O<|D.q (i:=16) O (aD [0,2,3] bZ O) O (q.aO O eX O) O<|D.q (i:=17) O (aD [0,2,3] bZ O) O (q.ld 0 O O au O) O<|D.one (i:=3) O<|Do.s (s.c (q.call lM O O (fun w hw=>(iE x3.ID w (by exact hw.okF eC (by repeat (first|exact List.Mem.head _|refine List.Mem.tail _ ?_))) (by omega)))) O) (fun _=>(aD [0,2,3] bZ O)) O fun _=>?_
  refine D.q (i:=4) O (aD [0,2,3] bZ O) O (q.cat O O (by (simp only [ByteArray.size_append,aI,List.length_cons,List.length_nil];omega))) O<|D.one (i:=7) O<|Do.s (s.c (q.call lM O O (fun w hw=>(iE x3.aE w (by exact hw.okF eC (by repeat (first|exact List.Mem.head _|refine List.Mem.tail _ ?_))) (by omega)))) O) (fun _=>(aD [0,2,3] bZ O)) O fun _=>?_
  refine D.one (i:=10) O<|Do.s (s.c (q.call lM O O (fun w hw=>(iE x3.Rights w (by exact hw.okF eC (by repeat (first|exact List.Mem.head _|refine List.Mem.tail _ ?_))) (by omega)))) O) (fun _=>(aD [0,2,3] bZ O)) O fun _=>?_
  refine D.q (i:=11) O (aD [0,2,3] bZ O) O (q.cat O O (by omega)) O<|D.one (i:=14) O<|Do.s (s.c (q.call lM O O (fun w hw=>(iE x3.aQ w (by exact hw.okF eC (by repeat (first|exact List.Mem.head _|refine List.Mem.tail _ ?_))) (by omega)))) O) (fun _=>(aD [0,2,3] bZ O)) O fun _=>?_
  refine D.q (i:=15) O (aD [0,2,3] bZ O) O (q.cat O O (by (simp only [ByteArray.size_append,aI,List.length_cons,List.length_nil];omega))) O<|D.one (i:=18) O<|Do.s (s.c (q.call lM O O (fun w hw=>(iE x3.From w (by exact hw.okF eC (by repeat (first|exact List.Mem.head _|refine List.Mem.tail _ ?_))) (by omega)))) O) (fun _=>(aD [0,2,3] bZ O)) O fun _=>?_
  refine D.q (i:=19) O (aD [0,2,3] bZ O) O (q.cat O O (by (simp only [ByteArray.size_append,aI,List.length_cons,List.length_nil];omega))) O<|D.q (i:=20) O (aD [0,2,3] bZ O) O (q.build kM O O) O<|D.one (i:=21) O<|Do.s (s.bs (l:=([(⟨(⟨#[119]⟩++bK x3.ID),(((bK x3.aE++bK x3.Rights)++bK x3.aQ)++bK x3.From),false⟩:Change)]:List Change)) cd cF O O O O O O O) (fun _=>(aD [1,3,4] bZ O)) O fun b7=>?_
  refine D.one (i:=22) O<|Do.s (s.app 2 _ O O O (bB 0 O) jw (by (simp;omega)) (by (simp;omega)) (fun _=>rfl) O) (fun _=>(aD [1,3,4] bZ O)) O fun v3=>?_
  refine D.q (i:=23) O (aD [1,3,4] bZ O) O (q.as O) O<|D.done<|R.reg O<|R.q (q.bA (r:=((i+1:Nat):Int)) O O) O<|R.u 1 O<|R.nil<|R.back (i+1,v3,(l3++([(⟨(⟨#[119]⟩++bK x3.ID),(((bK x3.aE++bK x3.Rights)++bK x3.aQ)++bK x3.From),false⟩:Change)]))) O (by (exact ⟨by omega,by rw [qt og hx3,<- List.append_assoc,<- Ut];rfl⟩)) (by dsimp only;omega) (sF O) (aD [2,3,4] bZ O)
 refine R.q (q.cU O O) O<|R.nil<|R.aA O O<|R.fY (fuel:=12) [1,2] O O mixed O<|D.q (i:=0) O (aD [1,2] bZ O) O (q.mv O) O<|D.q (i:=1) O (aD [1,2] bZ O) O (q.aO O cJ O) O<|D.q (i:=2) O (aD [1,2] bZ O) O (q.ld 0 O O au O) O<|D.q (i:=4) O (aD [1,2] bZ O) O (q.aO O dO O) O<|D.q (i:=5) O (aD [1,2] bZ O) O (q.ld 0 O O au O) O<|D.one (i:=3) O<|Do.s (s.c (q.call lM O O (fun w hw=>(iE (aZ r).ae w (by exact hw.okF eC (by repeat (first|exact List.Mem.head _|refine List.Mem.tail _ ?_))) (by omega)))) O) (fun _=>(aD [1,2] bZ O)) O fun _=>?_
 refine D.one (i:=6) O<|Do.s (s.c (q.call lM O O (fun w hw=>(iE (aZ r).ah w (by exact hw.okF eC (by repeat (first|exact List.Mem.head _|refine List.Mem.tail _ ?_))) (by omega)))) O) (fun _=>(aD [1,2] bZ O)) O fun _=>?_
 refine D.q (i:=7) O (aD [1,2] bZ O) O (q.cat O O (by omega)) O<|D.q (i:=8) O (aD [1,2] bZ O) O (q.build kM O O) O<|D.one (i:=9) O<|Do.s (s.bs (l:=([(⟨⟨#[120]⟩,(bK (aZ r).ae++bK (aZ r).ah),false⟩:Change)]:List Change)) cd cF O O O O O O O) (fun _=>(aD [2,3] bZ O)) O fun b8=>?_
 refine D.one (i:=10) O<|Do.s (s.app 1 _ O O O (bB 0 O) jw (by (simp;omega)) (by (simp;omega)) (fun _=>rfl) O) (fun _=>(aD [2,3] bZ O)) O fun v4=>?_
 refine D.q (i:=11) O (aD [2,3] bZ O) O (q.as O) O<|D.done<|?_
 have hz:bF r=(l3++([(⟨⟨#[120]⟩,(bK (aZ r).ae++bK (aZ r).ah),false⟩:Change)])):=by (unfold bF rowsOf;rw [Ut,yk _ (by omega)];rfl)
 rw [hz]
 exact R.w1 v4 [1,3] [] O Tryz.results64 (RV.tmp O) O O O O
theorem ym (wF:Value)(a:List Int)(yy:Value)(b:List Int)(w:World)(wG:Sl w wF a)(zk:Sl w yy b):Calls Tryz.prog 153 #[wF,yy] w fun e w'=>e = .returned (.bool (decide (a=b)))/\Ext w w':=by
 have JA:=wG.fA
 have UE:=zk.fA
 refine R.enter [] [(0,wF),(1,yy)] Tryz.func153 O O O O<|R.reg O<|R.u 1 O<|R.nil<|R.reg O<|R.u 1 O<|R.q (q.len' (fun _=>Wd.old wG) O Tryz.underlying159) O<|R.u 1 O<|R.q (q.len' (fun _=>Wd.old zk) O Tryz.underlying159) O<|?_
 by_cases h1:a.length=b.length
 .
  refine R.q (q.lK O O) O<|R.nil<|R.aA O O<|R.reg O<|R.u 1 O<|R.q (q.len' (fun _=>Wd.old wG) O Tryz.underlying159) O<|R.u 1 O<|R.nil<|R.loop (fun k:Nat=>[(0,wF),(1,yy),(12,iV (a.length:Int)),(13,iV (k:Int))]) (fun k:Nat=>[]) (fun k:Nat=>[]) (fun k:Nat=>k<=a.length /\ ∀j,j<k->a[j]? = b[j]?) (fun k:Nat=>a.length-k) 0 O (by exact ⟨by omega,fun j hj=>absurd hj (Nat.not_lt_zero _)⟩) (sF O) (ic [] [] O) ?_
  rintro k ⟨hk,HA⟩
  refine R.reg O<|?_
  by_cases h2:k<a.length
  .
   refine R.q (q.dx O O) O<|R.nil<|R.av O O<|R.reg O<|R.u 2 O<|R.nil ?_
   obtain ⟨x1,hx1⟩:∃z,a[k]? = some z:=⟨_,List.getElem?_eq_getElem (by omega)⟩
   obtain ⟨x2,hx2⟩:∃z,b[k]? = some z:=⟨_,List.getElem?_eq_getElem (by omega)⟩
   by_cases h3:x1=x2
   .
    refine R.eu O mixed (by kernel_rfl)<|Q.u 2 O<|Q.q (q.idx (i:=k) (fun _=>Wd.old wG) O O da O hx1) O<|Q.q (q.lv (fun _=>Wd.old wG) hx1 O au O) O<|Q.u 2 O<|Q.q (q.idx (i:=k) (fun _=>Wd.old zk) O O da O hx2) O<|Q.q (q.lv (fun _=>Wd.old zk) hx2 O au O) O<|Q.q (q.lK O O) O<|Q.nil<|R.aA O O<|R.reg O<|R.q (q.bA (r:=((k+1:Nat):Int)) O O) O<|R.u 1 O<|R.nil<|R.back (k+1) O (by (exact ⟨by omega,nP HA hx1 hx2 ‹_›⟩)) (by omega) (sF O) (ic [] [] O)
   exact R.eu O mixed (by kernel_rfl)<|Q.u 2 O<|Q.q (q.idx (i:=k) (fun _=>Wd.old wG) O O da O hx1) O<|Q.q (q.lv (fun _=>Wd.old wG) hx1 O au O) O<|Q.u 2 O<|Q.q (q.idx (i:=k) (fun _=>Wd.old zk) O O da O hx2) O<|Q.q (q.lv (fun _=>Wd.old zk) hx2 O au O) O<|Q.q (q.lJ O O) O<|Q.nil<|R.av O O<|R.reg O<|R.u 1 O<|R.nil<|R.rv O Tryz.results153 O (rB (by (exact wE hx1 hx2 ‹_›)))
  exact R.q (q.cU O O) O<|R.nil<|R.aA O O<|R.reg O<|R.u 1 O<|R.nil<|R.rv O Tryz.results153 O (rB (by (exact pS ‹_› ‹_› HA)))
 exact R.q (q.lJ O O) O<|R.nil<|R.av O O<|R.reg O<|R.u 1 O<|R.nil<|R.rv O Tryz.results153 O (rB (by (exact wD ‹_›)))
end Go.Proofs.YtkbhcbipadkcaaaGreatDoor
