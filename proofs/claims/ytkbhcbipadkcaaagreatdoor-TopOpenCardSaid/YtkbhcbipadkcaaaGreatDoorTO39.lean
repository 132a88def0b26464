import Derived.Test.YtkbhcbipadkcaaaGreatDoorTO38
namespace Go.Proofs.YtkbhcbipadkcaaaGreatDoor
set_option linter.unusedVariables false
set_option linter.unusedSimpArgs false
open Go Go.RowKit
set_option maxRecDepth 100000
set_option maxHeartbeats 90000000
theorem iE (n:Int)(w:World)(ht:DL w)(hn : -9223372036854775808<=n/\n<=9223372036854775807):Calls Tryz.prog 131 #[iV n] w fun e w'=>e = .returned (.string (bM n))/\Ext w w':=by
 have il:=yl hn;have ip:=Ls n
 refine R.enter [] [(0,iV n)] Tryz.func131 O O O O<|R.nJ (r:=eD) ht (BR ht)<|R.reg O<|R.u 1 O<|R.nil<|R.reg O<|R.u 1 O<|R.c (q.call ED O O (fun w hw=>(yk n w (by exact hw.okF eD (by repeat (exact List.Mem.head _))) ‹_›))) O<|R.u 1 O<|R.nil ?_
 refine R.reg O<|R.u 1 O<|R.q (q.iA O Tryz.underlying9) O<|R.q (q.lT (r:=4-((gS n).size:Int)) O O) O<|R.q (q.max (r:=max 0 (4-((gS n).size:Int))) O O O) O<|R.c (q.call PD O O (fun w hw=>(Ft (⟨#[48]⟩) (max 0 (4-((gS n).size:Int))) w O (by omega)))) O<|R.u 1 O<|R.q (q.cat O O (by (rw [GJ];omega))) O<|R.u 1 O<|R.nil ?_
 exact R.rv O Tryz.results131 O (rS (by (unfold bM;rw [show (max 0 (4-((gS n).size:Int))).toNat=4-(gS n).size by omega])))
def numsL (s:ByteArray)(m:Nat):List Int:=(dW s m).getD []
def eE (s:ByteArray)(m:Nat):Bool:=(dW s m).isSome
theorem Ng {s:ByteArray}{m:Nat}(h:s.size<4*m):(numsL s m,eE s m)=([],false):=by unfold numsL eE dW;rw [if_pos h];rfl
theorem DW {s:ByteArray}{m k:Nat}{l:List Int}(h:¬ s.size<4*m)(hk:k<m)(hl:jN s k=some l)(hn:vx (s.extract (4*k) (4*k+4))=none):(numsL s m,eE s m)=([],false):=by
 unfold numsL eE dW;rw [if_neg h,Il hk hl hn];rfl
theorem Nh {s:ByteArray}{m:Nat}{l:List Int}(h:¬ s.size<4*m)(hl:jN s m=some l):(numsL s m,eE s m)=(l,true):=by
 unfold numsL eE dW;rw [if_neg h,hl];rfl
theorem Ni {s:ByteArray}(h:¬ (Lib.atoi s.data.toList).isSome=true):vx s=none:=by
 unfold vx;cases hq:Lib.atoi s.data.toList with|none=>rfl|some n=>rw [hq] at h;exact absurd rfl h
theorem Nj {s:ByteArray}(h:¬ bM (aV s)=s):vx s=none:=by
 unfold vx;unfold aV at h
 cases hq:Lib.atoi s.data.toList with
 | none=>rfl
 | some n=>rw [hq] at h;dsimp only;exact if_neg h
theorem Ly {s:ByteArray}(h:(Lib.atoi s.data.toList).isSome=true)(he:bM (aV s)=s):vx s=some (aV s):=by
 unfold vx;unfold aV at he ⊢
 cases hq:Lib.atoi s.data.toList with
 | none=>rw [hq] at h;cases h
 | some n=>rw [hq] at he;dsimp only;exact if_pos he
theorem lE (sb:ByteArray)(m:Nat)(w:World)(own:List Nat)(H:HN w own [] [eD])(hs:sb.size<=1000000/\m<=4):RC Tryz.prog 150 #[.string sb,iV (m:Int)] H (fun z:Value => .tuple #[z,.bool (eE sb m)]) (fun z=>[ag.row 3 z (numsL sb m)]) (fun _=>[]):=by
 refine R.bD [(0,.string sb),(1,iV (m:Int))] Tryz.func150 O O O O H<|R.reg O<|R.u 2 O<|R.nil<|R.reg O<|R.u 1 O<|R.q (q.iA O Tryz.underlying9) O<|R.u 1 O<|R.q (q.vf (r:=((4*m:Nat):Int)) O O) O<|?_
 by_cases h1:sb.size<(4*m)
 .
  refine R.q (q.dx O O) O<|R.nil<|R.av O O<|R.reg O<|R.u 2 O<|R.nil<|R.row0 (α:=Int) 3 ?_
  have hz:(numsL sb m,eE sb m)=([],false):=by (exact Ng (by omega))
  have hz0:numsL sb m=[]:=congrArg (fun t_=>t_.1) hz
  rw [hz0]
  have hz1:eE sb m=false:=congrArg (fun t_=>t_.2) hz
  rw [hz1]
  exact R.w2 (nS) [0,1] [] O Tryz.results150 (RV.tmp O) (RV.tmp O) O O O (dy O O)
 refine R.q (q.cU O O) O<|R.nil<|R.aA O O<|R.reg O<|R.u 1 O<|R.nil<|R.reg O<|R.u 2 O<|R.nil<|R.row0 (α:=Int) 3<|R.loop (fun g_:Nat×Value×(List Int)=>[(0,.string sb),(6,g_.2.1),(15,iV (m:Int)),(16,iV (g_.1:Int))]) (fun g_=>[ag.row 3 g_.2.1 g_.2.2,ag.held w own]) (fun g_=>[eD]) (fun g_=>g_.1<=m/\jN sb g_.1=some g_.2.2) (fun g_=>m-g_.1) (0,(nS),[]) O (by exact ⟨by omega,rfl⟩) (sF O) (ic [0,1] [0] O) ?_
 rintro ⟨k,u,l⟩ ⟨hk,HL⟩
 dsimp only at *
 have ab:=Lr (s:=sb.extract (4*k) (4*k+4)) (by rw [ByteArray.size_extract];omega);have gl:=uo HL
 refine R.reg O<|?_
 by_cases h2:k<m
 .
  refine R.q (q.dx O O) O<|R.nil<|R.av O O<|R.reg O<|R.u 2 O<|R.nil<|R.reg O<|R.u 2 O<|R.q (q.vf (r:=((4*k:Nat):Int)) O O) O<|R.u 1 O<|R.q (q.vf (r:=((4*k:Nat):Int)) O O) O<|R.q (q.bA (r:=(((4*k)+4:Nat):Int)) O O) O<|R.q (q.Cp (i:=(4*k)) (j:=((4*k)+4)) O O O Tryz.underlying9 O O (by omega) (by omega)) O<|?_
  by_cases h3:(Lib.atoi (sb.extract (4*k) ((4*k)+4)).data.toList).isSome=true
  .
   refine R.c (q.call JA O O (fun w hw=>(Lp (sb.extract (4*k) ((4*k)+4)) w ‹_› (by rw [ByteArray.size_extract];omega)))) O<|R.u 5 O<|R.nil ?_
   by_cases h4:bM (aV (sb.extract (4*k) ((4*k)+4)))=(sb.extract (4*k) ((4*k)+4))
   .
    refine R.ew O mixed (by kernel_rfl)<|Q.u 1 O<|Q.q (q.vX O O Tryz.underlying38) O<|Q.u 2 O<|Q.cg O (q.call lL O O (fun w hw=>(iE (aV (sb.extract (4*k) ((4*k)+4))) w (by exact hw.okF eD (by repeat (exact List.Mem.head _))) ‹_›))) O<|Q.u 2 O<|Q.qg O (q.vf (r:=((4*k:Nat):Int)) O O) O<|Q.u 1 O<|Q.qg O (q.vf (r:=((4*k:Nat):Int)) O O) O<|Q.qg O (q.bA (r:=(((4*k)+4:Nat):Int)) O O) O<|Q.qg O (q.Cp (i:=(4*k)) (j:=((4*k)+4)) O O O Tryz.underlying9 O O (by omega) (by omega)) O<|Q.qg O (q.uF O O h4) O<|Q.u 1 O<|Q.nil<|R.aA O O<|R.reg O<|R.u 2 O<|R.s O (s.bs (l:=([aV (sb.extract (4*k) ((4*k)+4))]:List Int)) da lU O O O O O O O) fun b1=>?_
    refine R.s O (s.app 1 _ O O O (bB 0 O) nP (by (simp;omega)) (by (simp;omega)) (fun _=>rfl) O) fun v1=>?_
    refine R.u 1 O<|R.nil<|R.reg O<|R.q (q.bA (r:=((k+1:Nat):Int)) O O) O<|R.u 1 O<|R.nil<|R.back (k+1,v1,(l++([aV (sb.extract (4*k) ((4*k)+4))]))) O (by (exact ⟨by omega,Fo HL (Ly ‹_› ‹_›)⟩)) (by dsimp only;omega) (sF O) (aD [1,2] [0] O)
   refine R.ew O mixed (by kernel_rfl)<|Q.u 1 O<|Q.q (q.vX O O Tryz.underlying38) O<|Q.u 2 O<|Q.cg O (q.call lL O O (fun w hw=>(iE (aV (sb.extract (4*k) ((4*k)+4))) w (by exact hw.okF eD (by repeat (exact List.Mem.head _))) ‹_›))) O<|Q.u 2 O<|Q.qg O (q.vf (r:=((4*k:Nat):Int)) O O) O<|Q.u 1 O<|Q.qg O (q.vf (r:=((4*k:Nat):Int)) O O) O<|Q.qg O (q.bA (r:=(((4*k)+4:Nat):Int)) O O) O<|Q.qg O (q.Cp (i:=(4*k)) (j:=((4*k)+4)) O O O Tryz.underlying9 O O (by omega) (by omega)) O<|Q.qg O (q.ze O O h4) O<|Q.u 1 O<|Q.nil<|R.av O O<|R.reg O<|R.u 2 O<|R.nil<|R.row0 (α:=Int) 3 ?_
   have hz:(numsL sb m,eE sb m)=([],false):=by (exact DW (by omega) (by omega) HL (Nj ‹_›))
   have hz0:numsL sb m=[]:=congrArg (fun t_=>t_.1) hz
   rw [hz0]
   have hz1:eE sb m=false:=congrArg (fun t_=>t_.2) hz
   rw [hz1]
   exact R.w2 (nS) [0,2] [] O Tryz.results150 (RV.tmp O) (RV.tmp O) O O O (dy O O)
  refine R.s O (s.aW [0,1] [0] _ _ _ O O O JA O O (fun w own hw H=>Lq (sb.extract (4*k) ((4*k)+4)) w own H ‹_› (by rw [ByteArray.size_extract];omega)) O) fun z1=>?_
  refine R.u 5 O<|R.nil<|R.ew O mixed (by kernel_rfl)<|Q.u 1 O<|Q.q (q.NM O O Tryz.underlying38) O<|Q.u 12 O<|Q.nil<|R.av O O<|R.reg O<|R.u 2 O<|R.nil<|R.row0 (α:=Int) 3 ?_
  have hz:(numsL sb m,eE sb m)=([],false):=by (exact DW (by omega) (by omega) HL (Ni ‹_›))
  have hz0:numsL sb m=[]:=congrArg (fun t_=>t_.1) hz
  rw [hz0]
  have hz1:eE sb m=false:=congrArg (fun t_=>t_.2) hz
  rw [hz1]
  exact R.w2 (nS) [0,2] [] O Tryz.results150 (RV.tmp O) (RV.tmp O) O O O (dy O O)
 refine R.q (q.cU O O) O<|R.nil<|R.aA O O<|R.reg O<|R.u 3 O<|R.nil ?_
 have hz:(numsL sb m,eE sb m)=(l,true):=by (have e:k=m:=(by omega);subst e;exact Nh (by omega) HL)
 have hz0:numsL sb m=l:=congrArg (fun t_=>t_.1) hz
 rw [hz0]
 have hz1:eE sb m=true:=congrArg (fun t_=>t_.2) hz
 rw [hz1]
 exact R.w2 u [0,1] [] O Tryz.results150 (RV.tmp O) (RV.tmp O) O O O (dy O O)
theorem qw {α β:Type}(f:α->β){L:List α}{k:Nat}{x:α}(hx:L[k]? = some x):(L.take (k+1)).map f=(L.take k).map f++[f x]:=by
 rw [List.take_add_one,hx,List.map_append];rfl
theorem yp {α β:Type}(f:α->β){L:List α}{k:Nat}(h:L.length<=k):(L.take k).map f=L.map f:=by rw [List.take_of_length_le h]
structure V6 (q:aC):Prop where
  i:Inv q
  h:∀x∈q.Held,(gS x.Place.aB).size<=21/\(gS x.Place.Slot).size<=21/\(bM x.aj).size<=25/\0<=x.Place.aB/\x.Place.aB<=4/\0<=x.Place.Slot/\x.Place.Slot<=5/\0<=x.aj/\x.aj<=10000
  t:∀x∈q.Things,(bM x.ID).size<=25/\(bM x.Kind).size<=25/\x.Data.size<=8/\0<=x.ID/\x.ID<=10000/\0<=x.Kind/\x.Kind<=2
  w:∀x∈q.ak,((bM x.ID).size<=25/\(bM x.aE).size<=25/\(bM x.Rights).size<=25/\(bM x.aQ).size<=25/\(bM x.From).size<=25)/\0<=x.ID/\x.ID<=999/\0<=x.aE/\x.aE<=999/\0<=x.Rights/\x.Rights<=7/\0<=x.aQ/\x.aQ<=99/\0<=x.From/\x.From<=999
  n:(bM q.ae).size<=25/\(bM q.ah).size<=25
theorem lq {n:Int}(h:0<=n/\n<=10000):(bM n).size<=25:=Lt (by omega)
theorem GM {n:Int}(h:0<=n/\n<=10000):(gS n).size<=21:=yl (by omega)
theorem Inv.V7 {q:aC}(i:Inv q):V6 q where
 i:=i
 h:=fun x hx=>by
  have k:=i.Iu hx;have p:=cu k.1;have k1:=k.2.1;have k2:=k.2.2
  exact ⟨GM (by omega),GM (by omega),lq (by omega),by omega,by omega,by omega,by omega,by omega,by omega⟩
 t:=fun x hx=>by
  have k:=i.OE hx;have a:=k.i0;have b:=k.i9;have c:=k.kd;have d:=k.ds
  exact ⟨lq (by omega),lq (by omega),d,a,by omega,by omega,by omega⟩
 w:=fun x hx=>by
  have k:=i.tree.mem hx;have i1:=k.id1;have i9:=k.Ow;have t1:=k.Qm;have t9:=k.Qn;have a0:=k.Qo;have a9:=k.Qp;have f0:=k.Rf;have fl:=k.Qq;have q0:=k.KD;have q7:=k.KE
  exact ⟨⟨lq (by omega),lq (by omega),lq (by omega),lq (by omega),lq (by omega)⟩,by omega,by omega,by omega,by omega,by omega,by omega,by omega,by omega,by omega,by omega⟩
 n:=by
  have a1:=i.oY;have a2:=i.rj;have a3:=i.pC;have a4:=i.pD
  exact ⟨lq (by omega),lq (by omega)⟩
set_option maxRecDepth 100000 in
set_option maxHeartbeats 90000000 in
theorem yq (bS bJ bK bL:Value)(r:aC)(w:World)(own:List Nat)(H:HN w own [] [ag.ls bS r.ak,ag.ls bJ r.Things,ag.ls bK r.Held,ag.ls bL r.Notes,eD])(hk:Ok r)(hI:Inv r):RC Tryz.prog 64 #[.agg #[bS,bJ,bK,bL,iV r.ae,iV r.ah]] H (fun z:Value=>z) (fun z=>[ag.row 117 z (bH r)]) (fun _=>[]):=by
 have eK:=H.cq 0 rfl
 have dN:=H.cq 1 rfl
 have fG:=H.cq 2 rfl
 have eL:=H.cq 3 rfl
 have bw:=hk.wl;have bt:=hk.tl;have bh:=hk.hl;have bn:=hk.nl;have KS:=hk.w0;have KT:=hk.w1;have KU:=hk.t0;have KV:=hk.t1
 have hq:=(jz hI).1.V7
 have hn:=hq.n;have oY:=hq.i.oY;have rj:=hq.i.rj;have pC:=hq.i.pC;have pD:=hq.i.pD;have hl0:=tE hq.i;have Wu:=hq.i.jr;have Wv:=(jz hI).2.2.2.1
 refine R.bD [(0,.agg #[bS,bJ,bK,bL,iV r.ae,iV r.ah])] Tryz.func64 O O O O H<|R.reg O<|R.s O (s.box O O O) fun b1=>?_
 refine R.u 1 O<|R.nil<|R.reg O<|R.q (q.du 0 O O ao) O<|R.s O (s.aW [0,1] bC _ _ _ O O O NY O O (fun w own hw H=>yn bS bJ bK bL r w own H ‹_›) O) ?_
 rintro ⟨z1,z2,z3,z4⟩
 dsimp only
 refine R.s O (s.fX 0 _ O O O (fun _ _=>rfl) (.inl ao) (fun w hw=>(af (Sl.one (hw.bQ 0 O)) (af (Sl.one (hw.bQ 1 O)) (af (Sl.one (hw.bQ 2 O)) (af (Sl.one (hw.bQ 3 O)) (af O (af O aP))))))) O O O) fun _=>?_
 refine R.nil<|R.reg O<|R.u 1 O<|R.nil<|R.reg O<|R.q (q.aO O cz O) O<|R.q (q.ld 0 O O dE O) O<|R.q (q.len' (dq 2 O) O Tryz.underlying45) O<|R.u 1 O<|R.nil<|R.row0 (α:=Change) 117<|R.loop (fun g_:Nat×Value×(List Change)=>[(1,.pointer (some ⟨b1,0,none⟩)),(3,g_.2.1),(13,z3),(14,iV ((aZ r).Held.length:Int)),(15,iV (g_.1:Int))]) (fun g_=>[ag.row 117 g_.2.1 g_.2.2,ag.box b1 [z1,z2,z3,z4,iV (aZ r).ae,iV (aZ r).ah] 48,ag.held w own]) (fun g_=>[ag.ls z1 (aZ r).ak,ag.ls z2 (aZ r).Things,ag.ls z3 (aZ r).Held,ag.ls z4 (aZ r).Notes,ag.ls bS r.ak,ag.ls bJ r.Things,ag.ls bK r.Held,ag.ls bL r.Notes,eD]) (fun g_=>g_.1<=(aZ r).Held.length/\g_.2.2=((aZ r).Held.take g_.1).map hrow) (fun g_=>(aZ r).Held.length-g_.1) (0,(nS),[]) O (by exact ⟨by omega,rfl⟩) (sF O) (ic [0,1,2] bE O) ?_
 rintro ⟨k,u,l⟩ ⟨hk,HL⟩
 dsimp only at *
 have ll:l.length<=24:=by rw [HL,List.length_map,List.length_take];omega
 refine R.reg O<|?_
 by_cases h1:k<(aZ r).Held.length
 .
  refine R.q (q.dx O O) O<|R.nil<|R.av O O<|R.reg O<|?_
  obtain ⟨x1,hx1⟩:∃z,((aZ r).Held)[k]? = some z:=⟨_,List.getElem?_eq_getElem (by omega)⟩
  have P5:=hq.h _ (List.mem_of_getElem? hx1)
  refine R.q (q.idx (i:=k) (dq 2 O) O O cI O hx1) O<|R.q (q.eU (ds:=lH x1) (dq 2 O) hx1 O eW O) O<|R.s O (s.alloc gY O O) fun b2=>?_
  refine R.s O (s.st 0 _ O O O O (.inl eW) O O O O) fun _=>?_
  refine R.nil<|R.fY (fuel:=18) [0,2,3] O O mixed O<|D.q (i:=0) O (aD [0,2,3] bE O) O (q.mv O) O<|D.q (i:=1) O (aD [0,2,3] bE O) O (q.aO O rU O) O<|D.q (i:=2) O (aD [0,2,3] bE O) O (q.aO O ft O) O<|D.q (i:=3) O (aD [0,2,3] bE O) O (q.ld 0 O O au O) O<|D.q (i:=6) O (aD [0,2,3] bE O) O (q.aO O rU O) O<|D.q (i:=7) O (aD [0,2,3] bE O) O (q.aO O nK O) O<|D.q (i:=8) O (aD [0,2,3] bE O) O (q.ld 0 O O au O) O<|D.q (i:=11) O (aD [0,2,3] bE O) O (q.aO O jS O) O<|D.q (i:=12) O (aD [0,2,3] bE O) O (q.ld 0 O O au O) O<|D.one (i:=4) O<|Do.s (s.c (q.call ED O O (fun w hw=>(yk x1.Place.aB w (by exact hw.okF eD (by repeat (first|exact List.Mem.head _|refine List.Mem.tail _ ?_))) (by omega)))) O) (fun _=>(aD [0,2,3] bE O)) O fun _=>?_
  refine D.q (i:=5) O (aD [0,2,3] bE O) O (q.cat O O (by (simp only [ByteArray.size_append,aI,List.length_cons,List.length_nil];omega))) O<|D.one (i:=9) O<|Do.s (s.c (q.call ED O O (fun w hw=>(yk x1.Place.Slot w (by exact hw.okF eD (by repeat (first|exact List.Mem.head _|refine List.Mem.tail _ ?_))) (by omega)))) O) (fun _=>(aD [0,2,3] bE O)) O fun _=>?_
  refine D.q (i:=10) O (aD [0,2,3] bE O) O (q.cat O O (by (simp only [ByteArray.size_append,aI,List.length_cons,List.length_nil];omega))) O<|D.one (i:=13) O<|Do.s (s.c (q.call lL O O (fun w hw=>(iE x1.aj w (by exact hw.okF eD (by repeat (first|exact List.Mem.head _|refine List.Mem.tail _ ?_))) (by omega)))) O) (fun _=>(aD [0,2,3] bE O)) O fun _=>?_
  refine D.q (i:=14) O (aD [0,2,3] bE O) O (q.build kL O O) O<|D.one (i:=15) O<|Do.s (s.bs (l:=([(⟨((⟨#[104]⟩++gS x1.Place.aB)++gS x1.Place.Slot),bM x1.aj,false⟩:Change)]:List Change)) cd cF O O O O O O O) (fun _=>(aD [1,3,4] bE O)) O fun b3=>?_
  refine D.one (i:=16) O<|Do.s (s.app 2 _ O O O (bB 0 O) jw (by (simp;omega)) (by (simp;omega)) (fun _=>rfl) O) (fun _=>(aD [1,3,4] bE O)) O fun v1=>?_
  refine D.q (i:=17) O (aD [1,3,4] bE O) O (q.as O) O<|D.done<|R.reg O<|R.q (q.bA (r:=((k+1:Nat):Int)) O O) O<|R.u 1 O<|R.nil<|R.back (k+1,v1,(l++([(⟨((⟨#[104]⟩++gS x1.Place.aB)++gS x1.Place.Slot),bM x1.aj,false⟩:Change)]))) O (by (exact ⟨by omega,by rw [qw hrow hx1,<- HL];rfl⟩)) (by dsimp only;omega) (sF O) (aD [2,3,4] bE O)
 refine R.q (q.cU O O) O<|R.nil<|R.aA O O<|R.reg O<|R.q (q.aO O cy O) O<|R.q (q.ld 1 O O dD O) O<|R.q (q.len' (dq 1 O) O Tryz.underlying44) O<|R.u 1 O<|R.nil<|R.loop (fun g_:Nat×Value×(List Change)=>[(1,.pointer (some ⟨b1,0,none⟩)),(3,g_.2.1),(38,z2),(39,iV ((aZ r).Things.length:Int)),(40,iV (g_.1:Int))]) (fun g_=>[ag.row 117 g_.2.1 g_.2.2,ag.box b1 [z1,z2,z3,z4,iV (aZ r).ae,iV (aZ r).ah] 48,ag.held w own]) (fun g_=>[ag.ls z1 (aZ r).ak,ag.ls z2 (aZ r).Things,ag.ls z3 (aZ r).Held,ag.ls z4 (aZ r).Notes,ag.ls bS r.ak,ag.ls bJ r.Things,ag.ls bK r.Held,ag.ls bL r.Notes,eD]) (fun g_=>g_.1<=(aZ r).Things.length/\g_.2.2=(aZ r).Held.map hrow++((aZ r).Things.take g_.1).map lY) (fun g_=>(aZ r).Things.length-g_.1) (0,u,l) O (by exact ⟨by omega,by rw [HL,yp _ (by omega)];exact (List.append_nil _).symm⟩) (sF O) (ic [0,1,2] bE O) ?_
 rintro ⟨j,u2,l2⟩ ⟨hj,HL2⟩
 dsimp only at *
 have U7:l2.length<=34:=by rw [HL2,List.length_append,List.length_map,List.length_map,List.length_take];omega
 refine R.reg O<|?_
 by_cases h2:j<(aZ r).Things.length
 .
  refine R.q (q.dx O O) O<|R.nil<|R.av O O<|R.reg O<|?_
  obtain ⟨x2,hx2⟩:∃z,((aZ r).Things)[j]? = some z:=⟨_,List.getElem?_eq_getElem (by omega)⟩
  have V8:=hq.t _ (List.mem_of_getElem? hx2)
  refine R.q (q.idx (i:=j) (dq 1 O) O O iM O hx2) O<|R.q (q.eU (ds:=mU x2) (dq 1 O) hx2 O gx O) O<|R.s O (s.alloc ju O O) fun b4=>?_
  refine R.s O (s.st 0 _ O O O O (.inl gx) O O O O) fun _=>?_
  refine R.nil<|R.fY (fuel:=15) [0,2,3] O O mixed O<|D.q (i:=0) O (aD [0,2,3] bE O) O (q.mv O) O<|D.q (i:=1) O (aD [0,2,3] bE O) O (q.aO O oz O) O<|D.q (i:=2) O (aD [0,2,3] bE O) O (q.ld 0 O O au O) O<|D.q (i:=5) O (aD [0,2,3] bE O) O (q.aO O wv O) O<|D.q (i:=6) O (aD [0,2,3] bE O) O (q.ld 0 O O au O) O<|D.q (i:=8) O (aD [0,2,3] bE O) O (q.aO O wA O) O<|D.q (i:=9) O (aD [0,2,3] bE O) O (q.ld 0 O O bG O) O<|D.one (i:=3) O<|Do.s (s.c (q.call lL O O (fun w hw=>(iE x2.ID w (by exact hw.okF eD (by repeat (first|exact List.Mem.head _|refine List.Mem.tail _ ?_))) (by omega)))) O) (fun _=>(aD [0,2,3] bE O)) O fun _=>?_
  refine D.q (i:=4) O (aD [0,2,3] bE O) O (q.cat O O (by (simp only [ByteArray.size_append,aI,List.length_cons,List.length_nil];omega))) O<|D.one (i:=7) O<|Do.s (s.c (q.call lL O O (fun w hw=>(iE x2.Kind w (by exact hw.okF eD (by repeat (first|exact List.Mem.head _|refine List.Mem.tail _ ?_))) (by omega)))) O) (fun _=>(aD [0,2,3] bE O)) O fun _=>?_
  refine D.q (i:=10) O (aD [0,2,3] bE O) O (q.cat O O (by omega)) O<|D.q (i:=11) O (aD [0,2,3] bE O) O (q.build kL O O) O<|D.one (i:=12) O<|Do.s (s.bs (l:=([(⟨(⟨#[116]⟩++bM x2.ID),(bM x2.Kind++x2.Data),false⟩:Change)]:List Change)) cd cF O O O O O O O) (fun _=>(aD [1,3,4] bE O)) O fun b5=>?_
  refine D.one (i:=13) O<|Do.s (s.app 2 _ O O O (bB 0 O) jw (by (simp;omega)) (by (simp;omega)) (fun _=>rfl) O) (fun _=>(aD [1,3,4] bE O)) O fun v2=>?_
  refine D.q (i:=14) O (aD [1,3,4] bE O) O (q.as O) O<|D.done<|R.reg O<|R.q (q.bA (r:=((j+1:Nat):Int)) O O) O<|R.u 1 O<|R.nil<|R.back (j+1,v2,(l2++([(⟨(⟨#[116]⟩++bM x2.ID),(bM x2.Kind++x2.Data),false⟩:Change)]))) O (by (exact ⟨by omega,by rw [qw lY hx2,<- List.append_assoc,<- HL2];rfl⟩)) (by dsimp only;omega) (sF O) (aD [2,3,4] bE O)
 refine R.q (q.cU O O) O<|R.nil<|R.aA O O<|R.reg O<|R.q (q.aO O bg O) O<|R.q (q.ld 1 O O bT O) O<|R.q (q.len' (dq 0 O) O Tryz.underlying43) O<|R.u 1 O<|R.nil<|R.loop (fun g_:Nat×Value×(List Change)=>[(1,.pointer (some ⟨b1,0,none⟩)),(3,g_.2.1),(60,z1),(61,iV ((aZ r).ak.length:Int)),(62,iV (g_.1:Int))]) (fun g_=>[ag.row 117 g_.2.1 g_.2.2,ag.box b1 [z1,z2,z3,z4,iV (aZ r).ae,iV (aZ r).ah] 48,ag.held w own]) (fun g_=>[ag.ls z1 (aZ r).ak,ag.ls z2 (aZ r).Things,ag.ls z3 (aZ r).Held,ag.ls z4 (aZ r).Notes,ag.ls bS r.ak,ag.ls bJ r.Things,ag.ls bK r.Held,ag.ls bL r.Notes,eD]) (fun g_=>g_.1<=(aZ r).ak.length/\g_.2.2=(aZ r).Held.map hrow++(aZ r).Things.map lY++((aZ r).ak.take g_.1).map om) (fun g_=>(aZ r).ak.length-g_.1) (0,u2,l2) O (by exact ⟨by omega,by rw [HL2,yp _ (by omega)];exact (List.append_nil _).symm⟩) (sF O) (ic [0,1,2] bE O) ?_
 rintro ⟨i,u3,l3⟩ ⟨hi,UA⟩
 dsimp only at *
 have Ww:l3.length<=58:=by rw [UA,List.length_append,List.length_append,List.length_map,List.length_map,List.length_map,List.length_take];omega
 refine R.reg O<|?_
 by_cases h3:i<(aZ r).ak.length
 .
  refine R.q (q.dx O O) O<|R.nil<|R.av O O<|R.reg O<|?_
  obtain ⟨x3,hx3⟩:∃z,((aZ r).ak)[i]? = some z:=⟨_,List.getElem?_eq_getElem (by omega)⟩
  have Wx:=hq.w _ (List.mem_of_getElem? hx3)
  refine R.q (q.idx (i:=i) (dq 0 O) O O dK O hx3) O<|R.q (q.eU (ds:=im x3) (dq 0 O) hx3 O aM O) O<|R.s O (s.alloc bP O O) fun b6=>?_
  refine R.s O (s.st 0 _ O O O O (.inl aM) O O O O) fun _=>?_
  refine R.nil<|R.fY (fuel:=24) [0,2,3] O O mixed O<|D.q (i:=0) O (aD [0,2,3] bE O) O (q.mv O) O<|D.q (i:=1) O (aD [0,2,3] bE O) O (q.aO O bV O) O<|D.q (i:=2) O (aD [0,2,3] bE O) O (q.ld 0 O O au O) O<|D.q (i:=5) O (aD [0,2,3] bE O) O (q.aO O fR O) O<|D.q (i:=6) O (aD [0,2,3] bE O) O (q.ld 0 O O au O) O<|D.q (i:=8) O (aD [0,2,3] bE O) O (q.aO O jT O) O<|D.q (i:=9) O (aD [0,2,3] bE O) O (q.ld 0 O O au O) O<|D.q (i:=12) O (aD [0,2,3] bE O) O (q.aO O iZ O) O<|D.q (i:=13) O (aD [0,2,3] bE O) O (q.ld 0 O O au O) O<|D.q (i:=16) O (aD [0,2,3] bE O) O (q.aO O eY O) O<|D.q (i:=17) O (aD [0,2,3] bE O) O (q.ld 0 O O au O) O<|D.one (i:=3) O<|Do.s (s.c (q.call lL O O (fun w hw=>(iE x3.ID w (by exact hw.okF eD (by repeat (first|exact List.Mem.head _|refine List.Mem.tail _ ?_))) (by omega)))) O) (fun _=>(aD [0,2,3] bE O)) O fun _=>?_
  refine D.q (i:=4) O (aD [0,2,3] bE O) O (q.cat O O (by (simp only [ByteArray.size_append,aI,List.length_cons,List.length_nil];omega))) O<|D.one (i:=7) O<|Do.s (s.c (q.call lL O O (fun w hw=>(iE x3.aE w (by exact hw.okF eD (by repeat (first|exact List.Mem.head _|refine List.Mem.tail _ ?_))) (by omega)))) O) (fun _=>(aD [0,2,3] bE O)) O fun _=>?_
  refine D.one (i:=10) O<|Do.s (s.c (q.call lL O O (fun w hw=>(iE x3.Rights w (by exact hw.okF eD (by repeat (first|exact List.Mem.head _|refine List.Mem.tail _ ?_))) (by omega)))) O) (fun _=>(aD [0,2,3] bE O)) O fun _=>?_
  refine D.q (i:=11) O (aD [0,2,3] bE O) O (q.cat O O (by omega)) O<|D.one (i:=14) O<|Do.s (s.c (q.call lL O O (fun w hw=>(iE x3.aQ w (by exact hw.okF eD (by repeat (first|exact List.Mem.head _|refine List.Mem.tail _ ?_))) (by omega)))) O) (fun _=>(aD [0,2,3] bE O)) O fun _=>?_
  refine D.q (i:=15) O (aD [0,2,3] bE O) O (q.cat O O (by (simp only [ByteArray.size_append,aI,List.length_cons,List.length_nil];omega))) O<|D.one (i:=18) O<|Do.s (s.c (q.call lL O O (fun w hw=>(iE x3.From w (by exact hw.okF eD (by repeat (first|exact List.Mem.head _|refine List.Mem.tail _ ?_))) (by omega)))) O) (fun _=>(aD [0,2,3] bE O)) O fun _=>?_
  refine D.q (i:=19) O (aD [0,2,3] bE O) O (q.cat O O (by (simp only [ByteArray.size_append,aI,List.length_cons,List.length_nil];omega))) O<|D.q (i:=20) O (aD [0,2,3] bE O) O (q.build kL O O) O<|D.one (i:=21) O<|Do.s (s.bs (l:=([(⟨(⟨#[119]⟩++bM x3.ID),(((bM x3.aE++bM x3.Rights)++bM x3.aQ)++bM x3.From),false⟩:Change)]:List Change)) cd cF O O O O O O O) (fun _=>(aD [1,3,4] bE O)) O fun b7=>?_
  refine D.one (i:=22) O<|Do.s (s.app 2 _ O O O (bB 0 O) jw (by (simp;omega)) (by (simp;omega)) (fun _=>rfl) O) (fun _=>(aD [1,3,4] bE O)) O fun v3=>?_
  refine D.q (i:=23) O (aD [1,3,4] bE O) O (q.as O) O<|D.done<|R.reg O<|R.q (q.bA (r:=((i+1:Nat):Int)) O O) O<|R.u 1 O<|R.nil<|R.back (i+1,v3,(l3++([(⟨(⟨#[119]⟩++bM x3.ID),(((bM x3.aE++bM x3.Rights)++bM x3.aQ)++bM x3.From),false⟩:Change)]))) O (by (exact ⟨by omega,by rw [qw om hx3,<- List.append_assoc,<- UA];rfl⟩)) (by dsimp only;omega) (sF O) (aD [2,3,4] bE O)
 refine R.q (q.cU O O) O<|R.nil<|R.aA O O<|R.fY (fuel:=12) [1,2] O O mixed O<|D.q (i:=0) O (aD [1,2] bE O) O (q.mv O) O<|D.q (i:=1) O (aD [1,2] bE O) O (q.aO O cJ O) O<|D.q (i:=2) O (aD [1,2] bE O) O (q.ld 0 O O au O) O<|D.q (i:=4) O (aD [1,2] bE O) O (q.aO O dP O) O<|D.q (i:=5) O (aD [1,2] bE O) O (q.ld 0 O O au O) O<|D.one (i:=3) O<|Do.s (s.c (q.call lL O O (fun w hw=>(iE (aZ r).ae w (by exact hw.okF eD (by repeat (first|exact List.Mem.head _|refine List.Mem.tail _ ?_))) (by omega)))) O) (fun _=>(aD [1,2] bE O)) O fun _=>?_
 refine D.one (i:=6) O<|Do.s (s.c (q.call lL O O (fun w hw=>(iE (aZ r).ah w (by exact hw.okF eD (by repeat (first|exact List.Mem.head _|refine List.Mem.tail _ ?_))) (by omega)))) O) (fun _=>(aD [1,2] bE O)) O fun _=>?_
 refine D.q (i:=7) O (aD [1,2] bE O) O (q.cat O O (by omega)) O<|D.q (i:=8) O (aD [1,2] bE O) O (q.build kL O O) O<|D.one (i:=9) O<|Do.s (s.bs (l:=([(⟨⟨#[120]⟩,(bM (aZ r).ae++bM (aZ r).ah),false⟩:Change)]:List Change)) cd cF O O O O O O O) (fun _=>(aD [2,3] bE O)) O fun b8=>?_
 refine D.one (i:=10) O<|Do.s (s.app 1 _ O O O (bB 0 O) jw (by (simp;omega)) (by (simp;omega)) (fun _=>rfl) O) (fun _=>(aD [2,3] bE O)) O fun v4=>?_
 refine D.q (i:=11) O (aD [2,3] bE O) O (q.as O) O<|D.done<|?_
 have hz:bH r=(l3++([(⟨⟨#[120]⟩,(bM (aZ r).ae++bM (aZ r).ah),false⟩:Change)])):=by (unfold bH rowsOf;rw [UA,yp _ (by omega)];rfl)
 rw [hz]
 exact R.w1 v4 [1,3] [] O Tryz.results64 (RV.tmp O) O O O O
theorem yr (wK:Value)(a:List Int)(yD:Value)(b:List Int)(w:World)(wL:Sl w wK a)(zq:Sl w yD b):Calls Tryz.prog 153 #[wK,yD] w fun e w'=>e = .returned (.bool (decide (a=b)))/\Ext w w':=by
 have JG:=wL.fA
 have UL:=zq.fA
 refine R.enter [] [(0,wK),(1,yD)] Tryz.func153 O O O O<|R.reg O<|R.u 1 O<|R.nil<|R.reg O<|R.u 1 O<|R.q (q.len' (fun _=>Wd.old wL) O Tryz.underlying159) O<|R.u 1 O<|R.q (q.len' (fun _=>Wd.old zq) O Tryz.underlying159) O<|?_
 by_cases h1:a.length=b.length
 .
  refine R.q (q.lJ O O) O<|R.nil<|R.aA O O<|R.reg O<|R.u 1 O<|R.q (q.len' (fun _=>Wd.old wL) O Tryz.underlying159) O<|R.u 1 O<|R.nil<|R.loop (fun k:Nat=>[(0,wK),(1,yD),(12,iV (a.length:Int)),(13,iV (k:Int))]) (fun k:Nat=>[]) (fun k:Nat=>[]) (fun k:Nat=>k<=a.length /\ ∀j,j<k->a[j]? = b[j]?) (fun k:Nat=>a.length-k) 0 O (by exact ⟨by omega,fun j hj=>absurd hj (Nat.not_lt_zero _)⟩) (sF O) (ic [] [] O) ?_
  rintro k ⟨hk,HA⟩
  refine R.reg O<|?_
  by_cases h2:k<a.length
  .
   refine R.q (q.dx O O) O<|R.nil<|R.av O O<|R.reg O<|R.u 2 O<|R.nil ?_
   obtain ⟨x1,hx1⟩:∃z,a[k]? = some z:=⟨_,List.getElem?_eq_getElem (by omega)⟩
   obtain ⟨x2,hx2⟩:∃z,b[k]? = some z:=⟨_,List.getElem?_eq_getElem (by omega)⟩
   by_cases h3:x1=x2
   .
    refine R.ew O mixed (by kernel_rfl)<|Q.u 2 O<|Q.q (q.idx (i:=k) (fun _=>Wd.old wL) O O da O hx1) O<|Q.q (q.lu (fun _=>Wd.old wL) hx1 O au O) O<|Q.u 2 O<|Q.q (q.idx (i:=k) (fun _=>Wd.old zq) O O da O hx2) O<|Q.q (q.lu (fun _=>Wd.old zq) hx2 O au O) O<|Q.q (q.lJ O O) O<|Q.nil<|R.aA O O<|R.reg O<|R.q (q.bA (r:=((k+1:Nat):Int)) O O) O<|R.u 1 O<|R.nil<|R.back (k+1) O (by (exact ⟨by omega,nQ HA hx1 hx2 ‹_›⟩)) (by omega) (sF O) (ic [] [] O)
   exact R.ew O mixed (by kernel_rfl)<|Q.u 2 O<|Q.q (q.idx (i:=k) (fun _=>Wd.old wL) O O da O hx1) O<|Q.q (q.lu (fun _=>Wd.old wL) hx1 O au O) O<|Q.u 2 O<|Q.q (q.idx (i:=k) (fun _=>Wd.old zq) O O da O hx2) O<|Q.q (q.lu (fun _=>Wd.old zq) hx2 O au O) O<|Q.q (q.lI O O) O<|Q.nil<|R.av O O<|R.reg O<|R.u 1 O<|R.nil<|R.rv O Tryz.results153 O (rB (by (exact wJ hx1 hx2 ‹_›)))
  exact R.q (q.cU O O) O<|R.nil<|R.aA O O<|R.reg O<|R.u 1 O<|R.nil<|R.rv O Tryz.results153 O (rB (by (exact pW ‹_› ‹_› HA)))
 exact R.q (q.lI O O) O<|R.nil<|R.av O O<|R.reg O<|R.u 1 O<|R.nil<|R.rv O Tryz.results153 O (rB (by (exact wI ‹_›)))
end Go.Proofs.YtkbhcbipadkcaaaGreatDoor
