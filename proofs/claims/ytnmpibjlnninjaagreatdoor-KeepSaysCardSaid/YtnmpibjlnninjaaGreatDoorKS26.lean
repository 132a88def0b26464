import Derived.Test.YtnmpibjlnninjaaGreatDoorKS25
namespace Go.Proofs.YtnmpibjlnninjaaGreatDoor
set_option linter.unusedVariables false
set_option linter.unusedSimpArgs false
set_option maxRecDepth 100000
set_option maxHeartbeats 90000000
section
open Go Go.RowKit
attribute [local irreducible] Run Rg Rq Qt Qa Stp Dg Do Dm cD
theorem iK (n:Int)(w:World)(ht:GK w)(hn : -9223372036854775808<=n/\n<=9223372036854775807):Calls Tryz.prog 125 #[iV n] w fun e w'=>e = .returned (.string (bN n))/\Ext w w':=by
 have il:=u6 hn;have ip:=Ps n
 refine R.enter [] [(0,iV n)] Tryz.func125 O O O O<|R.oN (r:=e9) ht (Ek ht)<|U ?_
 refine R.c (q.call Iq O O (fun w hw=>(Aw n w (by exact hw.okF e9 (by repeat (exact List.Mem.head _))) af))) O ?_
 refine U ?_
 refine R.q (q.kL (r:=4-((eo n).size:Int)) O O) O<|R.q (q.max (r:=max 0 (4-((eo n).size:Int))) O O O) O<|R.c (q.call Ul O O (fun w hw=>(I4 (⟨#[48]⟩) (max 0 (4-((eo n).size:Int))) w O ae))) O<|U ?_
 refine R.q (q.cat O O (by (rw [Ki];omega))) O<|U ?_
 exact R.rv O Tryz.results125 O (rS (by (unfold bN;rw [show (max 0 (4-((eo n).size:Int))).toNat=4-(eo n).size by omega])))
def numsL (s:ByteArray)(m:Nat):List Int:=(eO s m).getD []
def fa (s:ByteArray)(m:Nat):Bool:=(eO s m).isSome
theorem Rk {s:ByteArray}{m:Nat}(h:s.size<4*m):(numsL s m,fa s m)=([],false):=by unfold numsL fa eO;rw [if_pos h];rfl
theorem GL {s:ByteArray}{m k:Nat}{l:List Int}(h:¬ s.size<4*m)(hk:k<m)(hl:jJ s k=some l)(hn:xw (s.extract (4*k) (4*k+4))=none):(numsL s m,fa s m)=([],false):=by
 unfold numsL fa eO;rw [if_neg h,KN hk hl hn];rfl
theorem Rl {s:ByteArray}{m:Nat}{l:List Int}(h:¬ s.size<4*m)(hl:jJ s m=some l):(numsL s m,fa s m)=(l,true):=by
 unfold numsL fa eO;rw [if_neg h,hl];rfl
theorem Rm {s:ByteArray}(h:¬ (Lib.atoi s.data.toList).isSome=true):xw s=none:=by
 unfold xw;cases hq:Lib.atoi s.data.toList with|none=>rfl|some n=>rw [hq] at h;exact absurd rfl h
theorem Rn {s:ByteArray}(h:¬ bN (aV s)=s):xw s=none:=by
 unfold xw;unfold aV at h
 cases hq:Lib.atoi s.data.toList with
 | none=>rfl
 | some n=>rw [hq] at h;dsimp only;exact if_neg h
theorem Pu {s:ByteArray}(h:(Lib.atoi s.data.toList).isSome=true)(he:bN (aV s)=s):xw s=some (aV s):=by
 unfold xw;unfold aV at he ⊢
 cases hq:Lib.atoi s.data.toList with
 | none=>rw [hq] at h;cases h
 | some n=>rw [hq] at he;dsimp only;exact if_pos he
theorem l5 (sb:ByteArray)(m:Nat)(w:World)(own:List Nat)(H:HN w own [] [e9])(hs:sb.size<=1000000/\m<=4):RC Tryz.prog 140 #[.string sb,iV (m:Int)] H (fun z:Value => .tuple #[z,.bool (fa sb m)]) (fun z=>[aj.row 3 z (numsL sb m)]) (fun _=>[]):=by
 refine R.bE [(0,.string sb),(1,iV (m:Int))] Tryz.func140 O O O O H<|U ?_
 refine R.q (q.vm (r:=((4*m:Nat):Int)) O O) O ?_
 by_cases h1:sb.size<(4*m)
 .
  refine U ?_
  refine R.row0 (α:=Int) 3 ?_
  have hz:(numsL sb m,fa sb m)=([],false):=by (exact Rk ae)
  have hz0:numsL sb m=[]:=congrArg (fun t_=>t_.1) hz
  rw [hz0]
  have hz1:fa sb m=false:=congrArg (fun t_=>t_.2) hz
  rw [hz1]
  exact R.w2 (nS) [0,1] [] O Tryz.results140 (RV.tmp O) (RV.tmp O) O O O (cq O O)
 refine U ?_
 refine R.row0 (α:=Int) 3<|R.loop (fun g_:Nat×Value×(List Int)=>[(0,.string sb),(6,g_.2.1),(15,iV (m:Int)),(16,iV (g_.1:Int))]) (fun g_=>[aj.row 3 g_.2.1 g_.2.2,aj.held w own]) (fun g_=>[e9]) (fun g_=>g_.1<=m/\jJ sb g_.1=some g_.2.2) (fun g_=>m-g_.1) (0,nS,[]) O (by exact ⟨ae,rfl⟩) (sF O) (eI [0,1] [0] O) ?_
 rintro ⟨k,u,l⟩ ⟨hk,HL⟩
 dsimp only at *
 have ab:=Pr (s:=sb.extract (4*k) (4*k+4)) (by rw [ByteArray.size_extract];omega);have gl:=vK HL
 refine U ?_
 by_cases h2:k<m
 .
  refine U ?_
  refine R.q (q.vm (r:=((4*k:Nat):Int)) O O) O<|U ?_
  refine R.q (q.vm (r:=((4*k:Nat):Int)) O O) O<|R.q (q.aL (r:=(((4*k)+4:Nat):Int)) O O) O<|R.q (q.EO (i:=(4*k)) (j:=((4*k)+4)) O O O Tryz.underlying9 O O ae ae) O ?_
  by_cases h3:(Lib.atoi (sb.extract (4*k) ((4*k)+4)).data.toList).isSome=true
  .
   refine R.c (q.call N2 O O (fun w hw=>(Pp (sb.extract (4*k) ((4*k)+4)) w af (by rw [ByteArray.size_extract];omega)))) O<|U ?_
   by_cases h4:bN (aV (sb.extract (4*k) ((4*k)+4)))=(sb.extract (4*k) ((4*k)+4))
   .
    refine R.dA O mixed ai<|U ?_
    refine Q.cg O (q.call l9 O O (fun w hw=>(iK (aV (sb.extract (4*k) ((4*k)+4))) w (by exact hw.okF e9 (by repeat (exact List.Mem.head _))) af))) O<|U ?_
    refine Q.qg O (q.vm (r:=((4*k:Nat):Int)) O O) O<|U ?_
    refine Q.qg O (q.vm (r:=((4*k:Nat):Int)) O O) O<|Q.qg O (q.aL (r:=(((4*k)+4:Nat):Int)) O O) O<|Q.qg O (q.EO (i:=(4*k)) (j:=((4*k)+4)) O O O Tryz.underlying9 O O ae ae) O<|Q.qg O (q.ql O O h4) O<|U ?_
    refine R.s O (s.bs (l:=([aV (sb.extract (4*k) ((4*k)+4))]:List Int)) dD kC O O O O O O O) fun b1=>?_
    refine R.s O (s.app 1 _ O O O (bH 0 O) lY az az (fun _=>rfl) O) fun v1=>U ?_
    refine R.q (q.aL (r:=((k+1:Nat):Int)) O O) O<|U ?_
    refine R.back (k+1,v1,(l++([aV (sb.extract (4*k) ((4*k)+4))]))) O (by (exact ⟨ae,HD HL (Pu af af)⟩)) aO (sF O) (aN [1,2] [0] O)
   refine R.dA O mixed ai<|U ?_
   refine Q.cg O (q.call l9 O O (fun w hw=>(iK (aV (sb.extract (4*k) ((4*k)+4))) w (by exact hw.okF e9 (by repeat (exact List.Mem.head _))) af))) O<|U ?_
   refine Q.qg O (q.vm (r:=((4*k:Nat):Int)) O O) O<|U ?_
   refine Q.qg O (q.vm (r:=((4*k:Nat):Int)) O O) O<|Q.qg O (q.aL (r:=(((4*k)+4:Nat):Int)) O O) O<|Q.qg O (q.EO (i:=(4*k)) (j:=((4*k)+4)) O O O Tryz.underlying9 O O ae ae) O<|Q.qg O (q.sL O O h4) O<|U ?_
   refine R.row0 (α:=Int) 3 ?_
   have hz:(numsL sb m,fa sb m)=([],false):=by (exact GL ae ae HL (Rn af))
   have hz0:numsL sb m=[]:=congrArg (fun t_=>t_.1) hz
   rw [hz0]
   have hz1:fa sb m=false:=congrArg (fun t_=>t_.2) hz
   rw [hz1]
   exact R.w2 (nS) [0,2] [] O Tryz.results140 (RV.tmp O) (RV.tmp O) O O O (cq O O)
  refine R.s O (s.aT [0,1] [0] _ _ _ O O O N2 O O (fun w own hw H=>Pq (sb.extract (4*k) ((4*k)+4)) w own H af (by rw [ByteArray.size_extract];omega)) O) fun z1=>U ?_
  refine R.dA O mixed ai<|U ?_
  refine R.row0 (α:=Int) 3 ?_
  have hz:(numsL sb m,fa sb m)=([],false):=by (exact GL ae ae HL (Rm af))
  have hz0:numsL sb m=[]:=congrArg (fun t_=>t_.1) hz
  rw [hz0]
  have hz1:fa sb m=false:=congrArg (fun t_=>t_.2) hz
  rw [hz1]
  exact R.w2 (nS) [0,2] [] O Tryz.results140 (RV.tmp O) (RV.tmp O) O O O (cq O O)
 refine U ?_
 have hz:(numsL sb m,fa sb m)=(l,true):=by (have e:k=m:=ae;subst e;exact Rl ae HL)
 have hz0:numsL sb m=l:=congrArg (fun t_=>t_.1) hz
 rw [hz0]
 have hz1:fa sb m=true:=congrArg (fun t_=>t_.2) hz
 rw [hz1]
 exact R.w2 u [0,1] [] O Tryz.results140 (RV.tmp O) (RV.tmp O) O O O (cq O O)
theorem l6 {α β:Type}(f:α->β){L:List α}{k:Nat}{x:α}(hx:L[k]? = some x):(L.take (k+1)).map f=(L.take k).map f++[f x]:=by
 rw [List.take_add_one,hx,List.map_append];rfl
theorem pb {α β:Type}(f:α->β){L:List α}{k:Nat}(h:L.length<=k):(L.take k).map f=L.map f:=by rw [List.take_of_length_le h]
structure QIs (q:av):Prop where
  i:Inv q
  h:∀x∈q.Held,(eo x.Place.ay).size<=21/\(eo x.Place.Slot).size<=21/\(bN x.ap).size<=25/\0<=x.Place.ay/\x.Place.ay<=4/\0<=x.Place.Slot/\x.Place.Slot<=5/\0<=x.ap/\x.ap<=10000
  t:∀x∈q.Things,(bN x.ID).size<=25/\(bN x.Kind).size<=25/\x.Data.size<=8/\0<=x.ID/\x.ID<=10000/\0<=x.Kind/\x.Kind<=2
  w:∀x∈q.ao,((bN x.ID).size<=25/\(bN x.aA).size<=25/\(bN x.Rights).size<=25/\(bN x.aU).size<=25/\(bN x.From).size<=25)/\0<=x.ID/\x.ID<=999/\0<=x.aA/\x.aA<=999/\0<=x.Rights/\x.Rights<=7/\0<=x.aU/\x.aU<=99/\0<=x.From/\x.From<=999
  n:(bN q.ag).size<=25/\(bN q.ah).size<=25
theorem lK {n:Int}(h:0<=n/\n<=10000):(bN n).size<=25:=Pt ae
theorem Kj {n:Int}(h:0<=n/\n<=10000):(eo n).size<=21:=u6 ae
theorem Inv.qis {q:av}(i:Inv q):QIs q where
 i:=i
 h:=fun x hx=>by
  have k:=i.JG hx;have p:=bY k.1;have k1:=k.2.1;have k2:=k.2.2
  exact ⟨Kj ae,Kj ae,lK ae,ae,ae,ae,ae,ae,ae⟩
 t:=fun x hx=>by
  have k:=i.Sb hx;have a:=k.i0;have b:=k.i9;have c:=k.kd;have d:=k.ds
  exact ⟨lK ae,lK ae,d,a,ae,ae,ae⟩
 w:=fun x hx=>by
  have k:=i.tree.mem hx;have i1:=k.id1;have i9:=k.R0;have t1:=k.Vz;have t9:=k.VA;have a0:=k.VB;have a9:=k.VD;have f0:=k.R1;have fl:=k.R2;have q0:=k.R3;have q7:=k.R4
  exact ⟨⟨lK ae,lK ae,lK ae,lK ae,lK ae⟩,ae,ae,ae,ae,ae,ae,ae,ae,ae,ae⟩
 n:=by
  have a1:=i.oT;have a2:=i.qB;have a3:=i.pG;have a4:=i.pH
  exact ⟨lK ae,lK ae⟩
theorem Ax (a8 aW aX aZ:Value)(r:av)(w:World)(own:List Nat)(H:HN w own [] [aj.ls a8 r.ao,aj.ls aW r.Things,aj.ls aX r.Held,aj.ls aZ r.Notes,e9])(hk:Ok r)(hI:Inv r):RC Tryz.prog 63 #[.agg #[a8,aW,aX,aZ,iV r.ag,iV r.ah]] H (fun z:Value=>z) (fun z=>[aj.row 115 z (aY r)]) (fun _=>[]):=by
 have cB:=H.bD 0 rfl
 have cd:=H.bD 1 rfl
 have df:=H.bD 2 rfl
 have cC:=H.bD 3 rfl
 have bw:=hk.wl;have bt:=hk.tl;have bh:=hk.hl;have bn:=hk.nl;have ya:=hk.w0;have yb:=hk.w1;have yc:=hk.t0;have yd:=hk.t1
 have hq:=(ic hI).1.qis
 have hn:=hq.n;have oT:=hq.i.oT;have qB:=hq.i.qB;have pG:=hq.i.pG;have pH:=hq.i.pH;have hl0:=qU hq.i;have tl0:=hq.i.je;have wl0:=(ic hI).2.2.2.1
 refine R.bE [(0,.agg #[a8,aW,aX,aZ,iV r.ag,iV r.ah])] Tryz.func63 O O O O H<|U ?_
 refine R.s O (s.box O O O) fun b1=>U ?_
 refine R.s O (s.aT [0,1] bm _ _ _ O O O T2 O O (fun w own hw H=>I5 a8 aW aX aZ r w own H af) O) ?_
 rintro ⟨z1,z2,z3,z4⟩
 dsimp only
 refine R.s O (s.dE 0 _ O O O (fun _ _=>rfl) (.inl ak) (fun w hw=>(dx (hw.bz 0 O) (hw.bz 1 O) (hw.bz 2 O) (hw.bz 3 O) O O)) O O O) fun _=>U ?_
 refine R.row0 (α:=Change) 115<|R.loop (fun g_:Nat×Value×(List Change)=>[(1,.pointer (some ⟨b1,0,none⟩)),(3,g_.2.1),(13,z3),(14,iV ((aP r).Held.length:Int)),(15,iV (g_.1:Int))]) (fun g_=>[aj.row 115 g_.2.1 g_.2.2,aj.box b1 [z1,z2,z3,z4,iV (aP r).ag,iV (aP r).ah] 48,aj.held w own]) (fun g_=>[aj.ls z1 (aP r).ao,aj.ls z2 (aP r).Things,aj.ls z3 (aP r).Held,aj.ls z4 (aP r).Notes,aj.ls a8 r.ao,aj.ls aW r.Things,aj.ls aX r.Held,aj.ls aZ r.Notes,e9]) (fun g_=>g_.1<=(aP r).Held.length/\g_.2.2=((aP r).Held.take g_.1).map hrow) (fun g_=>(aP r).Held.length-g_.1) (0,nS,[]) O (by exact ⟨ae,rfl⟩) (sF O) (eI [0,1,2] dQ O) ?_
 rintro ⟨k,u,l⟩ ⟨hk,HL⟩
 dsimp only at *
 have ll:l.length<=24:=by rw [HL,List.length_map,List.length_take];omega
 refine U ?_
 by_cases h1:k<(aP r).Held.length
 .
  refine U ?_
  obtain ⟨x1,hx1⟩:=gE (aP r).Held k
  have QN:=hq.h _ (List.mem_of_getElem? hx1)
  refine R.q (q.idx (i:=k) (cb 2 O) O O bJ O hx1) O<|R.q (q.dj (ds:=fZ x1) (cb 2 O) hx1 O du O) O<|R.s O (s.alloc cK O O) fun b2=>?_
  refine R.s O (s.st 0 _ O O O O (.inl du) O O O O) fun _=>U ?_
  refine R.eA (fuel:=18) [0,2,3] O O mixed O<|D.l [0,1,2,3,6,7,8,11,12] [0,2,3] dQ O<|U ?_
  refine D.one (i:=4) O<|Do.s (s.c (q.call Iq O O (fun w hw=>(Aw x1.Place.ay w (by exact hw.okF e9 (by repeat (first|exact List.Mem.head _|refine List.Mem.tail _ ?_))) ae))) O) (fun _=>(aN [0,2,3] dQ O)) O fun _=>?_
  refine D.l [5] [0,2,3] dQ O<|Dm.yy O O (q.cat O O (by (simp only [ByteArray.size_append,dW,List.length_cons,List.length_nil];omega))) O<|U ?_
  refine D.one (i:=9) O<|Do.s (s.c (q.call Iq O O (fun w hw=>(Aw x1.Place.Slot w (by exact hw.okF e9 (by repeat (first|exact List.Mem.head _|refine List.Mem.tail _ ?_))) ae))) O) (fun _=>(aN [0,2,3] dQ O)) O fun _=>?_
  refine D.l [10] [0,2,3] dQ O<|Dm.yy O O (q.cat O O (by (simp only [ByteArray.size_append,dW,List.length_cons,List.length_nil];omega))) O<|U ?_
  refine D.one (i:=13) O<|Do.s (s.c (q.call l9 O O (fun w hw=>(iK x1.ap w (by exact hw.okF e9 (by repeat (first|exact List.Mem.head _|refine List.Mem.tail _ ?_))) ae))) O) (fun _=>(aN [0,2,3] dQ O)) O fun _=>?_
  refine D.l [14] [0,2,3] dQ O<|U ?_
  refine D.one (i:=15) O<|Do.s (s.bs (l:=([(⟨(⟨#[104]⟩++eo x1.Place.ay)++eo x1.Place.Slot,bN x1.ap,false⟩:Change)]:List Change)) bj bR O O O O O O O) (fun _=>(aN [1,3,4] dQ O)) O fun b3=>?_
  refine D.one (i:=16) O<|Do.s (s.app 2 _ O O O (bH 0 O) d9 az az (fun _=>rfl) O) (fun _=>(aN [1,3,4] dQ O)) O fun v1=>?_
  refine D.l [17] [1,3,4] dQ O<|U ?_
  refine D.done<|U ?_
  refine R.q (q.aL (r:=((k+1:Nat):Int)) O O) O<|U ?_
  refine R.back (k+1,v1,(l++([(⟨(⟨#[104]⟩++eo x1.Place.ay)++eo x1.Place.Slot,bN x1.ap,false⟩:Change)]))) O (by (exact ⟨ae,by rw [l6 hrow hx1,<- HL];rfl⟩)) aO (sF O) (aN [2,3,4] dQ O)
 refine U ?_
 refine R.loop (fun g_:Nat×Value×(List Change)=>[(1,.pointer (some ⟨b1,0,none⟩)),(3,g_.2.1),(38,z2),(39,iV ((aP r).Things.length:Int)),(40,iV (g_.1:Int))]) (fun g_=>[aj.row 115 g_.2.1 g_.2.2,aj.box b1 [z1,z2,z3,z4,iV (aP r).ag,iV (aP r).ah] 48,aj.held w own]) (fun g_=>[aj.ls z1 (aP r).ao,aj.ls z2 (aP r).Things,aj.ls z3 (aP r).Held,aj.ls z4 (aP r).Notes,aj.ls a8 r.ao,aj.ls aW r.Things,aj.ls aX r.Held,aj.ls aZ r.Notes,e9]) (fun g_=>g_.1<=(aP r).Things.length/\g_.2.2=(aP r).Held.map hrow++((aP r).Things.take g_.1).map lu) (fun g_=>(aP r).Things.length-g_.1) (0,u,l) O (by exact ⟨ae,by rw [HL,pb _ ae];exact (List.append_nil _).symm⟩) (sF O) (eI [0,1,2] dQ O) ?_
 rintro ⟨j,u2,l2⟩ ⟨hj,HL2⟩
 dsimp only at *
 have Zy:l2.length<=34:=by rw [HL2,List.length_append,List.length_map,List.length_map,List.length_take];omega
 refine U ?_
 by_cases h2:j<(aP r).Things.length
 .
  refine U ?_
  obtain ⟨x2,hx2⟩:=gE (aP r).Things j
  have Yz:=hq.t _ (List.mem_of_getElem? hx2)
  refine R.q (q.idx (i:=j) (cb 1 O) O O eZ O hx2) O<|R.q (q.dj (ds:=lB x2) (cb 1 O) hx2 O fU O) O<|R.s O (s.alloc fP O O) fun b4=>?_
  refine R.s O (s.st 0 _ O O O O (.inl fU) O O O O) fun _=>U ?_
  refine R.eA (fuel:=15) [0,2,3] O O mixed O<|D.l [0,1,2,5,6,8,9] [0,2,3] dQ O<|U ?_
  refine D.one (i:=3) O<|Do.s (s.c (q.call l9 O O (fun w hw=>(iK x2.ID w (by exact hw.okF e9 (by repeat (first|exact List.Mem.head _|refine List.Mem.tail _ ?_))) ae))) O) (fun _=>(aN [0,2,3] dQ O)) O fun _=>?_
  refine D.l [4] [0,2,3] dQ O<|Dm.yy O O (q.cat O O (by (simp only [ByteArray.size_append,dW,List.length_cons,List.length_nil];omega))) O<|U ?_
  refine D.one (i:=7) O<|Do.s (s.c (q.call l9 O O (fun w hw=>(iK x2.Kind w (by exact hw.okF e9 (by repeat (first|exact List.Mem.head _|refine List.Mem.tail _ ?_))) ae))) O) (fun _=>(aN [0,2,3] dQ O)) O fun _=>?_
  refine D.l [10,11] [0,2,3] dQ O<|Dm.yy O O (q.cat O O ae) O<|U ?_
  refine D.one (i:=12) O<|Do.s (s.bs (l:=([(⟨⟨#[116]⟩++bN x2.ID,bN x2.Kind++x2.Data,false⟩:Change)]:List Change)) bj bR O O O O O O O) (fun _=>(aN [1,3,4] dQ O)) O fun b5=>?_
  refine D.one (i:=13) O<|Do.s (s.app 2 _ O O O (bH 0 O) d9 az az (fun _=>rfl) O) (fun _=>(aN [1,3,4] dQ O)) O fun v2=>?_
  refine D.l [14] [1,3,4] dQ O<|U ?_
  refine D.done<|U ?_
  refine R.q (q.aL (r:=((j+1:Nat):Int)) O O) O<|U ?_
  refine R.back (j+1,v2,(l2++([(⟨⟨#[116]⟩++bN x2.ID,bN x2.Kind++x2.Data,false⟩:Change)]))) O (by (exact ⟨ae,by rw [l6 lu hx2,<- List.append_assoc,<- HL2];rfl⟩)) aO (sF O) (aN [2,3,4] dQ O)
 refine U ?_
 refine R.loop (fun g_:Nat×Value×(List Change)=>[(1,.pointer (some ⟨b1,0,none⟩)),(3,g_.2.1),(60,z1),(61,iV ((aP r).ao.length:Int)),(62,iV (g_.1:Int))]) (fun g_=>[aj.row 115 g_.2.1 g_.2.2,aj.box b1 [z1,z2,z3,z4,iV (aP r).ag,iV (aP r).ah] 48,aj.held w own]) (fun g_=>[aj.ls z1 (aP r).ao,aj.ls z2 (aP r).Things,aj.ls z3 (aP r).Held,aj.ls z4 (aP r).Notes,aj.ls a8 r.ao,aj.ls aW r.Things,aj.ls aX r.Held,aj.ls aZ r.Notes,e9]) (fun g_=>g_.1<=(aP r).ao.length/\g_.2.2=(aP r).Held.map hrow++(aP r).Things.map lu++((aP r).ao.take g_.1).map nH) (fun g_=>(aP r).ao.length-g_.1) (0,u2,l2) O (by exact ⟨ae,by rw [HL2,pb _ ae];exact (List.append_nil _).symm⟩) (sF O) (eI [0,1,2] dQ O) ?_
 rintro ⟨i,u3,l3⟩ ⟨hi,Vb⟩
 dsimp only at *
 have ll3:l3.length<=58:=by rw [Vb,List.length_append,List.length_append,List.length_map,List.length_map,List.length_map,List.length_take];omega
 refine U ?_
 by_cases h3:i<(aP r).ao.length
 .
  refine U ?_
  obtain ⟨x3,hx3⟩:=gE (aP r).ao i
  have fx3:=hq.w _ (List.mem_of_getElem? hx3)
  refine R.q (q.idx (i:=i) (cb 0 O) O O cR O hx3) O<|R.q (q.dj (ds:=fY x3) (cb 0 O) hx3 O aH O) O<|R.s O (s.alloc br O O) fun b6=>?_
  refine R.s O (s.st 0 _ O O O O (.inl aH) O O O O) fun _=>U ?_
  refine R.eA (fuel:=24) [0,2,3] O O mixed O<|D.l [0,1,2,5,6,8,9,12,13,16,17] [0,2,3] dQ O<|U ?_
  refine D.one (i:=3) O<|Do.s (s.c (q.call l9 O O (fun w hw=>(iK x3.ID w (by exact hw.okF e9 (by repeat (first|exact List.Mem.head _|refine List.Mem.tail _ ?_))) ae))) O) (fun _=>(aN [0,2,3] dQ O)) O fun _=>?_
  refine D.l [4] [0,2,3] dQ O<|Dm.yy O O (q.cat O O (by (simp only [ByteArray.size_append,dW,List.length_cons,List.length_nil];omega))) O<|U ?_
  refine D.one (i:=7) O<|Do.s (s.c (q.call l9 O O (fun w hw=>(iK x3.aA w (by exact hw.okF e9 (by repeat (first|exact List.Mem.head _|refine List.Mem.tail _ ?_))) ae))) O) (fun _=>(aN [0,2,3] dQ O)) O fun _=>?_
  refine D.one (i:=10) O<|Do.s (s.c (q.call l9 O O (fun w hw=>(iK x3.Rights w (by exact hw.okF e9 (by repeat (first|exact List.Mem.head _|refine List.Mem.tail _ ?_))) ae))) O) (fun _=>(aN [0,2,3] dQ O)) O fun _=>?_
  refine D.l [11] [0,2,3] dQ O<|Dm.yy O O (q.cat O O ae) O<|U ?_
  refine D.one (i:=14) O<|Do.s (s.c (q.call l9 O O (fun w hw=>(iK x3.aU w (by exact hw.okF e9 (by repeat (first|exact List.Mem.head _|refine List.Mem.tail _ ?_))) ae))) O) (fun _=>(aN [0,2,3] dQ O)) O fun _=>?_
  refine D.l [15] [0,2,3] dQ O<|Dm.yy O O (q.cat O O (by (simp only [ByteArray.size_append,dW,List.length_cons,List.length_nil];omega))) O<|U ?_
  refine D.one (i:=18) O<|Do.s (s.c (q.call l9 O O (fun w hw=>(iK x3.From w (by exact hw.okF e9 (by repeat (first|exact List.Mem.head _|refine List.Mem.tail _ ?_))) ae))) O) (fun _=>(aN [0,2,3] dQ O)) O fun _=>?_
  refine D.l [19,20] [0,2,3] dQ O<|Dm.yy O O (q.cat O O (by (simp only [ByteArray.size_append,dW,List.length_cons,List.length_nil];omega))) O<|U ?_
  refine D.one (i:=21) O<|Do.s (s.bs (l:=([(⟨⟨#[119]⟩++bN x3.ID,((bN x3.aA++bN x3.Rights)++bN x3.aU)++bN x3.From,false⟩:Change)]:List Change)) bj bR O O O O O O O) (fun _=>(aN [1,3,4] dQ O)) O fun b7=>?_
  refine D.one (i:=22) O<|Do.s (s.app 2 _ O O O (bH 0 O) d9 az az (fun _=>rfl) O) (fun _=>(aN [1,3,4] dQ O)) O fun v3=>?_
  refine D.l [23] [1,3,4] dQ O<|U ?_
  refine D.done<|U ?_
  refine R.q (q.aL (r:=((i+1:Nat):Int)) O O) O<|U ?_
  refine R.back (i+1,v3,(l3++([(⟨⟨#[119]⟩++bN x3.ID,((bN x3.aA++bN x3.Rights)++bN x3.aU)++bN x3.From,false⟩:Change)]))) O (by (exact ⟨ae,by rw [l6 nH hx3,<- List.append_assoc,<- Vb];rfl⟩)) aO (sF O) (aN [2,3,4] dQ O)
 refine U ?_
 refine R.eA (fuel:=12) [1,2] O O mixed O<|D.l [0,1,2,4,5] [1,2] dQ O<|U ?_
 refine D.one (i:=3) O<|Do.s (s.c (q.call l9 O O (fun w hw=>(iK (aP r).ag w (by exact hw.okF e9 (by repeat (first|exact List.Mem.head _|refine List.Mem.tail _ ?_))) ae))) O) (fun _=>(aN [1,2] dQ O)) O fun _=>?_
 refine D.one (i:=6) O<|Do.s (s.c (q.call l9 O O (fun w hw=>(iK (aP r).ah w (by exact hw.okF e9 (by repeat (first|exact List.Mem.head _|refine List.Mem.tail _ ?_))) ae))) O) (fun _=>(aN [1,2] dQ O)) O fun _=>?_
 refine D.l [7,8] [1,2] dQ O<|Dm.yy O O (q.cat O O ae) O<|U ?_
 refine D.one (i:=9) O<|Do.s (s.bs (l:=([(⟨⟨#[120]⟩,bN (aP r).ag++bN (aP r).ah,false⟩:Change)]:List Change)) bj bR O O O O O O O) (fun _=>(aN [2,3] dQ O)) O fun b8=>?_
 refine D.one (i:=10) O<|Do.s (s.app 1 _ O O O (bH 0 O) d9 az az (fun _=>rfl) O) (fun _=>(aN [2,3] dQ O)) O fun v4=>?_
 refine D.l [11] [2,3] dQ O<|U ?_
 refine D.done ?_
 have hz:aY r=(l3++([(⟨⟨#[120]⟩,bN (aP r).ag++bN (aP r).ah,false⟩:Change)])):=by (unfold aY rowsOf;rw [Vb,pb _ ae];rfl)
 rw [hz]
 exact R.w1 v4 [1,3] [] O Tryz.results63 (RV.tmp O) O O O O
theorem Ay (uT:Value)(a:List Int)(vg:Value)(b:List Int)(w:World)(F5:Sl w uT a)(F6:Sl w vg b):Calls Tryz.prog 145 #[uT,vg] w fun e w'=>e = .returned (.bool (decide (a=b)))/\Ext w w':=by
 have Oc:=F5.eV
 have ZU:=F6.eV
 refine R.enter [] [(0,uT),(1,vg)] Tryz.func145 O O O O<|U ?_
 by_cases h1:a.length=b.length
 .
  refine U ?_
  refine R.loop (fun k:Nat=>[(0,uT),(1,vg),(12,iV (a.length:Int)),(13,iV (k:Int))]) (fun k:Nat=>[]) (fun k:Nat=>[]) (fun k:Nat=>k<=a.length /\ ∀j,j<k->a[j]? = b[j]?) (fun k:Nat=>a.length-k) 0 O (by exact ⟨ae,fun j hj=>absurd hj (Nat.not_lt_zero _)⟩) (sF O) (eI [] [] O) ?_
  rintro k ⟨hk,HA⟩
  refine U ?_
  by_cases h2:k<a.length
  .
   refine U ?_
   obtain ⟨x1,hx1⟩:=gE a k
   obtain ⟨x2,hx2⟩:=gE b k
   by_cases h3:x1=x2
   .
    refine R.dA O mixed ai<|U ?_
    refine Q.q (q.idx (i:=k) (fun _=>Wd.old F5) O O dD O hx1) O<|Q.q (q.gh (fun _=>Wd.old F5) hx1 O bg O) O<|U ?_
    refine Q.q (q.idx (i:=k) (fun _=>Wd.old F6) O O dD O hx2) O<|Q.q (q.gh (fun _=>Wd.old F6) hx2 O bg O) O<|U ?_
    refine R.q (q.aL (r:=((k+1:Nat):Int)) O O) O<|U ?_
    refine R.back (k+1) O (by (exact ⟨ae,o5 HA hx1 hx2 af⟩)) ae (sF O) (eI [] [] O)
   refine R.dA O mixed ai<|U ?_
   refine Q.q (q.idx (i:=k) (fun _=>Wd.old F5) O O dD O hx1) O<|Q.q (q.gh (fun _=>Wd.old F5) hx1 O bg O) O<|U ?_
   refine Q.q (q.idx (i:=k) (fun _=>Wd.old F6) O O dD O hx2) O<|Q.q (q.gh (fun _=>Wd.old F6) hx2 O bg O) O<|U ?_
   exact R.rv O Tryz.results145 O (rB (by (exact zN hx1 hx2 af)))
  refine U ?_
  exact R.rv O Tryz.results145 O (rB (by (exact ru af af HA)))
 refine U ?_
 exact R.rv O Tryz.results145 O (rB (by (exact zM af)))
end
section
open Go Go.RowKit
attribute [local irreducible] Run Rg Rq Qt Qa Stp Dg Do Dm cD
theorem LN {s:ByteArray}{m:Nat}(h:fa s m=true):eO s m=some (numsL s m):=by
 unfold fa at h;unfold numsL
 cases hq:eO s m with|none=>rw [hq] at h;cases h|some l=>rfl
theorem rH {s:ByteArray}{m:Nat}(h:fa s m=true):(numsL s m).length=m/\4*m<=s.size:=KO (LN h)
theorem sU {s:ByteArray}{m j:Nat}{x:Int}(h:(numsL s m)[j]? = some x):KR (eO s m) j=x:=by
 show (((numsL s m)[j]?).getD 0)=x;rw [h];rfl
section
variable {r:av} {c:Change} {y:UInt8}
theorem mE (h:¬ c.Key=⟨#[]⟩):¬ c.Key.size=0:=fun e=>h (M0 e)
theorem pd {s:ByteArray}{i:Nat}{y:UInt8}(h:s.data[i]? = some y):bO s i=y.toNat:=by unfold bO;rw [h];rfl
theorem Pv (h:c.Key=⟨#[]⟩):rowP r c=(r,false):=by unfold rowP;rw [if_pos (by rw [h];rfl)]
theorem El (h0:¬ c.Key=⟨#[]⟩)(hy:c.Key.data[0]? = some y)(e:y.toNat=104)(hb:fa c.Val 1=false∨¬ c.Val.size=4∨¬ c.Key.size=3):rowP r c=(r,false):=by
 unfold rowP;rw [if_neg (mE h0)];dsimp only;rw [if_pos ((pd hy).trans e),if_pos (show (eO c.Val 1).isSome=false∨c.Val.size≠4∨c.Key.size≠3 from hb)]
theorem Ro {a b:UInt8}{n:Int}{v:Bool}(h0:¬ c.Key=⟨#[]⟩)(hy:c.Key.data[0]? = some y)(e:y.toNat=104)(hb:fa c.Val 1=true)(h4:c.Val.size=4)(h3:c.Key.size=3)(ha:c.Key.data[1]? = some a)(hbb:c.Key.data[2]? = some b)
 (hn:(numsL c.Val 1)[0]? = some n) (hv:v=decide (bB ⟨(a.toNat:Int)-48,(b.toNat:Int)-48⟩=0)):rowP r c=(⟨r.ao,r.Things,r.Held++[⟨⟨(a.toNat:Int)-48,(b.toNat:Int)-48⟩,n⟩],r.Notes,r.ag,r.ah⟩,v):=by
 unfold rowP;rw [if_neg (mE h0)];dsimp only
 rw [if_pos ((pd hy).trans e),if_neg (show ¬ ((eO c.Val 1).isSome=false∨c.Val.size≠4∨c.Key.size≠3) from (by show ¬ (fa c.Val 1=false∨c.Val.size≠4∨c.Key.size≠3);rw [hb,h4,h3];simp)),sU hn,hv]
 unfold KP Wq Qq;rw [pd ha,pd hbb]
def He (c:Change):Bool:=fa (c.Key.extract 1 c.Key.size) 1&&decide (c.Key.size=5)
theorem Vd (h:fa (c.Key.extract 1 c.Key.size) 1=false):false=He c:=by unfold He;rw [h];rfl
theorem Rp (h:¬ c.Key.size=5):false=He c:=by unfold He;rw [decide_eq_false h,Bool.and_false]
theorem Rr (h:fa (c.Key.extract 1 c.Key.size) 1=true)(h5:c.Key.size=5):true=He c:=by unfold He;rw [h,decide_eq_true h5];rfl
theorem Pw (h:He c=true):(numsL (c.Key.extract 1 c.Key.size) 1).length=1:=by
 unfold He at h;rw [Bool.and_eq_true] at h;exact (rH h.1).1
theorem Em (h0:¬ c.Key=⟨#[]⟩)(hy:c.Key.data[0]? = some y)(e:y.toNat=116)(hb:He c=false∨fa c.Val 1=false∨12<c.Val.size):rowP r c=(r,false):=by
 unfold rowP;rw [if_neg (mE h0)];dsimp only
 rw [if_neg (by rw [pd hy];omega),if_pos ((pd hy).trans e),if_pos (show ((eO (c.Key.extract 1 c.Key.size) 1).isSome&&decide (c.Key.size=5))=false∨(eO c.Val 1).isSome=false∨12<c.Val.size from hb)]
theorem GM {k n:Int}{v:Bool}(h0:¬ c.Key=⟨#[]⟩)(hy:c.Key.data[0]? = some y)(e:y.toNat=116)(hk:He c=true)(hb:fa c.Val 1=true)(h12:¬ 12<c.Val.size)
 (hi:(numsL (c.Key.extract 1 c.Key.size) 1)[0]? = some k) (hn:(numsL c.Val 1)[0]? = some n) (hv:v=decide (n=1∨n=2/\c.Val.size=4)):rowP r c=(⟨r.ao,r.Things++[⟨k,n,c.Val.extract 4 c.Val.size⟩],r.Held,r.Notes,r.ag,r.ah⟩,v):=by
 unfold rowP;rw [if_neg (mE h0)];dsimp only
 rw [if_neg (by rw [pd hy];omega),if_pos ((pd hy).trans e),if_neg (show ¬ (((eO (c.Key.extract 1 c.Key.size) 1).isSome&&decide (c.Key.size=5))=false∨(eO c.Val 1).isSome=false∨12<c.Val.size) from (by
  show ¬ (He c=false∨fa c.Val 1=false∨12<c.Val.size)
  rw [hk,hb];simp;omega)),sU hn,sU hi,hv]
 rfl
theorem En (h0:¬ c.Key=⟨#[]⟩)(hy:c.Key.data[0]? = some y)(e:y.toNat=119)(hb:He c=false∨fa c.Val 4=false∨¬ c.Val.size=16):rowP r c=(r,false):=by
 unfold rowP;rw [if_neg (mE h0)];dsimp only
 rw [if_neg (by rw [pd hy];omega),if_neg (by rw [pd hy];omega),if_pos ((pd hy).trans e),if_pos (show ((eO (c.Key.extract 1 c.Key.size) 1).isSome&&decide (c.Key.size=5))=false∨(eO c.Val 4).isSome=false∨c.Val.size≠16 from hb)]
theorem X6 {k n0 n1 n2 n3:Int}(h0:¬ c.Key=⟨#[]⟩)(hy:c.Key.data[0]? = some y)(e:y.toNat=119)(hk:He c=true)(hb:fa c.Val 4=true)(h16:c.Val.size=16)
 (hi:(numsL (c.Key.extract 1 c.Key.size) 1)[0]? = some k) (a0:(numsL c.Val 4)[0]? = some n0) (a1:(numsL c.Val 4)[1]? = some n1) (a2:(numsL c.Val 4)[2]? = some n2) (a3:(numsL c.Val 4)[3]? = some n3):rowP r c=(⟨r.ao++[⟨k,n0,n1,n2,n3⟩],r.Things,r.Held,r.Notes,r.ag,r.ah⟩,true):=by
 unfold rowP;rw [if_neg (mE h0)];dsimp only
 rw [if_neg (by rw [pd hy];omega),if_neg (by rw [pd hy];omega),if_pos ((pd hy).trans e),if_neg (show ¬ (((eO (c.Key.extract 1 c.Key.size) 1).isSome&&decide (c.Key.size=5))=false∨(eO c.Val 4).isSome=false∨c.Val.size≠16) from (by
  show ¬ (He c=false∨fa c.Val 4=false∨c.Val.size≠16)
  rw [hk,hb,h16];simp)),sU hi,sU a0,sU a1,sU a2,sU a3]
 rfl
theorem Eo (h0:¬ c.Key=⟨#[]⟩)(hy:c.Key.data[0]? = some y)(e1:¬ y.toNat=104)(e2:¬ y.toNat=116)(e3:¬ y.toNat=119)(hb:¬ c.Key=⟨#[120]⟩∨fa c.Val 2=false∨¬ c.Val.size=8):rowP r c=(r,false):=by
 unfold rowP;rw [if_neg (mE h0)];dsimp only
 rw [if_neg (by rw [pd hy];omega),if_neg (by rw [pd hy];omega),if_neg (by rw [pd hy];omega),if_pos (show c.Key≠kX∨(eO c.Val 2).isSome=false∨c.Val.size≠8 from hb)]
theorem Zz {n0 n1:Int}(h0:¬ c.Key=⟨#[]⟩)(hy:c.Key.data[0]? = some y)(e1:¬ y.toNat=104)(e2:¬ y.toNat=116)(e3:¬ y.toNat=119)(hk:c.Key=⟨#[120]⟩)(hb:fa c.Val 2=true)(h8:c.Val.size=8)(a0:(numsL c.Val 2)[0]? = some n0)(a1:(numsL c.Val 2)[1]? = some n1) :
 rowP r c=(⟨r.ao,r.Things,r.Held,r.Notes,n0,n1⟩,true):=by
 unfold rowP;rw [if_neg (mE h0)];dsimp only
 rw [if_neg (by rw [pd hy];omega),if_neg (by rw [pd hy];omega),if_neg (by rw [pd hy];omega),if_neg (show ¬ (c.Key≠kX∨(eO c.Val 2).isSome=false∨c.Val.size≠8) from (by
  show ¬ (c.Key≠⟨#[120]⟩∨fa c.Val 2=false∨c.Val.size≠8)
  rw [hb,h8];simp [hk])),sU a0,sU a1]
 rfl
end
attribute [local irreducible] numsL fa He rowP
theorem ye (O4:Nat)(dv dG ec cZ:Value)(r:av)(c:Change)(w:World)(own:List Nat)(H:HN w own [aj.box O4 [dv,dG,ec,cZ,iV r.ag,iV r.ah] 48,aj.row 126 dv r.ao,aj.row 103 dG r.Things,aj.row 124 ec r.Held,aj.row 91 cZ r.Notes] [e9])(hc:c.Key.size<=1000/\c.Val.size<=1000)(hr:r.ao.length<=1000/\r.Things.length<=1000/\r.Held.length<=1000):RC Tryz.prog 81 #[.pointer (some ⟨O4,0,none⟩),.agg #[.string c.Key,.string c.Val,.bool c.Gone]] H (fun _:Value×Value×Value×Value => .bool (rowP r c).2) (fun z=>[aj.box O4 [z.1,z.2.1,z.2.2.1,z.2.2.2,iV (rowP r c).1.ag,iV (rowP r c).1.ah] 48,aj.row 126 z.1 (rowP r c).1.ao,aj.row 103 z.2.1 (rowP r c).1.Things,aj.row 124 z.2.2.1 (rowP r c).1.Held,aj.row 91 z.2.2.2 (rowP r c).1.Notes]) (fun _=>[]):=by
 have VJ:=H.cap 1 rfl;have cB:=H.dr 1 rfl
 have Ve:=H.cap 2 rfl;have cd:=H.dr 2 rfl
 have X7:=H.cap 3 rfl;have df:=H.dr 3 rfl
 have VK:=H.cap 4 rfl;have cC:=H.dr 4 rfl
 refine R.bE [(0,.pointer (some ⟨O4,0,none⟩)),(1,.agg #[.string c.Key,.string c.Val,.bool c.Gone])] Tryz.func81 O O O O H<|U ?_
 refine R.s O (s.box O O O) fun b1=>U ?_
 by_cases h1:c.Key=⟨#[]⟩
 .
  refine R.q (q.jG O O h1) O<|U ?_
  have hz:rowP r c=(r,false):=by (exact Pv af)
  rw [hz]
  exact R.w1 (dv,dG,ec,cZ) Ez [] O Tryz.results81 (RV.tmp O) O O O O
 refine R.q (q.jH O O h1) O<|U ?_
 have kp:=mE (c:=c) af
 refine U ?_
 refine R.q (q.EP (i:=1) O O Tryz.underlying9 O ae) O<|R.s O (s.aT kj [0] _ _ _ O O O zI O O (fun w own hw H=>l5 (c.Key.extract 1 c.Key.size) 1 w own H me) O) fun z1=>V ?_
 refine R.cut 1 (fun b:Bool=>[(0,.pointer (some ⟨O4,0,none⟩)),(3,.pointer (some ⟨b1,0,none⟩)),(5,z1),(6,.bool b)]) (fun b:Bool=>[aj.row 3 z1 (numsL (c.Key.extract 1 c.Key.size) 1),aj.box b1 (dS c) 115,aj.box O4 [dv,dG,ec,cZ,iV r.ag,iV r.ah] 48,aj.row 126 dv r.ao,aj.row 103 dG r.Things,aj.row 124 ec r.Held,aj.row 91 cZ r.Notes,aj.held w own]) (fun b:Bool=>[e9]) (fun b:Bool=>b=He c) O O O ?_ ?_
 .
  refine U ?_
  rcases Bool.eq_false_or_eq_true (fa (c.Key.extract 1 c.Key.size) 1) with h2|h2
  .
   rw [h2]
   refine U ?_
   by_cases h3:c.Key.size=5
   .
    refine U ?_
    exact R.meet true O (by (exact Rr af ae)) (sF O) (eI cu [0] O)
   refine U ?_
   exact R.meet false O (by (exact Rp ae)) (sF O) (eI cu [0] O)
  rw [h2]
  refine U ?_
  exact R.meet false O (by (exact Vd af)) (sF O) (eI cu [0] O)
 rintro b hC
 refine U ?_
 obtain ⟨y1,hy1⟩:∃z,c.Key.data[0]? = some z:=⟨_,Array.getElem?_eq_getElem (show 0<c.Key.size from by omega)⟩
 have Xs:=y1.toNat_lt
 refine R.q (q.iU (i:=0) O O Tryz.underlying9 O hy1) O<|U ?_
 by_cases h4:y1.toNat=104
 .
  refine U ?_
  refine R.s O (s.aT cu [0] _ _ _ O O O zI O O (fun w own hw H=>l5 c.Val 1 w own H ae) O) fun z2=>U ?_
  refine R.q (q.not O) O<|U ?_
  rcases Bool.eq_false_or_eq_true (fa c.Val 1) with h5|h5
  .
   rw [h5]
   refine U ?_
   by_cases h6:c.Val.size=4
   .
    refine U ?_
    by_cases h7:c.Key.size=3
    .
     refine U ?_
     obtain ⟨y2,hy2⟩:∃z,c.Key.data[1]? = some z:=⟨_,Array.getElem?_eq_getElem (show 1<c.Key.size from by omega)⟩
     have Xt:=y2.toNat_lt
     obtain ⟨y3,hy3⟩:∃z,c.Key.data[2]? = some z:=⟨_,Array.getElem?_eq_getElem (show 2<c.Key.size from by omega)⟩
     have Yu:=y3.toNat_lt
     refine R.eA (fuel:=13) dQ O O mixed O<|D.l EC dQ [0] O<|U ?_
     refine Dm.yy O O (q.iU (i:=1) O O Tryz.underlying9 O hy2) O<|Dm.yy O O (q.nG (r:=((y2.toNat:Nat):Int)) O (by rw [Tryz.underlying5];rfl) Tryz.underlying3 (wr ae)) O<|Dm.yy O O (q.kL (r:=(y2.toNat:Int)-48) O O) O<|U ?_
     refine Dm.yy O O (q.iU (i:=2) O O Tryz.underlying9 O hy3) O<|Dm.yy O O (q.nG (r:=((y3.toNat:Nat):Int)) O (by rw [Tryz.underlying5];rfl) Tryz.underlying3 (wr ae)) O<|Dm.yy O O (q.kL (r:=(y3.toNat:Int)-48) O O) O<|U ?_
     refine D.one (i:=11) O<|Do.s (s.alloc rj O O) (fun _=>(aN nU [0] O)) O fun b2=>?_
     refine D.one (i:=12) O<|Do.s (s.st 0 _ O O O O (.inl lG) O O O O) (fun _=>(aN nU [0] O)) O fun _=>?_
     refine D.done ?_
     have ev1:=rH (s:=c.Val) (m:=1) af
     obtain ⟨x1,hx1⟩:=gE (numsL c.Val 1) 0
     refine R.eA (fuel:=15) [0,1,2,3,5,6,8,9] O O mixed O<|D.l [0,1,2,3,5,6,7,8,9] [0,1,2,3,5,6,8,9] [0] O<|U ?_
     refine Dm.yy O O (q.idx (i:=0) (bH 1 O) O O dD O hx1) O<|Dm.yy O O (q.gh (bH 1 O) hx1 O bg O) O<|U ?_
     refine D.two (i:=4) (j:=10) O O ?_ ?_
     .
      refine Do.s (s.c (Qt.a (q.ld 4 O O eG O)) O) (fun _=>(aN [0,1,2,3,5,6,8,9] [0] O)) O fun _=>?_
      refine D.one (i:=10) O<|Do.s (s.bs (l:=([(⟨(⟨(y2.toNat:Int)-48,(y3.toNat:Int)-48⟩:Place),x1⟩:Held)]:List Held)) bJ cK O O O O O O O) (fun _=>(aN tW [0] O)) O fun b3=>?_
      refine D.one (i:=11) O<|Do.s (s.app 8 _ O O O (bH 0 O) eH az az (fun _=>rfl) O) (fun _=>(aN tW [0] O)) O fun v1=>?_
      refine D.l [12,13] tW [0] O<|U ?_
      refine D.one (i:=14) O<|Do.s (s.dE 5 _ O O O (fun w hw=>Sl.bF (hw.row 8 O)) (.inr ⟨eG,rfl⟩) (fun w hw=>(aJ (Sl.one (hw.row 8 O)) bq)) O O O) (fun _=>(aN tW [0] O)) O fun _=>?_
      refine D.done<|U ?_
      refine R.c (q.call DL O O (fun w hw=>(kE (⟨(y2.toNat:Int)-48,(y3.toNat:Int)-48⟩:Place) w ))) O ?_
      by_cases h8:bB (⟨(y2.toNat:Int)-48,(y3.toNat:Int)-48⟩:Place)=0
      .
       refine U ?_
       have hz:rowP r c=((⟨r.ao,r.Things,r.Held++([(⟨(⟨(y2.toNat:Int)-48,(y3.toNat:Int)-48⟩:Place),x1⟩:Held)]),r.Notes,r.ag,r.ah⟩:av),true):=by (exact Ro af hy1 ae af ae ae hy2 hy3 af (decide_eq_true af).symm)
       rw [hz]
       exact R.w1 (dv,dG,v1,cZ) [5,6,7,8,9,10] [] O Tryz.results81 (RV.tmp O) O O O O
      refine U ?_
      have hz:rowP r c=((⟨r.ao,r.Things,r.Held++([(⟨(⟨(y2.toNat:Int)-48,(y3.toNat:Int)-48⟩:Place),x1⟩:Held)]),r.Notes,r.ag,r.ah⟩:av),false):=by (exact Ro af hy1 ae af ae ae hy2 hy3 af (decide_eq_false af).symm)
      rw [hz]
      exact R.w1 (dv,dG,v1,cZ) [5,6,7,8,9,10] [] O Tryz.results81 (RV.tmp O) O O O O
     refine Do.s (s.bs (l:=([(⟨(⟨(y2.toNat:Int)-48,(y3.toNat:Int)-48⟩:Place),x1⟩:Held)]:List Held)) bJ cK O O O O O O O) (fun _=>(aN tW [0] O)) O fun b4=>?_
     refine D.one (i:=4) O<|Do.s (s.c (Qt.a (q.ld 5 O O eG O)) O) (fun _=>(aN tW [0] O)) O fun _=>?_
     refine D.one (i:=11) O<|Do.s (s.app 8 _ O O O (bH 0 O) eH az az (fun _=>rfl) O) (fun _=>(aN tW [0] O)) O fun v2=>?_
     refine D.l [12,13] tW [0] O<|U ?_
     refine D.one (i:=14) O<|Do.s (s.dE 5 _ O O O (fun w hw=>Sl.bF (hw.row 8 O)) (.inr ⟨eG,rfl⟩) (fun w hw=>(aJ (Sl.one (hw.row 8 O)) bq)) O O O) (fun _=>(aN tW [0] O)) O fun _=>?_
     refine D.done<|U ?_
     refine R.c (q.call DL O O (fun w hw=>(kE (⟨(y2.toNat:Int)-48,(y3.toNat:Int)-48⟩:Place) w ))) O ?_
     by_cases h9:bB (⟨(y2.toNat:Int)-48,(y3.toNat:Int)-48⟩:Place)=0
     .
      refine U ?_
      have hz:rowP r c=((⟨r.ao,r.Things,r.Held++([(⟨(⟨(y2.toNat:Int)-48,(y3.toNat:Int)-48⟩:Place),x1⟩:Held)]),r.Notes,r.ag,r.ah⟩:av),true):=by (exact Ro af hy1 ae af ae ae hy2 hy3 af (decide_eq_true af).symm)
      rw [hz]
      exact R.w1 (dv,dG,v2,cZ) [5,6,7,8,9,10] [] O Tryz.results81 (RV.tmp O) O O O O
     refine U ?_
     have hz:rowP r c=((⟨r.ao,r.Things,r.Held++([(⟨(⟨(y2.toNat:Int)-48,(y3.toNat:Int)-48⟩:Place),x1⟩:Held)]),r.Notes,r.ag,r.ah⟩:av),false):=by (exact Ro af hy1 ae af ae ae hy2 hy3 af (decide_eq_false af).symm)
     rw [hz]
     exact R.w1 (dv,dG,v2,cZ) [5,6,7,8,9,10] [] O Tryz.results81 (RV.tmp O) O O O O
    refine U ?_
    have hz:rowP r c=(r,false):=by (exact El af hy1 ae (.inr (.inr ae)))
    rw [hz]
    exact R.w1 (dv,dG,ec,cZ) nQ [] O Tryz.results81 (RV.tmp O) O O O O
   refine U ?_
   have hz:rowP r c=(r,false):=by (exact El af hy1 ae (.inr (.inl ae)))
   rw [hz]
   exact R.w1 (dv,dG,ec,cZ) nQ [] O Tryz.results81 (RV.tmp O) O O O O
  rw [h5]
  refine U ?_
  have hz:rowP r c=(r,false):=by (exact El af hy1 ae (.inl af))
  rw [hz]
  exact R.w1 (dv,dG,ec,cZ) nQ [] O Tryz.results81 (RV.tmp O) O O O O
 refine U ?_
 by_cases h10:y1.toNat=116
 .
  refine U ?_
  refine R.s O (s.aT cu [0] _ _ _ O O O zI O O (fun w own hw H=>l5 c.Val 1 w own H ae) O) fun z3=>U ?_
  refine R.q (q.not O) O<|U ?_
  cases b
  .
   refine U ?_
   have hz:rowP r c=(r,false):=by (exact Em af hy1 ae (.inl hC.symm))
   rw [hz]
   exact R.w1 (dv,dG,ec,cZ) nQ [] O Tryz.results81 (RV.tmp O) O O O O
  refine U ?_
  refine R.qg O (q.not O) O<|U ?_
  rcases Bool.eq_false_or_eq_true (fa c.Val 1) with h11|h11
  .
   rw [h11]
   refine U ?_
   by_cases h12:12<c.Val.size
   .
    refine U ?_
    have hz:rowP r c=(r,false):=by (exact Em af hy1 ae (.inr (.inr ae)))
    rw [hz]
    exact R.w1 (dv,dG,ec,cZ) nQ [] O Tryz.results81 (RV.tmp O) O O O O
   refine U ?_
   have ek:=Pw (c:=c) hC.symm
   have ev1:=rH (s:=c.Val) (m:=1) af
   obtain ⟨x2,hx2⟩:=gE (numsL (c.Key.extract 1 c.Key.size) 1) 0
   obtain ⟨x3,hx3⟩:=gE (numsL c.Val 1) 0
   refine R.eA (fuel:=20) [0,1,2,4,6,7,8] O O mixed O<|D.l [0,1,2,3,5,6,7,8,9,10,11,12,13,14] [0,1,2,4,6,7,8] [0] O<|U ?_
   refine Dm.yy O O (q.idx (i:=0) (bH 1 O) O O dD O hx2) O<|Dm.yy O O (q.gh (bH 1 O) hx2 O bg O) O<|U ?_
   refine Dm.yy O O (q.idx (i:=0) (bH 0 O) O O dD O hx3) O<|Dm.yy O O (q.gh (bH 0 O) hx3 O bg O) O<|U ?_
   refine Dm.yy O O (q.EP (i:=4) O O Tryz.underlying9 O ae) O<|U ?_
   refine D.two (i:=4) (j:=15) O O ?_ ?_
   .
    refine Do.s (s.c (Qt.a (q.ld 3 O O gC O)) O) (fun _=>(aN [0,1,2,4,6,7,8] [0] O)) O fun _=>?_
    refine D.one (i:=15) O<|Do.s (s.bs (l:=([(⟨x2,x3,c.Val.extract 4 c.Val.size⟩:aA)]:List aA)) eZ fP O O O O O O O) (fun _=>(aN tX [0] O)) O fun b5=>?_
    refine D.one (i:=16) O<|Do.s (s.app 6 _ O O O (bH 0 O) lI az az (fun _=>rfl) O) (fun _=>(aN tX [0] O)) O fun v3=>?_
    refine D.l [17,18] tX [0] O<|U ?_
    refine D.one (i:=19) O<|Do.s (s.dE 4 _ O O O (fun w hw=>Sl.bF (hw.row 6 O)) (.inr ⟨gC,rfl⟩) (fun w hw=>(aJ (Sl.one (hw.row 6 O)) bq)) O O O) (fun _=>(aN tX [0] O)) O fun _=>?_
    refine D.done<|U ?_
    refine R.q (q.idx (i:=0) (bH 1 O) O O dD O hx3) O<|R.q (q.gh (bH 1 O) hx3 O bg O) O ?_
    by_cases VG:x3=1
    .
     refine U ?_
     have hz:rowP r c=((⟨r.ao,r.Things++([(⟨x2,x3,c.Val.extract 4 c.Val.size⟩:aA)]),r.Held,r.Notes,r.ag,r.ah⟩:av),true):=by (exact GM af hy1 ae hC.symm af ae af af (decide_eq_true ae).symm)
     rw [hz]
     exact R.w1 (dv,v3,ec,cZ) sK [] O Tryz.results81 (RV.tmp O) O O O O
    refine U ?_
    refine R.qg O (q.idx (i:=0) (bH 1 O) O O dD O hx3) O<|R.qg O (q.gh (bH 1 O) hx3 O bg O) O ?_
    by_cases Yt:x3=2
    .
     refine U ?_
     by_cases Zb:c.Val.size=4
     .
      refine U ?_
      have hz:rowP r c=((⟨r.ao,r.Things++([(⟨x2,x3,c.Val.extract 4 c.Val.size⟩:aA)]),r.Held,r.Notes,r.ag,r.ah⟩:av),true):=by (exact GM af hy1 ae hC.symm af ae af af (decide_eq_true ae).symm)
      rw [hz]
      exact R.w1 (dv,v3,ec,cZ) sK [] O Tryz.results81 (RV.tmp O) O O O O
     refine U ?_
     have hz:rowP r c=((⟨r.ao,r.Things++([(⟨x2,x3,c.Val.extract 4 c.Val.size⟩:aA)]),r.Held,r.Notes,r.ag,r.ah⟩:av),false):=by (exact GM af hy1 ae hC.symm af ae af af (decide_eq_false ae).symm)
     rw [hz]
     exact R.w1 (dv,v3,ec,cZ) sK [] O Tryz.results81 (RV.tmp O) O O O O
    refine U ?_
    have hz:rowP r c=((⟨r.ao,r.Things++([(⟨x2,x3,c.Val.extract 4 c.Val.size⟩:aA)]),r.Held,r.Notes,r.ag,r.ah⟩:av),false):=by (exact GM af hy1 ae hC.symm af ae af af (decide_eq_false ae).symm)
    rw [hz]
    exact R.w1 (dv,v3,ec,cZ) sK [] O Tryz.results81 (RV.tmp O) O O O O
   refine Do.s (s.bs (l:=([(⟨x2,x3,c.Val.extract 4 c.Val.size⟩:aA)]:List aA)) eZ fP O O O O O O O) (fun _=>(aN tX [0] O)) O fun b6=>?_
   refine D.one (i:=4) O<|Do.s (s.c (Qt.a (q.ld 4 O O gC O)) O) (fun _=>(aN tX [0] O)) O fun _=>?_
   refine D.one (i:=16) O<|Do.s (s.app 6 _ O O O (bH 0 O) lI az az (fun _=>rfl) O) (fun _=>(aN tX [0] O)) O fun v4=>?_
   refine D.l [17,18] tX [0] O<|U ?_
   refine D.one (i:=19) O<|Do.s (s.dE 4 _ O O O (fun w hw=>Sl.bF (hw.row 6 O)) (.inr ⟨gC,rfl⟩) (fun w hw=>(aJ (Sl.one (hw.row 6 O)) bq)) O O O) (fun _=>(aN tX [0] O)) O fun _=>?_
   refine D.done<|U ?_
   refine R.q (q.idx (i:=0) (bH 1 O) O O dD O hx3) O<|R.q (q.gh (bH 1 O) hx3 O bg O) O ?_
   by_cases h16:x3=1
   .
    refine U ?_
    have hz:rowP r c=((⟨r.ao,r.Things++([(⟨x2,x3,c.Val.extract 4 c.Val.size⟩:aA)]),r.Held,r.Notes,r.ag,r.ah⟩:av),true):=by (exact GM af hy1 ae hC.symm af ae af af (decide_eq_true ae).symm)
    rw [hz]
    exact R.w1 (dv,v4,ec,cZ) sK [] O Tryz.results81 (RV.tmp O) O O O O
   refine U ?_
   refine R.qg O (q.idx (i:=0) (bH 1 O) O O dD O hx3) O<|R.qg O (q.gh (bH 1 O) hx3 O bg O) O ?_
   by_cases Xr:x3=2
   .
    refine U ?_
    by_cases h18:c.Val.size=4
    .
     refine U ?_
     have hz:rowP r c=((⟨r.ao,r.Things++([(⟨x2,x3,c.Val.extract 4 c.Val.size⟩:aA)]),r.Held,r.Notes,r.ag,r.ah⟩:av),true):=by (exact GM af hy1 ae hC.symm af ae af af (decide_eq_true ae).symm)
     rw [hz]
     exact R.w1 (dv,v4,ec,cZ) sK [] O Tryz.results81 (RV.tmp O) O O O O
    refine U ?_
    have hz:rowP r c=((⟨r.ao,r.Things++([(⟨x2,x3,c.Val.extract 4 c.Val.size⟩:aA)]),r.Held,r.Notes,r.ag,r.ah⟩:av),false):=by (exact GM af hy1 ae hC.symm af ae af af (decide_eq_false ae).symm)
    rw [hz]
    exact R.w1 (dv,v4,ec,cZ) sK [] O Tryz.results81 (RV.tmp O) O O O O
   refine U ?_
   have hz:rowP r c=((⟨r.ao,r.Things++([(⟨x2,x3,c.Val.extract 4 c.Val.size⟩:aA)]),r.Held,r.Notes,r.ag,r.ah⟩:av),false):=by (exact GM af hy1 ae hC.symm af ae af af (decide_eq_false ae).symm)
   rw [hz]
   exact R.w1 (dv,v4,ec,cZ) sK [] O Tryz.results81 (RV.tmp O) O O O O
  rw [h11]
  refine U ?_
  have hz:rowP r c=(r,false):=by (exact Em af hy1 ae (.inr (.inl af)))
  rw [hz]
  exact R.w1 (dv,dG,ec,cZ) nQ [] O Tryz.results81 (RV.tmp O) O O O O
 refine U ?_
 by_cases h19:y1.toNat=119
 .
  refine U ?_
  refine R.s O (s.aT cu [0] _ _ _ O O O zI O O (fun w own hw H=>l5 c.Val 4 w own H ae) O) fun z4=>U ?_
  refine R.q (q.not O) O<|U ?_
  cases b
  .
   refine U ?_
   have hz:rowP r c=(r,false):=by (exact En af hy1 ae (.inl hC.symm))
   rw [hz]
   exact R.w1 (dv,dG,ec,cZ) nQ [] O Tryz.results81 (RV.tmp O) O O O O
  refine U ?_
  refine R.qg O (q.not O) O<|U ?_
  rcases Bool.eq_false_or_eq_true (fa c.Val 4) with h20|h20
  .
   rw [h20]
   refine U ?_
   by_cases h21:c.Val.size=16
   .
    refine U ?_
    have ek:=Pw (c:=c) hC.symm
    have ev4:=rH (s:=c.Val) (m:=4) af
    obtain ⟨x4,hx4⟩:=gE (numsL (c.Key.extract 1 c.Key.size) 1) 0
    obtain ⟨x5,hx5⟩:=gE (numsL c.Val 4) 0
    obtain ⟨x6,hx6⟩:=gE (numsL c.Val 4) 1
    obtain ⟨x7,hx7⟩:=gE (numsL c.Val 4) 2
    obtain ⟨x8,hx8⟩:=gE (numsL c.Val 4) 3
    refine R.eA (fuel:=26) [0,1,2,5,6,7,8] O O mixed O<|D.l [0,1,2,3,5,6,7,8,9,10,11,12,13,14,15,16,17,18,19,20] [0,1,2,5,6,7,8] [0] O<|U ?_
    refine Dm.yy O O (q.idx (i:=0) (bH 1 O) O O dD O hx4) O<|Dm.yy O O (q.gh (bH 1 O) hx4 O bg O) O<|U ?_
    refine Dm.yy O O (q.idx (i:=0) (bH 0 O) O O dD O hx5) O<|Dm.yy O O (q.gh (bH 0 O) hx5 O bg O) O<|U ?_
    refine Dm.yy O O (q.idx (i:=1) (bH 0 O) O O dD O hx6) O<|Dm.yy O O (q.gh (bH 0 O) hx6 O bg O) O<|U ?_
    refine Dm.yy O O (q.idx (i:=2) (bH 0 O) O O dD O hx7) O<|Dm.yy O O (q.gh (bH 0 O) hx7 O bg O) O<|U ?_
    refine Dm.yy O O (q.idx (i:=3) (bH 0 O) O O dD O hx8) O<|Dm.yy O O (q.gh (bH 0 O) hx8 O bg O) O<|U ?_
    refine D.two (i:=4) (j:=21) O O ?_ ?_
    .
     refine Do.s (s.c (Qt.a (q.ld 3 O O eF O)) O) (fun _=>(aN [0,1,2,5,6,7,8] [0] O)) O fun _=>?_
     refine D.one (i:=21) O<|Do.s (s.bs (l:=([(⟨x4,x5,x6,x7,x8⟩:ap)]:List ap)) cR br O O O O O O O) (fun _=>(aN tY [0] O)) O fun b7=>?_
     refine D.one (i:=22) O<|Do.s (s.app 5 _ O O O (bH 0 O) g9 az az (fun _=>rfl) O) (fun _=>(aN tY [0] O)) O fun v5=>?_
     refine D.l [23,24] tY [0] O<|U ?_
     refine D.one (i:=25) O<|Do.s (s.dE 4 _ O O O (fun w hw=>Sl.bF (hw.row 5 O)) (.inr ⟨eF,rfl⟩) (fun w hw=>(aJ (Sl.one (hw.row 5 O)) bq)) O O O) (fun _=>(aN tY [0] O)) O fun _=>?_
     refine D.done<|U ?_
     have hz:rowP r c=((⟨r.ao++([(⟨x4,x5,x6,x7,x8⟩:ap)]),r.Things,r.Held,r.Notes,r.ag,r.ah⟩:av),true):=by (exact X6 af hy1 ae hC.symm af ae af af af af af)
     rw [hz]
     exact R.w1 (v5,dG,ec,cZ) sK [] O Tryz.results81 (RV.tmp O) O O O O
    refine Do.s (s.bs (l:=([(⟨x4,x5,x6,x7,x8⟩:ap)]:List ap)) cR br O O O O O O O) (fun _=>(aN tY [0] O)) O fun b8=>?_
    refine D.one (i:=4) O<|Do.s (s.c (Qt.a (q.ld 4 O O eF O)) O) (fun _=>(aN tY [0] O)) O fun _=>?_
    refine D.one (i:=22) O<|Do.s (s.app 5 _ O O O (bH 0 O) g9 az az (fun _=>rfl) O) (fun _=>(aN tY [0] O)) O fun v6=>?_
    refine D.l [23,24] tY [0] O<|U ?_
    refine D.one (i:=25) O<|Do.s (s.dE 4 _ O O O (fun w hw=>Sl.bF (hw.row 5 O)) (.inr ⟨eF,rfl⟩) (fun w hw=>(aJ (Sl.one (hw.row 5 O)) bq)) O O O) (fun _=>(aN tY [0] O)) O fun _=>?_
    refine D.done<|U ?_
    have hz:rowP r c=((⟨r.ao++([(⟨x4,x5,x6,x7,x8⟩:ap)]),r.Things,r.Held,r.Notes,r.ag,r.ah⟩:av),true):=by (exact X6 af hy1 ae hC.symm af ae af af af af af)
    rw [hz]
    exact R.w1 (v6,dG,ec,cZ) sK [] O Tryz.results81 (RV.tmp O) O O O O
   refine U ?_
   have hz:rowP r c=(r,false):=by (exact En af hy1 ae (.inr (.inr ae)))
   rw [hz]
   exact R.w1 (dv,dG,ec,cZ) nQ [] O Tryz.results81 (RV.tmp O) O O O O
  rw [h20]
  refine U ?_
  have hz:rowP r c=(r,false):=by (exact En af hy1 ae (.inr (.inl af)))
  rw [hz]
  exact R.w1 (dv,dG,ec,cZ) nQ [] O Tryz.results81 (RV.tmp O) O O O O
 refine U ?_
 refine R.s O (s.aT cu [0] _ _ _ O O O zI O O (fun w own hw H=>l5 c.Val 2 w own H ae) O) fun z5=>U ?_
 by_cases h22:c.Key=⟨#[120]⟩
 .
  refine R.q (q.ql O O h22) O<|U ?_
  refine R.qg O (q.not O) O<|U ?_
  rcases Bool.eq_false_or_eq_true (fa c.Val 2) with h23|h23
  .
   rw [h23]
   refine U ?_
   by_cases h24:c.Val.size=8
   .
    refine U ?_
    have ev2:=rH (s:=c.Val) (m:=2) af
    obtain ⟨x9,hx9⟩:=gE (numsL c.Val 2) 0
    obtain ⟨x10,X8⟩:=gE (numsL c.Val 2) 1
    refine R.eA (fuel:=14) ED O O mixed O<|D.l nD ED [0] O<|U ?_
    refine Dm.yy O O (q.idx (i:=0) (bH 0 O) O O dD O hx9) O<|Dm.yy O O (q.gh (bH 0 O) hx9 O bg O) O<|U ?_
    refine Dm.yy O O (q.idx (i:=1) (bH 0 O) O O dD O X8) O<|Dm.yy O O (q.gh (bH 0 O) X8 O bg O) O<|U ?_
    refine D.one (i:=10) O<|Do.s (s.st 3 _ O O O O (.inr ⟨bg,rfl⟩) O O O O) (fun _=>(aN ED [0] O)) O fun _=>?_
    refine D.l [11,12] ED [0] O<|U ?_
    refine D.one (i:=13) O<|Do.s (s.st 3 _ O O O O (.inr ⟨bg,rfl⟩) O O O O) (fun _=>(aN ED [0] O)) O fun _=>?_
    refine D.done<|U ?_
    have hz:rowP r c=((⟨r.ao,r.Things,r.Held,r.Notes,x9,x10⟩:av),true):=by (exact Zz af hy1 ae ae ae af af ae af af)
    rw [hz]
    exact R.w1 (dv,dG,ec,cZ) nQ [] O Tryz.results81 (RV.tmp O) O O O O
   refine U ?_
   have hz:rowP r c=(r,false):=by (exact Eo af hy1 ae ae ae (.inr (.inr ae)))
   rw [hz]
   exact R.w1 (dv,dG,ec,cZ) nQ [] O Tryz.results81 (RV.tmp O) O O O O
  rw [h23]
  refine U ?_
  have hz:rowP r c=(r,false):=by (exact Eo af hy1 ae ae ae (.inr (.inl af)))
  rw [hz]
  exact R.w1 (dv,dG,ec,cZ) nQ [] O Tryz.results81 (RV.tmp O) O O O O
 refine R.q (q.sL O O h22) O<|U ?_
 have hz:rowP r c=(r,false):=by (exact Eo af hy1 ae ae ae (.inl af))
 rw [hz]
 exact R.w1 (dv,dG,ec,cZ) nQ [] O Tryz.results81 (RV.tmp O) O O O O
end
end Go.Proofs.YtnmpibjlnninjaaGreatDoor
