import Derived.Test.YtnmpibjlnninjaaGreatDoorKT24
namespace Go.Proofs.YtnmpibjlnninjaaGreatDoor
set_option linter.unusedVariables false
set_option linter.unusedSimpArgs false
set_option maxRecDepth 100000
set_option maxHeartbeats 90000000
section
open Go Go.RowKit
attribute [local irreducible] Run Rg Rq Qt Qa Stp Dg Do Dm bN
theorem gN (n:Int)(w:World)(ht:Fi w)(hn : -9223372036854775808<=n/\n<=9223372036854775807):Calls Tryz.prog 125 #[iV n] w fun e w'=>e = .returned (.string (bm n))/\Ext w w':=by
 have il:=tZ hn;have ip:=Nj n
 refine R.enter [] [(0,iV n)] Tryz.func125 O O O O<|R.nH (r:=eh) ht (CP ht)<|U ?_
 refine R.kc O O (fun w hw=>zj n w (by exact hw.okF eh (by repeat (exact List.Mem.head _))) af)<|U ?_
 refine R.q (q.jY (r:=4-((dx n).size:Int)) O O) O<|R.q (q.max (r:=max 0 (4-((dx n).size:Int))) O O O) O<|R.kc O O (fun w hw=>GY (⟨#[48]⟩) (max 0 (4-((dx n).size:Int))) w O ae)<|U ?_
 refine R.q (q.cat O O (by rw [IC];omega)) O<|U ?_
 refine R.rt ?_
 (unfold bm;rw [show (max 0 (4-((dx n).size:Int))).toNat=4-(dx n).size by omega])
def numsL (s:ByteArray)(m:Nat):List Int:=(dP s m).getD []
def ej (s:ByteArray)(m:Nat):Bool:=(dP s m).isSome
theorem Pp {s:ByteArray}{m:Nat}(h:s.size<4*m):(numsL s m,ej s m)=([],false):=by unfold numsL ej dP;rw [if_pos h];rfl
theorem Fj {s:ByteArray}{m k:Nat}{l:List Int}(h:¬ s.size<4*m)(hk:k<m)(hl:iU s k=some l)(hn:vV (s.extract (4*k) (4*k+4))=none):(numsL s m,ej s m)=([],false):=by
 unfold numsL ej dP;rw [if_neg h,Jg hk hl hn];rfl
theorem Pq {s:ByteArray}{m:Nat}{l:List Int}(h:¬ s.size<4*m)(hl:iU s m=some l):(numsL s m,ej s m)=(l,true):=by
 unfold numsL ej dP;rw [if_neg h,hl];rfl
theorem Pr {s:ByteArray}(h:¬ (Lib.atoi s.data.toList).isSome=true):vV s=none:=by
 unfold vV;cases hq:Lib.atoi s.data.toList with|none=>rfl|some n=>rw [hq] at h;exact absurd rfl h
theorem Ps {s:ByteArray}(h:¬ bm (aV s)=s):vV s=none:=by
 unfold vV;unfold aV at h
 cases hq:Lib.atoi s.data.toList with
 | none=>rfl
 | some n=>rw [hq] at h;dsimp only;exact if_neg h
theorem Nl {s:ByteArray}(h:(Lib.atoi s.data.toList).isSome=true)(he:bm (aV s)=s):vV s=some (aV s):=by
 unfold vV;unfold aV at he ⊢
 cases hq:Lib.atoi s.data.toList with
 | none=>rw [hq] at h;cases h
 | some n=>rw [hq] at he;dsimp only;exact if_pos he
theorem lp (sb:ByteArray)(m:Nat)(w:World)(own:List Nat)(H:HN w own [] [eh])(hs:sb.size<=1000000/\m<=4):RC Tryz.prog 140 #[.string sb,iV (m:Int)] H (fun z:Value => .tuple #[z,.bool (ej sb m)]) (fun z=>[ah.row 3 z (numsL sb m)]) (fun _=>[]):=by
 refine R.eN H ?_
 refine R.q (q.ug (r:=((4*m:Nat):Int)) O O) O<|C (sb.size<(4*m)) ?_ ?_ <;> intro h1
 .
  refine R.row0 (α:=Int) 3 ?_
  have hz:(numsL sb m,ej sb m)=([],false):=by (exact Pp ae)
  have hz0:numsL sb m=[]:=congrArg (fun t_=>t_.1) hz
  rw [hz0]
  have hz1:ej sb m=false:=congrArg (fun t_=>t_.2) hz
  rw [hz1]
  exact R.x2 nS [0,1] []
 refine R.row0 (α:=Int) 3<|R.loop (fun g_:Nat×Value×(List Int)=>[(0,.string sb),(6,g_.2.1),(15,iV (m:Int)),(16,iV (g_.1:Int))]) (fun g_=>[ah.row 3 g_.2.1 g_.2.2,ah.held w own]) (fun g_=>[eh]) (fun g_=>g_.1<=m/\iU sb g_.1=some g_.2.2) (fun g_=>m-g_.1) (0,nS,[]) O (by exact ⟨ae,rfl⟩) (sF O) (dE [0,1] [0] O) ?_
 rintro ⟨k,u,l⟩ ⟨hk,HL⟩
 dsimp only at *
 have ab:=Ni (s:=sb.extract (4*k) (4*k+4)) (by rw [ByteArray.size_extract];omega);have gl:=uH HL
 refine U ?_
 refine C (k<m) ?_ ?_ <;> intro h2
 .
  refine R.q (q.ug (r:=((4*k:Nat):Int)) O O) O<|U ?_
  refine R.q (q.ug (r:=((4*k:Nat):Int)) O O) O<|U ?_
  refine R.q (q.Dq (i:=(4*k)) (j:=((4*k)+4)) O O O Tryz.underlying9 O O ae ae) O<|C ((Lib.atoi (sb.extract (4*k) ((4*k)+4)).data.toList).isSome=true) ?_ ?_ <;> intro h3
  .
   refine R.kc O O (fun w hw=>Ng (sb.extract (4*k) ((4*k)+4)) w af (by rw [ByteArray.size_extract];omega))<|U ?_
   refine C (bm (aV (sb.extract (4*k) ((4*k)+4)))=(sb.extract (4*k) ((4*k)+4))) ?_ ?_ <;> intro h4
   .
    refine R.cG O mixed ao<|U ?_
    refine Q.cg O (q.call lw O O (fun w hw=>gN (aV (sb.extract (4*k) ((4*k)+4))) w (by exact hw.okF eh (by repeat (exact List.Mem.head _))) af)) O<|U ?_
    refine Q.qg O (q.ug (r:=((4*k:Nat):Int)) O O) O<|U ?_
    refine Q.qg O (q.ug (r:=((4*k:Nat):Int)) O O) O<|U ?_
    refine Q.qg O (q.Dq (i:=(4*k)) (j:=((4*k)+4)) O O O Tryz.underlying9 O O ae ae) O<|Q.qg O (q.pw O O h4) O<|U ?_
    refine R.s O (s.bs (l:=([aV (sb.extract (4*k) ((4*k)+4))]:List Int)) lF jQ O O O O O O O) fun b1=>?_
    refine R.ap fun v1=>?_
    refine R.back (k+1,v1,(l++([aV (sb.extract (4*k) ((4*k)+4))]))) O (by exact ⟨ae,Ga HL (Nl af af)⟩) aG (sF O) (ck [1,2] [0] O)
   refine R.cG O mixed ao<|U ?_
   refine Q.cg O (q.call lw O O (fun w hw=>gN (aV (sb.extract (4*k) ((4*k)+4))) w (by exact hw.okF eh (by repeat (exact List.Mem.head _))) af)) O<|U ?_
   refine Q.qg O (q.ug (r:=((4*k:Nat):Int)) O O) O<|U ?_
   refine Q.qg O (q.ug (r:=((4*k:Nat):Int)) O O) O<|U ?_
   refine Q.qg O (q.Dq (i:=(4*k)) (j:=((4*k)+4)) O O O Tryz.underlying9 O O ae ae) O<|Q.qg O (q.rG O O h4) O<|U ?_
   refine R.row0 (α:=Int) 3 ?_
   have hz:(numsL sb m,ej sb m)=([],false):=by (exact Fj ae ae HL (Ps af))
   have hz0:numsL sb m=[]:=congrArg (fun t_=>t_.1) hz
   rw [hz0]
   have hz1:ej sb m=false:=congrArg (fun t_=>t_.2) hz
   rw [hz1]
   exact R.x2 nS [0,2] []
  refine R.s O (s.aJ [0,1] [0] _ _ _ O O O R7 O O (fun w own hw H=>Nh (sb.extract (4*k) ((4*k)+4)) w own H af (by rw [ByteArray.size_extract];omega)) O) fun z1=>U ?_
  refine R.cG O mixed ao<|U ?_
  refine R.row0 (α:=Int) 3 ?_
  have hz:(numsL sb m,ej sb m)=([],false):=by (exact Fj ae ae HL (Pr af))
  have hz0:numsL sb m=[]:=congrArg (fun t_=>t_.1) hz
  rw [hz0]
  have hz1:ej sb m=false:=congrArg (fun t_=>t_.2) hz
  rw [hz1]
  exact R.x2 nS [0,2] []
 have hz:(numsL sb m,ej sb m)=(l,true):=by (have e:k=m:=ae;subst e;exact Pq ae HL)
 have hz0:numsL sb m=l:=congrArg (fun t_=>t_.1) hz
 rw [hz0]
 have hz1:ej sb m=true:=congrArg (fun t_=>t_.2) hz
 rw [hz1]
 exact R.x2 u [0,1] []
theorem lq {α β:Type}(f:α->β){L:List α}{k:Nat}{x:α}(hx:L[k]? = some x):(L.take (k+1)).map f=(L.take k).map f++[f x]:=by
 rw [List.take_add_one,hx,List.map_append];rfl
theorem oc {α β:Type}(f:α->β){L:List α}{k:Nat}(h:L.length<=k):(L.take k).map f=L.map f:=by rw [List.take_of_length_le h]
structure Zs (q:aA):Prop where
  i:Inv q
  h:∀x∈q.Held,(dx x.Place.aB).size<=21/\(dx x.Place.Slot).size<=21/\(bm x.ak).size<=25/\0<=x.Place.aB/\x.Place.aB<=4/\0<=x.Place.Slot/\x.Place.Slot<=5/\0<=x.ak/\x.ak<=10000
  t:∀x∈q.Things,(bm x.ID).size<=25/\(bm x.Kind).size<=25/\x.Data.size<=8/\0<=x.ID/\x.ID<=10000/\0<=x.Kind/\x.Kind<=2
  w:∀x∈q.aj,((bm x.ID).size<=25/\(bm x.av).size<=25/\(bm x.Rights).size<=25/\(bm x.aO).size<=25/\(bm x.From).size<=25)/\0<=x.ID/\x.ID<=999/\0<=x.av/\x.av<=999/\0<=x.Rights/\x.Rights<=7/\0<=x.aO/\x.aO<=99/\0<=x.From/\x.From<=999
  n:(bm q.ag).size<=25/\(bm q.ai).size<=25
theorem kJ {n:Int}(h:0<=n/\n<=10000):(bm n).size<=25:=Nk ae
theorem IE {n:Int}(h:0<=n/\n<=10000):(dx n).size<=21:=tZ ae
theorem Inv.Yk {q:aA}(i:Inv q):Zs q where
 i:=i
 h:=fun x hx=>by
  have k:=i.H5 hx;have p:=bG k.1;have k1:=k.2.1;have k2:=k.2.2
  exact ⟨IE ae,IE ae,kJ ae,ae,ae,ae,ae,ae,ae⟩
 t:=fun x hx=>by
  have k:=i.Qg hx;have a:=k.i0;have b:=k.i9;have c:=k.kd;have d:=k.ds
  exact ⟨kJ ae,kJ ae,d,a,ae,ae,ae⟩
 w:=fun x hx=>by
  have k:=i.tree.mem hx;have i1:=k.id1;have i9:=k.P5;have t1:=k.Tk;have t9:=k.Tl;have a0:=k.Tm;have a9:=k.Tn;have f0:=k.P6;have fl:=k.P7;have q0:=k.P8;have q7:=k.P9
  exact ⟨⟨kJ ae,kJ ae,kJ ae,kJ ae,kJ ae⟩,ae,ae,ae,ae,ae,ae,ae,ae,ae,ae⟩
 n:=by
  have a1:=i.nM;have a2:=i.pI;have a3:=i.oF;have a4:=i.oG
  exact ⟨kJ ae,kJ ae⟩
theorem zk (aW aS aT aU:Value)(r:aA)(w:World)(own:List Nat)(H:HN w own [] [ah.ls aW r.aj,ah.ls aS r.Things,ah.ls aT r.Held,ah.ls aU r.Notes,eh])(hk:Ok r)(hI:Inv r):RC Tryz.prog 63 #[.agg #[aW,aS,aT,aU,iV r.ag,iV r.ai]] H (fun z:Value=>z) (fun z=>[ah.row 115 z (aQ r)]) (fun _=>[]):=by
 have bS:=H.aZ 0 rfl
 have bH:=H.aZ 1 rfl
 have cu:=H.aZ 2 rfl
 have bT:=H.aZ 3 rfl
 have bw:=hk.wl;have bt:=hk.tl;have bh:=hk.hl;have bn:=hk.nl;have wN:=hk.w0;have wO:=hk.w1;have wP:=hk.t0;have wQ:=hk.t1
 have hq:=(gq hI).1.Yk
 have hn:=hq.n;have nM:=hq.i.nM;have pI:=hq.i.pI;have oF:=hq.i.oF;have oG:=hq.i.oG;have hl0:=p9 hq.i;have Zt:=hq.i.ia;have Zu:=(gq hI).2.2.2.1
 refine R.eN H ?_
 refine R.nb fun b1=>?_
 refine R.s O (s.aJ [0,1] aX _ _ _ O O O RO O O (fun w own hw H=>G1 aW aS aT aU r w own H af) O) ?_
 rintro ⟨z1,z2,z3,z4⟩
 dsimp only
 refine U ?_
 refine R.row0 (α:=Change) 115<|R.loop (fun g_:Nat×Value×(List Change)=>[(1,pV b1),(3,g_.2.1),(13,z3),(14,iV ((aK r).Held.length:Int)),(15,iV (g_.1:Int))]) (fun g_=>[ah.row 115 g_.2.1 g_.2.2,ah.box b1 [z1,z2,z3,z4,iV (aK r).ag,iV (aK r).ai] 48,ah.held w own]) (fun g_=>[ah.ls z1 (aK r).aj,ah.ls z2 (aK r).Things,ah.ls z3 (aK r).Held,ah.ls z4 (aK r).Notes,ah.ls aW r.aj,ah.ls aS r.Things,ah.ls aT r.Held,ah.ls aU r.Notes,eh]) (fun g_=>g_.1<=(aK r).Held.length/\g_.2.2=((aK r).Held.take g_.1).map hrow) (fun g_=>(aK r).Held.length-g_.1) (0,nS,[]) O (by exact ⟨ae,rfl⟩) (sF O) (dE [0,1,2] cy O) ?_
 rintro ⟨k,u,l⟩ ⟨hk,HL⟩
 dsimp only at *
 have ll:l.length<=24:=by rw [HL,List.length_map,List.length_take];omega
 refine U ?_
 refine C (k<(aK r).Held.length) ?_ ?_ <;> intro h1
 .
  obtain ⟨x1,hx1⟩:=gE (aK r).Held k
  have OJ:=hq.h _ (List.mem_of_getElem? hx1)
  refine U ?_
  refine R.nb fun b2=>?_
  refine R.dC (fuel:=18) [0,2,3] O O mixed O<|D.l [0,1,2,3,6,7,8,11,12] [0,2,3] cy O<|U ?_
  refine D.p 4 O [0,2,3] cy (s.c (q.call Me O O (fun w hw=>zj x1.Place.aB w (by exact hw.okF eh uc) ae)) O) fun _=>?_
  refine D.l [5] [0,2,3] cy O<|Dm.yy O O (q.cat O O (by simp only [ByteArray.size_append,da,List.length_cons,List.length_nil];omega)) O<|U ?_
  refine D.p 9 O [0,2,3] cy (s.c (q.call Me O O (fun w hw=>zj x1.Place.Slot w (by exact hw.okF eh uc) ae)) O) fun _=>?_
  refine D.l [10] [0,2,3] cy O<|Dm.yy O O (q.cat O O (by simp only [ByteArray.size_append,da,List.length_cons,List.length_nil];omega)) O<|U ?_
  refine D.p 13 O [0,2,3] cy (s.c (q.call lw O O (fun w hw=>gN x1.ak w (by exact hw.okF eh uc) ae)) O) fun _=>?_
  refine D.l [14] [0,2,3] cy O<|U ?_
  refine D.p 15 O [1,3,4] cy (s.bs (l:=([(⟨(⟨#[104]⟩++dx x1.Place.aB)++dx x1.Place.Slot,bm x1.ak,false⟩:Change)]:List Change)) bX bR O O O O O O O) fun b3=>?_
  refine D.p 16 O [1,3,4] cy (s.app 2 _ O O O (cm 0 O) je aE aE (fun _=>rfl) O) fun v1=>?_
  refine D.l [17] [1,3,4] cy O<|U ?_
  refine D.done<|U ?_
  refine R.back (k+1,v1,(l++([(⟨(⟨#[104]⟩++dx x1.Place.aB)++dx x1.Place.Slot,bm x1.ak,false⟩:Change)]))) O (by exact ⟨ae,by rw [lq hrow hx1,<- HL];rfl⟩) aG (sF O) (ck [2,3,4] cy O)
 refine R.loop (fun g_:Nat×Value×(List Change)=>[(1,pV b1),(3,g_.2.1),(38,z2),(39,iV ((aK r).Things.length:Int)),(40,iV (g_.1:Int))]) (fun g_=>[ah.row 115 g_.2.1 g_.2.2,ah.box b1 [z1,z2,z3,z4,iV (aK r).ag,iV (aK r).ai] 48,ah.held w own]) (fun g_=>[ah.ls z1 (aK r).aj,ah.ls z2 (aK r).Things,ah.ls z3 (aK r).Held,ah.ls z4 (aK r).Notes,ah.ls aW r.aj,ah.ls aS r.Things,ah.ls aT r.Held,ah.ls aU r.Notes,eh]) (fun g_=>g_.1<=(aK r).Things.length/\g_.2.2=(aK r).Held.map hrow++((aK r).Things.take g_.1).map kr) (fun g_=>(aK r).Things.length-g_.1) (0,u,l) O (by exact ⟨ae,by rw [HL,oc _ ae];exact (List.append_nil _).symm⟩) (sF O) (dE [0,1,2] cy O) ?_
 rintro ⟨j,u2,l2⟩ ⟨hj,HL2⟩
 dsimp only at *
 have Xw:l2.length<=34:=by rw [HL2,List.length_append,List.length_map,List.length_map,List.length_take];omega
 refine U ?_
 refine C (j<(aK r).Things.length) ?_ ?_ <;> intro h2
 .
  obtain ⟨x2,hx2⟩:=gE (aK r).Things j
  have Wm:=hq.t _ (List.mem_of_getElem? hx2)
  refine U ?_
  refine R.nb fun b4=>?_
  refine R.dC (fuel:=15) [0,2,3] O O mixed O<|D.l [0,1,2,5,6,8,9] [0,2,3] cy O<|U ?_
  refine D.p 3 O [0,2,3] cy (s.c (q.call lw O O (fun w hw=>gN x2.ID w (by exact hw.okF eh uc) ae)) O) fun _=>?_
  refine D.l [4] [0,2,3] cy O<|Dm.yy O O (q.cat O O (by simp only [ByteArray.size_append,da,List.length_cons,List.length_nil];omega)) O<|U ?_
  refine D.p 7 O [0,2,3] cy (s.c (q.call lw O O (fun w hw=>gN x2.Kind w (by exact hw.okF eh uc) ae)) O) fun _=>?_
  refine D.l [10,11] [0,2,3] cy O<|Dm.yy O O (q.cat O O ae) O<|U ?_
  refine D.p 12 O [1,3,4] cy (s.bs (l:=([(⟨⟨#[116]⟩++bm x2.ID,bm x2.Kind++x2.Data,false⟩:Change)]:List Change)) bX bR O O O O O O O) fun b5=>?_
  refine D.p 13 O [1,3,4] cy (s.app 2 _ O O O (cm 0 O) je aE aE (fun _=>rfl) O) fun v2=>?_
  refine D.l [14] [1,3,4] cy O<|U ?_
  refine D.done<|U ?_
  refine R.back (j+1,v2,(l2++([(⟨⟨#[116]⟩++bm x2.ID,bm x2.Kind++x2.Data,false⟩:Change)]))) O (by exact ⟨ae,by rw [lq kr hx2,<- List.append_assoc,<- HL2];rfl⟩) aG (sF O) (ck [2,3,4] cy O)
 refine R.loop (fun g_:Nat×Value×(List Change)=>[(1,pV b1),(3,g_.2.1),(60,z1),(61,iV ((aK r).aj.length:Int)),(62,iV (g_.1:Int))]) (fun g_=>[ah.row 115 g_.2.1 g_.2.2,ah.box b1 [z1,z2,z3,z4,iV (aK r).ag,iV (aK r).ai] 48,ah.held w own]) (fun g_=>[ah.ls z1 (aK r).aj,ah.ls z2 (aK r).Things,ah.ls z3 (aK r).Held,ah.ls z4 (aK r).Notes,ah.ls aW r.aj,ah.ls aS r.Things,ah.ls aT r.Held,ah.ls aU r.Notes,eh]) (fun g_=>g_.1<=(aK r).aj.length/\g_.2.2=(aK r).Held.map hrow++(aK r).Things.map kr++((aK r).aj.take g_.1).map mK) (fun g_=>(aK r).aj.length-g_.1) (0,u2,l2) O (by exact ⟨ae,by rw [HL2,oc _ ae];exact (List.append_nil _).symm⟩) (sF O) (dE [0,1,2] cy O) ?_
 rintro ⟨i,u3,l3⟩ ⟨hi,S3⟩
 dsimp only at *
 have Zv:l3.length<=58:=by rw [S3,List.length_append,List.length_append,List.length_map,List.length_map,List.length_map,List.length_take];omega
 refine U ?_
 refine C (i<(aK r).aj.length) ?_ ?_ <;> intro h3
 .
  obtain ⟨x3,hx3⟩:=gE (aK r).aj i
  have Zw:=hq.w _ (List.mem_of_getElem? hx3)
  refine U ?_
  refine R.nb fun b6=>?_
  refine R.dC (fuel:=24) [0,2,3] O O mixed O<|D.l [0,1,2,5,6,8,9,12,13,16,17] [0,2,3] cy O<|U ?_
  refine D.p 3 O [0,2,3] cy (s.c (q.call lw O O (fun w hw=>gN x3.ID w (by exact hw.okF eh uc) ae)) O) fun _=>?_
  refine D.l [4] [0,2,3] cy O<|Dm.yy O O (q.cat O O (by simp only [ByteArray.size_append,da,List.length_cons,List.length_nil];omega)) O<|U ?_
  refine D.p 7 O [0,2,3] cy (s.c (q.call lw O O (fun w hw=>gN x3.av w (by exact hw.okF eh uc) ae)) O) fun _=>?_
  refine D.p 10 O [0,2,3] cy (s.c (q.call lw O O (fun w hw=>gN x3.Rights w (by exact hw.okF eh uc) ae)) O) fun _=>?_
  refine D.l [11] [0,2,3] cy O<|Dm.yy O O (q.cat O O ae) O<|U ?_
  refine D.p 14 O [0,2,3] cy (s.c (q.call lw O O (fun w hw=>gN x3.aO w (by exact hw.okF eh uc) ae)) O) fun _=>?_
  refine D.l [15] [0,2,3] cy O<|Dm.yy O O (q.cat O O (by simp only [ByteArray.size_append,da,List.length_cons,List.length_nil];omega)) O<|U ?_
  refine D.p 18 O [0,2,3] cy (s.c (q.call lw O O (fun w hw=>gN x3.From w (by exact hw.okF eh uc) ae)) O) fun _=>?_
  refine D.l [19,20] [0,2,3] cy O<|Dm.yy O O (q.cat O O (by simp only [ByteArray.size_append,da,List.length_cons,List.length_nil];omega)) O<|U ?_
  refine D.p 21 O [1,3,4] cy (s.bs (l:=([(⟨⟨#[119]⟩++bm x3.ID,((bm x3.av++bm x3.Rights)++bm x3.aO)++bm x3.From,false⟩:Change)]:List Change)) bX bR O O O O O O O) fun b7=>?_
  refine D.p 22 O [1,3,4] cy (s.app 2 _ O O O (cm 0 O) je aE aE (fun _=>rfl) O) fun v3=>?_
  refine D.l [23] [1,3,4] cy O<|U ?_
  refine D.done<|U ?_
  refine R.back (i+1,v3,(l3++([(⟨⟨#[119]⟩++bm x3.ID,((bm x3.av++bm x3.Rights)++bm x3.aO)++bm x3.From,false⟩:Change)]))) O (by exact ⟨ae,by rw [lq mK hx3,<- List.append_assoc,<- S3];rfl⟩) aG (sF O) (ck [2,3,4] cy O)
 refine R.dC (fuel:=12) [1,2] O O mixed O<|D.l [0,1,2,4,5] [1,2] cy O<|U ?_
 refine D.p 3 O [1,2] cy (s.c (q.call lw O O (fun w hw=>gN (aK r).ag w (by exact hw.okF eh uc) ae)) O) fun _=>?_
 refine D.p 6 O [1,2] cy (s.c (q.call lw O O (fun w hw=>gN (aK r).ai w (by exact hw.okF eh uc) ae)) O) fun _=>?_
 refine D.l [7,8] [1,2] cy O<|Dm.yy O O (q.cat O O ae) O<|U ?_
 refine D.p 9 O [2,3] cy (s.bs (l:=([(⟨⟨#[120]⟩,bm (aK r).ag++bm (aK r).ai,false⟩:Change)]:List Change)) bX bR O O O O O O O) fun b8=>?_
 refine D.p 10 O [2,3] cy (s.app 1 _ O O O (cm 0 O) je aE aE (fun _=>rfl) O) fun v4=>?_
 refine D.l [11] [2,3] cy O<|U ?_
 refine D.done ?_
 have hz:aQ r=(l3++([(⟨⟨#[120]⟩,bm (aK r).ag++bm (aK r).ai,false⟩:Change)])):=by (unfold aQ rowsOf;rw [S3,oc _ ae];rfl)
 rw [hz]
 exact R.x1 v4 [1,3] []
theorem zn (wK:Value)(a:List Int)(yB:Value)(b:List Int)(w:World)(Ve:Sl w wK a)(Vf:Sl w yB b):Calls Tryz.prog 145 #[wK,yB] w fun e w'=>e = .returned (.bool (decide (a=b)))/\Ext w w':=by
 have OG:=Ve.dY
 have X1:=Vf.dY
 refine R.eV ?_
 refine C (a.length=b.length) ?_ ?_ <;> intro h1
 .
  refine R.loop (fun k:Nat=>[(0,wK),(1,yB),(12,iV (a.length:Int)),(13,iV (k:Int))]) (fun k:Nat=>[]) (fun k:Nat=>[]) (fun k:Nat=>k<=a.length /\ ∀j,j<k->a[j]? = b[j]?) (fun k:Nat=>a.length-k) 0 O (by exact ⟨ae,fun j hj=>absurd hj (Nat.not_lt_zero _)⟩) (sF O) (dE [] [] O) ?_
  rintro k ⟨hk,HA⟩
  refine U ?_
  refine C (k<a.length) ?_ ?_ <;> intro h2
  .
   obtain ⟨x1,hx1⟩:=gE a k
   obtain ⟨x2,hx2⟩:=gE b k
   refine C (x1=x2) ?_ ?_ <;> intro h3
   .
    refine R.cG O mixed ao<|U ?_
    refine R.back (k+1) O (by exact ⟨ae,nW HA hx1 hx2 af⟩) ae (sF O) (dE [] [] O)
   refine R.cG O mixed ao<|U ?_
   refine R.rt ?_
   (exact yA hx1 hx2 af)
  refine R.rt ?_
  (exact qm af af HA)
 refine R.rt ?_
 (exact yx af)
end
section
open Go Go.RowKit
attribute [local irreducible] Run Rg Rq Qt Qa Stp Dg Do Dm bN
theorem J5 {s:ByteArray}{m:Nat}(h:ej s m=true):dP s m=some (numsL s m):=by
 unfold ej at h;unfold numsL
 cases hq:dP s m with|none=>rw [hq] at h;cases h|some l=>rfl
theorem qy {s:ByteArray}{m:Nat}(h:ej s m=true):(numsL s m).length=m/\4*m<=s.size:=Jh (J5 h)
theorem rP {s:ByteArray}{m j:Nat}{x:Int}(h:(numsL s m)[j]? = some x):Jk (dP s m) j=x:=by
 show (((numsL s m)[j]?).getD 0)=x;rw [h];rfl
section
variable {r:aA} {c:Change} {y:UInt8}
theorem lJ (h:¬ c.Key=⟨#[]⟩):¬ c.Key.size=0:=fun e=>h (Ln e)
theorem od {s:ByteArray}{i:Nat}{y:UInt8}(h:s.data[i]? = some y):bq s i=y.toNat:=by unfold bq;rw [h];rfl
theorem Nm (h:c.Key=⟨#[]⟩):rowP r c=(r,false):=by unfold rowP;rw [if_pos (by rw [h];rfl)]
theorem CQ (h0:¬ c.Key=⟨#[]⟩)(hy:c.Key.data[0]? = some y)(e:y.toNat=104)(hb:ej c.Val 1=false∨¬ c.Val.size=4∨¬ c.Key.size=3):rowP r c=(r,false):=by
 unfold rowP;rw [if_neg (lJ h0)];dsimp only;rw [if_pos ((od hy).trans e),if_pos (show (dP c.Val 1).isSome=false∨c.Val.size≠4∨c.Key.size≠3 from hb)]
theorem Pt {a b:UInt8}{n:Int}{v:Bool}(h0:¬ c.Key=⟨#[]⟩)(hy:c.Key.data[0]? = some y)(e:y.toNat=104)(hb:ej c.Val 1=true)(h4:c.Val.size=4)(h3:c.Key.size=3)(ha:c.Key.data[1]? = some a)(hbb:c.Key.data[2]? = some b)
 (hn:(numsL c.Val 1)[0]? = some n) (hv:v=decide (aY ⟨(a.toNat:Int)-48,(b.toNat:Int)-48⟩=0)):rowP r c=(⟨r.aj,r.Things,r.Held++[⟨⟨(a.toNat:Int)-48,(b.toNat:Int)-48⟩,n⟩],r.Notes,r.ag,r.ai⟩,v):=by
 unfold rowP;rw [if_neg (lJ h0)];dsimp only
 rw [if_pos ((od hy).trans e),if_neg (show ¬ ((dP c.Val 1).isSome=false∨c.Val.size≠4∨c.Key.size≠3) from (by show ¬ (ej c.Val 1=false∨c.Val.size≠4∨c.Key.size≠3);rw [hb,h4,h3];simp)),rP hn,hv]
 unfold Ji Uk Oe;rw [od ha,od hbb]
def FN (c:Change):Bool:=ej (c.Key.extract 1 c.Key.size) 1&&decide (c.Key.size=5)
theorem S4 (h:ej (c.Key.extract 1 c.Key.size) 1=false):false=FN c:=by unfold FN;rw [h];rfl
theorem Pu (h:¬ c.Key.size=5):false=FN c:=by unfold FN;rw [decide_eq_false h,Bool.and_false]
theorem Pv (h:ej (c.Key.extract 1 c.Key.size) 1=true)(h5:c.Key.size=5):true=FN c:=by unfold FN;rw [h,decide_eq_true h5];rfl
theorem Nn (h:FN c=true):(numsL (c.Key.extract 1 c.Key.size) 1).length=1:=by
 unfold FN at h;rw [Bool.and_eq_true] at h;exact (qy h.1).1
theorem CR (h0:¬ c.Key=⟨#[]⟩)(hy:c.Key.data[0]? = some y)(e:y.toNat=116)(hb:FN c=false∨ej c.Val 1=false∨12<c.Val.size):rowP r c=(r,false):=by
 unfold rowP;rw [if_neg (lJ h0)];dsimp only
 rw [if_neg (by rw [od hy];omega),if_pos ((od hy).trans e),if_pos (show ((dP (c.Key.extract 1 c.Key.size) 1).isSome&&decide (c.Key.size=5))=false∨(dP c.Val 1).isSome=false∨12<c.Val.size from hb)]
theorem Fo {k n:Int}{v:Bool}(h0:¬ c.Key=⟨#[]⟩)(hy:c.Key.data[0]? = some y)(e:y.toNat=116)(hk:FN c=true)(hb:ej c.Val 1=true)(h12:¬ 12<c.Val.size)
 (hi:(numsL (c.Key.extract 1 c.Key.size) 1)[0]? = some k) (hn:(numsL c.Val 1)[0]? = some n) (hv:v=decide (n=1∨n=2/\c.Val.size=4)):rowP r c=(⟨r.aj,r.Things++[⟨k,n,c.Val.extract 4 c.Val.size⟩],r.Held,r.Notes,r.ag,r.ai⟩,v):=by
 unfold rowP;rw [if_neg (lJ h0)];dsimp only
 rw [if_neg (by rw [od hy];omega),if_pos ((od hy).trans e),if_neg (show ¬ (((dP (c.Key.extract 1 c.Key.size) 1).isSome&&decide (c.Key.size=5))=false∨(dP c.Val 1).isSome=false∨12<c.Val.size) from (by
  show ¬ (FN c=false∨ej c.Val 1=false∨12<c.Val.size)
  rw [hk,hb];simp;omega)),rP hn,rP hi,hv]
 rfl
theorem CS (h0:¬ c.Key=⟨#[]⟩)(hy:c.Key.data[0]? = some y)(e:y.toNat=119)(hb:FN c=false∨ej c.Val 4=false∨¬ c.Val.size=16):rowP r c=(r,false):=by
 unfold rowP;rw [if_neg (lJ h0)];dsimp only
 rw [if_neg (by rw [od hy];omega),if_neg (by rw [od hy];omega),if_pos ((od hy).trans e),if_pos (show ((dP (c.Key.extract 1 c.Key.size) 1).isSome&&decide (c.Key.size=5))=false∨(dP c.Val 4).isSome=false∨c.Val.size≠16 from hb)]
theorem VX {k n0 n1 n2 n3:Int}(h0:¬ c.Key=⟨#[]⟩)(hy:c.Key.data[0]? = some y)(e:y.toNat=119)(hk:FN c=true)(hb:ej c.Val 4=true)(h16:c.Val.size=16)
 (hi:(numsL (c.Key.extract 1 c.Key.size) 1)[0]? = some k) (a0:(numsL c.Val 4)[0]? = some n0) (a1:(numsL c.Val 4)[1]? = some n1) (a2:(numsL c.Val 4)[2]? = some n2) (a3:(numsL c.Val 4)[3]? = some n3):rowP r c=(⟨r.aj++[⟨k,n0,n1,n2,n3⟩],r.Things,r.Held,r.Notes,r.ag,r.ai⟩,true):=by
 unfold rowP;rw [if_neg (lJ h0)];dsimp only
 rw [if_neg (by rw [od hy];omega),if_neg (by rw [od hy];omega),if_pos ((od hy).trans e),if_neg (show ¬ (((dP (c.Key.extract 1 c.Key.size) 1).isSome&&decide (c.Key.size=5))=false∨(dP c.Val 4).isSome=false∨c.Val.size≠16) from (by
  show ¬ (FN c=false∨ej c.Val 4=false∨c.Val.size≠16)
  rw [hk,hb,h16];simp)),rP hi,rP a0,rP a1,rP a2,rP a3]
 rfl
theorem CU (h0:¬ c.Key=⟨#[]⟩)(hy:c.Key.data[0]? = some y)(e1:¬ y.toNat=104)(e2:¬ y.toNat=116)(e3:¬ y.toNat=119)(hb:¬ c.Key=⟨#[120]⟩∨ej c.Val 2=false∨¬ c.Val.size=8):rowP r c=(r,false):=by
 unfold rowP;rw [if_neg (lJ h0)];dsimp only
 rw [if_neg (by rw [od hy];omega),if_neg (by rw [od hy];omega),if_neg (by rw [od hy];omega),if_pos (show c.Key≠kX∨(dP c.Val 2).isSome=false∨c.Val.size≠8 from hb)]
theorem Xx {n0 n1:Int}(h0:¬ c.Key=⟨#[]⟩)(hy:c.Key.data[0]? = some y)(e1:¬ y.toNat=104)(e2:¬ y.toNat=116)(e3:¬ y.toNat=119)(hk:c.Key=⟨#[120]⟩)(hb:ej c.Val 2=true)(h8:c.Val.size=8)(a0:(numsL c.Val 2)[0]? = some n0)(a1:(numsL c.Val 2)[1]? = some n1) :
 rowP r c=(⟨r.aj,r.Things,r.Held,r.Notes,n0,n1⟩,true):=by
 unfold rowP;rw [if_neg (lJ h0)];dsimp only
 rw [if_neg (by rw [od hy];omega),if_neg (by rw [od hy];omega),if_neg (by rw [od hy];omega),if_neg (show ¬ (c.Key≠kX∨(dP c.Val 2).isSome=false∨c.Val.size≠8) from (by
  show ¬ (c.Key≠⟨#[120]⟩∨ej c.Val 2=false∨c.Val.size≠8)
  rw [hb,h8];simp [hk])),rP a0,rP a1]
 rfl
end
attribute [local irreducible] numsL ej FN rowP
theorem wR (NG:Nat)(cD cM dt cp:Value)(r:aA)(c:Change)(w:World)(own:List Nat)(H:HN w own [ah.box NG [cD,cM,dt,cp,iV r.ag,iV r.ai] 48,ah.row 126 cD r.aj,ah.row 103 cM r.Things,ah.row 124 dt r.Held,ah.row 91 cp r.Notes] [eh])(hc:c.Key.size<=1000/\c.Val.size<=1000)(hr:r.aj.length<=1000/\r.Things.length<=1000/\r.Held.length<=1000):RS Tryz.prog 81 #[pV NG,.agg #[.string c.Key,.string c.Val,.bool c.Gone]] H (rowP r c) (fun s (_:Value×Value×Value×Value) => .bool s.2) (fun s z=>[ah.box NG [z.1,z.2.1,z.2.2.1,z.2.2.2,iV s.1.ag,iV s.1.ai] 48,ah.row 126 z.1 s.1.aj,ah.row 103 z.2.1 s.1.Things,ah.row 124 z.2.2.1 s.1.Held,ah.row 91 z.2.2.2 s.1.Notes]) (fun _ _=>[]):=by
 have Tv:=H.cap 1 rfl;have bS:=H.cz 1 rfl
 have S5:=H.cap 2 rfl;have bH:=H.cz 2 rfl
 have VY:=H.cap 3 rfl;have cu:=H.cz 3 rfl
 have Tw:=H.cap 4 rfl;have bT:=H.cz 4 rfl
 refine R.eN H ?_
 refine R.nb fun b1=>?_
 refine C (c.Key=⟨#[]⟩) ?_ ?_ <;> intro h1
 .
  refine R.q (q.iQ O O h1) O<|U ?_
  rw [show rowP r c=_ from Nm af]
  exact R.x1 (cD,cM,dt,cp) Dc []
 refine R.q (q.iR O O h1) O<|U ?_
 have kp:=lJ (c:=c) af
 refine U ?_
 refine R.q (q.Dr (i:=1) O O Tryz.underlying9 O ae) O<|R.s O (s.aJ jF [0] _ _ _ O O O yv O O (fun w own hw H=>lp (c.Key.extract 1 c.Key.size) 1 w own H (by rw [ByteArray.size_extract];omega)) O) fun z1=>V ?_
 refine R.cut 1 (fun b:Bool=>[(0,pV NG),(3,pV b1),(5,z1),(6,.bool b)]) (fun b:Bool=>[ah.row 3 z1 (numsL (c.Key.extract 1 c.Key.size) 1),ah.box b1 (Kv c) 115,ah.box NG [cD,cM,dt,cp,iV r.ag,iV r.ai] 48,ah.row 126 cD r.aj,ah.row 103 cM r.Things,ah.row 124 dt r.Held,ah.row 91 cp r.Notes,ah.held w own]) (fun b:Bool=>[eh]) (fun b:Bool=>b=FN c) O O O ?_ ?_
 .
  refine U ?_
  rcases Bool.eq_false_or_eq_true (ej (c.Key.extract 1 c.Key.size) 1) with h2|h2
  .
   rw [h2]
   refine U ?_
   refine C (c.Key.size=5) ?_ ?_ <;> intro h3
   .exact R.meet true O (by exact Pv af ae) (sF O) (dE bL [0] O)
   exact R.meet false O (by exact Pu ae) (sF O) (dE bL [0] O)
  rw [h2]
  refine U ?_
  exact R.meet false O (by exact S4 af) (sF O) (dE bL [0] O)
 rintro b hC
 refine U ?_
 obtain ⟨y1,hy1⟩:∃z,c.Key.data[0]? = some z:=⟨_,Array.getElem?_eq_getElem (show 0<c.Key.size from by omega)⟩
 have Vi:=y1.toNat_lt
 refine R.q (q.gW (i:=0) O O Tryz.underlying9 O hy1) O<|U ?_
 refine C (y1.toNat=104) ?_ ?_ <;> intro h4
 .
  refine R.s O (s.aJ bL [0] _ _ _ O O O yv O O (fun w own hw H=>lp c.Val 1 w own H ae) O) fun z2=>U ?_
  refine R.q (q.not O) O<|U ?_
  rcases Bool.eq_false_or_eq_true (ej c.Val 1) with h5|h5
  .
   rw [h5]
   refine U ?_
   refine C (c.Val.size=4) ?_ ?_ <;> intro h6
   .
    refine C (c.Key.size=3) ?_ ?_ <;> intro h7
    .
     obtain ⟨y2,hy2⟩:∃z,c.Key.data[1]? = some z:=⟨_,Array.getElem?_eq_getElem (show 1<c.Key.size from by omega)⟩
     have Vj:=y2.toNat_lt
     obtain ⟨y3,hy3⟩:∃z,c.Key.data[2]? = some z:=⟨_,Array.getElem?_eq_getElem (show 2<c.Key.size from by omega)⟩
     have Wc:=y3.toNat_lt
     refine R.dC (fuel:=13) cy O O mixed O<|D.l sJ cy [0] O<|U ?_
     refine Dm.yy O O (q.gW (i:=1) O O Tryz.underlying9 O hy2) O<|Dm.yy O O (q.mJ (r:=((y2.toNat:Nat):Int)) O (by rw [Tryz.underlying5];rfl) Tryz.underlying3 (wr ae)) O<|Dm.yy O O (q.jY (r:=(y2.toNat:Int)-48) O O) O<|U ?_
     refine Dm.yy O O (q.gW (i:=2) O O Tryz.underlying9 O hy3) O<|Dm.yy O O (q.mJ (r:=((y3.toNat:Nat):Int)) O (by rw [Tryz.underlying5];rfl) Tryz.underlying3 (wr ae)) O<|Dm.yy O O (q.jY (r:=(y3.toNat:Int)-48) O O) O<|U ?_
     refine D.p 11 O ly [0] (s.alloc LS O O) fun b2=>?_
     refine D.p 12 O ly [0] (s.st 0 _ O O O O (.inl OA) O O O O) fun _=>?_
     refine D.done ?_
     have Zx:=qy (s:=c.Val) (m:=1) af
     obtain ⟨x1,hx1⟩:=gE (numsL c.Val 1) 0
     refine R.dC (fuel:=15) [0,1,2,3,5,6,8,9] O O mixed O<|D.l [0,1,2,3,5,6,7,8,9] [0,1,2,3,5,6,8,9] [0] O<|U ?_
     refine D.two (i:=4) (j:=10) O O ?_ ?_
     .
      refine Do.k [0,1,2,3,5,6,8,9] [0] (q.ld 4 O O hX O) ?_
      refine D.p 10 O sL [0] (s.bs (l:=([(⟨(⟨(y2.toNat:Int)-48,(y3.toNat:Int)-48⟩:Place),x1⟩:Held)]:List Held)) cd cx O O O O O O O) fun b3=>?_
      refine D.p 11 O sL [0] (s.app 8 _ O O O (cm 0 O) m7 aE aE (fun _=>rfl) O) fun v1=>?_
      refine D.l [12,13] sL [0] O<|U ?_
      refine D.p 14 O sL [0] (s.lr 5 _ O O O (fun w hw=>Sl.cL (hw.row 8 O)) (.inr ⟨hX,rfl⟩) (fun w hw=>br (Sl.one (hw.row 8 O)) bV) O O O) fun _=>?_
      refine D.done<|U ?_
      refine R.kc O O (fun w hw=>jS (⟨(y2.toNat:Int)-48,(y3.toNat:Int)-48⟩:Place) w)<|C (aY (⟨(y2.toNat:Int)-48,(y3.toNat:Int)-48⟩:Place)=0) ?_ ?_ <;> intro h8
      .
       rw [show rowP r c=_ from Pt af hy1 ae af ae ae hy2 hy3 af (decide_eq_true af).symm]
       exact R.x1 (cD,cM,v1,cp) [5,6,7,8,9,10] []
      rw [show rowP r c=_ from Pt af hy1 ae af ae ae hy2 hy3 af (decide_eq_false af).symm]
      exact R.x1 (cD,cM,v1,cp) [5,6,7,8,9,10] []
     refine Do.p sL [0] (s.bs (l:=([(⟨(⟨(y2.toNat:Int)-48,(y3.toNat:Int)-48⟩:Place),x1⟩:Held)]:List Held)) cd cx O O O O O O O) fun b4=>?_
     refine D.k 4 O sL [0] (q.ld 5 O O hX O) ?_
     refine D.p 11 O sL [0] (s.app 8 _ O O O (cm 0 O) m7 aE aE (fun _=>rfl) O) fun v2=>?_
     refine D.l [12,13] sL [0] O<|U ?_
     refine D.p 14 O sL [0] (s.lr 5 _ O O O (fun w hw=>Sl.cL (hw.row 8 O)) (.inr ⟨hX,rfl⟩) (fun w hw=>br (Sl.one (hw.row 8 O)) bV) O O O) fun _=>?_
     refine D.done<|U ?_
     refine R.kc O O (fun w hw=>jS (⟨(y2.toNat:Int)-48,(y3.toNat:Int)-48⟩:Place) w)<|C (aY (⟨(y2.toNat:Int)-48,(y3.toNat:Int)-48⟩:Place)=0) ?_ ?_ <;> intro h9
     .
      rw [show rowP r c=_ from Pt af hy1 ae af ae ae hy2 hy3 af (decide_eq_true af).symm]
      exact R.x1 (cD,cM,v2,cp) [5,6,7,8,9,10] []
     rw [show rowP r c=_ from Pt af hy1 ae af ae ae hy2 hy3 af (decide_eq_false af).symm]
     exact R.x1 (cD,cM,v2,cp) [5,6,7,8,9,10] []
    rw [show rowP r c=_ from CQ af hy1 ae (.inr (.inr ae))]
    exact R.x1 (cD,cM,dt,cp) mL []
   rw [show rowP r c=_ from CQ af hy1 ae (.inr (.inl ae))]
   exact R.x1 (cD,cM,dt,cp) mL []
  rw [h5]
  refine U ?_
  rw [show rowP r c=_ from CQ af hy1 ae (.inl af)]
  exact R.x1 (cD,cM,dt,cp) mL []
 refine C (y1.toNat=116) ?_ ?_ <;> intro h10
 .
  refine R.s O (s.aJ bL [0] _ _ _ O O O yv O O (fun w own hw H=>lp c.Val 1 w own H ae) O) fun z3=>U ?_
  refine R.q (q.not O) O<|U ?_
  cases b
  .
   refine U ?_
   rw [show rowP r c=_ from CR af hy1 ae (.inl hC.symm)]
   exact R.x1 (cD,cM,dt,cp) mL []
  refine U ?_
  refine R.qg O (q.not O) O<|U ?_
  rcases Bool.eq_false_or_eq_true (ej c.Val 1) with h11|h11
  .
   rw [h11]
   refine U ?_
   refine C (12<c.Val.size) ?_ ?_ <;> intro h12
   .
    rw [show rowP r c=_ from CR af hy1 ae (.inr (.inr ae))]
    exact R.x1 (cD,cM,dt,cp) mL []
   have ek:=Nn (c:=c) hC.symm
   have Zx:=qy (s:=c.Val) (m:=1) af
   obtain ⟨x2,hx2⟩:=gE (numsL (c.Key.extract 1 c.Key.size) 1) 0
   obtain ⟨x3,hx3⟩:=gE (numsL c.Val 1) 0
   refine R.dC (fuel:=20) [0,1,2,4,6,7,8] O O mixed O<|D.l [0,1,2,3,5,6,7,8,9,10,11,12,13,14] [0,1,2,4,6,7,8] [0] O<|U ?_
   refine Dm.yy O O (q.Dr (i:=4) O O Tryz.underlying9 O ae) O<|U ?_
   refine D.two (i:=4) (j:=15) O O ?_ ?_
   .
    refine Do.k [0,1,2,4,6,7,8] [0] (q.ld 3 O O kG O) ?_
    refine D.p 15 O sM [0] (s.bs (l:=([(⟨x2,x3,c.Val.extract 4 c.Val.size⟩:av)]:List av)) kv gT O O O O O O O) fun b5=>?_
    refine D.p 16 O sM [0] (s.app 6 _ O O O (cm 0 O) oS aE aE (fun _=>rfl) O) fun v3=>?_
    refine D.l [17,18] sM [0] O<|U ?_
    refine D.p 19 O sM [0] (s.lr 4 _ O O O (fun w hw=>Sl.cL (hw.row 6 O)) (.inr ⟨kG,rfl⟩) (fun w hw=>br (Sl.one (hw.row 6 O)) bV) O O O) fun _=>?_
    refine D.done<|U ?_
    refine C (x3=1) ?_ ?_ <;> intro Tr
    .
     rw [show rowP r c=_ from Fo af hy1 ae hC.symm af ae af af (decide_eq_true ae).symm]
     exact R.x1 (cD,v3,dt,cp) rF []
    refine C (x3=2) ?_ ?_ <;> intro Wb
    .
     refine C (c.Val.size=4) ?_ ?_ <;> intro W4
     .
      rw [show rowP r c=_ from Fo af hy1 ae hC.symm af ae af af (decide_eq_true ae).symm]
      exact R.x1 (cD,v3,dt,cp) rF []
     rw [show rowP r c=_ from Fo af hy1 ae hC.symm af ae af af (decide_eq_false ae).symm]
     exact R.x1 (cD,v3,dt,cp) rF []
    rw [show rowP r c=_ from Fo af hy1 ae hC.symm af ae af af (decide_eq_false ae).symm]
    exact R.x1 (cD,v3,dt,cp) rF []
   refine Do.p sM [0] (s.bs (l:=([(⟨x2,x3,c.Val.extract 4 c.Val.size⟩:av)]:List av)) kv gT O O O O O O O) fun b6=>?_
   refine D.k 4 O sM [0] (q.ld 4 O O kG O) ?_
   refine D.p 16 O sM [0] (s.app 6 _ O O O (cm 0 O) oS aE aE (fun _=>rfl) O) fun v4=>?_
   refine D.l [17,18] sM [0] O<|U ?_
   refine D.p 19 O sM [0] (s.lr 4 _ O O O (fun w hw=>Sl.cL (hw.row 6 O)) (.inr ⟨kG,rfl⟩) (fun w hw=>br (Sl.one (hw.row 6 O)) bV) O O O) fun _=>?_
   refine D.done<|U ?_
   refine C (x3=1) ?_ ?_ <;> intro h16
   .
    rw [show rowP r c=_ from Fo af hy1 ae hC.symm af ae af af (decide_eq_true ae).symm]
    exact R.x1 (cD,v4,dt,cp) rF []
   refine C (x3=2) ?_ ?_ <;> intro Vh
   .
    refine C (c.Val.size=4) ?_ ?_ <;> intro h18
    .
     rw [show rowP r c=_ from Fo af hy1 ae hC.symm af ae af af (decide_eq_true ae).symm]
     exact R.x1 (cD,v4,dt,cp) rF []
    rw [show rowP r c=_ from Fo af hy1 ae hC.symm af ae af af (decide_eq_false ae).symm]
    exact R.x1 (cD,v4,dt,cp) rF []
   rw [show rowP r c=_ from Fo af hy1 ae hC.symm af ae af af (decide_eq_false ae).symm]
   exact R.x1 (cD,v4,dt,cp) rF []
  rw [h11]
  refine U ?_
  rw [show rowP r c=_ from CR af hy1 ae (.inr (.inl af))]
  exact R.x1 (cD,cM,dt,cp) mL []
 refine C (y1.toNat=119) ?_ ?_ <;> intro h19
 .
  refine R.s O (s.aJ bL [0] _ _ _ O O O yv O O (fun w own hw H=>lp c.Val 4 w own H ae) O) fun z4=>U ?_
  refine R.q (q.not O) O<|U ?_
  cases b
  .
   refine U ?_
   rw [show rowP r c=_ from CS af hy1 ae (.inl hC.symm)]
   exact R.x1 (cD,cM,dt,cp) mL []
  refine U ?_
  refine R.qg O (q.not O) O<|U ?_
  rcases Bool.eq_false_or_eq_true (ej c.Val 4) with h20|h20
  .
   rw [h20]
   refine U ?_
   refine C (c.Val.size=16) ?_ ?_ <;> intro h21
   .
    have ek:=Nn (c:=c) hC.symm
    have ZZ:=qy (s:=c.Val) (m:=4) af
    obtain ⟨x4,hx4⟩:=gE (numsL (c.Key.extract 1 c.Key.size) 1) 0
    obtain ⟨x5,hx5⟩:=gE (numsL c.Val 4) 0
    obtain ⟨x6,hx6⟩:=gE (numsL c.Val 4) 1
    obtain ⟨x7,hx7⟩:=gE (numsL c.Val 4) 2
    obtain ⟨x8,Z0⟩:=gE (numsL c.Val 4) 3
    refine R.dC (fuel:=26) [0,1,2,5,6,7,8] O O mixed O<|D.l [0,1,2,3,5,6,7,8,9,10,11,12,13,14,15,16,17,18,19,20] [0,1,2,5,6,7,8] [0] O<|U ?_
    refine D.two (i:=4) (j:=21) O O ?_ ?_
    .
     refine Do.k [0,1,2,5,6,7,8] [0] (q.ld 3 O O fZ O) ?_
     refine D.p 21 O sN [0] (s.bs (l:=([(⟨x4,x5,x6,x7,x8⟩:ak)]:List ak)) fF dK O O O O O O O) fun b7=>?_
     refine D.p 22 O sN [0] (s.app 5 _ O O O (cm 0 O) m6 aE aE (fun _=>rfl) O) fun v5=>?_
     refine D.l [23,24] sN [0] O<|U ?_
     refine D.p 25 O sN [0] (s.lr 4 _ O O O (fun w hw=>Sl.cL (hw.row 5 O)) (.inr ⟨fZ,rfl⟩) (fun w hw=>br (Sl.one (hw.row 5 O)) bV) O O O) fun _=>?_
     refine D.done<|U ?_
     rw [show rowP r c=_ from VX af hy1 ae hC.symm af ae af af af af af]
     exact R.x1 (v5,cM,dt,cp) rF []
    refine Do.p sN [0] (s.bs (l:=([(⟨x4,x5,x6,x7,x8⟩:ak)]:List ak)) fF dK O O O O O O O) fun b8=>?_
    refine D.k 4 O sN [0] (q.ld 4 O O fZ O) ?_
    refine D.p 22 O sN [0] (s.app 5 _ O O O (cm 0 O) m6 aE aE (fun _=>rfl) O) fun v6=>?_
    refine D.l [23,24] sN [0] O<|U ?_
    refine D.p 25 O sN [0] (s.lr 4 _ O O O (fun w hw=>Sl.cL (hw.row 5 O)) (.inr ⟨fZ,rfl⟩) (fun w hw=>br (Sl.one (hw.row 5 O)) bV) O O O) fun _=>?_
    refine D.done<|U ?_
    rw [show rowP r c=_ from VX af hy1 ae hC.symm af ae af af af af af]
    exact R.x1 (v6,cM,dt,cp) rF []
   rw [show rowP r c=_ from CS af hy1 ae (.inr (.inr ae))]
   exact R.x1 (cD,cM,dt,cp) mL []
  rw [h20]
  refine U ?_
  rw [show rowP r c=_ from CS af hy1 ae (.inr (.inl af))]
  exact R.x1 (cD,cM,dt,cp) mL []
 refine R.s O (s.aJ bL [0] _ _ _ O O O yv O O (fun w own hw H=>lp c.Val 2 w own H ae) O) fun z5=>U ?_
 refine C (c.Key=⟨#[120]⟩) ?_ ?_ <;> intro h22
 .
  refine R.q (q.pw O O h22) O<|U ?_
  refine R.qg O (q.not O) O<|U ?_
  rcases Bool.eq_false_or_eq_true (ej c.Val 2) with h23|h23
  .
   rw [h23]
   refine U ?_
   refine C (c.Val.size=8) ?_ ?_ <;> intro Z1
   .
    have Z2:=qy (s:=c.Val) (m:=2) af
    obtain ⟨x9,Z3⟩:=gE (numsL c.Val 2) 0
    obtain ⟨x10,Zy⟩:=gE (numsL c.Val 2) 1
    refine R.dC (fuel:=14) Df O O mixed O<|D.l j1 Df [0] O<|U ?_
    refine D.p 10 O Df [0] (s.st 3 _ O O O O (.inr ⟨dX,rfl⟩) O O O O) fun _=>?_
    refine D.l [11,12] Df [0] O<|U ?_
    refine D.p 13 O Df [0] (s.st 3 _ O O O O (.inr ⟨dX,rfl⟩) O O O O) fun _=>?_
    refine D.done<|U ?_
    rw [show rowP r c=_ from Xx af hy1 ae ae ae af af ae af af]
    exact R.x1 (cD,cM,dt,cp) mL []
   rw [show rowP r c=_ from CU af hy1 ae ae ae (.inr (.inr ae))]
   exact R.x1 (cD,cM,dt,cp) mL []
  rw [h23]
  refine U ?_
  rw [show rowP r c=_ from CU af hy1 ae ae ae (.inr (.inl af))]
  exact R.x1 (cD,cM,dt,cp) mL []
 refine R.q (q.rG O O h22) O<|U ?_
 rw [show rowP r c=_ from CU af hy1 ae ae ae (.inl af)]
 exact R.x1 (cD,cM,dt,cp) mL []
end
end Go.Proofs.YtnmpibjlnninjaaGreatDoor
