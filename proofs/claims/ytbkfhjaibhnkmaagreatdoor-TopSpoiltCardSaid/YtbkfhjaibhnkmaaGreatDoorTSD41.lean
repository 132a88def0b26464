import Derived.Test.YtbkfhjaibhnkmaaGreatDoorTSD37
import Derived.Test.YtbkfhjaibhnkmaaGreatDoorTSD38
import Derived.Test.YtbkfhjaibhnkmaaGreatDoorTSD40
namespace Go.Proofs.YtbkfhjaibhnkmaaGreatDoor
open Go Go.RowKit
set_option linter.unusedVariables false
set_option linter.unusedSimpArgs false
set_option maxRecDepth 100000
theorem fj (n:Int)(w:World)(ht:tq w)(hn : -9223372036854775808≤n∧n≤9223372036854775807):Calls Tryz.prog 47 #[iV n] w fun e w'=>e = .returned (.string (bf n))∧Ext w w':=by
 have il:=oX hn;have ip:=xl n
 refine R.enter (n:=13) (vs:=[iV n]) [] [(0,iV n)] Tryz.func47 rfl rfl rfl rfl ?_
 refine R.nZ (r:=bz) ht (uw ht) ?_
 refine R.reg rfl<|R.u 1 rfl<|R.nil ?_
 refine R.reg rfl<|R.u 1 rfl<|R.c (q.call vS rfl rfl (fun w hw=>(oW (n) w  (by exact hw.okF bz (by repeat (first|exact List.Mem.head _|refine List.Mem.tail _ ?_))) (by first|assumption|omega)))) rfl<|R.u 1 rfl<|R.nil ?_
 refine R.reg rfl<|R.u 1 rfl<|R.q (q.lh rfl Tryz.underlying9) rfl<|R.q (q.sub (r:=4-((dV n).size:Int)) rfl rfl (wr (by omega))) rfl<|R.q (q.max (r:=max 0 (4-((dV n).size:Int))) rfl rfl rfl) rfl<|R.c (q.call Cn rfl rfl (fun w hw=>(tj (⟨#[48]⟩) ((max 0 (4-((dV n).size:Int)))) w  (rfl) (by omega)))) rfl<|R.u 1 rfl<|R.q (q.cat rfl rfl (by first|omega|(rw [ux];omega))) rfl<|R.u 1 rfl<|R.nil ?_
 exact R.rv rfl Tryz.results47 rfl (rS (by (unfold bf;rw [show (max 0 (4-((dV n).size:Int))).toNat=4-(dV n).size by omega])))
def numsL (s:ByteArray)(m:Nat):List Int:=(bV s m).getD []
def cS (s:ByteArray)(m:Nat):Bool:=(bV s m).isSome
theorem nI {s:ByteArray}{m:Nat}(h:s.size<4*m):(numsL s m,cS s m)=([],false):=by unfold numsL cS bV;rw [if_pos h];rfl
theorem gS {s:ByteArray}{m k:Nat}{l:List Int}(h:¬ s.size<4*m)(hk:k<m)(hl:fL s k=some l)(hn:mb (s.extract (4*k) (4*k+4))=none):(numsL s m,cS s m)=([],false):=by
 unfold numsL cS bV;rw [if_neg h,vm hk hl hn];rfl
theorem nJ {s:ByteArray}{m:Nat}{l:List Int}(h:¬ s.size<4*m)(hl:fL s m=some l):(numsL s m,cS s m)=(l,true):=by
 unfold numsL cS bV;rw [if_neg h,hl];rfl
theorem nK {s:ByteArray}(h:¬ (Lib.atoi s.data.toList).isSome=true):mb s=none:=by
 unfold mb;cases hq:Lib.atoi s.data.toList with|none=>rfl|some n=>rw [hq] at h;exact absurd rfl h
theorem nL {s:ByteArray}(h:¬ bf (aV s)=s):mb s=none:=by
 unfold mb;unfold aV at h
 cases hq:Lib.atoi s.data.toList with
 | none=>rfl
 | some n=>rw [hq] at h;dsimp only;exact if_neg h
theorem xq {s:ByteArray}(h:(Lib.atoi s.data.toList).isSome=true)(he:bf (aV s)=s):mb s=some (aV s):=by
 unfold mb;unfold aV at he ⊢
 cases hq:Lib.atoi s.data.toList with
 | none=>rw [hq] at h;cases h
 | some n=>rw [hq] at he;dsimp only;exact if_pos he
theorem gT (sb:ByteArray)(m:Nat)(w:World)(own:List Nat)(H:Wd w (blks []++own) ([]++[ag.held w own]) [bz] w)(hs:sb.size≤1000000∧m≤4):Calls Tryz.prog 98 #[.string sb,iV (m:Int)] w fun e w' => ∃z:Value,e = .returned (.tuple #[z,.bool ((cS sb m))])∧Wd w (blks []++own) ([ag.row 3 z ((numsL sb m):List Int)]++[ag.held w own]) [] w':=by
 refine R.dc (n:=50) (vs:=[.string sb,iV (m:Int)]) (B:=[ag.held w own]) [(0,.string sb),(1,iV (m:Int))] Tryz.func98 rfl rfl rfl rfl H ?_
 refine R.reg rfl<|R.u 2 rfl<|R.nil ?_
 refine R.reg rfl<|R.u 1 rfl<|R.q (q.lh rfl Tryz.underlying9) rfl<|R.u 1 rfl<|R.q (q.mul (r:=((4*m:Nat):Int)) rfl rfl (wr (by omega))) rfl<|?_
 by_cases h1:sb.size<(4*m)
 ·
  refine R.q (q.lss rfl rfl (decide_eq_true (by omega))) rfl<|R.nil ?_
  refine R.aD rfl rfl ?_
  refine R.reg rfl<|R.u 2 rfl<|R.nil ?_
  refine R.row0 (α:=Int) 3 ?_
  have hz:(numsL sb m,cS sb m)=([],false):=by (first|exact nI (by omega)|exact gS (by omega) (by omega) HL (nK ‹_›)|exact gS (by omega) (by omega) HL (nL ‹_›)|(have e:k=m:=(by omega);subst e;exact nJ (by omega) HL))
  have hz0:numsL sb m=[]:=congrArg (fun t_=>t_.1) hz
  rw [hz0]
  have hz1:cS sb m=false:=congrArg (fun t_=>t_.2) hz
  rw [hz1]
  exact R.w2 (nS) [0,1] [] rfl Tryz.results98 (RV.tmp rfl) (RV.tmp rfl) rfl rfl rfl (cL rfl rfl)
 ·
  refine R.q (q.lss rfl rfl (decide_eq_false (by omega))) rfl<|R.nil ?_
  refine R.aI rfl rfl ?_
  refine R.reg rfl<|R.u 1 rfl<|R.nil ?_
  refine R.reg rfl<|R.u 2 rfl<|R.nil ?_
  refine R.row0 (α:=Int) 3 ?_
  refine R.loop (fun g_:Nat×Value×(List Int)=>[(0,.string sb),(6,g_.2.1),(15,iV (m:Int)),(16,iV (g_.1:Int))]) (fun g_:Nat×Value×(List Int)=>[ag.row 3 g_.2.1 (g_.2.2:List Int),ag.held w own]) (fun g_:Nat×Value×(List Int)=>[bz]) (fun g_:Nat×Value×(List Int)=>g_.1≤m∧fL sb g_.1=some g_.2.2) (fun g_:Nat×Value×(List Int)=>m-g_.1) (0,(nS),[]) rfl (by exact ⟨by omega,rfl⟩) ⟨rfl,rfl,rfl,rfl,trivial⟩ (fun _=>Wd.pick [0,1] [0] rfl rfl rfl) ?_
  rintro ⟨k,u,l⟩ ⟨hk,HL⟩
  dsimp only at *
  have ab:=xk (s:=sb.extract (4*k) (4*k+4)) (by rw [ByteArray.size_extract];omega);have gl:=jk HL
  refine R.reg rfl<|?_
  by_cases h2:k<m
  ·
   refine R.q (q.lss rfl rfl (decide_eq_true (by omega))) rfl<|R.nil ?_
   refine R.aD rfl rfl ?_
   refine R.reg rfl<|R.u 2 rfl<|R.nil ?_
   refine R.reg rfl<|R.u 2 rfl<|R.q (q.mul (r:=((4*k:Nat):Int)) rfl rfl (wr (by omega))) rfl<|R.u 1 rfl<|R.q (q.mul (r:=((4*k:Nat):Int)) rfl rfl (wr (by omega))) rfl<|R.q (q.add (r:=(((4*k)+4:Nat):Int)) rfl rfl (wr (by omega))) rfl<|R.q (q.Dn (i:=(4*k)) (j:=((4*k)+4)) rfl rfl rfl Tryz.underlying9 rfl rfl (by omega) (by omega)) rfl<|?_
   by_cases h3:(Lib.atoi (sb.extract (4*k) ((4*k)+4)).data.toList).isSome=true
   ·
    refine R.c (q.call v7 rfl rfl (fun w hw=>(xh ((sb.extract (4*k) ((4*k)+4))) w  ‹_› (by rw [ByteArray.size_extract];omega)))) rfl<|R.u 5 rfl<|R.nil ?_
    by_cases h4:bf (aV (sb.extract (4*k) ((4*k)+4)))=(sb.extract (4*k) ((4*k)+4))
    ·
     refine R.dM rfl mixed (by kernel_rfl)<|Q.u 1 rfl<|Q.q (q.vJ rfl rfl Tryz.underlying35) rfl<|Q.u 2 rfl<|Q.cg rfl (q.call jR rfl rfl (fun w hw=>(fj (aV (sb.extract (4*k) ((4*k)+4))) w  (by exact hw.okF bz (by repeat (first|exact List.Mem.head _|refine List.Mem.tail _ ?_))) (by first|assumption|omega)))) rfl<|Q.u 2 rfl<|Q.qg rfl (q.mul (r:=((4*k:Nat):Int)) rfl rfl (wr (by omega))) rfl<|Q.u 1 rfl<|Q.qg rfl (q.mul (r:=((4*k:Nat):Int)) rfl rfl (wr (by omega))) rfl<|Q.qg rfl (q.add (r:=(((4*k)+4:Nat):Int)) rfl rfl (wr (by omega))) rfl<|Q.qg rfl (q.Dn (i:=(4*k)) (j:=((4*k)+4)) rfl rfl rfl Tryz.underlying9 rfl rfl (by omega) (by omega)) rfl<|Q.qg rfl (q.qN rfl rfl h4) rfl<|Q.u 1 rfl<|Q.nil ?_
     refine R.aI rfl rfl ?_
     refine R.reg rfl<|R.u 2 rfl<|R.s rfl (s.bs (l:=([aV (sb.extract (4*k) ((4*k)+4))]:List Int)) ct iH rfl rfl rfl rfl rfl rfl rfl) fun b1=>R.s rfl (s.app (l2:=[aV (sb.extract (4*k) ((4*k)+4))]) 1 _ rfl rfl rfl (fun _=>Wd.row 0 rfl) jz (by first|omega|(simp;done)|(simp;omega)) (by first|omega|(simp;done)|(simp;omega)) (fun _=>rfl) rfl) fun v1=>R.u 1 rfl<|R.nil ?_
     refine R.reg rfl<|R.q (q.add (r:=((k+1:Nat):Int)) rfl rfl (wr (by omega))) rfl<|R.u 1 rfl<|R.nil ?_
     refine R.back (k+1,v1,(l++([aV (sb.extract (4*k) ((4*k)+4))]))) rfl (by (exact ⟨by omega,oS HL (xq ‹_› ‹_›)⟩)) (by dsimp only;omega) ⟨rfl,rfl,rfl,rfl,trivial⟩ (fun _=>Wd.aM [1,2] [0] rfl rfl rfl)
    ·
     refine R.dM rfl mixed (by kernel_rfl)<|Q.u 1 rfl<|Q.q (q.vJ rfl rfl Tryz.underlying35) rfl<|Q.u 2 rfl<|Q.cg rfl (q.call jR rfl rfl (fun w hw=>(fj (aV (sb.extract (4*k) ((4*k)+4))) w  (by exact hw.okF bz (by repeat (first|exact List.Mem.head _|refine List.Mem.tail _ ?_))) (by first|assumption|omega)))) rfl<|Q.u 2 rfl<|Q.qg rfl (q.mul (r:=((4*k:Nat):Int)) rfl rfl (wr (by omega))) rfl<|Q.u 1 rfl<|Q.qg rfl (q.mul (r:=((4*k:Nat):Int)) rfl rfl (wr (by omega))) rfl<|Q.qg rfl (q.add (r:=(((4*k)+4:Nat):Int)) rfl rfl (wr (by omega))) rfl<|Q.qg rfl (q.Dn (i:=(4*k)) (j:=((4*k)+4)) rfl rfl rfl Tryz.underlying9 rfl rfl (by omega) (by omega)) rfl<|Q.qg rfl (q.qO rfl rfl h4) rfl<|Q.u 1 rfl<|Q.nil ?_
     refine R.aD rfl rfl ?_
     refine R.reg rfl<|R.u 2 rfl<|R.nil ?_
     refine R.row0 (α:=Int) 3 ?_
     have hz:(numsL sb m,cS sb m)=([],false):=by (first|exact nI (by omega)|exact gS (by omega) (by omega) HL (nK ‹_›)|exact gS (by omega) (by omega) HL (nL ‹_›)|(have e:k=m:=(by omega);subst e;exact nJ (by omega) HL))
     have hz0:numsL sb m=[]:=congrArg (fun t_=>t_.1) hz
     rw [hz0]
     have hz1:cS sb m=false:=congrArg (fun t_=>t_.2) hz
     rw [hz1]
     exact R.w2 (nS) [0,2] [] rfl Tryz.results98 (RV.tmp rfl) (RV.tmp rfl) rfl rfl rfl (cL rfl rfl)
   ·
    refine R.s (B':=(fun aH:Value=>[ag.row 3 u (l:List Int),ag.held w own])) (F':=(fun aH:Value=>[bz])) rfl (s.bJ (B0:=[]) (Br:=[ag.row 3 u (l:List Int),ag.held w own]) (F0:=[bz]) [0,1] [0] (fun aH:Value => .tuple #[iV 0,.iface 219 (aH)]) (fun aH:Value=>[]) (fun aH:Value=>[]) rfl rfl rfl v7 rfl rfl (fun w own hw H=>xj ((sb.extract (4*k) ((4*k)+4))) w own H ‹_› (by rw [ByteArray.size_extract];omega)) rfl) fun z1=>R.u 5 rfl<|R.nil ?_
    refine R.dM rfl mixed (by kernel_rfl)<|Q.u 1 rfl<|Q.q (q.yU rfl rfl Tryz.underlying35) rfl<|Q.u 12 rfl<|Q.nil ?_
    refine R.aD rfl rfl ?_
    refine R.reg rfl<|R.u 2 rfl<|R.nil ?_
    refine R.row0 (α:=Int) 3 ?_
    have hz:(numsL sb m,cS sb m)=([],false):=by (first|exact nI (by omega)|exact gS (by omega) (by omega) HL (nK ‹_›)|exact gS (by omega) (by omega) HL (nL ‹_›)|(have e:k=m:=(by omega);subst e;exact nJ (by omega) HL))
    have hz0:numsL sb m=[]:=congrArg (fun t_=>t_.1) hz
    rw [hz0]
    have hz1:cS sb m=false:=congrArg (fun t_=>t_.2) hz
    rw [hz1]
    exact R.w2 (nS) [0,2] [] rfl Tryz.results98 (RV.tmp rfl) (RV.tmp rfl) rfl rfl rfl (cL rfl rfl)
  ·
   refine R.q (q.lss rfl rfl (decide_eq_false (by omega))) rfl<|R.nil ?_
   refine R.aI rfl rfl ?_
   refine R.reg rfl<|R.u 3 rfl<|R.nil ?_
   have hz:(numsL sb m,cS sb m)=(l,true):=by (first|exact nI (by omega)|exact gS (by omega) (by omega) HL (nK ‹_›)|exact gS (by omega) (by omega) HL (nL ‹_›)|(have e:k=m:=(by omega);subst e;exact nJ (by omega) HL))
   have hz0:numsL sb m=l:=congrArg (fun t_=>t_.1) hz
   rw [hz0]
   have hz1:cS sb m=true:=congrArg (fun t_=>t_.2) hz
   rw [hz1]
   exact R.w2 u [0,1] [] rfl Tryz.results98 (RV.tmp rfl) (RV.tmp rfl) rfl rfl rfl (cL rfl rfl)
theorem jm {α β:Type}(f:α→β){L:List α}{k:Nat}{x:α}(hx:L[k]? = some x):(L.take (k+1)).map f=(L.take k).map f++[f x]:=by
 rw [List.take_add_one,hx,List.map_append];rfl
theorem o0 {α β:Type}(f:α→β){L:List α}{k:Nat}(h:L.length≤k):(L.take k).map f=L.map f:=by rw [List.take_of_length_le h]
structure EB (q:ap):Prop where
  i:Inv q
  h:∀x∈q.Held,(dV x.Place.ao).size≤21∧(dV x.Place.Slot).size≤21∧(bf x.aj).size≤25∧0≤x.Place.ao∧x.Place.ao≤4∧0≤x.Place.Slot∧x.Place.Slot≤5∧0≤x.aj∧x.aj≤10000
  t:∀x∈q.Things,(bf x.ID).size≤25∧(bf x.Kind).size≤25∧x.Data.size≤8∧0≤x.ID∧x.ID≤10000∧0≤x.Kind∧x.Kind≤2
  w:∀x∈q.ai,((bf x.ID).size≤25∧(bf x.ah).size≤25∧(bf x.Rights).size≤25∧(bf x.aG).size≤25∧(bf x.From).size≤25)∧0≤x.ID∧x.ID≤999∧0≤x.ah∧x.ah≤999∧0≤x.Rights∧x.Rights≤7∧0≤x.aG∧x.aG≤99∧0≤x.From∧x.From≤999
  n:(bf q.ae).size≤25∧(bf q.af).size≤25
theorem gM {n:Int}(h:0≤n∧n≤10000):(bf n).size≤25:=xm (by omega)
theorem uA {n:Int}(h:0≤n∧n≤10000):(dV n).size≤21:=oX (by omega)
theorem Inv.EC {q:ap}(i:Inv q):EB q where
 i:=i
 h:=fun x hx=>by
  have k:=i.CQ hx;have p:=bS k.1;have k1:=k.2.1;have k2:=k.2.2
  exact ⟨uA (by omega),uA (by omega),gM (by omega),by omega,by omega,by omega,by omega,by omega,by omega⟩
 t:=fun x hx=>by
  have k:=i.Bf hx;have a:=k.i0;have b:=k.i9;have c:=k.kd;have d:=k.ds
  exact ⟨gM (by omega),gM (by omega),d,a,by omega,by omega,by omega⟩
 w:=fun x hx=>by
  have k:=i.tree.mem hx;have i1:=k.id1;have i9:=k.Ah;have t1:=k.Ai;have t9:=k.A9;have a0:=k.Ba;have a9:=k.Bb;have f0:=k.Ct;have fl:=k.Bc;have q0:=k.xD;have q7:=k.xE
  exact ⟨⟨gM (by omega),gM (by omega),gM (by omega),gM (by omega),gM (by omega)⟩,by omega,by omega,by omega,by omega,by omega,by omega,by omega,by omega,by omega,by omega⟩
 n:=by
  have a1:=i.jV;have a2:=i.kP;have a3:=i.jY;have a4:=i.jZ
  exact ⟨gM (by omega),gM (by omega)⟩
set_option maxRecDepth 100000 in
set_option maxHeartbeats 1600000 in
theorem r8 (aF az aC aB:Value)(r:ap)(w:World)(own:List Nat)(H:Wd w (blks []++own) ([]++[ag.held w own]) [ag.ls aF (r.ai:List aj),ag.ls az (r.Things:List ah),ag.ls aC (r.Held:List Held),ag.ls aB (r.Notes:List Note),bz] w)(hk:Ok r)(hI:Inv r):Calls Tryz.prog 15 #[.agg #[aF,az,aC,aB,iV r.ae,iV r.af]] w fun e w' => ∃z:Value,e = .returned (z)∧Wd w (blks []++own) ([ag.row 52 z ((bk r):List Change)]++[ag.held w own]) [] w':=by
 have dR:=H.cX 0 rfl
 have dq:=H.cX 1 rfl
 have eK:=H.cX 2 rfl
 have dS:=H.cX 3 rfl
 have bw:=hk.wl;have bt:=hk.tl;have bh:=hk.hl;have bn:=hk.nl;have xF:=hk.w0;have xG:=hk.w1;have xH:=hk.t0;have xI:=hk.t1
 have hq:=(ji hI).1.EC
 have hn:=hq.n;have jV:=hq.i.jV;have kP:=hq.i.kP;have jY:=hq.i.jY;have jZ:=hq.i.jZ;have hl0:=oN hq.i;have ES:=hq.i.fN;have ET:=(ji hI).2.2.2.1
 refine R.dc (n:=101) (vs:=[.agg #[aF,az,aC,aB,iV r.ae,iV r.af]]) (B:=[ag.held w own]) [(0,.agg #[aF,az,aC,aB,iV r.ae,iV r.af])] Tryz.func15 rfl rfl rfl rfl H ?_
 refine R.reg rfl<|R.s rfl (s.box (cs:=[aF,az,aC,aB,iV r.ae,iV r.af]) rfl rfl rfl) fun b1=>R.u 1 rfl<|R.nil ?_
 refine R.reg rfl<|R.q (q.cT 0 rfl rfl ar) rfl<|R.s (B':=(fun g_:Value×Value×Value×Value=>[ag.box b1 [aF,az,aC,aB,iV r.ae,iV r.af] 32,ag.held w own])) (F':=(fun g_:Value×Value×Value×Value=>[ag.ls g_.1 (((aR r)).ai:List aj),ag.ls g_.2.1 (((aR r)).Things:List ah),ag.ls g_.2.2.1 (((aR r)).Held:List Held),ag.ls g_.2.2.2 (((aR r)).Notes:List Note),ag.ls aF (r.ai:List aj),ag.ls az (r.Things:List ah),ag.ls aC (r.Held:List Held),ag.ls aB (r.Notes:List Note),bz])) rfl (s.bJ (B0:=[]) (Br:=[ag.box b1 [aF,az,aC,aB,iV r.ae,iV r.af] 32,ag.held w own]) (F0:=[ag.ls aF (r.ai:List aj),ag.ls az (r.Things:List ah),ag.ls aC (r.Held:List Held),ag.ls aB (r.Notes:List Note)]) [0,1] [0,1,2,3] (fun g_:Value×Value×Value×Value => .agg #[g_.1,g_.2.1,g_.2.2.1,g_.2.2.2,iV (((aR r)).ae),iV (((aR r)).af)]) (fun g_:Value×Value×Value×Value=>[]) (fun g_:Value×Value×Value×Value=>[ag.ls g_.1 (((aR r)).ai:List aj),ag.ls g_.2.1 (((aR r)).Things:List ah),ag.ls g_.2.2.1 (((aR r)).Held:List Held),ag.ls g_.2.2.2 (((aR r)).Notes:List Note)]) rfl rfl rfl BU rfl rfl (fun w own hw H=>tt aF az aC aB (r) w own H ‹_›) rfl) ?_
 rintro ⟨z1,z2,z3,z4⟩
 dsimp only
 refine R.s rfl (s.e8 (us:=[z1,z2,z3,z4,iV ((aR r).ae),iV ((aR r).af)]) (cs':=[z1,z2,z3,z4,iV ((aR r).ae),iV ((aR r).af)]) 0 _ rfl rfl rfl (fun _ _=>rfl) (.inl ar) (fun w hw=>(ak (Sl.one (hw.aT 0 rfl)) (ak (Sl.one (hw.aT 1 rfl)) (ak (Sl.one (hw.aT 2 rfl)) (ak (Sl.one (hw.aT 3 rfl)) (ak rfl (ak rfl aS))))))) rfl rfl rfl) fun _=>R.nil ?_
 refine R.reg rfl<|R.u 1 rfl<|R.nil ?_
 refine R.reg rfl<|R.q (q.a8 (off':=2) rfl bP rfl) rfl<|R.q (q.ld 0 rfl rfl cx rfl) rfl<|R.q (q.len' (fun _=>Wd.aT 2 rfl) rfl Tryz.underlying29) rfl<|R.u 1 rfl<|R.nil ?_
 refine R.row0 (α:=Change) 52 ?_
 refine R.loop (fun g_:Nat×Value×(List Change)=>[(1,.pointer (some ⟨b1,0,none⟩)),(3,g_.2.1),(13,z3),(14,iV (((aR r).Held).length:Int)),(15,iV (g_.1:Int))]) (fun g_:Nat×Value×(List Change)=>[ag.row 52 g_.2.1 (g_.2.2:List Change),ag.box b1 [z1,z2,z3,z4,iV ((aR r).ae),iV ((aR r).af)] 32,ag.held w own]) (fun g_:Nat×Value×(List Change)=>[ag.ls z1 ((aR r).ai:List aj),ag.ls z2 ((aR r).Things:List ah),ag.ls z3 ((aR r).Held:List Held),ag.ls z4 ((aR r).Notes:List Note),ag.ls aF (r.ai:List aj),ag.ls az (r.Things:List ah),ag.ls aC (r.Held:List Held),ag.ls aB (r.Notes:List Note),bz]) (fun g_:Nat×Value×(List Change)=>g_.1≤(aR r).Held.length∧g_.2.2=((aR r).Held.take g_.1).map hrow) (fun g_:Nat×Value×(List Change)=>(aR r).Held.length-g_.1) (0,(nS),[]) rfl (by exact ⟨by omega,rfl⟩) ⟨rfl,rfl,rfl,rfl,rfl,trivial⟩ (fun _=>Wd.pick [0,1,2] [0,1,2,3,4,5,6,7,8] rfl rfl rfl) ?_
 rintro ⟨k,u,l⟩ ⟨hk,HL⟩
 dsimp only at *
 have ll:l.length≤24:=by rw [HL,List.length_map,List.length_take];omega
 refine R.reg rfl<|?_
 by_cases h1:k<((aR r).Held).length
 ·
  refine R.q (q.lss rfl rfl (decide_eq_true (by omega))) rfl<|R.nil ?_
  refine R.aD rfl rfl ?_
  refine R.reg rfl<|?_
  obtain ⟨x1,hx1⟩:∃z,((aR r).Held)[k]? = some z:=⟨_,List.getElem?_eq_getElem (by omega)⟩
  have D5:=hq.h _ (List.mem_of_getElem? hx1)
  refine R.q (q.idx (i:=k) (fun _=>Wd.aT 2 rfl) rfl rfl bD rfl hx1) rfl<|R.q (q.dD (ds:=eL x1) (fun _=>Wd.aT 2 rfl) hx1 rfl eB rfl) rfl<|R.s rfl (s.alloc (cs:=zD) fA rfl rfl) fun b2=>R.s rfl (s.st (us:=eL x1) (cs':=eL x1) 0 _ rfl rfl rfl rfl (.inl eB) rfl rfl rfl rfl) fun _=>R.nil ?_
  refine R.gN (fuel:=18) (Wd w (blks []++own) [ag.box b2 (eL x1) 85,ag.box b1 [z1,z2,z3,z4,iV ((aR r).ae),iV ((aR r).af)] 32,ag.held w own] [ag.ls z1 ((aR r).ai:List aj),ag.ls z2 ((aR r).Things:List ah),ag.ls z3 ((aR r).Held:List Held),ag.ls z4 ((aR r).Notes:List Note),ag.ls aF (r.ai:List aj),ag.ls az (r.Things:List ah),ag.ls aC (r.Held:List Held),ag.ls aB (r.Notes:List Note),bz]) rfl mixed rfl ?_
  refine D.q (i:=0) rfl (by kernel_rfl) (fun _=>Wd.aM [0,2,3] [0,1,2,3,4,5,6,7,8] rfl rfl rfl) rfl (q.mv rfl) rfl<|D.q (i:=1) rfl (by kernel_rfl) (fun _=>Wd.aM [0,2,3] [0,1,2,3,4,5,6,7,8] rfl rfl rfl) rfl (q.a8 (off':=0) rfl ef rfl) rfl<|D.q (i:=2) rfl (by kernel_rfl) (fun _=>Wd.aM [0,2,3] [0,1,2,3,4,5,6,7,8] rfl rfl rfl) rfl (q.a8 (off':=0) rfl bG rfl) rfl<|D.q (i:=3) rfl (by kernel_rfl) (fun _=>Wd.aM [0,2,3] [0,1,2,3,4,5,6,7,8] rfl rfl rfl) rfl (q.ld 0 rfl rfl av rfl) rfl<|D.q (i:=6) rfl (by kernel_rfl) (fun _=>Wd.aM [0,2,3] [0,1,2,3,4,5,6,7,8] rfl rfl rfl) rfl (q.a8 (off':=0) rfl ef rfl) rfl<|D.q (i:=7) rfl (by kernel_rfl) (fun _=>Wd.aM [0,2,3] [0,1,2,3,4,5,6,7,8] rfl rfl rfl) rfl (q.a8 (off':=1) rfl eS rfl) rfl<|D.q (i:=8) rfl (by kernel_rfl) (fun _=>Wd.aM [0,2,3] [0,1,2,3,4,5,6,7,8] rfl rfl rfl) rfl (q.ld 0 rfl rfl av rfl) rfl<|D.q (i:=11) rfl (by kernel_rfl) (fun _=>Wd.aM [0,2,3] [0,1,2,3,4,5,6,7,8] rfl rfl rfl) rfl (q.a8 (off':=2) rfl fZ rfl) rfl<|D.q (i:=12) rfl (by kernel_rfl) (fun _=>Wd.aM [0,2,3] [0,1,2,3,4,5,6,7,8] rfl rfl rfl) rfl (q.ld 0 rfl rfl av rfl) rfl<|D.one (i:=4) (by kernel_rfl) rfl ?_
  refine Do.s (s.c (q.call vS rfl rfl (fun w hw=>(oW (x1.Place.ao) w  (by exact hw.okF bz (by repeat (first|exact List.Mem.head _|refine List.Mem.tail _ ?_))) (by first|assumption|omega)))) rfl) (fun _=>(fun _=>Wd.aM [0,2,3] [0,1,2,3,4,5,6,7,8] rfl rfl rfl)) rfl fun _=>?_
  refine D.q (i:=5) rfl (by kernel_rfl) (fun _=>Wd.aM [0,2,3] [0,1,2,3,4,5,6,7,8] rfl rfl rfl) rfl (q.cat rfl rfl (by first|omega|(simp only [ByteArray.size_append,gy,List.length_cons,List.length_nil];omega))) rfl<|D.one (i:=9) (by kernel_rfl) rfl ?_
  refine Do.s (s.c (q.call vS rfl rfl (fun w hw=>(oW (x1.Place.Slot) w  (by exact hw.okF bz (by repeat (first|exact List.Mem.head _|refine List.Mem.tail _ ?_))) (by first|assumption|omega)))) rfl) (fun _=>(fun _=>Wd.aM [0,2,3] [0,1,2,3,4,5,6,7,8] rfl rfl rfl)) rfl fun _=>?_
  refine D.q (i:=10) rfl (by kernel_rfl) (fun _=>Wd.aM [0,2,3] [0,1,2,3,4,5,6,7,8] rfl rfl rfl) rfl (q.cat rfl rfl (by first|omega|(simp only [ByteArray.size_append,gy,List.length_cons,List.length_nil];omega))) rfl<|D.one (i:=13) (by kernel_rfl) rfl ?_
  refine Do.s (s.c (q.call jR rfl rfl (fun w hw=>(fj (x1.aj) w  (by exact hw.okF bz (by repeat (first|exact List.Mem.head _|refine List.Mem.tail _ ?_))) (by first|assumption|omega)))) rfl) (fun _=>(fun _=>Wd.aM [0,2,3] [0,1,2,3,4,5,6,7,8] rfl rfl rfl)) rfl fun _=>?_
  refine D.q (i:=14) rfl (by kernel_rfl) (fun _=>Wd.aM [0,2,3] [0,1,2,3,4,5,6,7,8] rfl rfl rfl) rfl (q.build (cs:=[.string ((⟨#[104]⟩++dV x1.Place.ao)++dV x1.Place.Slot),.string (bf x1.aj),.bool false]) qS rfl rfl) rfl<|D.one (i:=15) (by kernel_rfl) rfl ?_
  refine Do.s (s.bs (l:=([(⟨((⟨#[104]⟩++dV x1.Place.ao)++dV x1.Place.Slot),bf x1.aj,false⟩:Change)]:List Change)) bX fe rfl rfl rfl rfl rfl rfl rfl) (fun _=>(fun _=>Wd.aM [1,3,4] [0,1,2,3,4,5,6,7,8] rfl rfl rfl)) rfl fun b3=>D.one (i:=16) (by kernel_rfl) rfl ?_
  refine Do.s (s.app (l2:=[(⟨((⟨#[104]⟩++dV x1.Place.ao)++dV x1.Place.Slot),bf x1.aj,false⟩:Change)]) 2 _ rfl rfl rfl (fun _=>Wd.row 0 rfl) gG (by first|omega|(simp;done)|(simp;omega)) (by first|omega|(simp;done)|(simp;omega)) (fun _=>rfl) rfl) (fun _=>(fun _=>Wd.aM [1,3,4] [0,1,2,3,4,5,6,7,8] rfl rfl rfl)) rfl fun v1=>D.q (i:=17) rfl (by kernel_rfl) (fun _=>Wd.aM [1,3,4] [0,1,2,3,4,5,6,7,8] rfl rfl rfl) rfl (q.as rfl) rfl<|D.done (by kernel_rfl)<|R.reg rfl<|R.q (q.add (r:=((k+1:Nat):Int)) rfl rfl (wr (by omega))) rfl<|R.u 1 rfl<|R.nil ?_
  refine R.back (k+1,v1,(l++([(⟨((⟨#[104]⟩++dV x1.Place.ao)++dV x1.Place.Slot),bf x1.aj,false⟩:Change)]))) rfl (by (exact ⟨by omega,by rw [jm hrow hx1,← HL];rfl⟩)) (by dsimp only;omega) ⟨rfl,rfl,rfl,rfl,rfl,trivial⟩ (fun _=>Wd.aM [2,3,4] [0,1,2,3,4,5,6,7,8] rfl rfl rfl)
 ·
  refine R.q (q.lss rfl rfl (decide_eq_false (by omega))) rfl<|R.nil ?_
  refine R.aI rfl rfl ?_
  refine R.reg rfl<|R.q (q.a8 (off':=1) rfl bO rfl) rfl<|R.q (q.ld 1 rfl rfl cw rfl) rfl<|R.q (q.len' (fun _=>Wd.aT 1 rfl) rfl Tryz.underlying28) rfl<|R.u 1 rfl<|R.nil ?_
  refine R.loop (fun g_:Nat×Value×(List Change)=>[(1,.pointer (some ⟨b1,0,none⟩)),(3,g_.2.1),(38,z2),(39,iV (((aR r).Things).length:Int)),(40,iV (g_.1:Int))]) (fun g_:Nat×Value×(List Change)=>[ag.row 52 g_.2.1 (g_.2.2:List Change),ag.box b1 [z1,z2,z3,z4,iV ((aR r).ae),iV ((aR r).af)] 32,ag.held w own]) (fun g_:Nat×Value×(List Change)=>[ag.ls z1 ((aR r).ai:List aj),ag.ls z2 ((aR r).Things:List ah),ag.ls z3 ((aR r).Held:List Held),ag.ls z4 ((aR r).Notes:List Note),ag.ls aF (r.ai:List aj),ag.ls az (r.Things:List ah),ag.ls aC (r.Held:List Held),ag.ls aB (r.Notes:List Note),bz]) (fun g_:Nat×Value×(List Change)=>g_.1≤(aR r).Things.length∧g_.2.2=(aR r).Held.map hrow++((aR r).Things.take g_.1).map kQ) (fun g_:Nat×Value×(List Change)=>(aR r).Things.length-g_.1) (0,u,l) rfl (by exact ⟨by omega,by rw [HL,o0 _ (by omega)];exact (List.append_nil _).symm⟩) ⟨rfl,rfl,rfl,rfl,rfl,trivial⟩ (fun _=>Wd.pick [0,1,2] [0,1,2,3,4,5,6,7,8] rfl rfl rfl) ?_
  rintro ⟨j,u2,l2⟩ ⟨hj,HL2⟩
  dsimp only at *
  have ED:l2.length≤34:=by rw [HL2,List.length_append,List.length_map,List.length_map,List.length_take];omega
  refine R.reg rfl<|?_
  by_cases h2:j<((aR r).Things).length
  ·
   refine R.q (q.lss rfl rfl (decide_eq_true (by omega))) rfl<|R.nil ?_
   refine R.aD rfl rfl ?_
   refine R.reg rfl<|?_
   obtain ⟨x2,hx2⟩:∃z,((aR r).Things)[j]? = some z:=⟨_,List.getElem?_eq_getElem (by omega)⟩
   have D6:=hq.t _ (List.mem_of_getElem? hx2)
   refine R.q (q.idx (i:=j) (fun _=>Wd.aT 1 rfl) rfl rfl fb rfl hx2) rfl<|R.q (q.dD (ds:=eF x2) (fun _=>Wd.aT 1 rfl) hx2 rfl ft rfl) rfl<|R.s rfl (s.alloc (cs:=[iV 0,iV 0,.string (⟨#[]⟩)]) gi rfl rfl) fun b4=>R.s rfl (s.st (us:=eF x2) (cs':=eF x2) 0 _ rfl rfl rfl rfl (.inl ft) rfl rfl rfl rfl) fun _=>R.nil ?_
   refine R.gN (fuel:=15) (Wd w (blks []++own) [ag.box b4 (eF x2) 62,ag.box b1 [z1,z2,z3,z4,iV ((aR r).ae),iV ((aR r).af)] 32,ag.held w own] [ag.ls z1 ((aR r).ai:List aj),ag.ls z2 ((aR r).Things:List ah),ag.ls z3 ((aR r).Held:List Held),ag.ls z4 ((aR r).Notes:List Note),ag.ls aF (r.ai:List aj),ag.ls az (r.Things:List ah),ag.ls aC (r.Held:List Held),ag.ls aB (r.Notes:List Note),bz]) rfl mixed rfl ?_
   refine D.q (i:=0) rfl (by kernel_rfl) (fun _=>Wd.aM [0,2,3] [0,1,2,3,4,5,6,7,8] rfl rfl rfl) rfl (q.mv rfl) rfl<|D.q (i:=1) rfl (by kernel_rfl) (fun _=>Wd.aM [0,2,3] [0,1,2,3,4,5,6,7,8] rfl rfl rfl) rfl (q.a8 (off':=0) rfl iZ rfl) rfl<|D.q (i:=2) rfl (by kernel_rfl) (fun _=>Wd.aM [0,2,3] [0,1,2,3,4,5,6,7,8] rfl rfl rfl) rfl (q.ld 0 rfl rfl av rfl) rfl<|D.q (i:=5) rfl (by kernel_rfl) (fun _=>Wd.aM [0,2,3] [0,1,2,3,4,5,6,7,8] rfl rfl rfl) rfl (q.a8 (off':=1) rfl pG rfl) rfl<|D.q (i:=6) rfl (by kernel_rfl) (fun _=>Wd.aM [0,2,3] [0,1,2,3,4,5,6,7,8] rfl rfl rfl) rfl (q.ld 0 rfl rfl av rfl) rfl<|D.q (i:=8) rfl (by kernel_rfl) (fun _=>Wd.aM [0,2,3] [0,1,2,3,4,5,6,7,8] rfl rfl rfl) rfl (q.a8 (off':=2) rfl pH rfl) rfl<|D.q (i:=9) rfl (by kernel_rfl) (fun _=>Wd.aM [0,2,3] [0,1,2,3,4,5,6,7,8] rfl rfl rfl) rfl (q.ld 0 rfl rfl bF rfl) rfl<|D.one (i:=3) (by kernel_rfl) rfl ?_
   refine Do.s (s.c (q.call jR rfl rfl (fun w hw=>(fj (x2.ID) w  (by exact hw.okF bz (by repeat (first|exact List.Mem.head _|refine List.Mem.tail _ ?_))) (by first|assumption|omega)))) rfl) (fun _=>(fun _=>Wd.aM [0,2,3] [0,1,2,3,4,5,6,7,8] rfl rfl rfl)) rfl fun _=>?_
   refine D.q (i:=4) rfl (by kernel_rfl) (fun _=>Wd.aM [0,2,3] [0,1,2,3,4,5,6,7,8] rfl rfl rfl) rfl (q.cat rfl rfl (by first|omega|(simp only [ByteArray.size_append,gy,List.length_cons,List.length_nil];omega))) rfl<|D.one (i:=7) (by kernel_rfl) rfl ?_
   refine Do.s (s.c (q.call jR rfl rfl (fun w hw=>(fj (x2.Kind) w  (by exact hw.okF bz (by repeat (first|exact List.Mem.head _|refine List.Mem.tail _ ?_))) (by first|assumption|omega)))) rfl) (fun _=>(fun _=>Wd.aM [0,2,3] [0,1,2,3,4,5,6,7,8] rfl rfl rfl)) rfl fun _=>?_
   refine D.q (i:=10) rfl (by kernel_rfl) (fun _=>Wd.aM [0,2,3] [0,1,2,3,4,5,6,7,8] rfl rfl rfl) rfl (q.cat rfl rfl (by first|omega|(simp only [ByteArray.size_append,gy,List.length_cons,List.length_nil];omega))) rfl<|D.q (i:=11) rfl (by kernel_rfl) (fun _=>Wd.aM [0,2,3] [0,1,2,3,4,5,6,7,8] rfl rfl rfl) rfl (q.build (cs:=[.string (⟨#[116]⟩++bf x2.ID),.string (bf x2.Kind++x2.Data),.bool false]) qS rfl rfl) rfl<|D.one (i:=12) (by kernel_rfl) rfl ?_
   refine Do.s (s.bs (l:=([(⟨(⟨#[116]⟩++bf x2.ID),(bf x2.Kind++x2.Data),false⟩:Change)]:List Change)) bX fe rfl rfl rfl rfl rfl rfl rfl) (fun _=>(fun _=>Wd.aM [1,3,4] [0,1,2,3,4,5,6,7,8] rfl rfl rfl)) rfl fun b5=>D.one (i:=13) (by kernel_rfl) rfl ?_
   refine Do.s (s.app (l2:=[(⟨(⟨#[116]⟩++bf x2.ID),(bf x2.Kind++x2.Data),false⟩:Change)]) 2 _ rfl rfl rfl (fun _=>Wd.row 0 rfl) gG (by first|omega|(simp;done)|(simp;omega)) (by first|omega|(simp;done)|(simp;omega)) (fun _=>rfl) rfl) (fun _=>(fun _=>Wd.aM [1,3,4] [0,1,2,3,4,5,6,7,8] rfl rfl rfl)) rfl fun v2=>D.q (i:=14) rfl (by kernel_rfl) (fun _=>Wd.aM [1,3,4] [0,1,2,3,4,5,6,7,8] rfl rfl rfl) rfl (q.as rfl) rfl<|D.done (by kernel_rfl)<|R.reg rfl<|R.q (q.add (r:=((j+1:Nat):Int)) rfl rfl (wr (by omega))) rfl<|R.u 1 rfl<|R.nil ?_
   refine R.back (j+1,v2,(l2++([(⟨(⟨#[116]⟩++bf x2.ID),(bf x2.Kind++x2.Data),false⟩:Change)]))) rfl (by (exact ⟨by omega,by rw [jm kQ hx2,← List.append_assoc,← HL2];rfl⟩)) (by dsimp only;omega) ⟨rfl,rfl,rfl,rfl,rfl,trivial⟩ (fun _=>Wd.aM [2,3,4] [0,1,2,3,4,5,6,7,8] rfl rfl rfl)
  ·
   refine R.q (q.lss rfl rfl (decide_eq_false (by omega))) rfl<|R.nil ?_
   refine R.aI rfl rfl ?_
   refine R.reg rfl<|R.q (q.a8 (off':=0) rfl bj rfl) rfl<|R.q (q.ld 1 rfl rfl bA rfl) rfl<|R.q (q.len' (fun _=>Wd.aT 0 rfl) rfl Tryz.underlying27) rfl<|R.u 1 rfl<|R.nil ?_
   refine R.loop (fun g_:Nat×Value×(List Change)=>[(1,.pointer (some ⟨b1,0,none⟩)),(3,g_.2.1),(60,z1),(61,iV (((aR r).ai).length:Int)),(62,iV (g_.1:Int))]) (fun g_:Nat×Value×(List Change)=>[ag.row 52 g_.2.1 (g_.2.2:List Change),ag.box b1 [z1,z2,z3,z4,iV ((aR r).ae),iV ((aR r).af)] 32,ag.held w own]) (fun g_:Nat×Value×(List Change)=>[ag.ls z1 ((aR r).ai:List aj),ag.ls z2 ((aR r).Things:List ah),ag.ls z3 ((aR r).Held:List Held),ag.ls z4 ((aR r).Notes:List Note),ag.ls aF (r.ai:List aj),ag.ls az (r.Things:List ah),ag.ls aC (r.Held:List Held),ag.ls aB (r.Notes:List Note),bz]) (fun g_:Nat×Value×(List Change)=>g_.1≤(aR r).ai.length∧g_.2.2=(aR r).Held.map hrow++(aR r).Things.map kQ++((aR r).ai.take g_.1).map me) (fun g_:Nat×Value×(List Change)=>(aR r).ai.length-g_.1) (0,u2,l2) rfl (by exact ⟨by omega,by rw [HL2,o0 _ (by omega)];exact (List.append_nil _).symm⟩) ⟨rfl,rfl,rfl,rfl,rfl,trivial⟩ (fun _=>Wd.pick [0,1,2] [0,1,2,3,4,5,6,7,8] rfl rfl rfl) ?_
   rintro ⟨i,u3,l3⟩ ⟨hi,DN⟩
   dsimp only at *
   have EU:l3.length≤58:=by rw [DN,List.length_append,List.length_append,List.length_map,List.length_map,List.length_map,List.length_take];omega
   refine R.reg rfl<|?_
   by_cases h3:i<((aR r).ai).length
   ·
    refine R.q (q.lss rfl rfl (decide_eq_true (by omega))) rfl<|R.nil ?_
    refine R.aD rfl rfl ?_
    refine R.reg rfl<|?_
    obtain ⟨x3,hx3⟩:∃z,((aR r).ai)[i]? = some z:=⟨_,List.getElem?_eq_getElem (by omega)⟩
    have EV:=hq.w _ (List.mem_of_getElem? hx3)
    refine R.q (q.idx (i:=i) (fun _=>Wd.aT 0 rfl) rfl rfl cK rfl hx3) rfl<|R.q (q.dD (ds:=aA x3) (fun _=>Wd.aT 0 rfl) hx3 rfl aQ rfl) rfl<|R.s rfl (s.alloc (cs:=dw) bE rfl rfl) fun b6=>R.s rfl (s.st (us:=aA x3) (cs':=aA x3) 0 _ rfl rfl rfl rfl (.inl aQ) rfl rfl rfl rfl) fun _=>R.nil ?_
    refine R.gN (fuel:=24) (Wd w (blks []++own) [ag.box b6 (aA x3) 88,ag.box b1 [z1,z2,z3,z4,iV ((aR r).ae),iV ((aR r).af)] 32,ag.held w own] [ag.ls z1 ((aR r).ai:List aj),ag.ls z2 ((aR r).Things:List ah),ag.ls z3 ((aR r).Held:List Held),ag.ls z4 ((aR r).Notes:List Note),ag.ls aF (r.ai:List aj),ag.ls az (r.Things:List ah),ag.ls aC (r.Held:List Held),ag.ls aB (r.Notes:List Note),bz]) rfl mixed rfl ?_
    refine D.q (i:=0) rfl (by kernel_rfl) (fun _=>Wd.aM [0,2,3] [0,1,2,3,4,5,6,7,8] rfl rfl rfl) rfl (q.mv rfl) rfl<|D.q (i:=1) rfl (by kernel_rfl) (fun _=>Wd.aM [0,2,3] [0,1,2,3,4,5,6,7,8] rfl rfl rfl) rfl (q.a8 (off':=0) rfl bH rfl) rfl<|D.q (i:=2) rfl (by kernel_rfl) (fun _=>Wd.aM [0,2,3] [0,1,2,3,4,5,6,7,8] rfl rfl rfl) rfl (q.ld 0 rfl rfl av rfl) rfl<|D.q (i:=5) rfl (by kernel_rfl) (fun _=>Wd.aM [0,2,3] [0,1,2,3,4,5,6,7,8] rfl rfl rfl) rfl (q.a8 (off':=1) rfl eU rfl) rfl<|D.q (i:=6) rfl (by kernel_rfl) (fun _=>Wd.aM [0,2,3] [0,1,2,3,4,5,6,7,8] rfl rfl rfl) rfl (q.ld 0 rfl rfl av rfl) rfl<|D.q (i:=8) rfl (by kernel_rfl) (fun _=>Wd.aM [0,2,3] [0,1,2,3,4,5,6,7,8] rfl rfl rfl) rfl (q.a8 (off':=2) rfl f6 rfl) rfl<|D.q (i:=9) rfl (by kernel_rfl) (fun _=>Wd.aM [0,2,3] [0,1,2,3,4,5,6,7,8] rfl rfl rfl) rfl (q.ld 0 rfl rfl av rfl) rfl<|D.q (i:=12) rfl (by kernel_rfl) (fun _=>Wd.aM [0,2,3] [0,1,2,3,4,5,6,7,8] rfl rfl rfl) rfl (q.a8 (off':=3) rfl f7 rfl) rfl<|D.q (i:=13) rfl (by kernel_rfl) (fun _=>Wd.aM [0,2,3] [0,1,2,3,4,5,6,7,8] rfl rfl rfl) rfl (q.ld 0 rfl rfl av rfl) rfl<|D.q (i:=16) rfl (by kernel_rfl) (fun _=>Wd.aM [0,2,3] [0,1,2,3,4,5,6,7,8] rfl rfl rfl) rfl (q.a8 (off':=4) rfl eh rfl) rfl<|D.q (i:=17) rfl (by kernel_rfl) (fun _=>Wd.aM [0,2,3] [0,1,2,3,4,5,6,7,8] rfl rfl rfl) rfl (q.ld 0 rfl rfl av rfl) rfl<|D.one (i:=3) (by kernel_rfl) rfl ?_
    refine Do.s (s.c (q.call jR rfl rfl (fun w hw=>(fj (x3.ID) w  (by exact hw.okF bz (by repeat (first|exact List.Mem.head _|refine List.Mem.tail _ ?_))) (by first|assumption|omega)))) rfl) (fun _=>(fun _=>Wd.aM [0,2,3] [0,1,2,3,4,5,6,7,8] rfl rfl rfl)) rfl fun _=>?_
    refine D.q (i:=4) rfl (by kernel_rfl) (fun _=>Wd.aM [0,2,3] [0,1,2,3,4,5,6,7,8] rfl rfl rfl) rfl (q.cat rfl rfl (by first|omega|(simp only [ByteArray.size_append,gy,List.length_cons,List.length_nil];omega))) rfl<|D.one (i:=7) (by kernel_rfl) rfl ?_
    refine Do.s (s.c (q.call jR rfl rfl (fun w hw=>(fj (x3.ah) w  (by exact hw.okF bz (by repeat (first|exact List.Mem.head _|refine List.Mem.tail _ ?_))) (by first|assumption|omega)))) rfl) (fun _=>(fun _=>Wd.aM [0,2,3] [0,1,2,3,4,5,6,7,8] rfl rfl rfl)) rfl fun _=>?_
    refine D.one (i:=10) (by kernel_rfl) rfl ?_
    refine Do.s (s.c (q.call jR rfl rfl (fun w hw=>(fj (x3.Rights) w  (by exact hw.okF bz (by repeat (first|exact List.Mem.head _|refine List.Mem.tail _ ?_))) (by first|assumption|omega)))) rfl) (fun _=>(fun _=>Wd.aM [0,2,3] [0,1,2,3,4,5,6,7,8] rfl rfl rfl)) rfl fun _=>?_
    refine D.q (i:=11) rfl (by kernel_rfl) (fun _=>Wd.aM [0,2,3] [0,1,2,3,4,5,6,7,8] rfl rfl rfl) rfl (q.cat rfl rfl (by first|omega|(simp only [ByteArray.size_append,gy,List.length_cons,List.length_nil];omega))) rfl<|D.one (i:=14) (by kernel_rfl) rfl ?_
    refine Do.s (s.c (q.call jR rfl rfl (fun w hw=>(fj (x3.aG) w  (by exact hw.okF bz (by repeat (first|exact List.Mem.head _|refine List.Mem.tail _ ?_))) (by first|assumption|omega)))) rfl) (fun _=>(fun _=>Wd.aM [0,2,3] [0,1,2,3,4,5,6,7,8] rfl rfl rfl)) rfl fun _=>?_
    refine D.q (i:=15) rfl (by kernel_rfl) (fun _=>Wd.aM [0,2,3] [0,1,2,3,4,5,6,7,8] rfl rfl rfl) rfl (q.cat rfl rfl (by first|omega|(simp only [ByteArray.size_append,gy,List.length_cons,List.length_nil];omega))) rfl<|D.one (i:=18) (by kernel_rfl) rfl ?_
    refine Do.s (s.c (q.call jR rfl rfl (fun w hw=>(fj (x3.From) w  (by exact hw.okF bz (by repeat (first|exact List.Mem.head _|refine List.Mem.tail _ ?_))) (by first|assumption|omega)))) rfl) (fun _=>(fun _=>Wd.aM [0,2,3] [0,1,2,3,4,5,6,7,8] rfl rfl rfl)) rfl fun _=>?_
    refine D.q (i:=19) rfl (by kernel_rfl) (fun _=>Wd.aM [0,2,3] [0,1,2,3,4,5,6,7,8] rfl rfl rfl) rfl (q.cat rfl rfl (by first|omega|(simp only [ByteArray.size_append,gy,List.length_cons,List.length_nil];omega))) rfl<|D.q (i:=20) rfl (by kernel_rfl) (fun _=>Wd.aM [0,2,3] [0,1,2,3,4,5,6,7,8] rfl rfl rfl) rfl (q.build (cs:=[.string (⟨#[119]⟩++bf x3.ID),.string (((bf x3.ah++bf x3.Rights)++bf x3.aG)++bf x3.From),.bool false]) qS rfl rfl) rfl<|D.one (i:=21) (by kernel_rfl) rfl ?_
    refine Do.s (s.bs (l:=([(⟨(⟨#[119]⟩++bf x3.ID),(((bf x3.ah++bf x3.Rights)++bf x3.aG)++bf x3.From),false⟩:Change)]:List Change)) bX fe rfl rfl rfl rfl rfl rfl rfl) (fun _=>(fun _=>Wd.aM [1,3,4] [0,1,2,3,4,5,6,7,8] rfl rfl rfl)) rfl fun b7=>D.one (i:=22) (by kernel_rfl) rfl ?_
    refine Do.s (s.app (l2:=[(⟨(⟨#[119]⟩++bf x3.ID),(((bf x3.ah++bf x3.Rights)++bf x3.aG)++bf x3.From),false⟩:Change)]) 2 _ rfl rfl rfl (fun _=>Wd.row 0 rfl) gG (by first|omega|(simp;done)|(simp;omega)) (by first|omega|(simp;done)|(simp;omega)) (fun _=>rfl) rfl) (fun _=>(fun _=>Wd.aM [1,3,4] [0,1,2,3,4,5,6,7,8] rfl rfl rfl)) rfl fun v3=>D.q (i:=23) rfl (by kernel_rfl) (fun _=>Wd.aM [1,3,4] [0,1,2,3,4,5,6,7,8] rfl rfl rfl) rfl (q.as rfl) rfl<|D.done (by kernel_rfl)<|R.reg rfl<|R.q (q.add (r:=((i+1:Nat):Int)) rfl rfl (wr (by omega))) rfl<|R.u 1 rfl<|R.nil ?_
    refine R.back (i+1,v3,(l3++([(⟨(⟨#[119]⟩++bf x3.ID),(((bf x3.ah++bf x3.Rights)++bf x3.aG)++bf x3.From),false⟩:Change)]))) rfl (by (exact ⟨by omega,by rw [jm me hx3,← List.append_assoc,← DN];rfl⟩)) (by dsimp only;omega) ⟨rfl,rfl,rfl,rfl,rfl,trivial⟩ (fun _=>Wd.aM [2,3,4] [0,1,2,3,4,5,6,7,8] rfl rfl rfl)
   ·
    refine R.q (q.lss rfl rfl (decide_eq_false (by omega))) rfl<|R.nil ?_
    refine R.aI rfl rfl ?_
    refine R.gN (fuel:=12) (Wd w (blks []++own) [ag.box b1 [z1,z2,z3,z4,iV ((aR r).ae),iV ((aR r).af)] 32,ag.held w own] [ag.ls z1 ((aR r).ai:List aj),ag.ls z2 ((aR r).Things:List ah),ag.ls z3 ((aR r).Held:List Held),ag.ls z4 ((aR r).Notes:List Note),ag.ls aF (r.ai:List aj),ag.ls az (r.Things:List ah),ag.ls aC (r.Held:List Held),ag.ls aB (r.Notes:List Note),bz]) rfl mixed rfl ?_
    refine D.q (i:=0) rfl (by kernel_rfl) (fun _=>Wd.aM [1,2] [0,1,2,3,4,5,6,7,8] rfl rfl rfl) rfl (q.mv rfl) rfl<|D.q (i:=1) rfl (by kernel_rfl) (fun _=>Wd.aM [1,2] [0,1,2,3,4,5,6,7,8] rfl rfl rfl) rfl (q.a8 (off':=4) rfl bW rfl) rfl<|D.q (i:=2) rfl (by kernel_rfl) (fun _=>Wd.aM [1,2] [0,1,2,3,4,5,6,7,8] rfl rfl rfl) rfl (q.ld 0 rfl rfl av rfl) rfl<|D.q (i:=4) rfl (by kernel_rfl) (fun _=>Wd.aM [1,2] [0,1,2,3,4,5,6,7,8] rfl rfl rfl) rfl (q.a8 (off':=5) rfl cU rfl) rfl<|D.q (i:=5) rfl (by kernel_rfl) (fun _=>Wd.aM [1,2] [0,1,2,3,4,5,6,7,8] rfl rfl rfl) rfl (q.ld 0 rfl rfl av rfl) rfl<|D.one (i:=3) (by kernel_rfl) rfl ?_
    refine Do.s (s.c (q.call jR rfl rfl (fun w hw=>(fj ((aR r).ae) w  (by exact hw.okF bz (by repeat (first|exact List.Mem.head _|refine List.Mem.tail _ ?_))) (by first|assumption|omega)))) rfl) (fun _=>(fun _=>Wd.aM [1,2] [0,1,2,3,4,5,6,7,8] rfl rfl rfl)) rfl fun _=>?_
    refine D.one (i:=6) (by kernel_rfl) rfl ?_
    refine Do.s (s.c (q.call jR rfl rfl (fun w hw=>(fj ((aR r).af) w  (by exact hw.okF bz (by repeat (first|exact List.Mem.head _|refine List.Mem.tail _ ?_))) (by first|assumption|omega)))) rfl) (fun _=>(fun _=>Wd.aM [1,2] [0,1,2,3,4,5,6,7,8] rfl rfl rfl)) rfl fun _=>?_
    refine D.q (i:=7) rfl (by kernel_rfl) (fun _=>Wd.aM [1,2] [0,1,2,3,4,5,6,7,8] rfl rfl rfl) rfl (q.cat rfl rfl (by first|omega|(simp only [ByteArray.size_append,gy,List.length_cons,List.length_nil];omega))) rfl<|D.q (i:=8) rfl (by kernel_rfl) (fun _=>Wd.aM [1,2] [0,1,2,3,4,5,6,7,8] rfl rfl rfl) rfl (q.build (cs:=[.string (⟨#[120]⟩),.string (bf ((aR r).ae)++bf ((aR r).af)),.bool false]) qS rfl rfl) rfl<|D.one (i:=9) (by kernel_rfl) rfl ?_
    refine Do.s (s.bs (l:=([(⟨⟨#[120]⟩,(bf ((aR r).ae)++bf ((aR r).af)),false⟩:Change)]:List Change)) bX fe rfl rfl rfl rfl rfl rfl rfl) (fun _=>(fun _=>Wd.aM [2,3] [0,1,2,3,4,5,6,7,8] rfl rfl rfl)) rfl fun b8=>D.one (i:=10) (by kernel_rfl) rfl ?_
    refine Do.s (s.app (l2:=[(⟨⟨#[120]⟩,(bf ((aR r).ae)++bf ((aR r).af)),false⟩:Change)]) 1 _ rfl rfl rfl (fun _=>Wd.row 0 rfl) gG (by first|omega|(simp;done)|(simp;omega)) (by first|omega|(simp;done)|(simp;omega)) (fun _=>rfl) rfl) (fun _=>(fun _=>Wd.aM [2,3] [0,1,2,3,4,5,6,7,8] rfl rfl rfl)) rfl fun v4=>D.q (i:=11) rfl (by kernel_rfl) (fun _=>Wd.aM [2,3] [0,1,2,3,4,5,6,7,8] rfl rfl rfl) rfl (q.as rfl) rfl<|D.done (by kernel_rfl)<|?_
    have hz:bk r=(l3++([(⟨⟨#[120]⟩,(bf ((aR r).ae)++bf ((aR r).af)),false⟩:Change)])):=by (unfold bk rowsOf;rw [DN,o0 _ (by omega)];rfl)
    rw [hz]
    exact R.w1 v4 [1,3] [] rfl Tryz.results15 (RV.tmp rfl) rfl rfl rfl rfl
theorem o5 (lS:Value)(a:List Int)(lT:Value)(b:List Int)(w:World)(jB:Sl w lS a)(kA:Sl w lT b):Calls Tryz.prog 100 #[lS,lT] w fun e w'=>e = .returned (.bool (decide (a=b)))∧Ext w w':=by
 have C2:=jB.dH
 have C4:=kA.dH
 refine R.enter (n:=26) (vs:=[lS,lT]) [] [(0,lS),(1,lT)] Tryz.func100 rfl rfl rfl rfl ?_
 refine R.reg rfl<|R.u 1 rfl<|R.nil ?_
 refine R.reg rfl<|R.u 1 rfl<|R.q (q.len' (fun _=>Wd.old jB) rfl Tryz.underlying60) rfl<|R.u 1 rfl<|R.q (q.len' (fun _=>Wd.old kA) rfl Tryz.underlying60) rfl<|?_
 by_cases h1:a.length=b.length
 ·
  refine R.q (q.neq rfl rfl (bne_eq_false_iff_eq.2 (by omega))) rfl<|R.nil ?_
  refine R.aI rfl rfl ?_
  refine R.reg rfl<|R.u 1 rfl<|R.q (q.len' (fun _=>Wd.old jB) rfl Tryz.underlying60) rfl<|R.u 1 rfl<|R.nil ?_
  refine R.loop (fun k:Nat=>[(0,lS),(1,lT),(12,iV (a.length:Int)),(13,iV (k:Int))]) (fun k:Nat=>[]) (fun k:Nat=>[]) (fun k:Nat=>k≤a.length ∧ ∀j,j<k→a[j]? = b[j]?) (fun k:Nat=>a.length-k) 0 rfl (by exact ⟨by omega,fun j hj=>absurd hj (Nat.not_lt_zero _)⟩) ⟨rfl,rfl,rfl,rfl,trivial⟩ (fun _=>Wd.pick [] [] rfl rfl rfl) ?_
  rintro k ⟨hk,HA⟩
  refine R.reg rfl<|?_
  by_cases h2:k<a.length
  ·
   refine R.q (q.lss rfl rfl (decide_eq_true (by omega))) rfl<|R.nil ?_
   refine R.aD rfl rfl ?_
   refine R.reg rfl<|R.u 2 rfl<|R.nil ?_
   obtain ⟨x1,hx1⟩:∃z,a[k]? = some z:=⟨_,List.getElem?_eq_getElem (by omega)⟩
   obtain ⟨x2,hx2⟩:∃z,b[k]? = some z:=⟨_,List.getElem?_eq_getElem (by omega)⟩
   by_cases h3:x1=x2
   ·
    refine R.dM rfl mixed (by kernel_rfl)<|Q.u 2 rfl<|Q.q (q.idx (i:=k) (fun _=>Wd.old jB) rfl rfl ct rfl hx1) rfl<|Q.q (q.fk (fun _=>Wd.old jB) hx1 rfl av rfl) rfl<|Q.u 2 rfl<|Q.q (q.idx (i:=k) (fun _=>Wd.old kA) rfl rfl ct rfl hx2) rfl<|Q.q (q.fk (fun _=>Wd.old kA) hx2 rfl av rfl) rfl<|Q.q (q.neq rfl rfl (bne_eq_false_iff_eq.2 (by omega))) rfl<|Q.nil ?_
    refine R.aI rfl rfl ?_
    refine R.reg rfl<|R.q (q.add (r:=((k+1:Nat):Int)) rfl rfl (wr (by omega))) rfl<|R.u 1 rfl<|R.nil ?_
    refine R.back (k+1) rfl (by (exact ⟨by omega,gC HA hx1 hx2 ‹_›⟩)) (by omega) ⟨rfl,rfl,rfl,rfl,trivial⟩ (fun _=>Wd.pick [] [] rfl rfl rfl)
   ·
    refine R.dM rfl mixed (by kernel_rfl)<|Q.u 2 rfl<|Q.q (q.idx (i:=k) (fun _=>Wd.old jB) rfl rfl ct rfl hx1) rfl<|Q.q (q.fk (fun _=>Wd.old jB) hx1 rfl av rfl) rfl<|Q.u 2 rfl<|Q.q (q.idx (i:=k) (fun _=>Wd.old kA) rfl rfl ct rfl hx2) rfl<|Q.q (q.fk (fun _=>Wd.old kA) hx2 rfl av rfl) rfl<|Q.q (q.neq rfl rfl (bne_iff_ne.2 (by omega))) rfl<|Q.nil ?_
    refine R.aD rfl rfl ?_
    refine R.reg rfl<|R.u 1 rfl<|R.nil ?_
    exact R.rv rfl Tryz.results100 rfl (rB (by (first|exact ej ‹_› | exact dN ‹_› ‹_› HA|exact eo hx1 hx2 ‹_›)))
  ·
   refine R.q (q.lss rfl rfl (decide_eq_false (by omega))) rfl<|R.nil ?_
   refine R.aI rfl rfl ?_
   refine R.reg rfl<|R.u 1 rfl<|R.nil ?_
   exact R.rv rfl Tryz.results100 rfl (rB (by (first|exact ej ‹_› | exact dN ‹_› ‹_› HA|exact eo hx1 hx2 ‹_›)))
 ·
  refine R.q (q.neq rfl rfl (bne_iff_ne.2 (by omega))) rfl<|R.nil ?_
  refine R.aD rfl rfl ?_
  refine R.reg rfl<|R.u 1 rfl<|R.nil ?_
  exact R.rv rfl Tryz.results100 rfl (rB (by (first|exact ej ‹_› | exact dN ‹_› ‹_› HA|exact eo hx1 hx2 ‹_›)))
end Go.Proofs.YtbkfhjaibhnkmaaGreatDoor
