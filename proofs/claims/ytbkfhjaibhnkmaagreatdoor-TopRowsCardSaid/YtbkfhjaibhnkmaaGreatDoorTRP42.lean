import Derived.Test.YtbkfhjaibhnkmaaGreatDoorTRP38
import Derived.Test.YtbkfhjaibhnkmaaGreatDoorTRP40
import Derived.Test.YtbkfhjaibhnkmaaGreatDoorTRP41
namespace Go.Proofs.YtbkfhjaibhnkmaaGreatDoor
open Go Go.RowKit
set_option linter.unusedVariables false
set_option linter.unusedSimpArgs false
set_option maxRecDepth 100000
theorem eO (n:Int)(w:World)(ht:rR w)(hn : -9223372036854775808≤n∧n≤9223372036854775807):Calls Tryz.prog 47 #[.int .i64 n] w fun e w'=>e = .returned (.string (aZ n))∧Ext w w':=by
  have il:=nL hn;have ip:=vT n
  refine R.enter (n:=13) (vs:=[.int .i64 n]) [] [(0,.int .i64 n)] Tryz.func47 rfl rfl rfl rfl ?_
  refine R.m0 (r:=bm) ht (sT ht) ?_
  refine R.reg rfl<|R.u 1 rfl<|R.nil ?_
  refine R.reg rfl<|R.u 1 rfl<|R.c (q.call uB rfl rfl (fun w hw=>(nK (n) w  (by exact hw.okF bm (by repeat (first|exact List.Mem.head _|refine List.Mem.tail _ ?_))) (by first|assumption|omega)))) rfl<|R.u 1 rfl<|R.nil ?_
  refine R.reg rfl<|R.u 1 rfl<|R.q (q.kr rfl Tryz.underlying9) rfl<|R.q (q.sub (r:=4-((eu n).size:Int)) rfl rfl (wr (by omega))) rfl<|R.q (q.max (r:=max 0 (4-((eu n).size:Int))) rfl rfl rfl) rfl<|R.c (q.call Av rfl rfl (fun w hw=>(rQ (⟨#[48]⟩) ((max 0 (4-((eu n).size:Int)))) w  (rfl) (by omega)))) rfl<|R.u 1 rfl<|R.q (q.cat rfl rfl (by first|omega|(rw [sU];omega))) rfl<|R.u 1 rfl<|R.nil ?_
  exact R.rv rfl Tryz.results47 rfl (rS (by (unfold aZ;rw [show (max 0 (4-((eu n).size:Int))).toNat=4-(eu n).size by omega])))
def numsL (s:ByteArray)(m:Nat):List Int:=(cK s m).getD []
def cD (s:ByteArray)(m:Nat):Bool:=(cK s m).isSome
theorem mN {s:ByteArray}{m:Nat}(h:s.size<4*m):(numsL s m,cD s m)=([],false):=by unfold numsL cD cK;rw [if_pos h];rfl
theorem gp {s:ByteArray}{m k:Nat}{l:List Int}(h:¬ s.size<4*m)(hk:k<m)(hl:fq s k=some l)(hn:mC (s.extract (4*k) (4*k+4))=none):(numsL s m,cD s m)=([],false):=by
  unfold numsL cD cK;rw [if_neg h,tV hk hl hn];rfl
theorem mO {s:ByteArray}{m:Nat}{l:List Int}(h:¬ s.size<4*m)(hl:fq s m=some l):(numsL s m,cD s m)=(l,true):=by
  unfold numsL cD cK;rw [if_neg h,hl];rfl
theorem mP {s:ByteArray}(h:¬ (Lib.atoi s.data.toList).isSome=true):mC s=none:=by
  unfold mC;cases hq:Lib.atoi s.data.toList with|none=>rfl|some n=>rw [hq] at h;exact absurd rfl h
theorem mQ {s:ByteArray}(h:¬ aZ (aV s)=s):mC s=none:=by
  unfold mC;unfold aV at h
  cases hq:Lib.atoi s.data.toList with
  | none=>rfl
  | some n=>rw [hq] at h;dsimp only;exact if_neg h
theorem vZ {s:ByteArray}(h:(Lib.atoi s.data.toList).isSome=true)(he:aZ (aV s)=s):mC s=some (aV s):=by
  unfold mC;unfold aV at he ⊢
  cases hq:Lib.atoi s.data.toList with
  | none=>rw [hq] at h;cases h
  | some n=>rw [hq] at he;dsimp only;exact if_pos he
theorem gq (sb:ByteArray)(m:Nat)(w:World)(own:List Nat)(H:Wd w (blks []++own) ([]++[ah.held w own]) [bm] w)(hs:sb.size≤1000000∧m≤4):Calls Tryz.prog 98 #[.string sb,.int .i64 (m:Int)] w fun e w' => ∃z:Value,e = .returned (.tuple #[z,.bool ((cD sb m))])∧Wd w (blks []++own) ([ah.row 3 z ((numsL sb m):List Int)]++[ah.held w own]) [] w':=by
  refine R.cQ (n:=50) (vs:=[.string sb,.int .i64 (m:Int)]) (B:=[ah.held w own]) [(0,.string sb),(1,.int .i64 (m:Int))] Tryz.func98 rfl rfl rfl rfl H ?_
  refine R.reg rfl<|R.u 2 rfl<|R.nil ?_
  refine R.reg rfl<|R.u 1 rfl<|R.q (q.kr rfl Tryz.underlying9) rfl<|R.u 1 rfl<|R.q (q.mul (r:=((4*m:Nat):Int)) rfl rfl (wr (by omega))) rfl<|?_
  by_cases h1:sb.size<(4*m)
  ·
    refine R.q (q.lss rfl rfl (decide_eq_true (by omega))) rfl<|R.nil ?_
    refine R.aE rfl rfl ?_
    refine R.reg rfl<|R.u 2 rfl<|R.nil ?_
    refine R.row0 (α:=Int) 3 ?_
    have hz:(numsL sb m,cD sb m)=([],false):=by (first|exact mN (by omega)|exact gp (by omega) (by omega) HL (mP (by assumption))|exact gp (by omega) (by omega) HL (mQ (by assumption))|(have e:k=m:=(by omega);subst e;exact mO (by omega) HL))
    have hz0:numsL sb m=[]:=congrArg (fun t_=>t_.1) hz
    rw [hz0]
    have hz1:cD sb m=false:=congrArg (fun t_=>t_.2) hz
    rw [hz1]
    exact R.w2 (.slice none 0 0) [0,1] [] rfl Tryz.results98 (RV.tmp rfl) (RV.tmp rfl) rfl rfl rfl (cx rfl rfl)
  ·
    refine R.q (q.lss rfl rfl (decide_eq_false (by omega))) rfl<|R.nil ?_
    refine R.aH rfl rfl ?_
    refine R.reg rfl<|R.u 1 rfl<|R.nil ?_
    refine R.reg rfl<|R.u 2 rfl<|R.nil ?_
    refine R.row0 (α:=Int) 3 ?_
    refine R.loop (fun g_:Nat×Value×(List Int)=>[(0,.string sb),(6,g_.2.1),(15,.int .i64 (m:Int)),(16,.int .i64 (g_.1:Int))]) (fun g_:Nat×Value×(List Int)=>[ah.row 3 g_.2.1 (g_.2.2:List Int),ah.held w own]) (fun g_:Nat×Value×(List Int)=>[bm]) (fun g_:Nat×Value×(List Int)=>g_.1≤m∧fq sb g_.1=some g_.2.2) (fun g_:Nat×Value×(List Int)=>m-g_.1) (0,(.slice none 0 0),[]) rfl (by exact ⟨by omega,rfl⟩) ⟨rfl,rfl,rfl,rfl,trivial⟩ (fun _=>Wd.pick [0,1] [0] rfl rfl rfl) ?_
    rintro ⟨k,u,l⟩ ⟨hk,HL⟩
    dsimp only at *
    have ab:=vS (s:=sb.extract (4*k) (4*k+4)) (by rw [ByteArray.size_extract];omega);have gl:=lQ HL
    refine R.reg rfl<|?_
    by_cases h2:k<m
    ·
      refine R.q (q.lss rfl rfl (decide_eq_true (by omega))) rfl<|R.nil ?_
      refine R.aE rfl rfl ?_
      refine R.reg rfl<|R.u 2 rfl<|R.nil ?_
      refine R.reg rfl<|R.u 2 rfl<|R.q (q.mul (r:=((4*k:Nat):Int)) rfl rfl (wr (by omega))) rfl<|R.u 1 rfl<|R.q (q.mul (r:=((4*k:Nat):Int)) rfl rfl (wr (by omega))) rfl<|R.q (q.add (r:=(((4*k)+4:Nat):Int)) rfl rfl (wr (by omega))) rfl<|R.q (q.BD (i:=(4*k)) (j:=((4*k)+4)) rfl rfl rfl Tryz.underlying9 rfl rfl (by omega) (by omega)) rfl<|?_
      by_cases h3:(Lib.atoi (sb.extract (4*k) ((4*k)+4)).data.toList).isSome=true
      ·
        refine R.c (q.call uJ rfl rfl (fun w hw=>(vQ ((sb.extract (4*k) ((4*k)+4))) w  (by assumption) (by rw [ByteArray.size_extract];omega)))) rfl<|R.u 5 rfl<|R.nil ?_
        by_cases h4:aZ (aV (sb.extract (4*k) ((4*k)+4)))=(sb.extract (4*k) ((4*k)+4))
        ·
          refine R.eU rfl mixed (by kernel_rfl)<|Q.u 1 rfl<|Q.q (q.ut rfl rfl Tryz.underlying35) rfl<|Q.u 2 rfl<|Q.cg rfl (q.call jg rfl rfl (fun w hw=>(eO (aV (sb.extract (4*k) ((4*k)+4))) w  (by exact hw.okF bm (by repeat (first|exact List.Mem.head _|refine List.Mem.tail _ ?_))) (by first|assumption|omega)))) rfl<|Q.u 2 rfl<|Q.qg rfl (q.mul (r:=((4*k:Nat):Int)) rfl rfl (wr (by omega))) rfl<|Q.u 1 rfl<|Q.qg rfl (q.mul (r:=((4*k:Nat):Int)) rfl rfl (wr (by omega))) rfl<|Q.qg rfl (q.add (r:=(((4*k)+4:Nat):Int)) rfl rfl (wr (by omega))) rfl<|Q.qg rfl (q.BD (i:=(4*k)) (j:=((4*k)+4)) rfl rfl rfl Tryz.underlying9 rfl rfl (by omega) (by omega)) rfl<|Q.qg rfl (q.xw rfl rfl h4) rfl<|Q.u 1 rfl<|Q.nil ?_
          refine R.aH rfl rfl ?_
          refine R.reg rfl<|R.u 2 rfl<|?_
          refine R.s rfl (s.bs (l:=([aV (sb.extract (4*k) ((4*k)+4))]:List Int)) cG iR rfl rfl rfl rfl rfl rfl rfl) fun b1=>?_
          refine R.s rfl (s.app (l2:=[aV (sb.extract (4*k) ((4*k)+4))]) 1 _ rfl rfl rfl (fun _=>Wd.row 0 rfl) jT (by first|omega|(simp;done)|(simp;omega)) (by first|omega|(simp;done)|(simp;omega)) (fun _=>rfl) rfl) fun v1=>?_
          refine R.u 1 rfl<|R.nil ?_
          refine R.reg rfl<|R.q (q.add (r:=((k+1:Nat):Int)) rfl rfl (wr (by omega))) rfl<|R.u 1 rfl<|R.nil ?_
          refine R.back (k+1,v1,(l++([aV (sb.extract (4*k) ((4*k)+4))]))) rfl (by (exact ⟨by omega,rM HL (vZ (by assumption) (by assumption))⟩)) (by dsimp only;omega) ⟨rfl,rfl,rfl,rfl,trivial⟩ (fun _=>Wd.aK [1,2] [0] rfl rfl rfl)
        ·
          refine R.eU rfl mixed (by kernel_rfl)<|Q.u 1 rfl<|Q.q (q.ut rfl rfl Tryz.underlying35) rfl<|Q.u 2 rfl<|Q.cg rfl (q.call jg rfl rfl (fun w hw=>(eO (aV (sb.extract (4*k) ((4*k)+4))) w  (by exact hw.okF bm (by repeat (first|exact List.Mem.head _|refine List.Mem.tail _ ?_))) (by first|assumption|omega)))) rfl<|Q.u 2 rfl<|Q.qg rfl (q.mul (r:=((4*k:Nat):Int)) rfl rfl (wr (by omega))) rfl<|Q.u 1 rfl<|Q.qg rfl (q.mul (r:=((4*k:Nat):Int)) rfl rfl (wr (by omega))) rfl<|Q.qg rfl (q.add (r:=(((4*k)+4:Nat):Int)) rfl rfl (wr (by omega))) rfl<|Q.qg rfl (q.BD (i:=(4*k)) (j:=((4*k)+4)) rfl rfl rfl Tryz.underlying9 rfl rfl (by omega) (by omega)) rfl<|Q.qg rfl (q.xx rfl rfl h4) rfl<|Q.u 1 rfl<|Q.nil ?_
          refine R.aE rfl rfl ?_
          refine R.reg rfl<|R.u 2 rfl<|R.nil ?_
          refine R.row0 (α:=Int) 3 ?_
          have hz:(numsL sb m,cD sb m)=([],false):=by (first|exact mN (by omega)|exact gp (by omega) (by omega) HL (mP (by assumption))|exact gp (by omega) (by omega) HL (mQ (by assumption))|(have e:k=m:=(by omega);subst e;exact mO (by omega) HL))
          have hz0:numsL sb m=[]:=congrArg (fun t_=>t_.1) hz
          rw [hz0]
          have hz1:cD sb m=false:=congrArg (fun t_=>t_.2) hz
          rw [hz1]
          exact R.w2 (.slice none 0 0) [0,2] [] rfl Tryz.results98 (RV.tmp rfl) (RV.tmp rfl) rfl rfl rfl (cx rfl rfl)
      ·
        refine R.s (B':=(fun aG:Value=>[ah.row 3 u (l:List Int),ah.held w own])) (F':=(fun aG:Value=>[bm])) rfl (s.bA (B0:=[]) (Br:=[ah.row 3 u (l:List Int),ah.held w own]) (F0:=[bm]) [0,1] [0] (fun aG:Value => .tuple #[.int .i64 0,.iface 219 (aG)]) (fun aG:Value=>[]) (fun aG:Value=>[]) rfl rfl rfl uJ rfl rfl (fun w own hw H=>vR ((sb.extract (4*k) ((4*k)+4))) w own H (by assumption) (by rw [ByteArray.size_extract];omega)) rfl) fun z1=>?_
        refine R.u 5 rfl<|R.nil ?_
        refine R.eU rfl mixed (by kernel_rfl)<|Q.u 1 rfl<|Q.q (q.xv rfl rfl Tryz.underlying35) rfl<|Q.u 12 rfl<|Q.nil ?_
        refine R.aE rfl rfl ?_
        refine R.reg rfl<|R.u 2 rfl<|R.nil ?_
        refine R.row0 (α:=Int) 3 ?_
        have hz:(numsL sb m,cD sb m)=([],false):=by (first|exact mN (by omega)|exact gp (by omega) (by omega) HL (mP (by assumption))|exact gp (by omega) (by omega) HL (mQ (by assumption))|(have e:k=m:=(by omega);subst e;exact mO (by omega) HL))
        have hz0:numsL sb m=[]:=congrArg (fun t_=>t_.1) hz
        rw [hz0]
        have hz1:cD sb m=false:=congrArg (fun t_=>t_.2) hz
        rw [hz1]
        exact R.w2 (.slice none 0 0) [0,2] [] rfl Tryz.results98 (RV.tmp rfl) (RV.tmp rfl) rfl rfl rfl (cx rfl rfl)
    ·
      refine R.q (q.lss rfl rfl (decide_eq_false (by omega))) rfl<|R.nil ?_
      refine R.aH rfl rfl ?_
      refine R.reg rfl<|R.u 3 rfl<|R.nil ?_
      have hz:(numsL sb m,cD sb m)=(l,true):=by (first|exact mN (by omega)|exact gp (by omega) (by omega) HL (mP (by assumption))|exact gp (by omega) (by omega) HL (mQ (by assumption))|(have e:k=m:=(by omega);subst e;exact mO (by omega) HL))
      have hz0:numsL sb m=l:=congrArg (fun t_=>t_.1) hz
      rw [hz0]
      have hz1:cD sb m=true:=congrArg (fun t_=>t_.2) hz
      rw [hz1]
      exact R.w2 u [0,1] [] rfl Tryz.results98 (RV.tmp rfl) (RV.tmp rfl) rfl rfl rfl (cx rfl rfl)
theorem jM {α β:Type}(f:α→β){L:List α}{k:Nat}{x:α}(hx:L[k]? = some x):(L.take (k+1)).map f=(L.take k).map f++[f x]:=by
  rw [List.take_add_one,hx,List.map_append];rfl
theorem nO {α β:Type}(f:α→β){L:List α}{k:Nat}(h:L.length≤k):(L.take k).map f=L.map f:=by rw [List.take_of_length_le h]
structure CO (q:au):Prop where
  i:Inv q
  h:∀x∈q.Held,(eu x.Place.ag).size≤21∧(eu x.Place.Slot).size≤21∧(aZ x.ak).size≤25∧0≤x.Place.ag∧x.Place.ag≤4∧0≤x.Place.Slot∧x.Place.Slot≤5∧0≤x.ak∧x.ak≤10000
  t:∀x∈q.Things,(aZ x.ID).size≤25∧(aZ x.Kind).size≤25∧x.Data.size≤8∧0≤x.ID∧x.ID≤10000∧0≤x.Kind∧x.Kind≤2
  w:∀x∈q.aj,((aZ x.ID).size≤25∧(aZ x.ai).size≤25∧(aZ x.Rights).size≤25∧(aZ x.ar).size≤25∧(aZ x.From).size≤25)∧0≤x.ID∧x.ID≤999∧0≤x.ai∧x.ai≤999∧0≤x.Rights∧x.Rights≤7∧0≤x.ar∧x.ar≤99∧0≤x.From∧x.From≤999
  n:(aZ q.ae).size≤25∧(aZ q.af).size≤25
theorem gi {n:Int}(h:0≤n∧n≤10000):(aZ n).size≤25:=vU (by omega)
theorem sX {n:Int}(h:0≤n∧n≤10000):(eu n).size≤21:=nL (by omega)
theorem Inv.CP {q:au}(i:Inv q):CO q where
  i:=i
  h:=fun x hx=>by
    have k:=i.xo hx;have p:=bS k.1;have k1:=k.2.1;have k2:=k.2.2
    exact ⟨sX (by omega),sX (by omega),gi (by omega),by omega,by omega,by omega,by omega,by omega,by omega⟩
  t:=fun x hx=>by
    have k:=i.yd hx;have a:=k.i0;have b:=k.i9;have c:=k.kd;have d:=k.ds
    exact ⟨gi (by omega),gi (by omega),d,a,by omega,by omega,by omega⟩
  w:=fun x hx=>by
    have k:=i.tree.mem hx;have i1:=k.id1;have i9:=k.xU;have t1:=k.yH;have t9:=k.yI;have a0:=k.yJ;have a9:=k.yK;have f0:=k.zu;have fl:=k.yL;have q0:=k.uX;have q7:=k.uY
    exact ⟨⟨gi (by omega),gi (by omega),gi (by omega),gi (by omega),gi (by omega)⟩,by omega,by omega,by omega,by omega,by omega,by omega,by omega,by omega,by omega,by omega⟩
  n:=by
    have a1:=i.jk;have a2:=i.j4;have a3:=i.jo;have a4:=i.jq
    exact ⟨gi (by omega),gi (by omega)⟩
set_option maxRecDepth 100000 in
set_option maxHeartbeats 1600000 in
theorem qD (aD az aC aB:Value)(r:au)(w:World)(own:List Nat)(H:Wd w (blks []++own) ([]++[ah.held w own]) [ah.ls aD (r.aj:List ak),ah.ls az (r.Things:List ai),ah.ls aC (r.Held:List Held),ah.ls aB (r.Notes:List Note),bm] w)(hk:Ok r)(hI:Inv r):Calls Tryz.prog 15 #[.agg #[aD,az,aC,aB,.int .i64 r.ae,.int .i64 r.af]] w fun e w' => ∃z:Value,e = .returned (z)∧Wd w (blks []++own) ([ah.row 52 z ((bP r):List Change)]++[ah.held w own]) [] w':=by
  have dF:=H.cL 0 rfl
  have cX:=H.cL 1 rfl
  have ej:=H.cL 2 rfl
  have dG:=H.cL 3 rfl
  have bw:=hk.wl;have bt:=hk.tl;have bh:=hk.hl;have bn:=hk.nl;have wi:=hk.w0;have wj:=hk.w1;have wk:=hk.t0;have wm:=hk.t1
  have hq:=(iG hI).1.CP
  have hn:=hq.n;have jk:=hq.i.jk;have j4:=hq.i.j4;have jo:=hq.i.jo;have jq:=hq.i.jq;have hl0:=qo hq.i;have C9:=hq.i.fj;have Da:=(iG hI).2.2.2.1
  refine R.cQ (n:=101) (vs:=[.agg #[aD,az,aC,aB,.int .i64 r.ae,.int .i64 r.af]]) (B:=[ah.held w own]) [(0,.agg #[aD,az,aC,aB,.int .i64 r.ae,.int .i64 r.af])] Tryz.func15 rfl rfl rfl rfl H ?_
  refine R.reg rfl<|?_
  refine R.s rfl (s.box (cs:=[aD,az,aC,aB,.int .i64 r.ae,.int .i64 r.af]) rfl rfl rfl) fun b1=>?_
  refine R.u 1 rfl<|R.nil ?_
  refine R.reg rfl<|R.q (q.cF 0 rfl rfl av) rfl<|?_
  refine R.s (B':=(fun g_:Value×Value×Value×Value=>[ah.box b1 [aD,az,aC,aB,.int .i64 r.ae,.int .i64 r.af] 32,ah.held w own])) (F':=(fun g_:Value×Value×Value×Value=>[ah.ls g_.1 (((aI r)).aj:List ak),ah.ls g_.2.1 (((aI r)).Things:List ai),ah.ls g_.2.2.1 (((aI r)).Held:List Held),ah.ls g_.2.2.2 (((aI r)).Notes:List Note),ah.ls aD (r.aj:List ak),ah.ls az (r.Things:List ai),ah.ls aC (r.Held:List Held),ah.ls aB (r.Notes:List Note),bm])) rfl (s.bA (B0:=[]) (Br:=[ah.box b1 [aD,az,aC,aB,.int .i64 r.ae,.int .i64 r.af] 32,ah.held w own]) (F0:=[ah.ls aD (r.aj:List ak),ah.ls az (r.Things:List ai),ah.ls aC (r.Held:List Held),ah.ls aB (r.Notes:List Note)]) [0,1] [0,1,2,3] (fun g_:Value×Value×Value×Value => .agg #[g_.1,g_.2.1,g_.2.2.1,g_.2.2.2,.int .i64 (((aI r)).ae),.int .i64 (((aI r)).af)]) (fun g_:Value×Value×Value×Value=>[]) (fun g_:Value×Value×Value×Value=>[ah.ls g_.1 (((aI r)).aj:List ak),ah.ls g_.2.1 (((aI r)).Things:List ai),ah.ls g_.2.2.1 (((aI r)).Held:List Held),ah.ls g_.2.2.2 (((aI r)).Notes:List Note)]) rfl rfl rfl xK rfl rfl (fun w own hw H=>nM aD az aC aB (r) w own H (by assumption)) rfl) ?_
  rintro ⟨z1,z2,z3,z4⟩
  dsimp only
  refine R.s rfl (s.eH (us:=[z1,z2,z3,z4,.int .i64 ((aI r).ae),.int .i64 ((aI r).af)]) (cs':=[z1,z2,z3,z4,.int .i64 ((aI r).ae),.int .i64 ((aI r).af)]) 0 _ rfl rfl rfl (fun _ _=>rfl) (.inl av) (fun w hw=>(ao (Sl.one ((fun _=>Wd.aS 0 rfl) w hw)) (ao (Sl.one ((fun _=>Wd.aS 1 rfl) w hw)) (ao (Sl.one ((fun _=>Wd.aS 2 rfl) w hw)) (ao (Sl.one ((fun _=>Wd.aS 3 rfl) w hw)) (ao rfl (ao rfl aO))))))) rfl rfl rfl) fun _=>?_
  refine R.nil ?_
  refine R.reg rfl<|R.u 1 rfl<|R.nil ?_
  refine R.reg rfl<|R.q (q.aX (off':=2) rfl bJ rfl) rfl<|R.q (q.ld 0 rfl rfl cw rfl) rfl<|R.q (q.len' (fun _=>Wd.aS 2 rfl) rfl Tryz.underlying29) rfl<|R.u 1 rfl<|R.nil ?_
  refine R.row0 (α:=Change) 52 ?_
  refine R.loop (fun g_:Nat×Value×(List Change)=>[(1,.pointer (some ⟨b1,0,none⟩)),(3,g_.2.1),(13,z3),(14,.int .i64 (((aI r).Held).length:Int)),(15,.int .i64 (g_.1:Int))]) (fun g_:Nat×Value×(List Change)=>[ah.row 52 g_.2.1 (g_.2.2:List Change),ah.box b1 [z1,z2,z3,z4,.int .i64 ((aI r).ae),.int .i64 ((aI r).af)] 32,ah.held w own]) (fun g_:Nat×Value×(List Change)=>[ah.ls z1 ((aI r).aj:List ak),ah.ls z2 ((aI r).Things:List ai),ah.ls z3 ((aI r).Held:List Held),ah.ls z4 ((aI r).Notes:List Note),ah.ls aD (r.aj:List ak),ah.ls az (r.Things:List ai),ah.ls aC (r.Held:List Held),ah.ls aB (r.Notes:List Note),bm]) (fun g_:Nat×Value×(List Change)=>g_.1≤(aI r).Held.length∧g_.2.2=((aI r).Held.take g_.1).map hrow) (fun g_:Nat×Value×(List Change)=>(aI r).Held.length-g_.1) (0,(.slice none 0 0),[]) rfl (by exact ⟨by omega,rfl⟩) ⟨rfl,rfl,rfl,rfl,rfl,trivial⟩ (fun _=>Wd.pick [0,1,2] [0,1,2,3,4,5,6,7,8] rfl rfl rfl) ?_
  rintro ⟨k,u,l⟩ ⟨hk,HL⟩
  dsimp only at *
  have ll:l.length≤24:=by rw [HL,List.length_map,List.length_take];omega
  refine R.reg rfl<|?_
  by_cases h1:k<((aI r).Held).length
  ·
    refine R.q (q.lss rfl rfl (decide_eq_true (by omega))) rfl<|R.nil ?_
    refine R.aE rfl rfl ?_
    refine R.reg rfl<|?_
    obtain ⟨x1,hx1⟩:∃z,((aI r).Held)[k]? = some z:=⟨_,List.getElem?_eq_getElem (by omega)⟩
    have CQ:=hq.h _ (List.mem_of_getElem? hx1)
    refine R.q (q.idx (i:=k) (fun _=>Wd.aS 2 rfl) rfl rfl bH rfl hx1) rfl<|R.q (q.dY (ds:=[.int .i64 x1.Place.ag,.int .i64 x1.Place.Slot,.int .i64 x1.ak]) (fun _=>Wd.aS 2 rfl) hx1 rfl dV rfl) rfl<|?_
    refine R.s rfl (s.alloc (cs:=[.int .i64 0,.int .i64 0,.int .i64 0]) eV rfl rfl) fun b2=>?_
    refine R.s rfl (s.st (us:=[.int .i64 x1.Place.ag,.int .i64 x1.Place.Slot,.int .i64 x1.ak]) (cs':=[.int .i64 x1.Place.ag,.int .i64 x1.Place.Slot,.int .i64 x1.ak]) 0 _ rfl rfl rfl rfl (.inl dV) rfl rfl rfl rfl) fun _=>?_
    refine R.nil ?_
    refine R.fT (fuel:=18) (Wd w (blks []++own) [ah.box b2 [.int .i64 x1.Place.ag,.int .i64 x1.Place.Slot,.int .i64 x1.ak] 85,ah.box b1 [z1,z2,z3,z4,.int .i64 ((aI r).ae),.int .i64 ((aI r).af)] 32,ah.held w own] [ah.ls z1 ((aI r).aj:List ak),ah.ls z2 ((aI r).Things:List ai),ah.ls z3 ((aI r).Held:List Held),ah.ls z4 ((aI r).Notes:List Note),ah.ls aD (r.aj:List ak),ah.ls az (r.Things:List ai),ah.ls aC (r.Held:List Held),ah.ls aB (r.Notes:List Note),bm]) rfl mixed rfl ?_
    refine D.q (i:=0) rfl (by kernel_rfl) (fun _=>Wd.aK [0,2,3] [0,1,2,3,4,5,6,7,8] rfl rfl rfl) rfl (q.mv rfl) rfl<|D.q (i:=1) rfl (by kernel_rfl) (fun _=>Wd.aK [0,2,3] [0,1,2,3,4,5,6,7,8] rfl rfl rfl) rfl (q.aX (off':=0) rfl lD rfl) rfl<|D.q (i:=2) rfl (by kernel_rfl) (fun _=>Wd.aK [0,2,3] [0,1,2,3,4,5,6,7,8] rfl rfl rfl) rfl (q.aX (off':=0) rfl dE rfl) rfl<|D.q (i:=3) rfl (by kernel_rfl) (fun _=>Wd.aK [0,2,3] [0,1,2,3,4,5,6,7,8] rfl rfl rfl) rfl (q.ld 0 rfl rfl aA rfl) rfl<|D.q (i:=6) rfl (by kernel_rfl) (fun _=>Wd.aK [0,2,3] [0,1,2,3,4,5,6,7,8] rfl rfl rfl) rfl (q.aX (off':=0) rfl lD rfl) rfl<|D.q (i:=7) rfl (by kernel_rfl) (fun _=>Wd.aK [0,2,3] [0,1,2,3,4,5,6,7,8] rfl rfl rfl) rfl (q.aX (off':=1) rfl iq rfl) rfl<|D.q (i:=8) rfl (by kernel_rfl) (fun _=>Wd.aK [0,2,3] [0,1,2,3,4,5,6,7,8] rfl rfl rfl) rfl (q.ld 0 rfl rfl aA rfl) rfl<|D.q (i:=11) rfl (by kernel_rfl) (fun _=>Wd.aK [0,2,3] [0,1,2,3,4,5,6,7,8] rfl rfl rfl) rfl (q.aX (off':=2) rfl fV rfl) rfl<|D.q (i:=12) rfl (by kernel_rfl) (fun _=>Wd.aK [0,2,3] [0,1,2,3,4,5,6,7,8] rfl rfl rfl) rfl (q.ld 0 rfl rfl aA rfl) rfl<|?_
    refine D.one (i:=4) (by kernel_rfl) rfl ?_
    refine Do.s (s.c (q.call uB rfl rfl (fun w hw=>(nK (x1.Place.ag) w  (by exact hw.okF bm (by repeat (first|exact List.Mem.head _|refine List.Mem.tail _ ?_))) (by first|assumption|omega)))) rfl) (fun _=>(fun _=>Wd.aK [0,2,3] [0,1,2,3,4,5,6,7,8] rfl rfl rfl)) rfl fun _=>?_
    refine D.q (i:=5) rfl (by kernel_rfl) (fun _=>Wd.aK [0,2,3] [0,1,2,3,4,5,6,7,8] rfl rfl rfl) rfl (q.cat rfl rfl (by first|omega|(simp only [ByteArray.size_append,fR,List.length_cons,List.length_nil];omega))) rfl<|?_
    refine D.one (i:=9) (by kernel_rfl) rfl ?_
    refine Do.s (s.c (q.call uB rfl rfl (fun w hw=>(nK (x1.Place.Slot) w  (by exact hw.okF bm (by repeat (first|exact List.Mem.head _|refine List.Mem.tail _ ?_))) (by first|assumption|omega)))) rfl) (fun _=>(fun _=>Wd.aK [0,2,3] [0,1,2,3,4,5,6,7,8] rfl rfl rfl)) rfl fun _=>?_
    refine D.q (i:=10) rfl (by kernel_rfl) (fun _=>Wd.aK [0,2,3] [0,1,2,3,4,5,6,7,8] rfl rfl rfl) rfl (q.cat rfl rfl (by first|omega|(simp only [ByteArray.size_append,fR,List.length_cons,List.length_nil];omega))) rfl<|?_
    refine D.one (i:=13) (by kernel_rfl) rfl ?_
    refine Do.s (s.c (q.call jg rfl rfl (fun w hw=>(eO (x1.ak) w  (by exact hw.okF bm (by repeat (first|exact List.Mem.head _|refine List.Mem.tail _ ?_))) (by first|assumption|omega)))) rfl) (fun _=>(fun _=>Wd.aK [0,2,3] [0,1,2,3,4,5,6,7,8] rfl rfl rfl)) rfl fun _=>?_
    refine D.q (i:=14) rfl (by kernel_rfl) (fun _=>Wd.aK [0,2,3] [0,1,2,3,4,5,6,7,8] rfl rfl rfl) rfl (q.build (cs:=[.string ((⟨#[104]⟩++eu x1.Place.ag)++eu x1.Place.Slot),.string (aZ x1.ak),.bool false]) sg rfl rfl) rfl<|?_
    refine D.one (i:=15) (by kernel_rfl) rfl ?_
    refine Do.s (s.bs (l:=([(⟨((⟨#[104]⟩++eu x1.Place.ag)++eu x1.Place.Slot),aZ x1.ak,false⟩:Change)]:List Change)) gL jz rfl rfl rfl rfl rfl rfl rfl) (fun _=>(fun _=>Wd.aK [1,3,4] [0,1,2,3,4,5,6,7,8] rfl rfl rfl)) rfl fun b3=>?_
    refine D.one (i:=16) (by kernel_rfl) rfl ?_
    refine Do.s (s.app (l2:=[(⟨((⟨#[104]⟩++eu x1.Place.ag)++eu x1.Place.Slot),aZ x1.ak,false⟩:Change)]) 2 _ rfl rfl rfl (fun _=>Wd.row 0 rfl) mF (by first|omega|(simp;done)|(simp;omega)) (by first|omega|(simp;done)|(simp;omega)) (fun _=>rfl) rfl) (fun _=>(fun _=>Wd.aK [1,3,4] [0,1,2,3,4,5,6,7,8] rfl rfl rfl)) rfl fun v1=>?_
    refine D.q (i:=17) rfl (by kernel_rfl) (fun _=>Wd.aK [1,3,4] [0,1,2,3,4,5,6,7,8] rfl rfl rfl) rfl (q.as rfl) rfl<|D.done (by kernel_rfl)<|?_
    refine R.reg rfl<|R.q (q.add (r:=((k+1:Nat):Int)) rfl rfl (wr (by omega))) rfl<|R.u 1 rfl<|R.nil ?_
    refine R.back (k+1,v1,(l++([(⟨((⟨#[104]⟩++eu x1.Place.ag)++eu x1.Place.Slot),aZ x1.ak,false⟩:Change)]))) rfl (by (exact ⟨by omega,by rw [jM hrow hx1,← HL];rfl⟩)) (by dsimp only;omega) ⟨rfl,rfl,rfl,rfl,rfl,trivial⟩ (fun _=>Wd.aK [2,3,4] [0,1,2,3,4,5,6,7,8] rfl rfl rfl)
  ·
    refine R.q (q.lss rfl rfl (decide_eq_false (by omega))) rfl<|R.nil ?_
    refine R.aH rfl rfl ?_
    refine R.reg rfl<|R.q (q.aX (off':=1) rfl bI rfl) rfl<|R.q (q.ld 1 rfl rfl cu rfl) rfl<|R.q (q.len' (fun _=>Wd.aS 1 rfl) rfl Tryz.underlying28) rfl<|R.u 1 rfl<|R.nil ?_
    refine R.loop (fun g_:Nat×Value×(List Change)=>[(1,.pointer (some ⟨b1,0,none⟩)),(3,g_.2.1),(38,z2),(39,.int .i64 (((aI r).Things).length:Int)),(40,.int .i64 (g_.1:Int))]) (fun g_:Nat×Value×(List Change)=>[ah.row 52 g_.2.1 (g_.2.2:List Change),ah.box b1 [z1,z2,z3,z4,.int .i64 ((aI r).ae),.int .i64 ((aI r).af)] 32,ah.held w own]) (fun g_:Nat×Value×(List Change)=>[ah.ls z1 ((aI r).aj:List ak),ah.ls z2 ((aI r).Things:List ai),ah.ls z3 ((aI r).Held:List Held),ah.ls z4 ((aI r).Notes:List Note),ah.ls aD (r.aj:List ak),ah.ls az (r.Things:List ai),ah.ls aC (r.Held:List Held),ah.ls aB (r.Notes:List Note),bm]) (fun g_:Nat×Value×(List Change)=>g_.1≤(aI r).Things.length∧g_.2.2=(aI r).Held.map hrow++((aI r).Things.take g_.1).map gx) (fun g_:Nat×Value×(List Change)=>(aI r).Things.length-g_.1) (0,u,l) rfl (by exact ⟨by omega,by rw [HL,nO _ (by omega)];exact (List.append_nil _).symm⟩) ⟨rfl,rfl,rfl,rfl,rfl,trivial⟩ (fun _=>Wd.pick [0,1,2] [0,1,2,3,4,5,6,7,8] rfl rfl rfl) ?_
    rintro ⟨j,u2,l2⟩ ⟨hj,HL2⟩
    dsimp only at *
    have CR:l2.length≤34:=by rw [HL2,List.length_append,List.length_map,List.length_map,List.length_take];omega
    refine R.reg rfl<|?_
    by_cases h2:j<((aI r).Things).length
    ·
      refine R.q (q.lss rfl rfl (decide_eq_true (by omega))) rfl<|R.nil ?_
      refine R.aE rfl rfl ?_
      refine R.reg rfl<|?_
      obtain ⟨x2,hx2⟩:∃z,((aI r).Things)[j]? = some z:=⟨_,List.getElem?_eq_getElem (by omega)⟩
      have CS:=hq.t _ (List.mem_of_getElem? hx2)
      refine R.q (q.idx (i:=j) (fun _=>Wd.aS 1 rfl) rfl rfl eQ rfl hx2) rfl<|R.q (q.dY (ds:=[.int .i64 x2.ID,.int .i64 x2.Kind,.string x2.Data]) (fun _=>Wd.aS 1 rfl) hx2 rfl eR rfl) rfl<|?_
      refine R.s rfl (s.alloc (cs:=[.int .i64 0,.int .i64 0,.string (⟨#[]⟩)]) fE rfl rfl) fun b4=>?_
      refine R.s rfl (s.st (us:=[.int .i64 x2.ID,.int .i64 x2.Kind,.string x2.Data]) (cs':=[.int .i64 x2.ID,.int .i64 x2.Kind,.string x2.Data]) 0 _ rfl rfl rfl rfl (.inl eR) rfl rfl rfl rfl) fun _=>?_
      refine R.nil ?_
      refine R.fT (fuel:=15) (Wd w (blks []++own) [ah.box b4 [.int .i64 x2.ID,.int .i64 x2.Kind,.string x2.Data] 62,ah.box b1 [z1,z2,z3,z4,.int .i64 ((aI r).ae),.int .i64 ((aI r).af)] 32,ah.held w own] [ah.ls z1 ((aI r).aj:List ak),ah.ls z2 ((aI r).Things:List ai),ah.ls z3 ((aI r).Held:List Held),ah.ls z4 ((aI r).Notes:List Note),ah.ls aD (r.aj:List ak),ah.ls az (r.Things:List ai),ah.ls aC (r.Held:List Held),ah.ls aB (r.Notes:List Note),bm]) rfl mixed rfl ?_
      refine D.q (i:=0) rfl (by kernel_rfl) (fun _=>Wd.aK [0,2,3] [0,1,2,3,4,5,6,7,8] rfl rfl rfl) rfl (q.mv rfl) rfl<|D.q (i:=1) rfl (by kernel_rfl) (fun _=>Wd.aK [0,2,3] [0,1,2,3,4,5,6,7,8] rfl rfl rfl) rfl (q.aX (off':=0) rfl jR rfl) rfl<|D.q (i:=2) rfl (by kernel_rfl) (fun _=>Wd.aK [0,2,3] [0,1,2,3,4,5,6,7,8] rfl rfl rfl) rfl (q.ld 0 rfl rfl aA rfl) rfl<|D.q (i:=5) rfl (by kernel_rfl) (fun _=>Wd.aK [0,2,3] [0,1,2,3,4,5,6,7,8] rfl rfl rfl) rfl (q.aX (off':=1) rfl ou rfl) rfl<|D.q (i:=6) rfl (by kernel_rfl) (fun _=>Wd.aK [0,2,3] [0,1,2,3,4,5,6,7,8] rfl rfl rfl) rfl (q.ld 0 rfl rfl aA rfl) rfl<|D.q (i:=8) rfl (by kernel_rfl) (fun _=>Wd.aK [0,2,3] [0,1,2,3,4,5,6,7,8] rfl rfl rfl) rfl (q.aX (off':=2) rfl ov rfl) rfl<|D.q (i:=9) rfl (by kernel_rfl) (fun _=>Wd.aK [0,2,3] [0,1,2,3,4,5,6,7,8] rfl rfl rfl) rfl (q.ld 0 rfl rfl cd rfl) rfl<|?_
      refine D.one (i:=3) (by kernel_rfl) rfl ?_
      refine Do.s (s.c (q.call jg rfl rfl (fun w hw=>(eO (x2.ID) w  (by exact hw.okF bm (by repeat (first|exact List.Mem.head _|refine List.Mem.tail _ ?_))) (by first|assumption|omega)))) rfl) (fun _=>(fun _=>Wd.aK [0,2,3] [0,1,2,3,4,5,6,7,8] rfl rfl rfl)) rfl fun _=>?_
      refine D.q (i:=4) rfl (by kernel_rfl) (fun _=>Wd.aK [0,2,3] [0,1,2,3,4,5,6,7,8] rfl rfl rfl) rfl (q.cat rfl rfl (by first|omega|(simp only [ByteArray.size_append,fR,List.length_cons,List.length_nil];omega))) rfl<|?_
      refine D.one (i:=7) (by kernel_rfl) rfl ?_
      refine Do.s (s.c (q.call jg rfl rfl (fun w hw=>(eO (x2.Kind) w  (by exact hw.okF bm (by repeat (first|exact List.Mem.head _|refine List.Mem.tail _ ?_))) (by first|assumption|omega)))) rfl) (fun _=>(fun _=>Wd.aK [0,2,3] [0,1,2,3,4,5,6,7,8] rfl rfl rfl)) rfl fun _=>?_
      refine D.q (i:=10) rfl (by kernel_rfl) (fun _=>Wd.aK [0,2,3] [0,1,2,3,4,5,6,7,8] rfl rfl rfl) rfl (q.cat rfl rfl (by first|omega|(simp only [ByteArray.size_append,fR,List.length_cons,List.length_nil];omega))) rfl<|D.q (i:=11) rfl (by kernel_rfl) (fun _=>Wd.aK [0,2,3] [0,1,2,3,4,5,6,7,8] rfl rfl rfl) rfl (q.build (cs:=[.string (⟨#[116]⟩++aZ x2.ID),.string (aZ x2.Kind++x2.Data),.bool false]) sg rfl rfl) rfl<|?_
      refine D.one (i:=12) (by kernel_rfl) rfl ?_
      refine Do.s (s.bs (l:=([(⟨(⟨#[116]⟩++aZ x2.ID),(aZ x2.Kind++x2.Data),false⟩:Change)]:List Change)) gL jz rfl rfl rfl rfl rfl rfl rfl) (fun _=>(fun _=>Wd.aK [1,3,4] [0,1,2,3,4,5,6,7,8] rfl rfl rfl)) rfl fun b5=>?_
      refine D.one (i:=13) (by kernel_rfl) rfl ?_
      refine Do.s (s.app (l2:=[(⟨(⟨#[116]⟩++aZ x2.ID),(aZ x2.Kind++x2.Data),false⟩:Change)]) 2 _ rfl rfl rfl (fun _=>Wd.row 0 rfl) mF (by first|omega|(simp;done)|(simp;omega)) (by first|omega|(simp;done)|(simp;omega)) (fun _=>rfl) rfl) (fun _=>(fun _=>Wd.aK [1,3,4] [0,1,2,3,4,5,6,7,8] rfl rfl rfl)) rfl fun v2=>?_
      refine D.q (i:=14) rfl (by kernel_rfl) (fun _=>Wd.aK [1,3,4] [0,1,2,3,4,5,6,7,8] rfl rfl rfl) rfl (q.as rfl) rfl<|D.done (by kernel_rfl)<|?_
      refine R.reg rfl<|R.q (q.add (r:=((j+1:Nat):Int)) rfl rfl (wr (by omega))) rfl<|R.u 1 rfl<|R.nil ?_
      refine R.back (j+1,v2,(l2++([(⟨(⟨#[116]⟩++aZ x2.ID),(aZ x2.Kind++x2.Data),false⟩:Change)]))) rfl (by (exact ⟨by omega,by rw [jM gx hx2,← List.append_assoc,← HL2];rfl⟩)) (by dsimp only;omega) ⟨rfl,rfl,rfl,rfl,rfl,trivial⟩ (fun _=>Wd.aK [2,3,4] [0,1,2,3,4,5,6,7,8] rfl rfl rfl)
    ·
      refine R.q (q.lss rfl rfl (decide_eq_false (by omega))) rfl<|R.nil ?_
      refine R.aH rfl rfl ?_
      refine R.reg rfl<|R.q (q.aX (off':=0) rfl aY rfl) rfl<|R.q (q.ld 1 rfl rfl bq rfl) rfl<|R.q (q.len' (fun _=>Wd.aS 0 rfl) rfl Tryz.underlying27) rfl<|R.u 1 rfl<|R.nil ?_
      refine R.loop (fun g_:Nat×Value×(List Change)=>[(1,.pointer (some ⟨b1,0,none⟩)),(3,g_.2.1),(60,z1),(61,.int .i64 (((aI r).aj).length:Int)),(62,.int .i64 (g_.1:Int))]) (fun g_:Nat×Value×(List Change)=>[ah.row 52 g_.2.1 (g_.2.2:List Change),ah.box b1 [z1,z2,z3,z4,.int .i64 ((aI r).ae),.int .i64 ((aI r).af)] 32,ah.held w own]) (fun g_:Nat×Value×(List Change)=>[ah.ls z1 ((aI r).aj:List ak),ah.ls z2 ((aI r).Things:List ai),ah.ls z3 ((aI r).Held:List Held),ah.ls z4 ((aI r).Notes:List Note),ah.ls aD (r.aj:List ak),ah.ls az (r.Things:List ai),ah.ls aC (r.Held:List Held),ah.ls aB (r.Notes:List Note),bm]) (fun g_:Nat×Value×(List Change)=>g_.1≤(aI r).aj.length∧g_.2.2=(aI r).Held.map hrow++(aI r).Things.map gx++((aI r).aj.take g_.1).map iH) (fun g_:Nat×Value×(List Change)=>(aI r).aj.length-g_.1) (0,u2,l2) rfl (by exact ⟨by omega,by rw [HL2,nO _ (by omega)];exact (List.append_nil _).symm⟩) ⟨rfl,rfl,rfl,rfl,rfl,trivial⟩ (fun _=>Wd.pick [0,1,2] [0,1,2,3,4,5,6,7,8] rfl rfl rfl) ?_
      rintro ⟨i,u3,l3⟩ ⟨hi,BW⟩
      dsimp only at *
      have Db:l3.length≤58:=by rw [BW,List.length_append,List.length_append,List.length_map,List.length_map,List.length_map,List.length_take];omega
      refine R.reg rfl<|?_
      by_cases h3:i<((aI r).aj).length
      ·
        refine R.q (q.lss rfl rfl (decide_eq_true (by omega))) rfl<|R.nil ?_
        refine R.aE rfl rfl ?_
        refine R.reg rfl<|?_
        obtain ⟨x3,hx3⟩:∃z,((aI r).aj)[i]? = some z:=⟨_,List.getElem?_eq_getElem (by omega)⟩
        have Dc:=hq.w _ (List.mem_of_getElem? hx3)
        refine R.q (q.idx (i:=i) (fun _=>Wd.aS 0 rfl) rfl rfl ct rfl hx3) rfl<|R.q (q.dY (ds:=[.int .i64 x3.ID,.int .i64 x3.ai,.int .i64 x3.Rights,.int .i64 x3.ar,.int .i64 x3.From]) (fun _=>Wd.aS 0 rfl) hx3 rfl aN rfl) rfl<|?_
        refine R.s rfl (s.alloc (cs:=[.int .i64 0,.int .i64 0,.int .i64 0,.int .i64 0,.int .i64 0]) br rfl rfl) fun b6=>?_
        refine R.s rfl (s.st (us:=[.int .i64 x3.ID,.int .i64 x3.ai,.int .i64 x3.Rights,.int .i64 x3.ar,.int .i64 x3.From]) (cs':=[.int .i64 x3.ID,.int .i64 x3.ai,.int .i64 x3.Rights,.int .i64 x3.ar,.int .i64 x3.From]) 0 _ rfl rfl rfl rfl (.inl aN) rfl rfl rfl rfl) fun _=>?_
        refine R.nil ?_
        refine R.fT (fuel:=24) (Wd w (blks []++own) [ah.box b6 [.int .i64 x3.ID,.int .i64 x3.ai,.int .i64 x3.Rights,.int .i64 x3.ar,.int .i64 x3.From] 88,ah.box b1 [z1,z2,z3,z4,.int .i64 ((aI r).ae),.int .i64 ((aI r).af)] 32,ah.held w own] [ah.ls z1 ((aI r).aj:List ak),ah.ls z2 ((aI r).Things:List ai),ah.ls z3 ((aI r).Held:List Held),ah.ls z4 ((aI r).Notes:List Note),ah.ls aD (r.aj:List ak),ah.ls az (r.Things:List ai),ah.ls aC (r.Held:List Held),ah.ls aB (r.Notes:List Note),bm]) rfl mixed rfl ?_
        refine D.q (i:=0) rfl (by kernel_rfl) (fun _=>Wd.aK [0,2,3] [0,1,2,3,4,5,6,7,8] rfl rfl rfl) rfl (q.mv rfl) rfl<|D.q (i:=1) rfl (by kernel_rfl) (fun _=>Wd.aK [0,2,3] [0,1,2,3,4,5,6,7,8] rfl rfl rfl) rfl (q.aX (off':=0) rfl bu rfl) rfl<|D.q (i:=2) rfl (by kernel_rfl) (fun _=>Wd.aK [0,2,3] [0,1,2,3,4,5,6,7,8] rfl rfl rfl) rfl (q.ld 0 rfl rfl aA rfl) rfl<|D.q (i:=5) rfl (by kernel_rfl) (fun _=>Wd.aK [0,2,3] [0,1,2,3,4,5,6,7,8] rfl rfl rfl) rfl (q.aX (off':=1) rfl eB rfl) rfl<|D.q (i:=6) rfl (by kernel_rfl) (fun _=>Wd.aK [0,2,3] [0,1,2,3,4,5,6,7,8] rfl rfl rfl) rfl (q.ld 0 rfl rfl aA rfl) rfl<|D.q (i:=8) rfl (by kernel_rfl) (fun _=>Wd.aK [0,2,3] [0,1,2,3,4,5,6,7,8] rfl rfl rfl) rfl (q.aX (off':=2) rfl fy rfl) rfl<|D.q (i:=9) rfl (by kernel_rfl) (fun _=>Wd.aK [0,2,3] [0,1,2,3,4,5,6,7,8] rfl rfl rfl) rfl (q.ld 0 rfl rfl aA rfl) rfl<|D.q (i:=12) rfl (by kernel_rfl) (fun _=>Wd.aK [0,2,3] [0,1,2,3,4,5,6,7,8] rfl rfl rfl) rfl (q.aX (off':=3) rfl fA rfl) rfl<|D.q (i:=13) rfl (by kernel_rfl) (fun _=>Wd.aK [0,2,3] [0,1,2,3,4,5,6,7,8] rfl rfl rfl) rfl (q.ld 0 rfl rfl aA rfl) rfl<|D.q (i:=16) rfl (by kernel_rfl) (fun _=>Wd.aK [0,2,3] [0,1,2,3,4,5,6,7,8] rfl rfl rfl) rfl (q.aX (off':=4) rfl dP rfl) rfl<|D.q (i:=17) rfl (by kernel_rfl) (fun _=>Wd.aK [0,2,3] [0,1,2,3,4,5,6,7,8] rfl rfl rfl) rfl (q.ld 0 rfl rfl aA rfl) rfl<|?_
        refine D.one (i:=3) (by kernel_rfl) rfl ?_
        refine Do.s (s.c (q.call jg rfl rfl (fun w hw=>(eO (x3.ID) w  (by exact hw.okF bm (by repeat (first|exact List.Mem.head _|refine List.Mem.tail _ ?_))) (by first|assumption|omega)))) rfl) (fun _=>(fun _=>Wd.aK [0,2,3] [0,1,2,3,4,5,6,7,8] rfl rfl rfl)) rfl fun _=>?_
        refine D.q (i:=4) rfl (by kernel_rfl) (fun _=>Wd.aK [0,2,3] [0,1,2,3,4,5,6,7,8] rfl rfl rfl) rfl (q.cat rfl rfl (by first|omega|(simp only [ByteArray.size_append,fR,List.length_cons,List.length_nil];omega))) rfl<|?_
        refine D.one (i:=7) (by kernel_rfl) rfl ?_
        refine Do.s (s.c (q.call jg rfl rfl (fun w hw=>(eO (x3.ai) w  (by exact hw.okF bm (by repeat (first|exact List.Mem.head _|refine List.Mem.tail _ ?_))) (by first|assumption|omega)))) rfl) (fun _=>(fun _=>Wd.aK [0,2,3] [0,1,2,3,4,5,6,7,8] rfl rfl rfl)) rfl fun _=>?_
        refine D.one (i:=10) (by kernel_rfl) rfl ?_
        refine Do.s (s.c (q.call jg rfl rfl (fun w hw=>(eO (x3.Rights) w  (by exact hw.okF bm (by repeat (first|exact List.Mem.head _|refine List.Mem.tail _ ?_))) (by first|assumption|omega)))) rfl) (fun _=>(fun _=>Wd.aK [0,2,3] [0,1,2,3,4,5,6,7,8] rfl rfl rfl)) rfl fun _=>?_
        refine D.q (i:=11) rfl (by kernel_rfl) (fun _=>Wd.aK [0,2,3] [0,1,2,3,4,5,6,7,8] rfl rfl rfl) rfl (q.cat rfl rfl (by first|omega|(simp only [ByteArray.size_append,fR,List.length_cons,List.length_nil];omega))) rfl<|?_
        refine D.one (i:=14) (by kernel_rfl) rfl ?_
        refine Do.s (s.c (q.call jg rfl rfl (fun w hw=>(eO (x3.ar) w  (by exact hw.okF bm (by repeat (first|exact List.Mem.head _|refine List.Mem.tail _ ?_))) (by first|assumption|omega)))) rfl) (fun _=>(fun _=>Wd.aK [0,2,3] [0,1,2,3,4,5,6,7,8] rfl rfl rfl)) rfl fun _=>?_
        refine D.q (i:=15) rfl (by kernel_rfl) (fun _=>Wd.aK [0,2,3] [0,1,2,3,4,5,6,7,8] rfl rfl rfl) rfl (q.cat rfl rfl (by first|omega|(simp only [ByteArray.size_append,fR,List.length_cons,List.length_nil];omega))) rfl<|?_
        refine D.one (i:=18) (by kernel_rfl) rfl ?_
        refine Do.s (s.c (q.call jg rfl rfl (fun w hw=>(eO (x3.From) w  (by exact hw.okF bm (by repeat (first|exact List.Mem.head _|refine List.Mem.tail _ ?_))) (by first|assumption|omega)))) rfl) (fun _=>(fun _=>Wd.aK [0,2,3] [0,1,2,3,4,5,6,7,8] rfl rfl rfl)) rfl fun _=>?_
        refine D.q (i:=19) rfl (by kernel_rfl) (fun _=>Wd.aK [0,2,3] [0,1,2,3,4,5,6,7,8] rfl rfl rfl) rfl (q.cat rfl rfl (by first|omega|(simp only [ByteArray.size_append,fR,List.length_cons,List.length_nil];omega))) rfl<|D.q (i:=20) rfl (by kernel_rfl) (fun _=>Wd.aK [0,2,3] [0,1,2,3,4,5,6,7,8] rfl rfl rfl) rfl (q.build (cs:=[.string (⟨#[119]⟩++aZ x3.ID),.string (((aZ x3.ai++aZ x3.Rights)++aZ x3.ar)++aZ x3.From),.bool false]) sg rfl rfl) rfl<|?_
        refine D.one (i:=21) (by kernel_rfl) rfl ?_
        refine Do.s (s.bs (l:=([(⟨(⟨#[119]⟩++aZ x3.ID),(((aZ x3.ai++aZ x3.Rights)++aZ x3.ar)++aZ x3.From),false⟩:Change)]:List Change)) gL jz rfl rfl rfl rfl rfl rfl rfl) (fun _=>(fun _=>Wd.aK [1,3,4] [0,1,2,3,4,5,6,7,8] rfl rfl rfl)) rfl fun b7=>?_
        refine D.one (i:=22) (by kernel_rfl) rfl ?_
        refine Do.s (s.app (l2:=[(⟨(⟨#[119]⟩++aZ x3.ID),(((aZ x3.ai++aZ x3.Rights)++aZ x3.ar)++aZ x3.From),false⟩:Change)]) 2 _ rfl rfl rfl (fun _=>Wd.row 0 rfl) mF (by first|omega|(simp;done)|(simp;omega)) (by first|omega|(simp;done)|(simp;omega)) (fun _=>rfl) rfl) (fun _=>(fun _=>Wd.aK [1,3,4] [0,1,2,3,4,5,6,7,8] rfl rfl rfl)) rfl fun v3=>?_
        refine D.q (i:=23) rfl (by kernel_rfl) (fun _=>Wd.aK [1,3,4] [0,1,2,3,4,5,6,7,8] rfl rfl rfl) rfl (q.as rfl) rfl<|D.done (by kernel_rfl)<|?_
        refine R.reg rfl<|R.q (q.add (r:=((i+1:Nat):Int)) rfl rfl (wr (by omega))) rfl<|R.u 1 rfl<|R.nil ?_
        refine R.back (i+1,v3,(l3++([(⟨(⟨#[119]⟩++aZ x3.ID),(((aZ x3.ai++aZ x3.Rights)++aZ x3.ar)++aZ x3.From),false⟩:Change)]))) rfl (by (exact ⟨by omega,by rw [jM iH hx3,← List.append_assoc,← BW];rfl⟩)) (by dsimp only;omega) ⟨rfl,rfl,rfl,rfl,rfl,trivial⟩ (fun _=>Wd.aK [2,3,4] [0,1,2,3,4,5,6,7,8] rfl rfl rfl)
      ·
        refine R.q (q.lss rfl rfl (decide_eq_false (by omega))) rfl<|R.nil ?_
        refine R.aH rfl rfl ?_
        refine R.fT (fuel:=12) (Wd w (blks []++own) [ah.box b1 [z1,z2,z3,z4,.int .i64 ((aI r).ae),.int .i64 ((aI r).af)] 32,ah.held w own] [ah.ls z1 ((aI r).aj:List ak),ah.ls z2 ((aI r).Things:List ai),ah.ls z3 ((aI r).Held:List Held),ah.ls z4 ((aI r).Notes:List Note),ah.ls aD (r.aj:List ak),ah.ls az (r.Things:List ai),ah.ls aC (r.Held:List Held),ah.ls aB (r.Notes:List Note),bm]) rfl mixed rfl ?_
        refine D.q (i:=0) rfl (by kernel_rfl) (fun _=>Wd.aK [1,2] [0,1,2,3,4,5,6,7,8] rfl rfl rfl) rfl (q.mv rfl) rfl<|D.q (i:=1) rfl (by kernel_rfl) (fun _=>Wd.aK [1,2] [0,1,2,3,4,5,6,7,8] rfl rfl rfl) rfl (q.aX (off':=4) rfl bL rfl) rfl<|D.q (i:=2) rfl (by kernel_rfl) (fun _=>Wd.aK [1,2] [0,1,2,3,4,5,6,7,8] rfl rfl rfl) rfl (q.ld 0 rfl rfl aA rfl) rfl<|D.q (i:=4) rfl (by kernel_rfl) (fun _=>Wd.aK [1,2] [0,1,2,3,4,5,6,7,8] rfl rfl rfl) rfl (q.aX (off':=5) rfl cE rfl) rfl<|D.q (i:=5) rfl (by kernel_rfl) (fun _=>Wd.aK [1,2] [0,1,2,3,4,5,6,7,8] rfl rfl rfl) rfl (q.ld 0 rfl rfl aA rfl) rfl<|?_
        refine D.one (i:=3) (by kernel_rfl) rfl ?_
        refine Do.s (s.c (q.call jg rfl rfl (fun w hw=>(eO ((aI r).ae) w  (by exact hw.okF bm (by repeat (first|exact List.Mem.head _|refine List.Mem.tail _ ?_))) (by first|assumption|omega)))) rfl) (fun _=>(fun _=>Wd.aK [1,2] [0,1,2,3,4,5,6,7,8] rfl rfl rfl)) rfl fun _=>?_
        refine D.one (i:=6) (by kernel_rfl) rfl ?_
        refine Do.s (s.c (q.call jg rfl rfl (fun w hw=>(eO ((aI r).af) w  (by exact hw.okF bm (by repeat (first|exact List.Mem.head _|refine List.Mem.tail _ ?_))) (by first|assumption|omega)))) rfl) (fun _=>(fun _=>Wd.aK [1,2] [0,1,2,3,4,5,6,7,8] rfl rfl rfl)) rfl fun _=>?_
        refine D.q (i:=7) rfl (by kernel_rfl) (fun _=>Wd.aK [1,2] [0,1,2,3,4,5,6,7,8] rfl rfl rfl) rfl (q.cat rfl rfl (by first|omega|(simp only [ByteArray.size_append,fR,List.length_cons,List.length_nil];omega))) rfl<|D.q (i:=8) rfl (by kernel_rfl) (fun _=>Wd.aK [1,2] [0,1,2,3,4,5,6,7,8] rfl rfl rfl) rfl (q.build (cs:=[.string (⟨#[120]⟩),.string (aZ ((aI r).ae)++aZ ((aI r).af)),.bool false]) sg rfl rfl) rfl<|?_
        refine D.one (i:=9) (by kernel_rfl) rfl ?_
        refine Do.s (s.bs (l:=([(⟨⟨#[120]⟩,(aZ ((aI r).ae)++aZ ((aI r).af)),false⟩:Change)]:List Change)) gL jz rfl rfl rfl rfl rfl rfl rfl) (fun _=>(fun _=>Wd.aK [2,3] [0,1,2,3,4,5,6,7,8] rfl rfl rfl)) rfl fun b8=>?_
        refine D.one (i:=10) (by kernel_rfl) rfl ?_
        refine Do.s (s.app (l2:=[(⟨⟨#[120]⟩,(aZ ((aI r).ae)++aZ ((aI r).af)),false⟩:Change)]) 1 _ rfl rfl rfl (fun _=>Wd.row 0 rfl) mF (by first|omega|(simp;done)|(simp;omega)) (by first|omega|(simp;done)|(simp;omega)) (fun _=>rfl) rfl) (fun _=>(fun _=>Wd.aK [2,3] [0,1,2,3,4,5,6,7,8] rfl rfl rfl)) rfl fun v4=>?_
        refine D.q (i:=11) rfl (by kernel_rfl) (fun _=>Wd.aK [2,3] [0,1,2,3,4,5,6,7,8] rfl rfl rfl) rfl (q.as rfl) rfl<|D.done (by kernel_rfl)<|?_
        have hz:bP r=(l3++([(⟨⟨#[120]⟩,(aZ ((aI r).ae)++aZ ((aI r).af)),false⟩:Change)])):=by (unfold bP rowsOf;rw [BW,nO _ (by omega)];rfl)
        rw [hz]
        exact R.w1 v4 [1,3] [] rfl Tryz.results15 (RV.tmp rfl) rfl rfl rfl rfl
theorem nP (pS:Value)(a:List Int)(pT:Value)(b:List Int)(w:World)(nj:Sl w pS a)(oz:Sl w pT b):Calls Tryz.prog 100 #[pS,pT] w fun e w'=>e = .returned (.bool (decide (a=b)))∧Ext w w':=by
  have B5:=nj.dQ
  have B6:=oz.dQ
  refine R.enter (n:=26) (vs:=[pS,pT]) [] [(0,pS),(1,pT)] Tryz.func100 rfl rfl rfl rfl ?_
  refine R.reg rfl<|R.u 1 rfl<|R.nil ?_
  refine R.reg rfl<|R.u 1 rfl<|R.q (q.len' (fun _=>Wd.old nj) rfl Tryz.underlying60) rfl<|R.u 1 rfl<|R.q (q.len' (fun _=>Wd.old oz) rfl Tryz.underlying60) rfl<|?_
  by_cases h1:a.length=b.length
  ·
    refine R.q (q.neq rfl rfl (bne_eq_false_iff_eq.2 (by omega))) rfl<|R.nil ?_
    refine R.aH rfl rfl ?_
    refine R.reg rfl<|R.u 1 rfl<|R.q (q.len' (fun _=>Wd.old nj) rfl Tryz.underlying60) rfl<|R.u 1 rfl<|R.nil ?_
    refine R.loop (fun k:Nat=>[(0,pS),(1,pT),(12,.int .i64 (a.length:Int)),(13,.int .i64 (k:Int))]) (fun k:Nat=>[]) (fun k:Nat=>[]) (fun k:Nat=>k≤a.length ∧ ∀j,j<k→a[j]? = b[j]?) (fun k:Nat=>a.length-k) 0 rfl (by exact ⟨by omega,fun j hj=>absurd hj (Nat.not_lt_zero _)⟩) ⟨rfl,rfl,rfl,rfl,trivial⟩ (fun _=>Wd.pick [] [] rfl rfl rfl) ?_
    rintro k ⟨hk,HA⟩
    refine R.reg rfl<|?_
    by_cases h2:k<a.length
    ·
      refine R.q (q.lss rfl rfl (decide_eq_true (by omega))) rfl<|R.nil ?_
      refine R.aE rfl rfl ?_
      refine R.reg rfl<|R.u 2 rfl<|R.nil ?_
      obtain ⟨x1,hx1⟩:∃z,a[k]? = some z:=⟨_,List.getElem?_eq_getElem (by omega)⟩
      obtain ⟨x2,hx2⟩:∃z,b[k]? = some z:=⟨_,List.getElem?_eq_getElem (by omega)⟩
      by_cases h3:x1=x2
      ·
        refine R.eU rfl mixed (by kernel_rfl)<|Q.u 2 rfl<|Q.q (q.idx (i:=k) (fun _=>Wd.old nj) rfl rfl cG rfl hx1) rfl<|Q.q (q.hZ (fun _=>Wd.old nj) hx1 rfl aA rfl) rfl<|Q.u 2 rfl<|Q.q (q.idx (i:=k) (fun _=>Wd.old oz) rfl rfl cG rfl hx2) rfl<|Q.q (q.hZ (fun _=>Wd.old oz) hx2 rfl aA rfl) rfl<|Q.q (q.neq rfl rfl (bne_eq_false_iff_eq.2 (by omega))) rfl<|Q.nil ?_
        refine R.aH rfl rfl ?_
        refine R.reg rfl<|R.q (q.add (r:=((k+1:Nat):Int)) rfl rfl (wr (by omega))) rfl<|R.u 1 rfl<|R.nil ?_
        refine R.back (k+1) rfl (by (exact ⟨by omega,iu HA hx1 hx2 (by assumption)⟩)) (by omega) ⟨rfl,rfl,rfl,rfl,trivial⟩ (fun _=>Wd.pick [] [] rfl rfl rfl)
      ·
        refine R.eU rfl mixed (by kernel_rfl)<|Q.u 2 rfl<|Q.q (q.idx (i:=k) (fun _=>Wd.old nj) rfl rfl cG rfl hx1) rfl<|Q.q (q.hZ (fun _=>Wd.old nj) hx1 rfl aA rfl) rfl<|Q.u 2 rfl<|Q.q (q.idx (i:=k) (fun _=>Wd.old oz) rfl rfl cG rfl hx2) rfl<|Q.q (q.hZ (fun _=>Wd.old oz) hx2 rfl aA rfl) rfl<|Q.q (q.neq rfl rfl (bne_iff_ne.2 (by omega))) rfl<|Q.nil ?_
        refine R.aE rfl rfl ?_
        refine R.reg rfl<|R.u 1 rfl<|R.nil ?_
        exact R.rv rfl Tryz.results100 rfl (rB (by (first|exact fG (by assumption)|exact eW (by assumption) (by assumption) HA|exact fH hx1 hx2 (by assumption))))
    ·
      refine R.q (q.lss rfl rfl (decide_eq_false (by omega))) rfl<|R.nil ?_
      refine R.aH rfl rfl ?_
      refine R.reg rfl<|R.u 1 rfl<|R.nil ?_
      exact R.rv rfl Tryz.results100 rfl (rB (by (first|exact fG (by assumption)|exact eW (by assumption) (by assumption) HA|exact fH hx1 hx2 (by assumption))))
  ·
    refine R.q (q.neq rfl rfl (bne_iff_ne.2 (by omega))) rfl<|R.nil ?_
    refine R.aE rfl rfl ?_
    refine R.reg rfl<|R.u 1 rfl<|R.nil ?_
    exact R.rv rfl Tryz.results100 rfl (rB (by (first|exact fG (by assumption)|exact eW (by assumption) (by assumption) HA|exact fH hx1 hx2 (by assumption))))
end Go.Proofs.YtbkfhjaibhnkmaaGreatDoor
