import Derived.Test.YtpipachmngdegaaGreatRSP35
import Derived.Test.YtpipachmngdegaaGreatRSP38
import Derived.Test.YtpipachmngdegaaGreatRSP39
import Derived.Test.YtpipachmngdegaaGreatRSP42
import Derived.Test.YtpipachmngdegaaGreatRSP44
section
namespace Go.Proofs.YtpipachmngdegaaGreat
open Go Go.RowKit
set_option linter.unusedVariables false
set_option linter.unusedSimpArgs false
set_option maxRecDepth 100000
theorem xW {r:Int}(h0:0≤r)(h7:r≤7):cT r 4=decide (4≤r):=by
  have h:r=0∨r=1∨r=2∨r=3∨r=4∨r=5∨r=6∨r=7:=by omega
  rcases h with rfl|rfl|rfl|rfl|rfl|rfl|rfl|rfl <;> decide
theorem fh {r:Int}(h0:0≤r∧r≤7)(h:¬ r<4):cT r 4=true:=by rw [xW h0.1 h0.2];exact decide_eq_true (by omega)
theorem ru {r:Int}(h0:0≤r∧r≤7)(h:r<4):cT r 4=false:=by rw [xW h0.1 h0.2];exact decide_eq_false (by omega)
theorem uw {l:List Int}{n x:Int}{k:Nat}(hx:l[k]? = some x)(h:x=n):true=decide (n∈l):=by
  subst h;exact (decide_eq_true (List.mem_of_getElem? hx)).symm
theorem tF {l:List Int}{n:Int}(h:∀ (j:Nat) x,j<l.length→l[j]? = some x→¬ x=n):false=decide (n∈l):=by
  refine (decide_eq_false fun hm=>?_).symm
  obtain ⟨j,hj⟩:=List.mem_iff_getElem?.1 hm
  exact h j _ (List.getElem?_eq_some_iff.1 hj).1 hj rfl
theorem gU {α:Type}{f:α→Bool}{l:List α}{k:Nat}{x:α}(hx:l[k]? = some x)(h:f x=true):(l.take (k+1)).filter f=(l.take k).filter f++[x]:=by
  rw [List.take_add_one,hx];simp [List.filter_append,h]
theorem lf {α:Type}{f:α→Bool}{l:List α}{k:Nat}{x:α}(hx:l[k]? = some x)(h:f x=false):(l.take (k+1)).filter f=(l.take k).filter f:=by
  rw [List.take_add_one,hx];simp [List.filter_append,h]
def aF (r:ay)(w:ao):ay:=⟨r.ap++[w],r.Things,r.Held,r.Notes,r.ae+1,r.af⟩
theorem lg {α:Type}(f:α→Bool)(l:List α)(k:Nat):((l.take k).filter f).length≤k:=Nat.le_trans (List.length_filter_le _ _) (by rw [List.length_take];omega)
theorem oB (bk:Value)(l:List Held)(p:Place)(w:World)(cF:Sl w bk l)(hg:Good l):Calls Tryz.prog 28 #[bk,.agg #[.int .i64 p.ag,.int .i64 p.Slot]] w fun e w'=>e = .returned (.int .i64 (gI l p))∧Ext w w':=by
  rw [at_eq (fu hg)];exact ny bk l p w cF
theorem r8 (bk:Value)(l:List Held)(h:Int)(w:World)(cF:Sl w bk l)(hg:Good l):Calls Tryz.prog 72 #[bk,.int .i64 h] w fun e w'=>e = .returned (.int .i64 (cE l h))∧Ext w w':=by
  rw [free_eq (fu hg)];exact oT bk l h w cF
theorem gV (bk:Value)(l:List Held)(p:Place)(id:Int)(w:World)(own:List Nat)(H:Wd w (blks []++own) ([]++[ah.held w own]) [ah.ls bk (l:List Held)] w)(hl:l.length≤100000)(hg:Good l):Calls Tryz.prog 73 #[bk,.agg #[.int .i64 p.ag,.int .i64 p.Slot],.int .i64 id] w fun e w' => ∃z:Value,e = .returned (z)∧Wd w (blks []++own) ([ah.row 93 z (bO l p id:List Held)]++[ah.held w own]) [] w':=by
  rw [put_eq (fu hg)];exact pU bk l p id w own H hl
theorem pD (bk:Value)(l:List ao)(w:World)(cF:Sl w bk l)(hT:ct l):Calls Tryz.prog 80 #[bk] w fun e w' => ∃u,e = .returned u∧Own w.heap.size 3 w' u (aQ l)∧Ext w w':=by
  unfold aQ;rw [nC hT];exact m0 bk l w cF
theorem gH (bk:Value)(l:List ao)(id:Int)(w:World)(cF:Sl w bk l)(hl:l.length≤1000000)(hT:ct l):Calls Tryz.prog 42 #[bk,.int .i64 id] w fun e w' => ∃u,e = .returned u∧Own w.heap.size 39 w' u (without l id)∧Ext w w':=by
  rw [← ta hT];exact mF bk l id w cF hl
theorem oC (bk:Value)(l:List ao)(id:Int)(w:World)(cF:Sl w bk l)(hT:ct l)(hl:l.length≤1000000):Calls Tryz.prog 89 #[bk,.int .i64 id] w fun e w' => ∃u,e = .returned u∧Own w.heap.size 3 w' u (cZ id l)∧Ext w w':=by
  rw [qZ hT];exact mJ bk l id w cF hT hl
theorem ij (bk:Value)(l:List Int)(n:Int)(w:World)(cF:Sl w bk l):Calls Tryz.prog 81 #[bk,.int .i64 n] w fun e w'=>e = .returned (.bool (decide (n∈l)))∧Ext w w':=by
  have lR:=cF.dI
  refine R.enter (n:=18) (vs:=[bk,.int .i64 n]) [] [(0,bk),(1,.int .i64 n)] Tryz.func81 rfl rfl rfl rfl ?_
  refine R.reg rfl<|R.u 1 rfl<|R.nil ?_
  refine R.reg rfl<|R.u 1 rfl<|R.nil ?_
  refine R.loop (fun k:Nat=>[(0,bk),(1,.int .i64 n),(5,.int .i64 (k:Int))]) (fun k:Nat=>[]) (fun k:Nat=>[]) (fun k:Nat=>k≤l.length ∧ ∀ (j:Nat) x,j<k→l[j]? = some x→¬ x=n) (fun k:Nat=>l.length-k) 0 rfl (by exact ⟨by omega,fun j x hj=>absurd hj (Nat.not_lt_zero _)⟩) ⟨rfl,rfl,rfl,trivial⟩ (fun _=>Wd.pick [] [] rfl rfl rfl) ?_
  rintro k ⟨hk,HA⟩
  refine R.reg rfl<|R.u 2 rfl<|R.q (q.len' (fun _=>Wd.old cF) rfl Tryz.underlying116) rfl<|?_
  by_cases h1:k<l.length
  ·
    refine R.q (q.lss rfl rfl (decide_eq_true (by omega))) rfl<|R.nil ?_
    refine R.aI rfl rfl ?_
    refine R.reg rfl<|R.u 2 rfl<|?_
    obtain ⟨x1,hx1⟩:∃z,l[k]? = some z:=⟨_,List.getElem?_eq_getElem (by omega)⟩
    refine R.q (q.idx (i:=k) (fun _=>Wd.old cF) rfl rfl fL rfl hx1) rfl<|R.q (q.jU (fun _=>Wd.old cF) hx1 rfl aG rfl) rfl<|R.u 1 rfl<|?_
    by_cases h2:x1=n
    ·
      refine R.q (q.eql rfl rfl (beq_iff_eq.2 (by omega))) rfl<|R.nil ?_
      refine R.aI rfl rfl ?_
      refine R.reg rfl<|R.u 1 rfl<|R.nil ?_
      exact R.rv rfl Tryz.results81 rfl (rB (by (exact uw hx1 (by assumption))))
    ·
      refine R.q (q.eql rfl rfl (beq_eq_false_iff_ne.2 (by omega))) rfl<|R.nil ?_
      refine R.aH rfl rfl ?_
      refine R.reg rfl<|R.u 1 rfl<|R.q (q.add (r:=((k+1:Nat):Int)) rfl rfl (wr (by omega))) rfl<|R.u 1 rfl<|R.nil ?_
      refine R.back (k+1) rfl (by (exact ⟨by omega,fun j x hj hx=>if e:j=k then by subst e;rw [hx1] at hx;injection hx with hx;subst hx;exact (by assumption) else HA j x (by omega) hx⟩)) (by omega) ⟨rfl,rfl,rfl,trivial⟩ (fun _=>Wd.pick [] [] rfl rfl rfl)
  ·
    refine R.q (q.lss rfl rfl (decide_eq_false (by omega))) rfl<|R.nil ?_
    refine R.aH rfl rfl ?_
    refine R.reg rfl<|R.u 1 rfl<|R.nil ?_
    exact R.rv rfl Tryz.results81 rfl (rB (by (exact tF (fun j x hj=>HA j x (by omega)))))
theorem gW (aD az aB aA:Value)(r:ay)(p:Place)(w:World)(gX:Sl w aD r.ap)(eX:Sl w az r.Things)(jg:Sl w aB r.Held)(lK:Sl w aA r.Notes)(hk:Ok r)(hI:Inv r):Calls Tryz.prog 9 #[.agg #[aD,az,aB,aA,.int .i64 r.ae,.int .i64 r.af],.agg #[.int .i64 p.ag,.int .i64 p.Slot]] w fun e w'=>e = .returned (.tuple #[ao.val ((ak r p).1),.int .i64 ((ak r p).2)])∧Ext w w':=by
  have b1:=hk.hl
  have pf:=dv p
  refine R.enter (n:=29) (vs:=[.agg #[aD,az,aB,aA,.int .i64 r.ae,.int .i64 r.af],.agg #[.int .i64 p.ag,.int .i64 p.Slot]]) [] [(0,.agg #[aD,az,aB,aA,.int .i64 r.ae,.int .i64 r.af]),(1,.agg #[.int .i64 p.ag,.int .i64 p.Slot])] Tryz.func9 rfl rfl rfl rfl ?_
  refine R.reg rfl<|?_
  refine R.s rfl (s.box (cs:=[aD,az,aB,aA,.int .i64 r.ae,.int .i64 r.af]) rfl rfl rfl) fun b1=>?_
  refine R.s rfl (s.box (cs:=[.int .i64 p.ag,.int .i64 p.Slot]) rfl rfl rfl) fun b2=>?_
  refine R.s rfl (s.alloc (cs:=[.int .i64 0,.int .i64 0,.int .i64 0,.int .i64 0,.int .i64 0]) aY rfl rfl) fun b3=>?_
  refine R.u 1 rfl<|R.nil ?_
  refine R.reg rfl<|R.q (q.bI 1 rfl rfl aM) rfl<|R.c (q.call uM rfl rfl (fun w hw=>(hM (p) w  ))) rfl<|R.u 1 rfl<|R.nil ?_
  refine R.reg rfl<|R.u 1 rfl<|?_
  by_cases h1:0<bH p
  ·
    refine R.q (q.gtr rfl rfl (decide_eq_true (by omega))) rfl<|R.nil ?_
    refine R.aI rfl rfl ?_
    refine R.reg rfl<|R.q (q.build (cs:=[.int .i64 0,.int .i64 0,.int .i64 0,.int .i64 0,.int .i64 0]) dM rfl rfl) rfl<|R.u 1 rfl<|?_
    refine R.s rfl (s.st (us:=[.int .i64 0,.int .i64 0,.int .i64 0,.int .i64 0,.int .i64 0]) (cs':=[.int .i64 0,.int .i64 0,.int .i64 0,.int .i64 0,.int .i64 0]) 0 _ rfl rfl rfl rfl (.inl aK) rfl rfl rfl rfl) fun _=>?_
    refine R.u 1 rfl<|R.nil ?_
    exact R.lN rfl Tryz.results9 (RV.cell 0 rfl rfl aK) (RV.tmp rfl) (congrArg ao.val (show (⟨0,0,0,0,0⟩:ao)=(ak r p).1 from by (first|(rw [eu (by omega)];first|done|rfl|omega)|(rw [ea (by omega) dt];first|done|rfl|omega)|(rw [eD (by omega) dt (List.getElem?_eq_getElem dP)];first|done|rfl|omega)))) (rI (by (first|(rw [eu (by omega)];first|done|rfl|omega)|(rw [ea (by omega) dt];first|done|rfl|omega)|(rw [eD (by omega) dt (List.getElem?_eq_getElem dP)];first|done|rfl|omega))))
  ·
    refine R.q (q.gtr rfl rfl (decide_eq_false (by omega))) rfl<|R.nil ?_
    refine R.aH rfl rfl ?_
    rcases dm r.ap (gI r.Held p) with ⟨dt,j2⟩ | ⟨fU,dP,dt,e6,vV⟩
    ·
      refine R.gq rfl mixed (by kernel_rfl)<|Q.q (q.aS (off':=0) rfl a8 rfl) rfl<|Q.q (q.ld 2 rfl rfl bN rfl) rfl<|Q.q (q.aS (off':=2) rfl bf rfl) rfl<|Q.q (q.ld 2 rfl rfl bQ rfl) rfl<|Q.q (q.bI 1 rfl rfl aM) rfl<|Q.c (q.call qL rfl rfl (fun w hw=>(oB _ (r.Held) (p) w ((fun _=>Wd.old jg) w hw) (by first|assumption|exact hI.good|exact hP.good|exact dD hI.good (by assumption))))) rfl<|Q.c (q.call kG rfl rfl (fun w hw=>(cv (congrArg (Value.int .i64) dt) (ei _ (r.ap) (gI r.Held p) w ((fun _=>Wd.old gX) w hw) )))) rfl<|Q.u 1 rfl<|Q.nil ?_
      refine R.reg rfl<|R.u 1 rfl<|R.q (q.lss (b:=true) rfl rfl (by decide)) rfl<|R.nil ?_
      refine R.aI rfl rfl ?_
      refine R.reg rfl<|R.q (q.build (cs:=[.int .i64 0,.int .i64 0,.int .i64 0,.int .i64 0,.int .i64 0]) dM rfl rfl) rfl<|?_
      refine R.s rfl (s.st (us:=[.int .i64 0,.int .i64 0,.int .i64 0,.int .i64 0,.int .i64 0]) (cs':=[.int .i64 0,.int .i64 0,.int .i64 0,.int .i64 0,.int .i64 0]) 0 _ rfl rfl rfl rfl (.inl aK) rfl rfl rfl rfl) fun _=>?_
      refine R.u 1 rfl<|R.nil ?_
      exact R.lN rfl Tryz.results9 (RV.cell 0 rfl rfl aK) (RV.tmp rfl) (congrArg ao.val (show (⟨0,0,0,0,0⟩:ao)=(ak r p).1 from by (first|(rw [eu (by omega)];first|done|rfl|omega)|(rw [ea (by omega) dt];first|done|rfl|omega)|(rw [eD (by omega) dt (List.getElem?_eq_getElem dP)];first|done|rfl|omega)))) (rI (by (first|(rw [eu (by omega)];first|done|rfl|omega)|(rw [ea (by omega) dt];first|done|rfl|omega)|(rw [eD (by omega) dt (List.getElem?_eq_getElem dP)];first|done|rfl|omega))))
    ·
      refine R.gq rfl mixed (by kernel_rfl)<|Q.q (q.aS (off':=0) rfl a8 rfl) rfl<|Q.q (q.ld 2 rfl rfl bN rfl) rfl<|Q.q (q.aS (off':=2) rfl bf rfl) rfl<|Q.q (q.ld 2 rfl rfl bQ rfl) rfl<|Q.q (q.bI 1 rfl rfl aM) rfl<|Q.c (q.call qL rfl rfl (fun w hw=>(oB _ (r.Held) (p) w ((fun _=>Wd.old jg) w hw) (by first|assumption|exact hI.good|exact hP.good|exact dD hI.good (by assumption))))) rfl<|Q.c (q.call kG rfl rfl (fun w hw=>(cv (congrArg (Value.int .i64) dt) (ei _ (r.ap) (gI r.Held p) w ((fun _=>Wd.old gX) w hw) )))) rfl<|Q.u 1 rfl<|Q.nil ?_
      refine R.reg rfl<|R.u 1 rfl<|R.q (q.lss rfl rfl (decide_eq_false (by omega))) rfl<|R.nil ?_
      refine R.aH rfl rfl ?_
      refine R.reg rfl<|R.q (q.aS (off':=0) rfl a8 rfl) rfl<|R.q (q.ld 2 rfl rfl bN rfl) rfl<|R.u 1 rfl<|R.q (q.idx (i:=fU) (fun _=>Wd.old gX) rfl rfl cG rfl (List.getElem?_eq_getElem dP)) rfl<|R.q (q.dx (ds:=[.int .i64 ((r.ap[fU]).ID),.int .i64 ((r.ap[fU]).ai),.int .i64 ((r.ap[fU]).Rights),.int .i64 ((r.ap[fU]).ar),.int .i64 ((r.ap[fU]).From)]) (fun _=>Wd.old gX) (List.getElem?_eq_getElem dP) rfl aK rfl) rfl<|?_
      refine R.s rfl (s.st (us:=[.int .i64 ((r.ap[fU]).ID),.int .i64 ((r.ap[fU]).ai),.int .i64 ((r.ap[fU]).Rights),.int .i64 ((r.ap[fU]).ar),.int .i64 ((r.ap[fU]).From)]) (cs':=[.int .i64 ((r.ap[fU]).ID),.int .i64 ((r.ap[fU]).ai),.int .i64 ((r.ap[fU]).Rights),.int .i64 ((r.ap[fU]).ar),.int .i64 ((r.ap[fU]).From)]) 0 _ rfl rfl rfl rfl (.inl aK) rfl rfl rfl rfl) fun _=>?_
      refine R.u 1 rfl<|R.nil ?_
      exact R.lN rfl Tryz.results9 (RV.cell 0 rfl rfl aK) (RV.tmp rfl) (congrArg ao.val (show (r.ap[fU])=(ak r p).1 from by (first|(rw [eu (by omega)];first|done|rfl|omega)|(rw [ea (by omega) dt];first|done|rfl|omega)|(rw [eD (by omega) dt (List.getElem?_eq_getElem dP)];first|done|rfl|omega)))) (rI (by (first|(rw [eu (by omega)];first|done|rfl|omega)|(rw [ea (by omega) dt];first|done|rfl|omega)|(rw [eD (by omega) dt (List.getElem?_eq_getElem dP)];first|done|rfl|omega))))
theorem jT (aD az aB aA:Value)(r:ay)(p:Place)(w:World)(gX:Sl w aD r.ap)(eX:Sl w az r.Things)(jg:Sl w aB r.Held)(lK:Sl w aA r.Notes)(hk:Ok r)(hI:Inv r):Calls Tryz.prog 86 #[.agg #[aD,az,aB,aA,.int .i64 r.ae,.int .i64 r.af],.agg #[.int .i64 p.ag,.int .i64 p.Slot]] w fun e w'=>e = .returned (.int .i64 (cY r p))∧Ext w w':=by
  have b1:=hk.hl
  have pf:=dv p
  refine R.enter (n:=16) (vs:=[.agg #[aD,az,aB,aA,.int .i64 r.ae,.int .i64 r.af],.agg #[.int .i64 p.ag,.int .i64 p.Slot]]) [] [(0,.agg #[aD,az,aB,aA,.int .i64 r.ae,.int .i64 r.af]),(1,.agg #[.int .i64 p.ag,.int .i64 p.Slot])] Tryz.func86 rfl rfl rfl rfl ?_
  refine R.reg rfl<|?_
  refine R.s rfl (s.box (cs:=[aD,az,aB,aA,.int .i64 r.ae,.int .i64 r.af]) rfl rfl rfl) fun b1=>?_
  refine R.s rfl (s.box (cs:=[.int .i64 p.ag,.int .i64 p.Slot]) rfl rfl rfl) fun b2=>?_
  refine R.u 1 rfl<|R.nil ?_
  refine R.reg rfl<|R.q (q.bI 0 rfl rfl aM) rfl<|R.c (q.call uM rfl rfl (fun w hw=>(hM (p) w  ))) rfl<|R.u 1 rfl<|R.nil ?_
  refine R.reg rfl<|R.u 1 rfl<|?_
  by_cases h1:0<bH p
  ·
    refine R.q (q.gtr rfl rfl (decide_eq_true (by omega))) rfl<|R.nil ?_
    refine R.aI rfl rfl ?_
    refine R.reg rfl<|R.u 2 rfl<|R.nil ?_
    exact R.rv rfl Tryz.results86 rfl (rI (by (unfold cY;first|(rw [if_pos (by omega),if_pos (by assumption)];first|done|rfl|omega)|(rw [if_pos (by omega),if_neg (by assumption)];first|done|rfl|omega)|(rw [if_neg (by omega)];first|done|rfl|omega))))
  ·
    refine R.q (q.gtr rfl rfl (decide_eq_false (by omega))) rfl<|R.nil ?_
    refine R.aH rfl rfl ?_
    refine R.reg rfl<|R.q (q.aS (off':=2) rfl bf rfl) rfl<|R.q (q.ld 1 rfl rfl bQ rfl) rfl<|R.q (q.bI 0 rfl rfl aM) rfl<|R.c (q.call qL rfl rfl (fun w hw=>(oB _ (r.Held) (p) w ((fun _=>Wd.old jg) w hw) (by first|assumption|exact hI.good|exact hP.good|exact dD hI.good (by assumption))))) rfl<|?_
    by_cases h2:gI r.Held p=0
    ·
      refine R.q (q.neq rfl rfl (bne_eq_false_iff_eq.2 (by omega))) rfl<|R.nil ?_
      refine R.aH rfl rfl ?_
      refine R.reg rfl<|R.u 1 rfl<|R.nil ?_
      exact R.rv rfl Tryz.results86 rfl (rI (by (unfold cY;first|(rw [if_pos (by omega),if_pos (by assumption)];first|done|rfl|omega)|(rw [if_pos (by omega),if_neg (by assumption)];first|done|rfl|omega)|(rw [if_neg (by omega)];first|done|rfl|omega))))
    ·
      refine R.q (q.neq rfl rfl (bne_iff_ne.2 (by omega))) rfl<|R.nil ?_
      refine R.aI rfl rfl ?_
      refine R.reg rfl<|R.u 1 rfl<|R.nil ?_
      exact R.rv rfl Tryz.results86 rfl (rI (by (unfold cY;first|(rw [if_pos (by omega),if_pos (by assumption)];first|done|rfl|omega)|(rw [if_pos (by omega),if_neg (by assumption)];first|done|rfl|omega)|(rw [if_neg (by omega)];first|done|rfl|omega))))
theorem kT (aD az aB aA:Value)(r:ay)(p:Place)(kind:Int)(rights:Int)(w:World)(gX:Sl w aD r.ap)(eX:Sl w az r.Things)(jg:Sl w aB r.Held)(lK:Sl w aA r.Notes)(hk:Ok r)(hI:Inv r)(hr:0≤rights∧rights≤7):Calls Tryz.prog 30 #[.agg #[aD,az,aB,aA,.int .i64 r.ae,.int .i64 r.af],.agg #[.int .i64 p.ag,.int .i64 p.Slot],.int .i64 kind,.int .i64 rights] w fun e w'=>e = .returned (.tuple #[ao.val ((av r p kind rights).1),.int .i64 ((av r p kind rights).2.1),.int .i64 ((av r p kind rights).2.2)])∧Ext w w':=by
  have bw:=hk.wl;have bt:=hk.tl;have bh:=hk.hl;have bn:=hk.nl;have lS:=hk.w0;have lT:=hk.w1;have lU:=hk.t0;have lV:=hk.t1
  have gn:=dq r p
  refine R.enter (n:=60) (vs:=[.agg #[aD,az,aB,aA,.int .i64 r.ae,.int .i64 r.af],.agg #[.int .i64 p.ag,.int .i64 p.Slot],.int .i64 kind,.int .i64 rights]) [] [(0,.agg #[aD,az,aB,aA,.int .i64 r.ae,.int .i64 r.af]),(1,.agg #[.int .i64 p.ag,.int .i64 p.Slot]),(2,.int .i64 kind),(3,.int .i64 rights)] Tryz.func30 rfl rfl rfl rfl ?_
  refine R.reg rfl<|?_
  refine R.s rfl (s.box (cs:=[aD,az,aB,aA,.int .i64 r.ae,.int .i64 r.af]) rfl rfl rfl) fun b1=>?_
  refine R.s rfl (s.box (cs:=[.int .i64 p.ag,.int .i64 p.Slot]) rfl rfl rfl) fun b2=>?_
  refine R.s rfl (s.alloc (cs:=[.int .i64 0,.int .i64 0,.int .i64 0,.int .i64 0,.int .i64 0]) aY rfl rfl) fun b3=>?_
  refine R.u 2 rfl<|R.nil ?_
  refine R.reg rfl<|R.q (q.bI 2 rfl rfl au) rfl<|R.q (q.bI 1 rfl rfl aM) rfl<|R.c (q.call pP rfl rfl (fun w hw=>(gW _ _ _ _ (r) (p) w ((fun _=>Wd.old gX) w hw) ((fun _=>Wd.old eX) w hw) ((fun _=>Wd.old jg) w hw) ((fun _=>Wd.old lK) w hw) (by assumption) (by assumption)))) rfl<|R.u 3 rfl<|?_
  refine R.s rfl (s.alloc (cs:=[.int .i64 0,.int .i64 0,.int .i64 0,.int .i64 0,.int .i64 0]) aY rfl rfl) fun b4=>?_
  refine R.s rfl (s.st (us:=[.int .i64 (((ak r p).1).ID),.int .i64 (((ak r p).1).ai),.int .i64 (((ak r p).1).Rights),.int .i64 (((ak r p).1).ar),.int .i64 (((ak r p).1).From)]) (cs':=[.int .i64 (((ak r p).1).ID),.int .i64 (((ak r p).1).ai),.int .i64 (((ak r p).1).Rights),.int .i64 (((ak r p).1).ar),.int .i64 (((ak r p).1).From)]) 0 _ rfl rfl rfl rfl (.inl aK) rfl rfl rfl rfl) fun _=>?_
  refine R.u 1 rfl<|R.nil ?_
  refine R.reg rfl<|R.u 1 rfl<|?_
  by_cases h1:0<(ak r p).2
  ·
    refine R.q (q.gtr rfl rfl (decide_eq_true (by omega))) rfl<|R.nil ?_
    refine R.aI rfl rfl ?_
    refine R.reg rfl<|R.q (q.build (cs:=[.int .i64 0,.int .i64 0,.int .i64 0,.int .i64 0,.int .i64 0]) dM rfl rfl) rfl<|R.u 1 rfl<|?_
    refine R.s rfl (s.st (us:=[.int .i64 0,.int .i64 0,.int .i64 0,.int .i64 0,.int .i64 0]) (cs':=[.int .i64 0,.int .i64 0,.int .i64 0,.int .i64 0,.int .i64 0]) 1 _ rfl rfl rfl rfl (.inl aK) rfl rfl rfl rfl) fun _=>?_
    refine R.u 2 rfl<|R.nil ?_
    exact R.tI rfl Tryz.results30 (RV.cell 1 rfl rfl aK) (RV.tmp rfl) (RV.tmp rfl) (congrArg ao.val (show (⟨0,0,0,0,0⟩:ao)=(av r p kind rights).1 from by (first|(rw [cu (by omega)];first|done|rfl|omega)|(rw [bW (by omega) rfl (beq_iff_eq.2 (by omega)) HA (by omega)];first|done|rfl)|(rw [bM (by omega) rfl (beq_iff_eq.2 (by omega)) HA (by omega) (by first|assumption|simpa using ‹(!cT (ak r p).1.Rights rights)=true›)];first|done|rfl)|(rw [cL (by omega) rfl (beq_iff_eq.2 (by omega)) HA (by omega) (by first|assumption|simpa using ‹(!cT (ak r p).1.Rights rights)=false›)];first|done|rfl)|(rw [bV (by omega) (fun x hx=>by obtain ⟨j,hj⟩:=List.mem_iff_getElem?.1 hx;exact HA j x (by have:=(List.getElem?_eq_some_iff.1 hj).1;omega) hj)];first|done|rfl)))) (rI (by (first|(rw [cu (by omega)];first|done|rfl|omega)|(rw [bW (by omega) rfl (beq_iff_eq.2 (by omega)) HA (by omega)];first|done|rfl)|(rw [bM (by omega) rfl (beq_iff_eq.2 (by omega)) HA (by omega) (by first|assumption|simpa using ‹(!cT (ak r p).1.Rights rights)=true›)];first|done|rfl)|(rw [cL (by omega) rfl (beq_iff_eq.2 (by omega)) HA (by omega) (by first|assumption|simpa using ‹(!cT (ak r p).1.Rights rights)=false›)];first|done|rfl)|(rw [bV (by omega) (fun x hx=>by obtain ⟨j,hj⟩:=List.mem_iff_getElem?.1 hx;exact HA j x (by have:=(List.getElem?_eq_some_iff.1 hj).1;omega) hj)];first|done|rfl)))) (rI (by (first|(rw [cu (by omega)];first|done|rfl|omega)|(rw [bW (by omega) rfl (beq_iff_eq.2 (by omega)) HA (by omega)];first|done|rfl)|(rw [bM (by omega) rfl (beq_iff_eq.2 (by omega)) HA (by omega) (by first|assumption|simpa using ‹(!cT (ak r p).1.Rights rights)=true›)];first|done|rfl)|(rw [cL (by omega) rfl (beq_iff_eq.2 (by omega)) HA (by omega) (by first|assumption|simpa using ‹(!cT (ak r p).1.Rights rights)=false›)];first|done|rfl)|(rw [bV (by omega) (fun x hx=>by obtain ⟨j,hj⟩:=List.mem_iff_getElem?.1 hx;exact HA j x (by have:=(List.getElem?_eq_some_iff.1 hj).1;omega) hj)];first|done|rfl))))
  ·
    have yQ:=hk.get (r:=r) (p:=p) (by omega)
    refine R.q (q.gtr rfl rfl (decide_eq_false (by omega))) rfl<|R.nil ?_
    refine R.aH rfl rfl ?_
    refine R.reg rfl<|R.u 1 rfl<|R.nil ?_
    refine R.loop (fun k:Nat=>[(2,.int .i64 kind),(3,.int .i64 rights),(4,.pointer (some ⟨b1,0,none⟩)),(8,.pointer (some ⟨b3,0,none⟩)),(11,.pointer (some ⟨b4,0,none⟩)),(13,.int .i64 (k:Int))]) (fun k:Nat=>[ah.box b4 [.int .i64 (((ak r p).1).ID),.int .i64 (((ak r p).1).ai),.int .i64 (((ak r p).1).Rights),.int .i64 (((ak r p).1).ar),.int .i64 (((ak r p).1).From)] 39,ah.box b3 [.int .i64 0,.int .i64 0,.int .i64 0,.int .i64 0,.int .i64 0] 39,ah.box b1 [aD,az,aB,aA,.int .i64 r.ae,.int .i64 r.af] 30]) (fun k:Nat=>[]) (fun k:Nat=>k≤r.Things.length ∧ ∀ (j:Nat) y,j<k→r.Things[j]? = some y→(y.ID==(ak r p).1.ai)=false) (fun k:Nat=>r.Things.length-k) 0 rfl (by exact ⟨by omega,fun j x hj=>absurd hj (Nat.not_lt_zero _)⟩) ⟨rfl,rfl,rfl,rfl,rfl,rfl,trivial⟩ (fun _=>Wd.pick [0,1,3] [] rfl rfl rfl) ?_
    rintro k ⟨hk1,HA⟩
    refine R.reg rfl<|R.u 1 rfl<|R.q (q.aS (off':=1) rfl bm rfl) rfl<|R.q (q.ld 2 rfl rfl bT rfl) rfl<|R.q (q.len' (fun _=>Wd.old eX) rfl Tryz.underlying26) rfl<|?_
    by_cases h2:k<r.Things.length
    ·
      refine R.q (q.lss rfl rfl (decide_eq_true (by omega))) rfl<|R.nil ?_
      refine R.aI rfl rfl ?_
      obtain ⟨x1,hx1⟩:∃z,r.Things[k]? = some z:=⟨_,List.getElem?_eq_getElem (by omega)⟩
      by_cases h3:x1.ID=((ak r p).1).ai
      ·
        refine R.gq rfl mixed (by kernel_rfl)<|Q.q (q.aS (off':=1) rfl bm rfl) rfl<|Q.q (q.ld 2 rfl rfl bT rfl) rfl<|Q.u 1 rfl<|Q.q (q.idx (i:=k) (fun _=>Wd.old eX) rfl rfl dJ rfl hx1) rfl<|Q.q (q.eJ (j':=0) (fun _=>Wd.old eX) hx1 rfl iF rfl) rfl<|Q.q (q.jU (fun _=>Wd.old eX) hx1 rfl aG rfl) rfl<|Q.q (q.aS (off':=1) rfl cX rfl) rfl<|Q.q (q.ld 0 rfl rfl aG rfl) rfl<|Q.q (q.neq rfl rfl (bne_eq_false_iff_eq.2 (by omega))) rfl<|Q.nil ?_
        refine R.aH rfl rfl ?_
        refine R.reg rfl<|R.q (q.aS (off':=1) rfl bm rfl) rfl<|R.q (q.ld 2 rfl rfl bT rfl) rfl<|R.u 1 rfl<|R.q (q.idx (i:=k) (fun _=>Wd.old eX) rfl rfl dJ rfl hx1) rfl<|R.q (q.eJ (j':=1) (fun _=>Wd.old eX) hx1 rfl nn rfl) rfl<|R.q (q.jU (fun _=>Wd.old eX) hx1 rfl aG rfl) rfl<|R.u 1 rfl<|?_
        by_cases h4:x1.Kind=kind
        ·
          refine R.q (q.neq rfl rfl (bne_eq_false_iff_eq.2 (by omega))) rfl<|R.nil ?_
          refine R.aH rfl rfl ?_
          refine R.reg rfl<|R.q (q.aS (off':=2) rfl eP rfl) rfl<|R.q (q.ld 0 rfl rfl aG rfl) rfl<|R.u 1 rfl<|?_
          rcases Bool.eq_false_or_eq_true (cT (((ak r p).1).Rights) rights) with h5|h5
          ·
            refine R.c (q.call qT rfl rfl (fun w hw=>(cv (congrArg Value.bool h5) (iY (((ak r p).1).Rights) (rights) w  (by omega) (by omega))))) rfl<|R.u 1 rfl<|R.nil ?_
            refine R.reg rfl<|R.u 2 rfl<|R.nil ?_
            refine R.aH rfl rfl ?_
            refine R.reg rfl<|R.q (q.bI 0 rfl rfl aK) rfl<|R.u 1 rfl<|?_
            refine R.s rfl (s.st (us:=[.int .i64 (((ak r p).1).ID),.int .i64 (((ak r p).1).ai),.int .i64 (((ak r p).1).Rights),.int .i64 (((ak r p).1).ar),.int .i64 (((ak r p).1).From)]) (cs':=[.int .i64 (((ak r p).1).ID),.int .i64 (((ak r p).1).ai),.int .i64 (((ak r p).1).Rights),.int .i64 (((ak r p).1).ar),.int .i64 (((ak r p).1).From)]) 1 _ rfl rfl rfl rfl (.inl aK) rfl rfl rfl rfl) fun _=>?_
            refine R.u 2 rfl<|R.nil ?_
            exact R.tI rfl Tryz.results30 (RV.cell 1 rfl rfl aK) (RV.tmp rfl) (RV.tmp rfl) (congrArg ao.val (show ((ak r p).1)=(av r p kind rights).1 from by (first|(rw [cu (by omega)];first|done|rfl|omega)|(rw [bW (by omega) hx1 (beq_iff_eq.2 (by omega)) HA (by omega)];first|done|rfl)|(rw [bM (by omega) hx1 (beq_iff_eq.2 (by omega)) HA (by omega) (by first|assumption|simpa using ‹(!cT (ak r p).1.Rights rights)=true›)];first|done|rfl)|(rw [cL (by omega) hx1 (beq_iff_eq.2 (by omega)) HA (by omega) (by first|assumption|simpa using ‹(!cT (ak r p).1.Rights rights)=false›)];first|done|rfl)|(rw [bV (by omega) (fun x hx=>by obtain ⟨j,hj⟩:=List.mem_iff_getElem?.1 hx;exact HA j x (by have:=(List.getElem?_eq_some_iff.1 hj).1;omega) hj)];first|done|rfl)))) (rI (by (first|(rw [cu (by omega)];first|done|rfl|omega)|(rw [bW (by omega) hx1 (beq_iff_eq.2 (by omega)) HA (by omega)];first|done|rfl)|(rw [bM (by omega) hx1 (beq_iff_eq.2 (by omega)) HA (by omega) (by first|assumption|simpa using ‹(!cT (ak r p).1.Rights rights)=true›)];first|done|rfl)|(rw [cL (by omega) hx1 (beq_iff_eq.2 (by omega)) HA (by omega) (by first|assumption|simpa using ‹(!cT (ak r p).1.Rights rights)=false›)];first|done|rfl)|(rw [bV (by omega) (fun x hx=>by obtain ⟨j,hj⟩:=List.mem_iff_getElem?.1 hx;exact HA j x (by have:=(List.getElem?_eq_some_iff.1 hj).1;omega) hj)];first|done|rfl)))) (rI (by (first|(rw [cu (by omega)];first|done|rfl|omega)|(rw [bW (by omega) hx1 (beq_iff_eq.2 (by omega)) HA (by omega)];first|done|rfl)|(rw [bM (by omega) hx1 (beq_iff_eq.2 (by omega)) HA (by omega) (by first|assumption|simpa using ‹(!cT (ak r p).1.Rights rights)=true›)];first|done|rfl)|(rw [cL (by omega) hx1 (beq_iff_eq.2 (by omega)) HA (by omega) (by first|assumption|simpa using ‹(!cT (ak r p).1.Rights rights)=false›)];first|done|rfl)|(rw [bV (by omega) (fun x hx=>by obtain ⟨j,hj⟩:=List.mem_iff_getElem?.1 hx;exact HA j x (by have:=(List.getElem?_eq_some_iff.1 hj).1;omega) hj)];first|done|rfl))))
          ·
            refine R.c (q.call qT rfl rfl (fun w hw=>(cv (congrArg Value.bool h5) (iY (((ak r p).1).Rights) (rights) w  (by omega) (by omega))))) rfl<|R.u 1 rfl<|R.nil ?_
            refine R.reg rfl<|R.u 2 rfl<|R.nil ?_
            refine R.aI rfl rfl ?_
            refine R.reg rfl<|R.q (q.build (cs:=[.int .i64 0,.int .i64 0,.int .i64 0,.int .i64 0,.int .i64 0]) dM rfl rfl) rfl<|?_
            refine R.s rfl (s.st (us:=[.int .i64 0,.int .i64 0,.int .i64 0,.int .i64 0,.int .i64 0]) (cs':=[.int .i64 0,.int .i64 0,.int .i64 0,.int .i64 0,.int .i64 0]) 1 _ rfl rfl rfl rfl (.inl aK) rfl rfl rfl rfl) fun _=>?_
            refine R.u 2 rfl<|R.nil ?_
            exact R.tI rfl Tryz.results30 (RV.cell 1 rfl rfl aK) (RV.tmp rfl) (RV.tmp rfl) (congrArg ao.val (show (⟨0,0,0,0,0⟩:ao)=(av r p kind rights).1 from by (first|(rw [cu (by omega)];first|done|rfl|omega)|(rw [bW (by omega) hx1 (beq_iff_eq.2 (by omega)) HA (by omega)];first|done|rfl)|(rw [bM (by omega) hx1 (beq_iff_eq.2 (by omega)) HA (by omega) (by first|assumption|simpa using ‹(!cT (ak r p).1.Rights rights)=true›)];first|done|rfl)|(rw [cL (by omega) hx1 (beq_iff_eq.2 (by omega)) HA (by omega) (by first|assumption|simpa using ‹(!cT (ak r p).1.Rights rights)=false›)];first|done|rfl)|(rw [bV (by omega) (fun x hx=>by obtain ⟨j,hj⟩:=List.mem_iff_getElem?.1 hx;exact HA j x (by have:=(List.getElem?_eq_some_iff.1 hj).1;omega) hj)];first|done|rfl)))) (rI (by (first|(rw [cu (by omega)];first|done|rfl|omega)|(rw [bW (by omega) hx1 (beq_iff_eq.2 (by omega)) HA (by omega)];first|done|rfl)|(rw [bM (by omega) hx1 (beq_iff_eq.2 (by omega)) HA (by omega) (by first|assumption|simpa using ‹(!cT (ak r p).1.Rights rights)=true›)];first|done|rfl)|(rw [cL (by omega) hx1 (beq_iff_eq.2 (by omega)) HA (by omega) (by first|assumption|simpa using ‹(!cT (ak r p).1.Rights rights)=false›)];first|done|rfl)|(rw [bV (by omega) (fun x hx=>by obtain ⟨j,hj⟩:=List.mem_iff_getElem?.1 hx;exact HA j x (by have:=(List.getElem?_eq_some_iff.1 hj).1;omega) hj)];first|done|rfl)))) (rI (by (first|(rw [cu (by omega)];first|done|rfl|omega)|(rw [bW (by omega) hx1 (beq_iff_eq.2 (by omega)) HA (by omega)];first|done|rfl)|(rw [bM (by omega) hx1 (beq_iff_eq.2 (by omega)) HA (by omega) (by first|assumption|simpa using ‹(!cT (ak r p).1.Rights rights)=true›)];first|done|rfl)|(rw [cL (by omega) hx1 (beq_iff_eq.2 (by omega)) HA (by omega) (by first|assumption|simpa using ‹(!cT (ak r p).1.Rights rights)=false›)];first|done|rfl)|(rw [bV (by omega) (fun x hx=>by obtain ⟨j,hj⟩:=List.mem_iff_getElem?.1 hx;exact HA j x (by have:=(List.getElem?_eq_some_iff.1 hj).1;omega) hj)];first|done|rfl))))
        ·
          refine R.q (q.neq rfl rfl (bne_iff_ne.2 (by omega))) rfl<|R.nil ?_
          refine R.aI rfl rfl ?_
          refine R.reg rfl<|R.q (q.build (cs:=[.int .i64 0,.int .i64 0,.int .i64 0,.int .i64 0,.int .i64 0]) dM rfl rfl) rfl<|?_
          refine R.s rfl (s.st (us:=[.int .i64 0,.int .i64 0,.int .i64 0,.int .i64 0,.int .i64 0]) (cs':=[.int .i64 0,.int .i64 0,.int .i64 0,.int .i64 0,.int .i64 0]) 1 _ rfl rfl rfl rfl (.inl aK) rfl rfl rfl rfl) fun _=>?_
          refine R.u 2 rfl<|R.nil ?_
          exact R.tI rfl Tryz.results30 (RV.cell 1 rfl rfl aK) (RV.tmp rfl) (RV.tmp rfl) (congrArg ao.val (show (⟨0,0,0,0,0⟩:ao)=(av r p kind rights).1 from by (first|(rw [cu (by omega)];first|done|rfl|omega)|(rw [bW (by omega) hx1 (beq_iff_eq.2 (by omega)) HA (by omega)];first|done|rfl)|(rw [bM (by omega) hx1 (beq_iff_eq.2 (by omega)) HA (by omega) (by first|assumption|simpa using ‹(!cT (ak r p).1.Rights rights)=true›)];first|done|rfl)|(rw [cL (by omega) hx1 (beq_iff_eq.2 (by omega)) HA (by omega) (by first|assumption|simpa using ‹(!cT (ak r p).1.Rights rights)=false›)];first|done|rfl)|(rw [bV (by omega) (fun x hx=>by obtain ⟨j,hj⟩:=List.mem_iff_getElem?.1 hx;exact HA j x (by have:=(List.getElem?_eq_some_iff.1 hj).1;omega) hj)];first|done|rfl)))) (rI (by (first|(rw [cu (by omega)];first|done|rfl|omega)|(rw [bW (by omega) hx1 (beq_iff_eq.2 (by omega)) HA (by omega)];first|done|rfl)|(rw [bM (by omega) hx1 (beq_iff_eq.2 (by omega)) HA (by omega) (by first|assumption|simpa using ‹(!cT (ak r p).1.Rights rights)=true›)];first|done|rfl)|(rw [cL (by omega) hx1 (beq_iff_eq.2 (by omega)) HA (by omega) (by first|assumption|simpa using ‹(!cT (ak r p).1.Rights rights)=false›)];first|done|rfl)|(rw [bV (by omega) (fun x hx=>by obtain ⟨j,hj⟩:=List.mem_iff_getElem?.1 hx;exact HA j x (by have:=(List.getElem?_eq_some_iff.1 hj).1;omega) hj)];first|done|rfl)))) (rI (by (first|(rw [cu (by omega)];first|done|rfl|omega)|(rw [bW (by omega) hx1 (beq_iff_eq.2 (by omega)) HA (by omega)];first|done|rfl)|(rw [bM (by omega) hx1 (beq_iff_eq.2 (by omega)) HA (by omega) (by first|assumption|simpa using ‹(!cT (ak r p).1.Rights rights)=true›)];first|done|rfl)|(rw [cL (by omega) hx1 (beq_iff_eq.2 (by omega)) HA (by omega) (by first|assumption|simpa using ‹(!cT (ak r p).1.Rights rights)=false›)];first|done|rfl)|(rw [bV (by omega) (fun x hx=>by obtain ⟨j,hj⟩:=List.mem_iff_getElem?.1 hx;exact HA j x (by have:=(List.getElem?_eq_some_iff.1 hj).1;omega) hj)];first|done|rfl))))
      ·
        refine R.gq rfl mixed (by kernel_rfl)<|Q.q (q.aS (off':=1) rfl bm rfl) rfl<|Q.q (q.ld 2 rfl rfl bT rfl) rfl<|Q.u 1 rfl<|Q.q (q.idx (i:=k) (fun _=>Wd.old eX) rfl rfl dJ rfl hx1) rfl<|Q.q (q.eJ (j':=0) (fun _=>Wd.old eX) hx1 rfl iF rfl) rfl<|Q.q (q.jU (fun _=>Wd.old eX) hx1 rfl aG rfl) rfl<|Q.q (q.aS (off':=1) rfl cX rfl) rfl<|Q.q (q.ld 0 rfl rfl aG rfl) rfl<|Q.q (q.neq rfl rfl (bne_iff_ne.2 (by omega))) rfl<|Q.nil ?_
        refine R.aI rfl rfl ?_
        refine R.reg rfl<|R.u 1 rfl<|R.q (q.add (r:=((k+1:Nat):Int)) rfl rfl (wr (by omega))) rfl<|R.u 1 rfl<|R.nil ?_
        refine R.back (k+1) rfl (by (exact ⟨by omega,fA (p:=fun y=>y.ID==(ak r p).1.ai) HA hx1 (beq_eq_false_iff_ne.2 (by omega))⟩)) (by omega) ⟨rfl,rfl,rfl,rfl,rfl,rfl,trivial⟩ (fun _=>Wd.pick [0,1,2] [] rfl rfl rfl)
    ·
      refine R.q (q.lss rfl rfl (decide_eq_false (by omega))) rfl<|R.nil ?_
      refine R.aH rfl rfl ?_
      refine R.reg rfl<|R.q (q.build (cs:=[.int .i64 0,.int .i64 0,.int .i64 0,.int .i64 0,.int .i64 0]) dM rfl rfl) rfl<|?_
      refine R.s rfl (s.st (us:=[.int .i64 0,.int .i64 0,.int .i64 0,.int .i64 0,.int .i64 0]) (cs':=[.int .i64 0,.int .i64 0,.int .i64 0,.int .i64 0,.int .i64 0]) 1 _ rfl rfl rfl rfl (.inl aK) rfl rfl rfl rfl) fun _=>?_
      refine R.u 2 rfl<|R.nil ?_
      exact R.tI rfl Tryz.results30 (RV.cell 1 rfl rfl aK) (RV.tmp rfl) (RV.tmp rfl) (congrArg ao.val (show (⟨0,0,0,0,0⟩:ao)=(av r p kind rights).1 from by (first|(rw [cu (by omega)];first|done|rfl|omega)|(rw [bW (by omega) rfl (beq_iff_eq.2 (by omega)) HA (by omega)];first|done|rfl)|(rw [bM (by omega) rfl (beq_iff_eq.2 (by omega)) HA (by omega) (by first|assumption|simpa using ‹(!cT (ak r p).1.Rights rights)=true›)];first|done|rfl)|(rw [cL (by omega) rfl (beq_iff_eq.2 (by omega)) HA (by omega) (by first|assumption|simpa using ‹(!cT (ak r p).1.Rights rights)=false›)];first|done|rfl)|(rw [bV (by omega) (fun x hx=>by obtain ⟨j,hj⟩:=List.mem_iff_getElem?.1 hx;exact HA j x (by have:=(List.getElem?_eq_some_iff.1 hj).1;omega) hj)];first|done|rfl)))) (rI (by (first|(rw [cu (by omega)];first|done|rfl|omega)|(rw [bW (by omega) rfl (beq_iff_eq.2 (by omega)) HA (by omega)];first|done|rfl)|(rw [bM (by omega) rfl (beq_iff_eq.2 (by omega)) HA (by omega) (by first|assumption|simpa using ‹(!cT (ak r p).1.Rights rights)=true›)];first|done|rfl)|(rw [cL (by omega) rfl (beq_iff_eq.2 (by omega)) HA (by omega) (by first|assumption|simpa using ‹(!cT (ak r p).1.Rights rights)=false›)];first|done|rfl)|(rw [bV (by omega) (fun x hx=>by obtain ⟨j,hj⟩:=List.mem_iff_getElem?.1 hx;exact HA j x (by have:=(List.getElem?_eq_some_iff.1 hj).1;omega) hj)];first|done|rfl)))) (rI (by (first|(rw [cu (by omega)];first|done|rfl|omega)|(rw [bW (by omega) rfl (beq_iff_eq.2 (by omega)) HA (by omega)];first|done|rfl)|(rw [bM (by omega) rfl (beq_iff_eq.2 (by omega)) HA (by omega) (by first|assumption|simpa using ‹(!cT (ak r p).1.Rights rights)=true›)];first|done|rfl)|(rw [cL (by omega) rfl (beq_iff_eq.2 (by omega)) HA (by omega) (by first|assumption|simpa using ‹(!cT (ak r p).1.Rights rights)=false›)];first|done|rfl)|(rw [bV (by omega) (fun x hx=>by obtain ⟨j,hj⟩:=List.mem_iff_getElem?.1 hx;exact HA j x (by have:=(List.getElem?_eq_some_iff.1 hj).1;omega) hj)];first|done|rfl))))
theorem r9 (aD az aB aA:Value)(r:ay)(p:Place)(w:World)(gX:Sl w aD r.ap)(eX:Sl w az r.Things)(jg:Sl w aB r.Held)(lK:Sl w aA r.Notes)(hk:Ok r)(hI:Inv r):Calls Tryz.prog 11 #[.agg #[aD,az,aB,aA,.int .i64 r.ae,.int .i64 r.af],.agg #[.int .i64 p.ag,.int .i64 p.Slot]] w fun e w'=>e = .returned (.tuple #[.string ((fD r p).1),.int .i64 ((fD r p).2)])∧Ext w w':=by
  have bw:=hk.wl;have bt:=hk.tl;have bh:=hk.hl;have bn:=hk.nl;have lS:=hk.w0;have lT:=hk.w1;have lU:=hk.t0;have lV:=hk.t1
  have yI:=dK r p 1 1
  refine R.enter (n:=25) (vs:=[.agg #[aD,az,aB,aA,.int .i64 r.ae,.int .i64 r.af],.agg #[.int .i64 p.ag,.int .i64 p.Slot]]) [] [(0,.agg #[aD,az,aB,aA,.int .i64 r.ae,.int .i64 r.af]),(1,.agg #[.int .i64 p.ag,.int .i64 p.Slot])] Tryz.func11 rfl rfl rfl rfl ?_
  refine R.reg rfl<|?_
  refine R.s rfl (s.box (cs:=[aD,az,aB,aA,.int .i64 r.ae,.int .i64 r.af]) rfl rfl rfl) fun b1=>?_
  refine R.s rfl (s.box (cs:=[.int .i64 p.ag,.int .i64 p.Slot]) rfl rfl rfl) fun b2=>?_
  refine R.u 2 rfl<|R.nil ?_
  refine R.reg rfl<|R.q (q.bI 1 rfl rfl au) rfl<|R.q (q.bI 0 rfl rfl aM) rfl<|R.c (q.call qN rfl rfl (fun w hw=>(kT _ _ _ _ (r) (p) (1) (1) w ((fun _=>Wd.old gX) w hw) ((fun _=>Wd.old eX) w hw) ((fun _=>Wd.old jg) w hw) ((fun _=>Wd.old lK) w hw) (by assumption) (by assumption) (by omega)))) rfl<|R.u 4 rfl<|?_
  refine R.s rfl (s.alloc (cs:=[.int .i64 0,.int .i64 0,.int .i64 0,.int .i64 0,.int .i64 0]) aY rfl rfl) fun b3=>?_
  refine R.s rfl (s.st (us:=[.int .i64 (((av r p 1 1).1).ID),.int .i64 (((av r p 1 1).1).ai),.int .i64 (((av r p 1 1).1).Rights),.int .i64 (((av r p 1 1).1).ar),.int .i64 (((av r p 1 1).1).From)]) (cs':=[.int .i64 (((av r p 1 1).1).ID),.int .i64 (((av r p 1 1).1).ai),.int .i64 (((av r p 1 1).1).Rights),.int .i64 (((av r p 1 1).1).ar),.int .i64 (((av r p 1 1).1).From)]) 0 _ rfl rfl rfl rfl (.inl aK) rfl rfl rfl rfl) fun _=>?_
  refine R.u 2 rfl<|R.nil ?_
  refine R.reg rfl<|R.u 1 rfl<|?_
  by_cases h1:0<(av r p 1 1).2.2
  ·
    refine R.q (q.gtr rfl rfl (decide_eq_true (by omega))) rfl<|R.nil ?_
    refine R.aI rfl rfl ?_
    refine R.reg rfl<|R.u 3 rfl<|R.nil ?_
    exact R.uC rfl Tryz.results11 rfl rfl (rS (by (unfold fD;(repeat' split) <;> first|rfl|(exfalso;omega)|(simp_all;done)))) (rI (by (unfold fD;(repeat' split) <;> first|rfl|(exfalso;omega)|(simp_all;done))))
  ·
    have mn:=dK r p 1 1;have mq:(av r p 1 1).2.2=0:=by omega
    obtain ⟨m1,m2,m3,i,ix,ik,ih,ii,id,ib⟩:=eS mq;have iB:=(List.getElem?_eq_some_iff.1 ih).1
    refine R.q (q.gtr rfl rfl (decide_eq_false (by omega))) rfl<|R.nil ?_
    refine R.aH rfl rfl ?_
    refine R.reg rfl<|R.q (q.aS (off':=1) rfl bm rfl) rfl<|R.q (q.ld 2 rfl rfl bT rfl) rfl<|R.u 1 rfl<|?_
    obtain ⟨x1,hx1⟩:∃z,r.Things[((av r p 1 1).2.1).toNat]? = some z:=⟨_,List.getElem?_eq_getElem (by omega)⟩
    refine R.q (q.idx (i:=((av r p 1 1).2.1).toNat) (fun _=>Wd.old eX) rfl rfl dJ (by omega) hx1) rfl<|R.q (q.eJ (j':=2) (fun _=>Wd.old eX) hx1 rfl jI rfl) rfl<|R.q (q.jU (fun _=>Wd.old eX) hx1 rfl fQ rfl) rfl<|R.u 2 rfl<|R.nil ?_
    exact R.uC rfl Tryz.results11 rfl rfl (rS (by (unfold fD;(repeat' split) <;> first|rfl|(exfalso;omega)|(simp_all;done)))) (rI (by (unfold fD;(repeat' split) <;> first|rfl|(exfalso;omega)|(simp_all;done))))
theorem iU (aD az aB aA:Value)(r:ay)(w:World)(own:List Nat)(H:Wd w (blks []++own) ([]++[ah.held w own]) [ah.ls aD (r.ap:List ao),ah.ls az (r.Things:List ai),ah.ls aB (r.Held:List Held),ah.ls aA (r.Notes:List Note)] w)(hk:Ok r):Calls Tryz.prog 71 #[.agg #[aD,az,aB,aA,.int .i64 r.ae,.int .i64 r.af]] w fun e w' => ∃z:Value×Value×Value×Value,e = .returned (.agg #[z.1,z.2.1,z.2.2.1,z.2.2.2,.int .i64 ((r).ae),.int .i64 ((r).af)])∧Wd w (blks []++own) ([ah.row 39 z.1 ((r).ap:List ao),ah.row 74 z.2.1 ((r).Things:List ai),ah.row 93 z.2.2.1 ((r).Held:List Held),ah.row 52 z.2.2.2 ((r).Notes:List Note)]++[ah.held w own]) [] w':=by
  have cw:=H.bS 0 rfl
  have bY:=H.bS 1 rfl
  have cI:=H.bS 2 rfl
  have cx:=H.bS 3 rfl
  have bw:=hk.wl;have bt:=hk.tl;have bh:=hk.hl;have bn:=hk.nl;have lS:=hk.w0;have lT:=hk.w1;have lU:=hk.t0;have lV:=hk.t1
  refine R.cC (n:=20) (vs:=[.agg #[aD,az,aB,aA,.int .i64 r.ae,.int .i64 r.af]]) (B:=[ah.held w own]) [(0,.agg #[aD,az,aB,aA,.int .i64 r.ae,.int .i64 r.af])] Tryz.func71 rfl rfl rfl rfl H ?_
  refine R.reg rfl<|?_
  refine R.s rfl (s.box (cs:=[aD,az,aB,aA,.int .i64 r.ae,.int .i64 r.af]) rfl rfl rfl) fun b1=>?_
  refine R.s rfl (s.alloc (cs:=[.slice none 0 0,.slice none 0 0,.slice none 0 0,.slice none 0 0,.int .i64 0,.int .i64 0]) bR rfl rfl) fun b2=>?_
  refine R.nil ?_
  refine R.reg rfl<|R.q (q.aS (off':=0) rfl a8 rfl) rfl<|R.q (q.ld 1 rfl rfl bN rfl) rfl<|?_
  refine R.s rfl (s.app0 (l2:=r.ap) rfl rfl (fun _=>Wd.aO 0 rfl) eH (by first|omega|(simp;done)|(simp;omega)) (by first|omega|(simp;done)|(simp;omega)) rfl) fun v1=>?_
  refine R.q (q.aS (off':=0) rfl a8 rfl) rfl<|?_
  refine R.s rfl (s.cS (us:=[v1]) (cs':=[v1,az,aB,aA,.int .i64 r.ae,.int .i64 r.af]) 2 _ rfl rfl rfl (fun w hw=>Sl.bJ ((fun _=>Wd.row 0 rfl) w hw)) (.inr ⟨bN,rfl⟩) (fun w hw=>(aj (Sl.one ((fun _=>Wd.row 0 rfl) w hw)) aJ)) rfl rfl rfl) fun _=>?_
  refine R.nil ?_
  refine R.reg rfl<|R.q (q.aS (off':=1) rfl bm rfl) rfl<|R.q (q.ld 2 rfl rfl bT rfl) rfl<|?_
  refine R.s rfl (s.app0 (l2:=r.Things) rfl rfl (fun _=>Wd.aO 1 rfl) hG (by first|omega|(simp;done)|(simp;omega)) (by first|omega|(simp;done)|(simp;omega)) rfl) fun v2=>?_
  refine R.q (q.aS (off':=1) rfl bm rfl) rfl<|?_
  refine R.s rfl (s.cS (us:=[v2]) (cs':=[v1,v2,aB,aA,.int .i64 r.ae,.int .i64 r.af]) 3 _ rfl rfl rfl (fun w hw=>Sl.bJ ((fun _=>Wd.row 0 rfl) w hw)) (.inr ⟨bT,rfl⟩) (fun w hw=>(aj (Sl.one ((fun _=>Wd.row 0 rfl) w hw)) aJ)) rfl rfl rfl) fun _=>?_
  refine R.nil ?_
  refine R.reg rfl<|R.q (q.aS (off':=2) rfl bf rfl) rfl<|R.q (q.ld 3 rfl rfl bQ rfl) rfl<|?_
  refine R.s rfl (s.app0 (l2:=r.Held) rfl rfl (fun _=>Wd.aO 2 rfl) dr (by first|omega|(simp;done)|(simp;omega)) (by first|omega|(simp;done)|(simp;omega)) rfl) fun v3=>?_
  refine R.q (q.aS (off':=2) rfl bf rfl) rfl<|?_
  refine R.s rfl (s.cS (us:=[v3]) (cs':=[v1,v2,v3,aA,.int .i64 r.ae,.int .i64 r.af]) 4 _ rfl rfl rfl (fun w hw=>Sl.bJ ((fun _=>Wd.row 0 rfl) w hw)) (.inr ⟨bQ,rfl⟩) (fun w hw=>(aj (Sl.one ((fun _=>Wd.row 0 rfl) w hw)) aJ)) rfl rfl rfl) fun _=>?_
  refine R.nil ?_
  refine R.reg rfl<|R.q (q.aS (off':=3) rfl aT rfl) rfl<|R.q (q.ld 4 rfl rfl a6 rfl) rfl<|?_
  refine R.s rfl (s.app0 (l2:=r.Notes) rfl rfl (fun _=>Wd.aO 3 rfl) cU (by first|omega|(simp;done)|(simp;omega)) (by first|omega|(simp;done)|(simp;omega)) rfl) fun v4=>?_
  refine R.q (q.aS (off':=3) rfl aT rfl) rfl<|?_
  refine R.s rfl (s.cS (us:=[v4]) (cs':=[v1,v2,v3,v4,.int .i64 r.ae,.int .i64 r.af]) 5 _ rfl rfl rfl (fun w hw=>Sl.bJ ((fun _=>Wd.row 0 rfl) w hw)) (.inr ⟨a6,rfl⟩) (fun w hw=>(aj (Sl.one ((fun _=>Wd.row 0 rfl) w hw)) aJ)) rfl rfl rfl) fun _=>?_
  refine R.nil ?_
  refine R.reg rfl<|R.q (q.bI 5 rfl rfl au) rfl<|?_
  refine R.s rfl (s.cS (us:=[v1,v2,v3,v4,.int .i64 r.ae,.int .i64 r.af]) (cs':=[v1,v2,v3,v4,.int .i64 r.ae,.int .i64 r.af]) 4 _ rfl rfl rfl (fun _ _=>rfl) (.inl au) (fun w hw=>(aj (Sl.one ((fun _=>Wd.row 3 rfl) w hw)) (aj (Sl.one ((fun _=>Wd.row 2 rfl) w hw)) (aj (Sl.one ((fun _=>Wd.row 1 rfl) w hw)) (aj (Sl.one ((fun _=>Wd.row 0 rfl) w hw)) (aj rfl (aj rfl aJ))))))) rfl rfl rfl) fun _=>?_
  refine R.nil ?_
  exact R.w1 (v1,v2,v3,v4) [3,2,1,0,6] [] rfl Tryz.results71 (RV.cell 4 rfl rfl au) rfl rfl rfl rfl
theorem jG (aD az aB aA:Value)(r:ay)(w0:ao)(w:World)(own:List Nat)(H:Wd w (blks []++own) ([]++[ah.held w own]) [ah.ls aD (r.ap:List ao),ah.ls az (r.Things:List ai),ah.ls aB (r.Held:List Held),ah.ls aA (r.Notes:List Note)] w)(hk:Ok r):Calls Tryz.prog 87 #[.agg #[aD,az,aB,aA,.int .i64 r.ae,.int .i64 r.af],.agg #[.int .i64 w0.ID,.int .i64 w0.ai,.int .i64 w0.Rights,.int .i64 w0.ar,.int .i64 w0.From]] w fun e w' => ∃z:Value×Value×Value×Value,e = .returned (.agg #[z.1,z.2.1,z.2.2.1,z.2.2.2,.int .i64 (((aF r w0)).ae),.int .i64 (((aF r w0)).af)])∧Wd w (blks []++own) ([ah.row 39 z.1 (((aF r w0)).ap:List ao),ah.row 74 z.2.1 (((aF r w0)).Things:List ai),ah.row 93 z.2.2.1 (((aF r w0)).Held:List Held),ah.row 52 z.2.2.2 (((aF r w0)).Notes:List Note)]++[ah.held w own]) [] w':=by
  have cw:=H.bS 0 rfl
  have bY:=H.bS 1 rfl
  have cI:=H.bS 2 rfl
  have cx:=H.bS 3 rfl
  have bw:=hk.wl;have bt:=hk.tl;have bh:=hk.hl;have bn:=hk.nl;have lS:=hk.w0;have lT:=hk.w1;have lU:=hk.t0;have lV:=hk.t1
  refine R.cC (n:=18) (vs:=[.agg #[aD,az,aB,aA,.int .i64 r.ae,.int .i64 r.af],.agg #[.int .i64 w0.ID,.int .i64 w0.ai,.int .i64 w0.Rights,.int .i64 w0.ar,.int .i64 w0.From]]) (B:=[ah.held w own]) [(0,.agg #[aD,az,aB,aA,.int .i64 r.ae,.int .i64 r.af]),(1,.agg #[.int .i64 w0.ID,.int .i64 w0.ai,.int .i64 w0.Rights,.int .i64 w0.ar,.int .i64 w0.From])] Tryz.func87 rfl rfl rfl rfl H ?_
  refine R.reg rfl<|?_
  refine R.s rfl (s.box (cs:=[aD,az,aB,aA,.int .i64 r.ae,.int .i64 r.af]) rfl rfl rfl) fun b1=>?_
  refine R.s rfl (s.box (cs:=[.int .i64 w0.ID,.int .i64 w0.ai,.int .i64 w0.Rights,.int .i64 w0.ar,.int .i64 w0.From]) rfl rfl rfl) fun b2=>?_
  refine R.s rfl (s.alloc (cs:=[.slice none 0 0,.slice none 0 0,.slice none 0 0,.slice none 0 0,.int .i64 0,.int .i64 0]) bR rfl rfl) fun b3=>?_
  refine R.nil ?_
  refine R.reg rfl<|R.q (q.bI 2 rfl rfl au) rfl<|?_
  refine R.s (B':=(fun g_:Value×Value×Value×Value=>[ah.row 39 g_.1 ((r).ap:List ao),ah.row 74 g_.2.1 ((r).Things:List ai),ah.row 93 g_.2.2.1 ((r).Held:List Held),ah.row 52 g_.2.2.2 ((r).Notes:List Note),ah.box b3 [.slice none 0 0,.slice none 0 0,.slice none 0 0,.slice none 0 0,.int .i64 0,.int .i64 0] 30,ah.box b2 [.int .i64 w0.ID,.int .i64 w0.ai,.int .i64 w0.Rights,.int .i64 w0.ar,.int .i64 w0.From] 39,ah.box b1 [aD,az,aB,aA,.int .i64 r.ae,.int .i64 r.af] 30,ah.held w own])) (F':=(fun g_:Value×Value×Value×Value=>[ah.ls aD (r.ap:List ao),ah.ls az (r.Things:List ai),ah.ls aB (r.Held:List Held),ah.ls aA (r.Notes:List Note)])) rfl (s.bE (B0:=[]) (Br:=[ah.box b3 [.slice none 0 0,.slice none 0 0,.slice none 0 0,.slice none 0 0,.int .i64 0,.int .i64 0] 30,ah.box b2 [.int .i64 w0.ID,.int .i64 w0.ai,.int .i64 w0.Rights,.int .i64 w0.ar,.int .i64 w0.From] 39,ah.box b1 [aD,az,aB,aA,.int .i64 r.ae,.int .i64 r.af] 30,ah.held w own]) (F0:=[ah.ls aD (r.ap:List ao),ah.ls az (r.Things:List ai),ah.ls aB (r.Held:List Held),ah.ls aA (r.Notes:List Note)]) [0,1,2,3] [0,1,2,3] (fun g_:Value×Value×Value×Value => .agg #[g_.1,g_.2.1,g_.2.2.1,g_.2.2.2,.int .i64 ((r).ae),.int .i64 ((r).af)]) (fun g_:Value×Value×Value×Value=>[ah.row 39 g_.1 ((r).ap:List ao),ah.row 74 g_.2.1 ((r).Things:List ai),ah.row 93 g_.2.2.1 ((r).Held:List Held),ah.row 52 g_.2.2.2 ((r).Notes:List Note)]) (fun g_:Value×Value×Value×Value=>[]) rfl rfl rfl oN rfl rfl (fun w own hw H=>iU aD az aB aA (r) w own H (by assumption)) rfl) ?_
  rintro ⟨z1,z2,z3,z4⟩
  dsimp only
  refine R.s rfl (s.cS (us:=[z1,z2,z3,z4,.int .i64 r.ae,.int .i64 r.af]) (cs':=[z1,z2,z3,z4,.int .i64 r.ae,.int .i64 r.af]) 6 _ rfl rfl rfl (fun _ _=>rfl) (.inl au) (fun w hw=>(aj (Sl.one ((fun _=>Wd.row 0 rfl) w hw)) (aj (Sl.one ((fun _=>Wd.row 1 rfl) w hw)) (aj (Sl.one ((fun _=>Wd.row 2 rfl) w hw)) (aj (Sl.one ((fun _=>Wd.row 3 rfl) w hw)) (aj rfl (aj rfl aJ))))))) rfl rfl rfl) fun _=>?_
  refine R.nil ?_
  refine R.reg rfl<|R.q (q.aS (off':=0) rfl a8 rfl) rfl<|R.q (q.ld 6 rfl rfl bN rfl) rfl<|R.q (q.bI 5 rfl rfl aK) rfl<|?_
  refine R.s rfl (s.bs (l:=([w0]:List ao)) cG aY rfl rfl rfl rfl rfl rfl rfl) fun b4=>?_
  refine R.s rfl (s.app (l2:=[w0]) 1 _ rfl rfl rfl (fun _=>Wd.row 0 rfl) eH (by first|omega|(simp;omega)|(simp [aF];omega)|(dsimp only [aF];omega)) (by first|omega|(simp;omega)|(simp [aF];omega)|(dsimp only [aF];omega)) (fun _=>rfl) rfl) fun v1=>?_
  refine R.q (q.aS (off':=0) rfl a8 rfl) rfl<|?_
  refine R.s rfl (s.cS (us:=[v1]) (cs':=[v1,z2,z3,z4,.int .i64 r.ae,.int .i64 r.af]) 7 _ rfl rfl rfl (fun w hw=>Sl.bJ ((fun _=>Wd.row 1 rfl) w hw)) (.inr ⟨bN,rfl⟩) (fun w hw=>(aj (Sl.one ((fun _=>Wd.row 1 rfl) w hw)) aJ)) rfl rfl rfl) fun _=>?_
  refine R.nil ?_
  refine R.reg rfl<|R.q (q.aS (off':=4) rfl bU rfl) rfl<|R.q (q.ld 7 rfl rfl aG rfl) rfl<|R.q (q.add (r:=r.ae+1) rfl rfl (wr (by omega))) rfl<|R.q (q.aS (off':=4) rfl bU rfl) rfl<|?_
  refine R.s rfl (s.st (us:=[.int .i64 (r.ae+1)]) (cs':=[v1,z2,z3,z4,.int .i64 (r.ae+1),.int .i64 r.af]) 7 _ rfl rfl rfl rfl (.inr ⟨aG,rfl⟩) rfl rfl rfl rfl) fun _=>?_
  refine R.nil ?_
  refine R.reg rfl<|R.q (q.bI 7 rfl rfl au) rfl<|?_
  refine R.s rfl (s.cS (us:=[v1,z2,z3,z4,.int .i64 (r.ae+1),.int .i64 r.af]) (cs':=[v1,z2,z3,z4,.int .i64 (r.ae+1),.int .i64 r.af]) 5 _ rfl rfl rfl (fun _ _=>rfl) (.inl au) (fun w hw=>(aj (Sl.one ((fun _=>Wd.row 1 rfl) w hw)) (aj (Sl.one ((fun _=>Wd.row 2 rfl) w hw)) (aj (Sl.one ((fun _=>Wd.row 3 rfl) w hw)) (aj (Sl.one ((fun _=>Wd.row 4 rfl) w hw)) (aj rfl (aj rfl aJ))))))) rfl rfl rfl) fun _=>?_
  refine R.nil ?_
  have hz:aF r w0=(⟨(r.ap++([w0])),r.Things,r.Held,r.Notes,(r.ae+1),r.af⟩:ay):=by (rfl)
  rw [hz]
  exact R.w1 (v1,z2,z3,z4) [1,2,3,4,8] [] rfl Tryz.results87 (RV.cell 5 rfl rfl au) rfl rfl rfl rfl
theorem tG  (w:World)(own:List Nat)(H:Wd w (blks []++own) ([]++[ah.held w own]) [] w)  : Calls Tryz.prog 7 #[] w fun e w' => ∃z:Value×Value×Value×Value,e = .returned (.agg #[z.1,z.2.1,z.2.2.1,z.2.2.2,.int .i64 (((⟨[],[],[],[],1,1⟩:ay)).ae),.int .i64 (((⟨[],[],[],[],1,1⟩:ay)).af)])∧Wd w (blks []++own) ([]++[ah.held w own]) [ah.ls z.1 (((⟨[],[],[],[],1,1⟩:ay)).ap:List ao),ah.ls z.2.1 (((⟨[],[],[],[],1,1⟩:ay)).Things:List ai),ah.ls z.2.2.1 (((⟨[],[],[],[],1,1⟩:ay)).Held:List Held),ah.ls z.2.2.2 (((⟨[],[],[],[],1,1⟩:ay)).Notes:List Note)] w':=by
  refine R.cC (n:=2) (vs:=[]) (B:=[ah.held w own]) [] Tryz.func7 rfl rfl rfl rfl H ?_
  refine R.reg rfl<|?_
  refine R.s rfl (s.alloc (cs:=[.slice none 0 0,.slice none 0 0,.slice none 0 0,.slice none 0 0,.int .i64 0,.int .i64 0]) bR rfl rfl) fun b1=>?_
  refine R.nil ?_
  refine R.reg rfl<|R.q (q.build (cs:=[.slice none 0 0,.slice none 0 0,.slice none 0 0,.slice none 0 0,.int .i64 1,.int .i64 1]) ck rfl rfl) rfl<|?_
  refine R.s rfl (s.st (us:=[.slice none 0 0,.slice none 0 0,.slice none 0 0,.slice none 0 0,.int .i64 1,.int .i64 1]) (cs':=[.slice none 0 0,.slice none 0 0,.slice none 0 0,.slice none 0 0,.int .i64 1,.int .i64 1]) 0 _ rfl rfl rfl rfl (.inl au) rfl rfl rfl rfl) fun _=>?_
  refine R.nil ?_
  refine R.mp (fun _ hw=>hw.aN (α:=ao)) ?_
  refine R.mp (fun _ hw=>hw.aN (α:=ai)) ?_
  refine R.mp (fun _ hw=>hw.aN (α:=Held)) ?_
  refine R.mp (fun _ hw=>hw.aN (α:=Note)) ?_
  exact R.w1 ((.slice none 0 0),(.slice none 0 0),(.slice none 0 0),(.slice none 0 0)) [1] [3,2,1,0] rfl Tryz.results7 (RV.cell 0 rfl rfl au) rfl rfl rfl rfl
theorem sb (aD az aB aA:Value)(r:ay)(p:Place)(kind:Int)(w:World)(own:List Nat)(H:Wd w (blks []++own) ([]++[ah.held w own]) [ah.ls aD (r.ap:List ao),ah.ls az (r.Things:List ai),ah.ls aB (r.Held:List Held),ah.ls aA (r.Notes:List Note)] w)(hk:Ok r)(hI:Inv r):Calls Tryz.prog 53 #[.agg #[aD,az,aB,aA,.int .i64 r.ae,.int .i64 r.af],.agg #[.int .i64 p.ag,.int .i64 p.Slot],.int .i64 kind] w fun e w' => ∃z:Value×Value×Value×Value,e = .returned (.tuple #[.agg #[z.1,z.2.1,z.2.2.1,z.2.2.2,.int .i64 ((((aU r p kind)).1).ae),.int .i64 ((((aU r p kind)).1).af)],.int .i64 (((aU r p kind)).2)])∧Wd w (blks []++own) ([]++[ah.held w own]) [ah.ls z.1 ((((aU r p kind)).1).ap:List ao),ah.ls z.2.1 ((((aU r p kind)).1).Things:List ai),ah.ls z.2.2.1 ((((aU r p kind)).1).Held:List Held),ah.ls z.2.2.2 ((((aU r p kind)).1).Notes:List Note)] w':=by
  have cw:=H.bS 0 rfl
  have bY:=H.bS 1 rfl
  have cI:=H.bS 2 rfl
  have cx:=H.bS 3 rfl
  have bw:=hk.wl;have bt:=hk.tl;have bh:=hk.hl;have bn:=hk.nl;have lS:=hk.w0;have lT:=hk.w1;have lU:=hk.t0;have lV:=hk.t1
  refine R.cC (n:=68) (vs:=[.agg #[aD,az,aB,aA,.int .i64 r.ae,.int .i64 r.af],.agg #[.int .i64 p.ag,.int .i64 p.Slot],.int .i64 kind]) (B:=[ah.held w own]) [(0,.agg #[aD,az,aB,aA,.int .i64 r.ae,.int .i64 r.af]),(1,.agg #[.int .i64 p.ag,.int .i64 p.Slot]),(2,.int .i64 kind)] Tryz.func53 rfl rfl rfl rfl H ?_
  refine R.reg rfl<|?_
  refine R.s rfl (s.box (cs:=[aD,az,aB,aA,.int .i64 r.ae,.int .i64 r.af]) rfl rfl rfl) fun b1=>?_
  refine R.s rfl (s.box (cs:=[.int .i64 p.ag,.int .i64 p.Slot]) rfl rfl rfl) fun b2=>?_
  refine R.s rfl (s.alloc (cs:=[.slice none 0 0,.slice none 0 0,.slice none 0 0,.slice none 0 0,.int .i64 0,.int .i64 0]) bR rfl rfl) fun b3=>?_
  refine R.u 1 rfl<|R.nil ?_
  refine R.reg rfl<|R.u 1 rfl<|?_
  by_cases h1:kind=1
  ·
    refine R.q (q.neq rfl rfl (bne_eq_false_iff_eq.2 (by omega))) rfl<|R.u 4 rfl<|R.nil ?_
    refine R.aH rfl rfl ?_
    refine R.reg rfl<|R.q (q.bI 2 rfl rfl au) rfl<|R.q (q.bI 1 rfl rfl aM) rfl<|R.c (q.call qU rfl rfl (fun w hw=>(jT _ _ _ _ (r) (p) w ((fun _=>Wd.aO 0 rfl) w hw) ((fun _=>Wd.aO 1 rfl) w hw) ((fun _=>Wd.aO 2 rfl) w hw) ((fun _=>Wd.aO 3 rfl) w hw) (by assumption) (by assumption)))) rfl<|R.u 1 rfl<|R.nil ?_
    refine R.reg rfl<|R.u 1 rfl<|?_
    by_cases h2:0<cY r p
    ·
      refine R.q (q.gtr rfl rfl (decide_eq_true (by omega))) rfl<|R.nil ?_
      refine R.aI rfl rfl ?_
      refine R.reg rfl<|R.q (q.build (cs:=[.slice none 0 0,.slice none 0 0,.slice none 0 0,.slice none 0 0,.int .i64 0,.int .i64 0]) ck rfl rfl) rfl<|R.u 1 rfl<|?_
      refine R.s rfl (s.st (us:=[.slice none 0 0,.slice none 0 0,.slice none 0 0,.slice none 0 0,.int .i64 0,.int .i64 0]) (cs':=[.slice none 0 0,.slice none 0 0,.slice none 0 0,.slice none 0 0,.int .i64 0,.int .i64 0]) 0 _ rfl rfl rfl rfl (.inl au) rfl rfl rfl rfl) fun _=>?_
      refine R.u 1 rfl<|R.nil ?_
      refine R.mp (fun _ hw=>hw.aN (α:=ao)) ?_
      refine R.mp (fun _ hw=>hw.aN (α:=ai)) ?_
      refine R.mp (fun _ hw=>hw.aN (α:=Held)) ?_
      refine R.mp (fun _ hw=>hw.aN (α:=Note)) ?_
      have hz:aU r p kind=((⟨[],[],[],[],0,0⟩:ay),cY r p):=by (unfold aU;(repeat' split) <;> first|rfl|(exfalso;omega)|(simp_all;done))
      rw [hz]
      exact R.w2 ((.slice none 0 0),(.slice none 0 0),(.slice none 0 0),(.slice none 0 0)) [3] [3,2,1,0] rfl Tryz.results53 (RV.cell 0 rfl rfl au) (RV.tmp rfl) rfl rfl rfl (cm rfl rfl)
    ·
      have fq:cY r p=0:=by have:=dS r p;omega
      have fz:=dO (fV fq).1
      refine R.q (q.gtr rfl rfl (decide_eq_false (by omega))) rfl<|R.nil ?_
      refine R.aH rfl rfl ?_
      refine R.reg rfl<|R.q (q.aS (off':=1) rfl bm rfl) rfl<|R.q (q.ld 2 rfl rfl bT rfl) rfl<|R.q (q.len' (fun _=>Wd.aO 1 rfl) rfl Tryz.underlying26) rfl<|?_
      by_cases h3:r.Things.length=10
      ·
        refine R.q (q.eql rfl rfl (beq_iff_eq.2 (by omega))) rfl<|R.u 10 rfl<|R.nil ?_
        refine R.aI rfl rfl ?_
        refine R.reg rfl<|R.q (q.build (cs:=[.slice none 0 0,.slice none 0 0,.slice none 0 0,.slice none 0 0,.int .i64 0,.int .i64 0]) ck rfl rfl) rfl<|?_
        refine R.s rfl (s.st (us:=[.slice none 0 0,.slice none 0 0,.slice none 0 0,.slice none 0 0,.int .i64 0,.int .i64 0]) (cs':=[.slice none 0 0,.slice none 0 0,.slice none 0 0,.slice none 0 0,.int .i64 0,.int .i64 0]) 0 _ rfl rfl rfl rfl (.inl au) rfl rfl rfl rfl) fun _=>?_
        refine R.u 1 rfl<|R.nil ?_
        refine R.mp (fun _ hw=>hw.aN (α:=ao)) ?_
        refine R.mp (fun _ hw=>hw.aN (α:=ai)) ?_
        refine R.mp (fun _ hw=>hw.aN (α:=Held)) ?_
        refine R.mp (fun _ hw=>hw.aN (α:=Note)) ?_
        have hz:aU r p kind=((⟨[],[],[],[],0,0⟩:ay),9):=by (unfold aU;(repeat' split) <;> first|rfl|(exfalso;omega)|(simp_all;done))
        rw [hz]
        exact R.w2 ((.slice none 0 0),(.slice none 0 0),(.slice none 0 0),(.slice none 0 0)) [3] [3,2,1,0] rfl Tryz.results53 (RV.cell 0 rfl rfl au) (RV.tmp rfl) rfl rfl rfl (cm rfl rfl)
      ·
        refine R.q (q.eql rfl rfl (beq_eq_false_iff_ne.2 (by omega))) rfl<|R.u 1 rfl<|R.qg rfl (q.aS (off':=5) rfl cQ rfl) rfl<|R.qg rfl (q.ld 2 rfl rfl aG rfl) rfl<|?_
        by_cases h4:999<r.af
        ·
          refine R.qg rfl (q.gtr rfl rfl (decide_eq_true (by omega))) rfl<|R.u 6 rfl<|R.nil ?_
          refine R.aI rfl rfl ?_
          refine R.reg rfl<|R.q (q.build (cs:=[.slice none 0 0,.slice none 0 0,.slice none 0 0,.slice none 0 0,.int .i64 0,.int .i64 0]) ck rfl rfl) rfl<|?_
          refine R.s rfl (s.st (us:=[.slice none 0 0,.slice none 0 0,.slice none 0 0,.slice none 0 0,.int .i64 0,.int .i64 0]) (cs':=[.slice none 0 0,.slice none 0 0,.slice none 0 0,.slice none 0 0,.int .i64 0,.int .i64 0]) 0 _ rfl rfl rfl rfl (.inl au) rfl rfl rfl rfl) fun _=>?_
          refine R.u 1 rfl<|R.nil ?_
          refine R.mp (fun _ hw=>hw.aN (α:=ao)) ?_
          refine R.mp (fun _ hw=>hw.aN (α:=ai)) ?_
          refine R.mp (fun _ hw=>hw.aN (α:=Held)) ?_
          refine R.mp (fun _ hw=>hw.aN (α:=Note)) ?_
          have hz:aU r p kind=((⟨[],[],[],[],0,0⟩:ay),9):=by (unfold aU;(repeat' split) <;> first|rfl|(exfalso;omega)|(simp_all;done))
          rw [hz]
          exact R.w2 ((.slice none 0 0),(.slice none 0 0),(.slice none 0 0),(.slice none 0 0)) [3] [3,2,1,0] rfl Tryz.results53 (RV.cell 0 rfl rfl au) (RV.tmp rfl) rfl rfl rfl (cm rfl rfl)
        ·
          refine R.qg rfl (q.gtr rfl rfl (decide_eq_false (by omega))) rfl<|R.u 2 rfl<|R.qg rfl (q.aS (off':=4) rfl bU rfl) rfl<|R.qg rfl (q.ld 2 rfl rfl aG rfl) rfl<|?_
          by_cases h5:999<r.ae
          ·
            refine R.qg rfl (q.gtr rfl rfl (decide_eq_true (by omega))) rfl<|R.u 1 rfl<|R.nil ?_
            refine R.aI rfl rfl ?_
            refine R.reg rfl<|R.q (q.build (cs:=[.slice none 0 0,.slice none 0 0,.slice none 0 0,.slice none 0 0,.int .i64 0,.int .i64 0]) ck rfl rfl) rfl<|?_
            refine R.s rfl (s.st (us:=[.slice none 0 0,.slice none 0 0,.slice none 0 0,.slice none 0 0,.int .i64 0,.int .i64 0]) (cs':=[.slice none 0 0,.slice none 0 0,.slice none 0 0,.slice none 0 0,.int .i64 0,.int .i64 0]) 0 _ rfl rfl rfl rfl (.inl au) rfl rfl rfl rfl) fun _=>?_
            refine R.u 1 rfl<|R.nil ?_
            refine R.mp (fun _ hw=>hw.aN (α:=ao)) ?_
            refine R.mp (fun _ hw=>hw.aN (α:=ai)) ?_
            refine R.mp (fun _ hw=>hw.aN (α:=Held)) ?_
            refine R.mp (fun _ hw=>hw.aN (α:=Note)) ?_
            have hz:aU r p kind=((⟨[],[],[],[],0,0⟩:ay),9):=by (unfold aU;(repeat' split) <;> first|rfl|(exfalso;omega)|(simp_all;done))
            rw [hz]
            exact R.w2 ((.slice none 0 0),(.slice none 0 0),(.slice none 0 0),(.slice none 0 0)) [3] [3,2,1,0] rfl Tryz.results53 (RV.cell 0 rfl rfl au) (RV.tmp rfl) rfl rfl rfl (cm rfl rfl)
          ·
            refine R.qg rfl (q.gtr rfl rfl (decide_eq_false (by omega))) rfl<|R.u 1 rfl<|R.nil ?_
            refine R.aH rfl rfl ?_
            refine R.reg rfl<|R.q (q.aS (off':=4) rfl bU rfl) rfl<|R.q (q.ld 2 rfl rfl aG rfl) rfl<|R.q (q.aS (off':=5) rfl cQ rfl) rfl<|R.q (q.ld 2 rfl rfl aG rfl) rfl<|R.q (q.build (cs:=[.int .i64 r.ae,.int .i64 r.af,.int .i64 7,.int .i64 0,.int .i64 0]) dM rfl rfl) rfl<|?_
            refine R.s rfl (s.alloc (cs:=[.int .i64 0,.int .i64 0,.int .i64 0,.int .i64 0,.int .i64 0]) aY rfl rfl) fun b4=>?_
            refine R.s rfl (s.st (us:=[.int .i64 r.ae,.int .i64 r.af,.int .i64 7,.int .i64 0,.int .i64 0]) (cs':=[.int .i64 r.ae,.int .i64 r.af,.int .i64 7,.int .i64 0,.int .i64 0]) 0 _ rfl rfl rfl rfl (.inl aK) rfl rfl rfl rfl) fun _=>?_
            refine R.nil ?_
            refine R.reg rfl<|R.q (q.bI 3 rfl rfl au) rfl<|R.q (q.bI 0 rfl rfl aK) rfl<|?_
            refine R.s (B':=(fun g_:Value×Value×Value×Value=>[ah.row 39 g_.1 (((aF r (⟨r.ae,r.af,7,0,0⟩:ao))).ap:List ao),ah.row 74 g_.2.1 (((aF r (⟨r.ae,r.af,7,0,0⟩:ao))).Things:List ai),ah.row 93 g_.2.2.1 (((aF r (⟨r.ae,r.af,7,0,0⟩:ao))).Held:List Held),ah.row 52 g_.2.2.2 (((aF r (⟨r.ae,r.af,7,0,0⟩:ao))).Notes:List Note),ah.box b4 [.int .i64 r.ae,.int .i64 r.af,.int .i64 7,.int .i64 0,.int .i64 0] 39,ah.box b3 [.slice none 0 0,.slice none 0 0,.slice none 0 0,.slice none 0 0,.int .i64 0,.int .i64 0] 30,ah.box b2 [.int .i64 p.ag,.int .i64 p.Slot] 33,ah.box b1 [aD,az,aB,aA,.int .i64 r.ae,.int .i64 r.af] 30,ah.held w own])) (F':=(fun g_:Value×Value×Value×Value=>[ah.ls aD (r.ap:List ao),ah.ls az (r.Things:List ai),ah.ls aB (r.Held:List Held),ah.ls aA (r.Notes:List Note)])) rfl (s.bE (B0:=[]) (Br:=[ah.box b4 [.int .i64 r.ae,.int .i64 r.af,.int .i64 7,.int .i64 0,.int .i64 0] 39,ah.box b3 [.slice none 0 0,.slice none 0 0,.slice none 0 0,.slice none 0 0,.int .i64 0,.int .i64 0] 30,ah.box b2 [.int .i64 p.ag,.int .i64 p.Slot] 33,ah.box b1 [aD,az,aB,aA,.int .i64 r.ae,.int .i64 r.af] 30,ah.held w own]) (F0:=[ah.ls aD (r.ap:List ao),ah.ls az (r.Things:List ai),ah.ls aB (r.Held:List Held),ah.ls aA (r.Notes:List Note)]) [0,1,2,3,4] [0,1,2,3] (fun g_:Value×Value×Value×Value => .agg #[g_.1,g_.2.1,g_.2.2.1,g_.2.2.2,.int .i64 (((aF r (⟨r.ae,r.af,7,0,0⟩:ao))).ae),.int .i64 (((aF r (⟨r.ae,r.af,7,0,0⟩:ao))).af)]) (fun g_:Value×Value×Value×Value=>[ah.row 39 g_.1 (((aF r (⟨r.ae,r.af,7,0,0⟩:ao))).ap:List ao),ah.row 74 g_.2.1 (((aF r (⟨r.ae,r.af,7,0,0⟩:ao))).Things:List ai),ah.row 93 g_.2.2.1 (((aF r (⟨r.ae,r.af,7,0,0⟩:ao))).Held:List Held),ah.row 52 g_.2.2.2 (((aF r (⟨r.ae,r.af,7,0,0⟩:ao))).Notes:List Note)]) (fun g_:Value×Value×Value×Value=>[]) rfl rfl rfl oO rfl rfl (fun w own hw H=>jG aD az aB aA (r) ((⟨r.ae,r.af,7,0,0⟩:ao)) w own H (by assumption)) rfl) ?_
            rintro ⟨z1,z2,z3,z4⟩
            dsimp only
            refine R.s rfl (s.cS (us:=[z1,z2,z3,z4,.int .i64 ((aF r (⟨r.ae,r.af,7,0,0⟩:ao)).ae),.int .i64 ((aF r (⟨r.ae,r.af,7,0,0⟩:ao)).af)]) (cs':=[z1,z2,z3,z4,.int .i64 ((aF r (⟨r.ae,r.af,7,0,0⟩:ao)).ae),.int .i64 ((aF r (⟨r.ae,r.af,7,0,0⟩:ao)).af)]) 7 _ rfl rfl rfl (fun _ _=>rfl) (.inl au) (fun w hw=>(aj (Sl.one ((fun _=>Wd.row 0 rfl) w hw)) (aj (Sl.one ((fun _=>Wd.row 1 rfl) w hw)) (aj (Sl.one ((fun _=>Wd.row 2 rfl) w hw)) (aj (Sl.one ((fun _=>Wd.row 3 rfl) w hw)) (aj rfl (aj rfl aJ))))))) rfl rfl rfl) fun _=>?_
            refine R.nil ?_
            refine R.reg rfl<|R.q (q.aS (off':=1) rfl bm rfl) rfl<|R.q (q.ld 7 rfl rfl bT rfl) rfl<|R.q (q.aS (off':=5) rfl cQ rfl) rfl<|R.q (q.ld 7 rfl rfl aG rfl) rfl<|R.u 1 rfl<|R.q (q.build (cs:=[.int .i64 ((aF r (⟨r.ae,r.af,7,0,0⟩:ao)).af),.int .i64 kind,.string (⟨#[]⟩)]) qI rfl rfl) rfl<|?_
            refine R.s rfl (s.bs (l:=([(⟨(aF r (⟨r.ae,r.af,7,0,0⟩:ao)).af,kind,⟨#[]⟩⟩:ai)]:List ai)) dJ fK rfl rfl rfl rfl rfl rfl rfl) fun b5=>?_
            refine R.s rfl (s.app (l2:=[(⟨(aF r (⟨r.ae,r.af,7,0,0⟩:ao)).af,kind,⟨#[]⟩⟩:ai)]) 2 _ rfl rfl rfl (fun _=>Wd.row 0 rfl) hG (by first|omega|(simp;omega)|(simp [aF];omega)|(dsimp only [aF];omega)) (by first|omega|(simp;omega)|(simp [aF];omega)|(dsimp only [aF];omega)) (fun _=>rfl) rfl) fun v1=>?_
            refine R.q (q.aS (off':=1) rfl bm rfl) rfl<|?_
            refine R.s rfl (s.cS (us:=[v1]) (cs':=[z1,v1,z3,z4,.int .i64 ((aF r (⟨r.ae,r.af,7,0,0⟩:ao)).ae),.int .i64 ((aF r (⟨r.ae,r.af,7,0,0⟩:ao)).af)]) 8 _ rfl rfl rfl (fun w hw=>Sl.bJ ((fun _=>Wd.row 2 rfl) w hw)) (.inr ⟨bT,rfl⟩) (fun w hw=>(aj (Sl.one ((fun _=>Wd.row 2 rfl) w hw)) aJ)) rfl rfl rfl) fun _=>?_
            refine R.nil ?_
            have zC:(aF r (⟨r.ae,r.af,7,0,0⟩:ao)).af=r.af:=rfl
            refine R.reg rfl<|R.q (q.aS (off':=5) rfl cQ rfl) rfl<|R.q (q.ld 8 rfl rfl aG rfl) rfl<|R.q (q.add (r:=((aF r (⟨r.ae,r.af,7,0,0⟩:ao)).af)+1) rfl rfl (wr (by omega))) rfl<|R.q (q.aS (off':=5) rfl cQ rfl) rfl<|?_
            refine R.s rfl (s.st (us:=[.int .i64 (((aF r (⟨r.ae,r.af,7,0,0⟩:ao)).af)+1)]) (cs':=[z1,v1,z3,z4,.int .i64 ((aF r (⟨r.ae,r.af,7,0,0⟩:ao)).ae),.int .i64 (((aF r (⟨r.ae,r.af,7,0,0⟩:ao)).af)+1)]) 8 _ rfl rfl rfl rfl (.inr ⟨aG,rfl⟩) rfl rfl rfl rfl) fun _=>?_
            refine R.nil ?_
            refine R.reg rfl<|R.q (q.aS (off':=2) rfl bf rfl) rfl<|R.q (q.ld 8 rfl rfl bQ rfl) rfl<|R.q (q.bI 7 rfl rfl aM) rfl<|R.q (q.aS (off':=0) rfl bK rfl) rfl<|R.q (q.ld 5 rfl rfl aG rfl) rfl<|?_
            refine R.s (B':=(fun aL:Value=>[ah.row 93 aL ((bO ((aF r (⟨r.ae,r.af,7,0,0⟩:ao)).Held) p r.ae):List Held),ah.row 74 (.slice (some ⟨b5,0,none⟩) 1 1) ([(⟨(aF r (⟨r.ae,r.af,7,0,0⟩:ao)).af,kind,⟨#[]⟩⟩:ai)]:List ai),ah.row 39 z1 ((aF r (⟨r.ae,r.af,7,0,0⟩:ao)).ap:List ao),ah.row 74 v1 ((((aF r (⟨r.ae,r.af,7,0,0⟩:ao)).Things)++([(⟨(aF r (⟨r.ae,r.af,7,0,0⟩:ao)).af,kind,⟨#[]⟩⟩:ai)])):List ai),ah.row 52 z4 ((aF r (⟨r.ae,r.af,7,0,0⟩:ao)).Notes:List Note),ah.box b4 [.int .i64 r.ae,.int .i64 r.af,.int .i64 7,.int .i64 0,.int .i64 0] 39,ah.box b3 [.slice none 0 0,.slice none 0 0,.slice none 0 0,.slice none 0 0,.int .i64 0,.int .i64 0] 30,ah.box b2 [.int .i64 p.ag,.int .i64 p.Slot] 33,ah.box b1 [z1,v1,z3,z4,.int .i64 ((aF r (⟨r.ae,r.af,7,0,0⟩:ao)).ae),.int .i64 (((aF r (⟨r.ae,r.af,7,0,0⟩:ao)).af)+1)] 30,ah.held w own])) (F':=(fun aL:Value=>[ah.ls z3 ((aF r (⟨r.ae,r.af,7,0,0⟩:ao)).Held:List Held),ah.ls aD (r.ap:List ao),ah.ls az (r.Things:List ai),ah.ls aB (r.Held:List Held),ah.ls aA (r.Notes:List Note)])) rfl (s.pre (B2:=[ah.row 74 (.slice (some ⟨b5,0,none⟩) 1 1) ([(⟨(aF r (⟨r.ae,r.af,7,0,0⟩:ao)).af,kind,⟨#[]⟩⟩:ai)]:List ai),ah.row 39 z1 ((aF r (⟨r.ae,r.af,7,0,0⟩:ao)).ap:List ao),ah.row 74 v1 ((((aF r (⟨r.ae,r.af,7,0,0⟩:ao)).Things)++([(⟨(aF r (⟨r.ae,r.af,7,0,0⟩:ao)).af,kind,⟨#[]⟩⟩:ai)])):List ai),ah.row 52 z4 ((aF r (⟨r.ae,r.af,7,0,0⟩:ao)).Notes:List Note),ah.box b4 [.int .i64 r.ae,.int .i64 r.af,.int .i64 7,.int .i64 0,.int .i64 0] 39,ah.box b3 [.slice none 0 0,.slice none 0 0,.slice none 0 0,.slice none 0 0,.int .i64 0,.int .i64 0] 30,ah.box b2 [.int .i64 p.ag,.int .i64 p.Slot] 33,ah.box b1 [z1,v1,z3,z4,.int .i64 ((aF r (⟨r.ae,r.af,7,0,0⟩:ao)).ae),.int .i64 (((aF r (⟨r.ae,r.af,7,0,0⟩:ao)).af)+1)] 30,ah.held w own]) (F2:=[ah.ls z3 ((aF r (⟨r.ae,r.af,7,0,0⟩:ao)).Held:List Held),ah.ls aD (r.ap:List ao),ah.ls az (r.Things:List ai),ah.ls aB (r.Held:List Held),ah.ls aA (r.Notes:List Note)]) (fun _ hw=>hw.aZ 3 _ rfl rfl) (s.bE (B0:=[]) (Br:=[ah.row 74 (.slice (some ⟨b5,0,none⟩) 1 1) ([(⟨(aF r (⟨r.ae,r.af,7,0,0⟩:ao)).af,kind,⟨#[]⟩⟩:ai)]:List ai),ah.row 39 z1 ((aF r (⟨r.ae,r.af,7,0,0⟩:ao)).ap:List ao),ah.row 74 v1 ((((aF r (⟨r.ae,r.af,7,0,0⟩:ao)).Things)++([(⟨(aF r (⟨r.ae,r.af,7,0,0⟩:ao)).af,kind,⟨#[]⟩⟩:ai)])):List ai),ah.row 52 z4 ((aF r (⟨r.ae,r.af,7,0,0⟩:ao)).Notes:List Note),ah.box b4 [.int .i64 r.ae,.int .i64 r.af,.int .i64 7,.int .i64 0,.int .i64 0] 39,ah.box b3 [.slice none 0 0,.slice none 0 0,.slice none 0 0,.slice none 0 0,.int .i64 0,.int .i64 0] 30,ah.box b2 [.int .i64 p.ag,.int .i64 p.Slot] 33,ah.box b1 [z1,v1,z3,z4,.int .i64 ((aF r (⟨r.ae,r.af,7,0,0⟩:ao)).ae),.int .i64 (((aF r (⟨r.ae,r.af,7,0,0⟩:ao)).af)+1)] 30,ah.held w own]) (F0:=[ah.ls z3 ((aF r (⟨r.ae,r.af,7,0,0⟩:ao)).Held:List Held)]) [0,1,2,3,4,5,6,7,8] [0] (fun aL:Value=>aL) (fun aL:Value=>[ah.row 93 aL ((bO ((aF r (⟨r.ae,r.af,7,0,0⟩:ao)).Held) p r.ae):List Held)]) (fun aL:Value=>[]) rfl rfl rfl mb rfl rfl (fun w own hw H=>gV z3 ((aF r (⟨r.ae,r.af,7,0,0⟩:ao)).Held) (p) (r.ae) w own H (by first|omega|assumption|(simp;done)|(simp;omega)|(dsimp only [aF];omega)) (by first|assumption|exact hI.good|exact hP.good|exact dD hI.good (by assumption))) rfl)) fun z5=>?_
            refine R.q (q.aS (off':=2) rfl bf rfl) rfl<|?_
            refine R.s rfl (s.cS (us:=[z5]) (cs':=[z1,v1,z5,z4,.int .i64 ((aF r (⟨r.ae,r.af,7,0,0⟩:ao)).ae),.int .i64 (((aF r (⟨r.ae,r.af,7,0,0⟩:ao)).af)+1)]) 8 _ rfl rfl rfl (fun w hw=>Sl.bJ ((fun _=>Wd.row 0 rfl) w hw)) (.inr ⟨bQ,rfl⟩) (fun w hw=>(aj (Sl.one ((fun _=>Wd.row 0 rfl) w hw)) aJ)) rfl rfl rfl) fun _=>?_
            refine R.nil ?_
            refine R.reg rfl<|R.q (q.bI 8 rfl rfl au) rfl<|?_
            refine R.s rfl (s.cS (us:=[z1,v1,z5,z4,.int .i64 ((aF r (⟨r.ae,r.af,7,0,0⟩:ao)).ae),.int .i64 (((aF r (⟨r.ae,r.af,7,0,0⟩:ao)).af)+1)]) (cs':=[z1,v1,z5,z4,.int .i64 ((aF r (⟨r.ae,r.af,7,0,0⟩:ao)).ae),.int .i64 (((aF r (⟨r.ae,r.af,7,0,0⟩:ao)).af)+1)]) 6 _ rfl rfl rfl (fun _ _=>rfl) (.inl au) (fun w hw=>(aj (Sl.one ((fun _=>Wd.row 2 rfl) w hw)) (aj (Sl.one ((fun _=>Wd.row 3 rfl) w hw)) (aj (Sl.one ((fun _=>Wd.row 0 rfl) w hw)) (aj (Sl.one ((fun _=>Wd.row 4 rfl) w hw)) (aj rfl (aj rfl aJ))))))) rfl rfl rfl) fun _=>?_
            refine R.u 1 rfl<|R.nil ?_
            refine R.mp (B':=[ah.row 93 z5 (bO ((aF r (⟨r.ae,r.af,7,0,0⟩:ao)).Held) p r.ae:List Held),ah.row 74 (.slice (some ⟨b5,0,none⟩) 1 1) ([(⟨(aF r (⟨r.ae,r.af,7,0,0⟩:ao)).af,kind,⟨#[]⟩⟩:ai)]:List ai),ah.row 74 v1 ((((aF r (⟨r.ae,r.af,7,0,0⟩:ao)).Things)++([(⟨(aF r (⟨r.ae,r.af,7,0,0⟩:ao)).af,kind,⟨#[]⟩⟩:ai)])):List ai),ah.row 52 z4 ((aF r (⟨r.ae,r.af,7,0,0⟩:ao)).Notes:List Note),ah.box b4 [.int .i64 r.ae,.int .i64 r.af,.int .i64 7,.int .i64 0,.int .i64 0] 39,ah.box b3 [z1,v1,z5,z4,.int .i64 ((aF r (⟨r.ae,r.af,7,0,0⟩:ao)).ae),.int .i64 (((aF r (⟨r.ae,r.af,7,0,0⟩:ao)).af)+1)] 30,ah.box b2 [.int .i64 p.ag,.int .i64 p.Slot] 33,ah.box b1 [z1,v1,z5,z4,.int .i64 ((aF r (⟨r.ae,r.af,7,0,0⟩:ao)).ae),.int .i64 (((aF r (⟨r.ae,r.af,7,0,0⟩:ao)).af)+1)] 30,ah.held w own]) (fun _ hw=>hw.aZ 2 _ rfl rfl) ?_
            refine R.mp (B':=[ah.row 93 z5 (bO ((aF r (⟨r.ae,r.af,7,0,0⟩:ao)).Held) p r.ae:List Held),ah.row 74 (.slice (some ⟨b5,0,none⟩) 1 1) ([(⟨(aF r (⟨r.ae,r.af,7,0,0⟩:ao)).af,kind,⟨#[]⟩⟩:ai)]:List ai),ah.row 52 z4 ((aF r (⟨r.ae,r.af,7,0,0⟩:ao)).Notes:List Note),ah.box b4 [.int .i64 r.ae,.int .i64 r.af,.int .i64 7,.int .i64 0,.int .i64 0] 39,ah.box b3 [z1,v1,z5,z4,.int .i64 ((aF r (⟨r.ae,r.af,7,0,0⟩:ao)).ae),.int .i64 (((aF r (⟨r.ae,r.af,7,0,0⟩:ao)).af)+1)] 30,ah.box b2 [.int .i64 p.ag,.int .i64 p.Slot] 33,ah.box b1 [z1,v1,z5,z4,.int .i64 ((aF r (⟨r.ae,r.af,7,0,0⟩:ao)).ae),.int .i64 (((aF r (⟨r.ae,r.af,7,0,0⟩:ao)).af)+1)] 30,ah.held w own]) (fun _ hw=>hw.aZ 2 _ rfl rfl) ?_
            refine R.mp (B':=[ah.row 74 (.slice (some ⟨b5,0,none⟩) 1 1) ([(⟨(aF r (⟨r.ae,r.af,7,0,0⟩:ao)).af,kind,⟨#[]⟩⟩:ai)]:List ai),ah.row 52 z4 ((aF r (⟨r.ae,r.af,7,0,0⟩:ao)).Notes:List Note),ah.box b4 [.int .i64 r.ae,.int .i64 r.af,.int .i64 7,.int .i64 0,.int .i64 0] 39,ah.box b3 [z1,v1,z5,z4,.int .i64 ((aF r (⟨r.ae,r.af,7,0,0⟩:ao)).ae),.int .i64 (((aF r (⟨r.ae,r.af,7,0,0⟩:ao)).af)+1)] 30,ah.box b2 [.int .i64 p.ag,.int .i64 p.Slot] 33,ah.box b1 [z1,v1,z5,z4,.int .i64 ((aF r (⟨r.ae,r.af,7,0,0⟩:ao)).ae),.int .i64 (((aF r (⟨r.ae,r.af,7,0,0⟩:ao)).af)+1)] 30,ah.held w own]) (fun _ hw=>hw.aZ 0 _ rfl rfl) ?_
            refine R.mp (B':=[ah.row 74 (.slice (some ⟨b5,0,none⟩) 1 1) ([(⟨(aF r (⟨r.ae,r.af,7,0,0⟩:ao)).af,kind,⟨#[]⟩⟩:ai)]:List ai),ah.box b4 [.int .i64 r.ae,.int .i64 r.af,.int .i64 7,.int .i64 0,.int .i64 0] 39,ah.box b3 [z1,v1,z5,z4,.int .i64 ((aF r (⟨r.ae,r.af,7,0,0⟩:ao)).ae),.int .i64 (((aF r (⟨r.ae,r.af,7,0,0⟩:ao)).af)+1)] 30,ah.box b2 [.int .i64 p.ag,.int .i64 p.Slot] 33,ah.box b1 [z1,v1,z5,z4,.int .i64 ((aF r (⟨r.ae,r.af,7,0,0⟩:ao)).ae),.int .i64 (((aF r (⟨r.ae,r.af,7,0,0⟩:ao)).af)+1)] 30,ah.held w own]) (fun _ hw=>hw.aZ 1 _ rfl rfl) ?_
            have hz:aU r p kind=((⟨(aF r (⟨r.ae,r.af,7,0,0⟩:ao)).ap,(((aF r (⟨r.ae,r.af,7,0,0⟩:ao)).Things)++([(⟨(aF r (⟨r.ae,r.af,7,0,0⟩:ao)).af,kind,⟨#[]⟩⟩:ai)])),bO ((aF r (⟨r.ae,r.af,7,0,0⟩:ao)).Held) p r.ae,(aF r (⟨r.ae,r.af,7,0,0⟩:ao)).Notes,(aF r (⟨r.ae,r.af,7,0,0⟩:ao)).ae,(((aF r (⟨r.ae,r.af,7,0,0⟩:ao)).af)+1)⟩:ay),0):=by (unfold aU aW;rw [if_pos (by omega),if_pos fq,if_neg (by omega)];dsimp only;rw [if_pos (by omega)];(try rfl))
            rw [hz]
            exact R.w2 (z1,v1,z5,z4) [5] [3,2,1,0] rfl Tryz.results53 (RV.cell 2 rfl rfl au) (RV.tmp rfl) rfl rfl rfl (cm rfl rfl)
  ·
    refine R.q (q.neq rfl rfl (bne_iff_ne.2 (by omega))) rfl<|R.u 2 rfl<|?_
    by_cases h6:kind=2
    ·
      refine R.qg rfl (q.neq rfl rfl (bne_eq_false_iff_eq.2 (by omega))) rfl<|R.u 1 rfl<|R.nil ?_
      refine R.aH rfl rfl ?_
      refine R.reg rfl<|R.q (q.bI 2 rfl rfl au) rfl<|R.q (q.bI 1 rfl rfl aM) rfl<|R.c (q.call qU rfl rfl (fun w hw=>(jT _ _ _ _ (r) (p) w ((fun _=>Wd.aO 0 rfl) w hw) ((fun _=>Wd.aO 1 rfl) w hw) ((fun _=>Wd.aO 2 rfl) w hw) ((fun _=>Wd.aO 3 rfl) w hw) (by assumption) (by assumption)))) rfl<|R.u 1 rfl<|R.nil ?_
      refine R.reg rfl<|R.u 1 rfl<|?_
      by_cases h7:0<cY r p
      ·
        refine R.q (q.gtr rfl rfl (decide_eq_true (by omega))) rfl<|R.nil ?_
        refine R.aI rfl rfl ?_
        refine R.reg rfl<|R.q (q.build (cs:=[.slice none 0 0,.slice none 0 0,.slice none 0 0,.slice none 0 0,.int .i64 0,.int .i64 0]) ck rfl rfl) rfl<|R.u 1 rfl<|?_
        refine R.s rfl (s.st (us:=[.slice none 0 0,.slice none 0 0,.slice none 0 0,.slice none 0 0,.int .i64 0,.int .i64 0]) (cs':=[.slice none 0 0,.slice none 0 0,.slice none 0 0,.slice none 0 0,.int .i64 0,.int .i64 0]) 0 _ rfl rfl rfl rfl (.inl au) rfl rfl rfl rfl) fun _=>?_
        refine R.u 1 rfl<|R.nil ?_
        refine R.mp (fun _ hw=>hw.aN (α:=ao)) ?_
        refine R.mp (fun _ hw=>hw.aN (α:=ai)) ?_
        refine R.mp (fun _ hw=>hw.aN (α:=Held)) ?_
        refine R.mp (fun _ hw=>hw.aN (α:=Note)) ?_
        have hz:aU r p kind=((⟨[],[],[],[],0,0⟩:ay),cY r p):=by (unfold aU;(repeat' split) <;> first|rfl|(exfalso;omega)|(simp_all;done))
        rw [hz]
        exact R.w2 ((.slice none 0 0),(.slice none 0 0),(.slice none 0 0),(.slice none 0 0)) [3] [3,2,1,0] rfl Tryz.results53 (RV.cell 0 rfl rfl au) (RV.tmp rfl) rfl rfl rfl (cm rfl rfl)
      ·
        have fq:cY r p=0:=by have:=dS r p;omega
        have fz:=dO (fV fq).1
        refine R.q (q.gtr rfl rfl (decide_eq_false (by omega))) rfl<|R.nil ?_
        refine R.aH rfl rfl ?_
        refine R.reg rfl<|R.q (q.aS (off':=1) rfl bm rfl) rfl<|R.q (q.ld 2 rfl rfl bT rfl) rfl<|R.q (q.len' (fun _=>Wd.aO 1 rfl) rfl Tryz.underlying26) rfl<|?_
        by_cases h8:r.Things.length=10
        ·
          refine R.q (q.eql rfl rfl (beq_iff_eq.2 (by omega))) rfl<|R.u 10 rfl<|R.nil ?_
          refine R.aI rfl rfl ?_
          refine R.reg rfl<|R.q (q.build (cs:=[.slice none 0 0,.slice none 0 0,.slice none 0 0,.slice none 0 0,.int .i64 0,.int .i64 0]) ck rfl rfl) rfl<|?_
          refine R.s rfl (s.st (us:=[.slice none 0 0,.slice none 0 0,.slice none 0 0,.slice none 0 0,.int .i64 0,.int .i64 0]) (cs':=[.slice none 0 0,.slice none 0 0,.slice none 0 0,.slice none 0 0,.int .i64 0,.int .i64 0]) 0 _ rfl rfl rfl rfl (.inl au) rfl rfl rfl rfl) fun _=>?_
          refine R.u 1 rfl<|R.nil ?_
          refine R.mp (fun _ hw=>hw.aN (α:=ao)) ?_
          refine R.mp (fun _ hw=>hw.aN (α:=ai)) ?_
          refine R.mp (fun _ hw=>hw.aN (α:=Held)) ?_
          refine R.mp (fun _ hw=>hw.aN (α:=Note)) ?_
          have hz:aU r p kind=((⟨[],[],[],[],0,0⟩:ay),9):=by (unfold aU;(repeat' split) <;> first|rfl|(exfalso;omega)|(simp_all;done))
          rw [hz]
          exact R.w2 ((.slice none 0 0),(.slice none 0 0),(.slice none 0 0),(.slice none 0 0)) [3] [3,2,1,0] rfl Tryz.results53 (RV.cell 0 rfl rfl au) (RV.tmp rfl) rfl rfl rfl (cm rfl rfl)
        ·
          refine R.q (q.eql rfl rfl (beq_eq_false_iff_ne.2 (by omega))) rfl<|R.u 1 rfl<|R.qg rfl (q.aS (off':=5) rfl cQ rfl) rfl<|R.qg rfl (q.ld 2 rfl rfl aG rfl) rfl<|?_
          by_cases h9:999<r.af
          ·
            refine R.qg rfl (q.gtr rfl rfl (decide_eq_true (by omega))) rfl<|R.u 6 rfl<|R.nil ?_
            refine R.aI rfl rfl ?_
            refine R.reg rfl<|R.q (q.build (cs:=[.slice none 0 0,.slice none 0 0,.slice none 0 0,.slice none 0 0,.int .i64 0,.int .i64 0]) ck rfl rfl) rfl<|?_
            refine R.s rfl (s.st (us:=[.slice none 0 0,.slice none 0 0,.slice none 0 0,.slice none 0 0,.int .i64 0,.int .i64 0]) (cs':=[.slice none 0 0,.slice none 0 0,.slice none 0 0,.slice none 0 0,.int .i64 0,.int .i64 0]) 0 _ rfl rfl rfl rfl (.inl au) rfl rfl rfl rfl) fun _=>?_
            refine R.u 1 rfl<|R.nil ?_
            refine R.mp (fun _ hw=>hw.aN (α:=ao)) ?_
            refine R.mp (fun _ hw=>hw.aN (α:=ai)) ?_
            refine R.mp (fun _ hw=>hw.aN (α:=Held)) ?_
            refine R.mp (fun _ hw=>hw.aN (α:=Note)) ?_
            have hz:aU r p kind=((⟨[],[],[],[],0,0⟩:ay),9):=by (unfold aU;(repeat' split) <;> first|rfl|(exfalso;omega)|(simp_all;done))
            rw [hz]
            exact R.w2 ((.slice none 0 0),(.slice none 0 0),(.slice none 0 0),(.slice none 0 0)) [3] [3,2,1,0] rfl Tryz.results53 (RV.cell 0 rfl rfl au) (RV.tmp rfl) rfl rfl rfl (cm rfl rfl)
          ·
            refine R.qg rfl (q.gtr rfl rfl (decide_eq_false (by omega))) rfl<|R.u 2 rfl<|R.qg rfl (q.aS (off':=4) rfl bU rfl) rfl<|R.qg rfl (q.ld 2 rfl rfl aG rfl) rfl<|?_
            by_cases h10:999<r.ae
            ·
              refine R.qg rfl (q.gtr rfl rfl (decide_eq_true (by omega))) rfl<|R.u 1 rfl<|R.nil ?_
              refine R.aI rfl rfl ?_
              refine R.reg rfl<|R.q (q.build (cs:=[.slice none 0 0,.slice none 0 0,.slice none 0 0,.slice none 0 0,.int .i64 0,.int .i64 0]) ck rfl rfl) rfl<|?_
              refine R.s rfl (s.st (us:=[.slice none 0 0,.slice none 0 0,.slice none 0 0,.slice none 0 0,.int .i64 0,.int .i64 0]) (cs':=[.slice none 0 0,.slice none 0 0,.slice none 0 0,.slice none 0 0,.int .i64 0,.int .i64 0]) 0 _ rfl rfl rfl rfl (.inl au) rfl rfl rfl rfl) fun _=>?_
              refine R.u 1 rfl<|R.nil ?_
              refine R.mp (fun _ hw=>hw.aN (α:=ao)) ?_
              refine R.mp (fun _ hw=>hw.aN (α:=ai)) ?_
              refine R.mp (fun _ hw=>hw.aN (α:=Held)) ?_
              refine R.mp (fun _ hw=>hw.aN (α:=Note)) ?_
              have hz:aU r p kind=((⟨[],[],[],[],0,0⟩:ay),9):=by (unfold aU;(repeat' split) <;> first|rfl|(exfalso;omega)|(simp_all;done))
              rw [hz]
              exact R.w2 ((.slice none 0 0),(.slice none 0 0),(.slice none 0 0),(.slice none 0 0)) [3] [3,2,1,0] rfl Tryz.results53 (RV.cell 0 rfl rfl au) (RV.tmp rfl) rfl rfl rfl (cm rfl rfl)
            ·
              refine R.qg rfl (q.gtr rfl rfl (decide_eq_false (by omega))) rfl<|R.u 1 rfl<|R.nil ?_
              refine R.aH rfl rfl ?_
              refine R.reg rfl<|R.q (q.aS (off':=4) rfl bU rfl) rfl<|R.q (q.ld 2 rfl rfl aG rfl) rfl<|R.q (q.aS (off':=5) rfl cQ rfl) rfl<|R.q (q.ld 2 rfl rfl aG rfl) rfl<|R.q (q.build (cs:=[.int .i64 r.ae,.int .i64 r.af,.int .i64 7,.int .i64 0,.int .i64 0]) dM rfl rfl) rfl<|?_
              refine R.s rfl (s.alloc (cs:=[.int .i64 0,.int .i64 0,.int .i64 0,.int .i64 0,.int .i64 0]) aY rfl rfl) fun b6=>?_
              refine R.s rfl (s.st (us:=[.int .i64 r.ae,.int .i64 r.af,.int .i64 7,.int .i64 0,.int .i64 0]) (cs':=[.int .i64 r.ae,.int .i64 r.af,.int .i64 7,.int .i64 0,.int .i64 0]) 0 _ rfl rfl rfl rfl (.inl aK) rfl rfl rfl rfl) fun _=>?_
              refine R.nil ?_
              refine R.reg rfl<|R.q (q.bI 3 rfl rfl au) rfl<|R.q (q.bI 0 rfl rfl aK) rfl<|?_
              refine R.s (B':=(fun g_:Value×Value×Value×Value=>[ah.row 39 g_.1 (((aF r (⟨r.ae,r.af,7,0,0⟩:ao))).ap:List ao),ah.row 74 g_.2.1 (((aF r (⟨r.ae,r.af,7,0,0⟩:ao))).Things:List ai),ah.row 93 g_.2.2.1 (((aF r (⟨r.ae,r.af,7,0,0⟩:ao))).Held:List Held),ah.row 52 g_.2.2.2 (((aF r (⟨r.ae,r.af,7,0,0⟩:ao))).Notes:List Note),ah.box b6 [.int .i64 r.ae,.int .i64 r.af,.int .i64 7,.int .i64 0,.int .i64 0] 39,ah.box b3 [.slice none 0 0,.slice none 0 0,.slice none 0 0,.slice none 0 0,.int .i64 0,.int .i64 0] 30,ah.box b2 [.int .i64 p.ag,.int .i64 p.Slot] 33,ah.box b1 [aD,az,aB,aA,.int .i64 r.ae,.int .i64 r.af] 30,ah.held w own])) (F':=(fun g_:Value×Value×Value×Value=>[ah.ls aD (r.ap:List ao),ah.ls az (r.Things:List ai),ah.ls aB (r.Held:List Held),ah.ls aA (r.Notes:List Note)])) rfl (s.bE (B0:=[]) (Br:=[ah.box b6 [.int .i64 r.ae,.int .i64 r.af,.int .i64 7,.int .i64 0,.int .i64 0] 39,ah.box b3 [.slice none 0 0,.slice none 0 0,.slice none 0 0,.slice none 0 0,.int .i64 0,.int .i64 0] 30,ah.box b2 [.int .i64 p.ag,.int .i64 p.Slot] 33,ah.box b1 [aD,az,aB,aA,.int .i64 r.ae,.int .i64 r.af] 30,ah.held w own]) (F0:=[ah.ls aD (r.ap:List ao),ah.ls az (r.Things:List ai),ah.ls aB (r.Held:List Held),ah.ls aA (r.Notes:List Note)]) [0,1,2,3,4] [0,1,2,3] (fun g_:Value×Value×Value×Value => .agg #[g_.1,g_.2.1,g_.2.2.1,g_.2.2.2,.int .i64 (((aF r (⟨r.ae,r.af,7,0,0⟩:ao))).ae),.int .i64 (((aF r (⟨r.ae,r.af,7,0,0⟩:ao))).af)]) (fun g_:Value×Value×Value×Value=>[ah.row 39 g_.1 (((aF r (⟨r.ae,r.af,7,0,0⟩:ao))).ap:List ao),ah.row 74 g_.2.1 (((aF r (⟨r.ae,r.af,7,0,0⟩:ao))).Things:List ai),ah.row 93 g_.2.2.1 (((aF r (⟨r.ae,r.af,7,0,0⟩:ao))).Held:List Held),ah.row 52 g_.2.2.2 (((aF r (⟨r.ae,r.af,7,0,0⟩:ao))).Notes:List Note)]) (fun g_:Value×Value×Value×Value=>[]) rfl rfl rfl oO rfl rfl (fun w own hw H=>jG aD az aB aA (r) ((⟨r.ae,r.af,7,0,0⟩:ao)) w own H (by assumption)) rfl) ?_
              rintro ⟨z6,z7,z8,z9⟩
              dsimp only
              refine R.s rfl (s.cS (us:=[z6,z7,z8,z9,.int .i64 ((aF r (⟨r.ae,r.af,7,0,0⟩:ao)).ae),.int .i64 ((aF r (⟨r.ae,r.af,7,0,0⟩:ao)).af)]) (cs':=[z6,z7,z8,z9,.int .i64 ((aF r (⟨r.ae,r.af,7,0,0⟩:ao)).ae),.int .i64 ((aF r (⟨r.ae,r.af,7,0,0⟩:ao)).af)]) 7 _ rfl rfl rfl (fun _ _=>rfl) (.inl au) (fun w hw=>(aj (Sl.one ((fun _=>Wd.row 0 rfl) w hw)) (aj (Sl.one ((fun _=>Wd.row 1 rfl) w hw)) (aj (Sl.one ((fun _=>Wd.row 2 rfl) w hw)) (aj (Sl.one ((fun _=>Wd.row 3 rfl) w hw)) (aj rfl (aj rfl aJ))))))) rfl rfl rfl) fun _=>?_
              refine R.nil ?_
              refine R.reg rfl<|R.q (q.aS (off':=1) rfl bm rfl) rfl<|R.q (q.ld 7 rfl rfl bT rfl) rfl<|R.q (q.aS (off':=5) rfl cQ rfl) rfl<|R.q (q.ld 7 rfl rfl aG rfl) rfl<|R.u 1 rfl<|R.q (q.build (cs:=[.int .i64 ((aF r (⟨r.ae,r.af,7,0,0⟩:ao)).af),.int .i64 kind,.string (⟨#[]⟩)]) qI rfl rfl) rfl<|?_
              refine R.s rfl (s.bs (l:=([(⟨(aF r (⟨r.ae,r.af,7,0,0⟩:ao)).af,kind,⟨#[]⟩⟩:ai)]:List ai)) dJ fK rfl rfl rfl rfl rfl rfl rfl) fun b7=>?_
              refine R.s rfl (s.app (l2:=[(⟨(aF r (⟨r.ae,r.af,7,0,0⟩:ao)).af,kind,⟨#[]⟩⟩:ai)]) 2 _ rfl rfl rfl (fun _=>Wd.row 0 rfl) hG (by first|omega|(simp;omega)|(simp [aF];omega)|(dsimp only [aF];omega)) (by first|omega|(simp;omega)|(simp [aF];omega)|(dsimp only [aF];omega)) (fun _=>rfl) rfl) fun v2=>?_
              refine R.q (q.aS (off':=1) rfl bm rfl) rfl<|?_
              refine R.s rfl (s.cS (us:=[v2]) (cs':=[z6,v2,z8,z9,.int .i64 ((aF r (⟨r.ae,r.af,7,0,0⟩:ao)).ae),.int .i64 ((aF r (⟨r.ae,r.af,7,0,0⟩:ao)).af)]) 8 _ rfl rfl rfl (fun w hw=>Sl.bJ ((fun _=>Wd.row 2 rfl) w hw)) (.inr ⟨bT,rfl⟩) (fun w hw=>(aj (Sl.one ((fun _=>Wd.row 2 rfl) w hw)) aJ)) rfl rfl rfl) fun _=>?_
              refine R.nil ?_
              have zC:(aF r (⟨r.ae,r.af,7,0,0⟩:ao)).af=r.af:=rfl
              refine R.reg rfl<|R.q (q.aS (off':=5) rfl cQ rfl) rfl<|R.q (q.ld 8 rfl rfl aG rfl) rfl<|R.q (q.add (r:=((aF r (⟨r.ae,r.af,7,0,0⟩:ao)).af)+1) rfl rfl (wr (by omega))) rfl<|R.q (q.aS (off':=5) rfl cQ rfl) rfl<|?_
              refine R.s rfl (s.st (us:=[.int .i64 (((aF r (⟨r.ae,r.af,7,0,0⟩:ao)).af)+1)]) (cs':=[z6,v2,z8,z9,.int .i64 ((aF r (⟨r.ae,r.af,7,0,0⟩:ao)).ae),.int .i64 (((aF r (⟨r.ae,r.af,7,0,0⟩:ao)).af)+1)]) 8 _ rfl rfl rfl rfl (.inr ⟨aG,rfl⟩) rfl rfl rfl rfl) fun _=>?_
              refine R.nil ?_
              refine R.reg rfl<|R.q (q.aS (off':=2) rfl bf rfl) rfl<|R.q (q.ld 8 rfl rfl bQ rfl) rfl<|R.q (q.bI 7 rfl rfl aM) rfl<|R.q (q.aS (off':=0) rfl bK rfl) rfl<|R.q (q.ld 5 rfl rfl aG rfl) rfl<|?_
              refine R.s (B':=(fun aL:Value=>[ah.row 93 aL ((bO ((aF r (⟨r.ae,r.af,7,0,0⟩:ao)).Held) p r.ae):List Held),ah.row 74 (.slice (some ⟨b7,0,none⟩) 1 1) ([(⟨(aF r (⟨r.ae,r.af,7,0,0⟩:ao)).af,kind,⟨#[]⟩⟩:ai)]:List ai),ah.row 39 z6 ((aF r (⟨r.ae,r.af,7,0,0⟩:ao)).ap:List ao),ah.row 74 v2 ((((aF r (⟨r.ae,r.af,7,0,0⟩:ao)).Things)++([(⟨(aF r (⟨r.ae,r.af,7,0,0⟩:ao)).af,kind,⟨#[]⟩⟩:ai)])):List ai),ah.row 52 z9 ((aF r (⟨r.ae,r.af,7,0,0⟩:ao)).Notes:List Note),ah.box b6 [.int .i64 r.ae,.int .i64 r.af,.int .i64 7,.int .i64 0,.int .i64 0] 39,ah.box b3 [.slice none 0 0,.slice none 0 0,.slice none 0 0,.slice none 0 0,.int .i64 0,.int .i64 0] 30,ah.box b2 [.int .i64 p.ag,.int .i64 p.Slot] 33,ah.box b1 [z6,v2,z8,z9,.int .i64 ((aF r (⟨r.ae,r.af,7,0,0⟩:ao)).ae),.int .i64 (((aF r (⟨r.ae,r.af,7,0,0⟩:ao)).af)+1)] 30,ah.held w own])) (F':=(fun aL:Value=>[ah.ls z8 ((aF r (⟨r.ae,r.af,7,0,0⟩:ao)).Held:List Held),ah.ls aD (r.ap:List ao),ah.ls az (r.Things:List ai),ah.ls aB (r.Held:List Held),ah.ls aA (r.Notes:List Note)])) rfl (s.pre (B2:=[ah.row 74 (.slice (some ⟨b7,0,none⟩) 1 1) ([(⟨(aF r (⟨r.ae,r.af,7,0,0⟩:ao)).af,kind,⟨#[]⟩⟩:ai)]:List ai),ah.row 39 z6 ((aF r (⟨r.ae,r.af,7,0,0⟩:ao)).ap:List ao),ah.row 74 v2 ((((aF r (⟨r.ae,r.af,7,0,0⟩:ao)).Things)++([(⟨(aF r (⟨r.ae,r.af,7,0,0⟩:ao)).af,kind,⟨#[]⟩⟩:ai)])):List ai),ah.row 52 z9 ((aF r (⟨r.ae,r.af,7,0,0⟩:ao)).Notes:List Note),ah.box b6 [.int .i64 r.ae,.int .i64 r.af,.int .i64 7,.int .i64 0,.int .i64 0] 39,ah.box b3 [.slice none 0 0,.slice none 0 0,.slice none 0 0,.slice none 0 0,.int .i64 0,.int .i64 0] 30,ah.box b2 [.int .i64 p.ag,.int .i64 p.Slot] 33,ah.box b1 [z6,v2,z8,z9,.int .i64 ((aF r (⟨r.ae,r.af,7,0,0⟩:ao)).ae),.int .i64 (((aF r (⟨r.ae,r.af,7,0,0⟩:ao)).af)+1)] 30,ah.held w own]) (F2:=[ah.ls z8 ((aF r (⟨r.ae,r.af,7,0,0⟩:ao)).Held:List Held),ah.ls aD (r.ap:List ao),ah.ls az (r.Things:List ai),ah.ls aB (r.Held:List Held),ah.ls aA (r.Notes:List Note)]) (fun _ hw=>hw.aZ 3 _ rfl rfl) (s.bE (B0:=[]) (Br:=[ah.row 74 (.slice (some ⟨b7,0,none⟩) 1 1) ([(⟨(aF r (⟨r.ae,r.af,7,0,0⟩:ao)).af,kind,⟨#[]⟩⟩:ai)]:List ai),ah.row 39 z6 ((aF r (⟨r.ae,r.af,7,0,0⟩:ao)).ap:List ao),ah.row 74 v2 ((((aF r (⟨r.ae,r.af,7,0,0⟩:ao)).Things)++([(⟨(aF r (⟨r.ae,r.af,7,0,0⟩:ao)).af,kind,⟨#[]⟩⟩:ai)])):List ai),ah.row 52 z9 ((aF r (⟨r.ae,r.af,7,0,0⟩:ao)).Notes:List Note),ah.box b6 [.int .i64 r.ae,.int .i64 r.af,.int .i64 7,.int .i64 0,.int .i64 0] 39,ah.box b3 [.slice none 0 0,.slice none 0 0,.slice none 0 0,.slice none 0 0,.int .i64 0,.int .i64 0] 30,ah.box b2 [.int .i64 p.ag,.int .i64 p.Slot] 33,ah.box b1 [z6,v2,z8,z9,.int .i64 ((aF r (⟨r.ae,r.af,7,0,0⟩:ao)).ae),.int .i64 (((aF r (⟨r.ae,r.af,7,0,0⟩:ao)).af)+1)] 30,ah.held w own]) (F0:=[ah.ls z8 ((aF r (⟨r.ae,r.af,7,0,0⟩:ao)).Held:List Held)]) [0,1,2,3,4,5,6,7,8] [0] (fun aL:Value=>aL) (fun aL:Value=>[ah.row 93 aL ((bO ((aF r (⟨r.ae,r.af,7,0,0⟩:ao)).Held) p r.ae):List Held)]) (fun aL:Value=>[]) rfl rfl rfl mb rfl rfl (fun w own hw H=>gV z8 ((aF r (⟨r.ae,r.af,7,0,0⟩:ao)).Held) (p) (r.ae) w own H (by first|omega|assumption|(simp;done)|(simp;omega)|(dsimp only [aF];omega)) (by first|assumption|exact hI.good|exact hP.good|exact dD hI.good (by assumption))) rfl)) fun eY=>?_
              refine R.q (q.aS (off':=2) rfl bf rfl) rfl<|?_
              refine R.s rfl (s.cS (us:=[eY]) (cs':=[z6,v2,eY,z9,.int .i64 ((aF r (⟨r.ae,r.af,7,0,0⟩:ao)).ae),.int .i64 (((aF r (⟨r.ae,r.af,7,0,0⟩:ao)).af)+1)]) 8 _ rfl rfl rfl (fun w hw=>Sl.bJ ((fun _=>Wd.row 0 rfl) w hw)) (.inr ⟨bQ,rfl⟩) (fun w hw=>(aj (Sl.one ((fun _=>Wd.row 0 rfl) w hw)) aJ)) rfl rfl rfl) fun _=>?_
              refine R.nil ?_
              refine R.reg rfl<|R.q (q.bI 8 rfl rfl au) rfl<|?_
              refine R.s rfl (s.cS (us:=[z6,v2,eY,z9,.int .i64 ((aF r (⟨r.ae,r.af,7,0,0⟩:ao)).ae),.int .i64 (((aF r (⟨r.ae,r.af,7,0,0⟩:ao)).af)+1)]) (cs':=[z6,v2,eY,z9,.int .i64 ((aF r (⟨r.ae,r.af,7,0,0⟩:ao)).ae),.int .i64 (((aF r (⟨r.ae,r.af,7,0,0⟩:ao)).af)+1)]) 6 _ rfl rfl rfl (fun _ _=>rfl) (.inl au) (fun w hw=>(aj (Sl.one ((fun _=>Wd.row 2 rfl) w hw)) (aj (Sl.one ((fun _=>Wd.row 3 rfl) w hw)) (aj (Sl.one ((fun _=>Wd.row 0 rfl) w hw)) (aj (Sl.one ((fun _=>Wd.row 4 rfl) w hw)) (aj rfl (aj rfl aJ))))))) rfl rfl rfl) fun _=>?_
              refine R.u 1 rfl<|R.nil ?_
              refine R.mp (B':=[ah.row 93 eY (bO ((aF r (⟨r.ae,r.af,7,0,0⟩:ao)).Held) p r.ae:List Held),ah.row 74 (.slice (some ⟨b7,0,none⟩) 1 1) ([(⟨(aF r (⟨r.ae,r.af,7,0,0⟩:ao)).af,kind,⟨#[]⟩⟩:ai)]:List ai),ah.row 74 v2 ((((aF r (⟨r.ae,r.af,7,0,0⟩:ao)).Things)++([(⟨(aF r (⟨r.ae,r.af,7,0,0⟩:ao)).af,kind,⟨#[]⟩⟩:ai)])):List ai),ah.row 52 z9 ((aF r (⟨r.ae,r.af,7,0,0⟩:ao)).Notes:List Note),ah.box b6 [.int .i64 r.ae,.int .i64 r.af,.int .i64 7,.int .i64 0,.int .i64 0] 39,ah.box b3 [z6,v2,eY,z9,.int .i64 ((aF r (⟨r.ae,r.af,7,0,0⟩:ao)).ae),.int .i64 (((aF r (⟨r.ae,r.af,7,0,0⟩:ao)).af)+1)] 30,ah.box b2 [.int .i64 p.ag,.int .i64 p.Slot] 33,ah.box b1 [z6,v2,eY,z9,.int .i64 ((aF r (⟨r.ae,r.af,7,0,0⟩:ao)).ae),.int .i64 (((aF r (⟨r.ae,r.af,7,0,0⟩:ao)).af)+1)] 30,ah.held w own]) (fun _ hw=>hw.aZ 2 _ rfl rfl) ?_
              refine R.mp (B':=[ah.row 93 eY (bO ((aF r (⟨r.ae,r.af,7,0,0⟩:ao)).Held) p r.ae:List Held),ah.row 74 (.slice (some ⟨b7,0,none⟩) 1 1) ([(⟨(aF r (⟨r.ae,r.af,7,0,0⟩:ao)).af,kind,⟨#[]⟩⟩:ai)]:List ai),ah.row 52 z9 ((aF r (⟨r.ae,r.af,7,0,0⟩:ao)).Notes:List Note),ah.box b6 [.int .i64 r.ae,.int .i64 r.af,.int .i64 7,.int .i64 0,.int .i64 0] 39,ah.box b3 [z6,v2,eY,z9,.int .i64 ((aF r (⟨r.ae,r.af,7,0,0⟩:ao)).ae),.int .i64 (((aF r (⟨r.ae,r.af,7,0,0⟩:ao)).af)+1)] 30,ah.box b2 [.int .i64 p.ag,.int .i64 p.Slot] 33,ah.box b1 [z6,v2,eY,z9,.int .i64 ((aF r (⟨r.ae,r.af,7,0,0⟩:ao)).ae),.int .i64 (((aF r (⟨r.ae,r.af,7,0,0⟩:ao)).af)+1)] 30,ah.held w own]) (fun _ hw=>hw.aZ 2 _ rfl rfl) ?_
              refine R.mp (B':=[ah.row 74 (.slice (some ⟨b7,0,none⟩) 1 1) ([(⟨(aF r (⟨r.ae,r.af,7,0,0⟩:ao)).af,kind,⟨#[]⟩⟩:ai)]:List ai),ah.row 52 z9 ((aF r (⟨r.ae,r.af,7,0,0⟩:ao)).Notes:List Note),ah.box b6 [.int .i64 r.ae,.int .i64 r.af,.int .i64 7,.int .i64 0,.int .i64 0] 39,ah.box b3 [z6,v2,eY,z9,.int .i64 ((aF r (⟨r.ae,r.af,7,0,0⟩:ao)).ae),.int .i64 (((aF r (⟨r.ae,r.af,7,0,0⟩:ao)).af)+1)] 30,ah.box b2 [.int .i64 p.ag,.int .i64 p.Slot] 33,ah.box b1 [z6,v2,eY,z9,.int .i64 ((aF r (⟨r.ae,r.af,7,0,0⟩:ao)).ae),.int .i64 (((aF r (⟨r.ae,r.af,7,0,0⟩:ao)).af)+1)] 30,ah.held w own]) (fun _ hw=>hw.aZ 0 _ rfl rfl) ?_
              refine R.mp (B':=[ah.row 74 (.slice (some ⟨b7,0,none⟩) 1 1) ([(⟨(aF r (⟨r.ae,r.af,7,0,0⟩:ao)).af,kind,⟨#[]⟩⟩:ai)]:List ai),ah.box b6 [.int .i64 r.ae,.int .i64 r.af,.int .i64 7,.int .i64 0,.int .i64 0] 39,ah.box b3 [z6,v2,eY,z9,.int .i64 ((aF r (⟨r.ae,r.af,7,0,0⟩:ao)).ae),.int .i64 (((aF r (⟨r.ae,r.af,7,0,0⟩:ao)).af)+1)] 30,ah.box b2 [.int .i64 p.ag,.int .i64 p.Slot] 33,ah.box b1 [z6,v2,eY,z9,.int .i64 ((aF r (⟨r.ae,r.af,7,0,0⟩:ao)).ae),.int .i64 (((aF r (⟨r.ae,r.af,7,0,0⟩:ao)).af)+1)] 30,ah.held w own]) (fun _ hw=>hw.aZ 1 _ rfl rfl) ?_
              have hz:aU r p kind=((⟨(aF r (⟨r.ae,r.af,7,0,0⟩:ao)).ap,(((aF r (⟨r.ae,r.af,7,0,0⟩:ao)).Things)++([(⟨(aF r (⟨r.ae,r.af,7,0,0⟩:ao)).af,kind,⟨#[]⟩⟩:ai)])),bO ((aF r (⟨r.ae,r.af,7,0,0⟩:ao)).Held) p r.ae,(aF r (⟨r.ae,r.af,7,0,0⟩:ao)).Notes,(aF r (⟨r.ae,r.af,7,0,0⟩:ao)).ae,(((aF r (⟨r.ae,r.af,7,0,0⟩:ao)).af)+1)⟩:ay),0):=by (unfold aU aW;rw [if_pos (by omega),if_pos fq,if_neg (by omega)];dsimp only;rw [if_pos (by omega)];(try rfl))
              rw [hz]
              exact R.w2 (z6,v2,eY,z9) [5] [3,2,1,0] rfl Tryz.results53 (RV.cell 2 rfl rfl au) (RV.tmp rfl) rfl rfl rfl (cm rfl rfl)
    ·
      refine R.qg rfl (q.neq rfl rfl (bne_iff_ne.2 (by omega))) rfl<|R.u 1 rfl<|R.nil ?_
      refine R.aI rfl rfl ?_
      refine R.reg rfl<|R.q (q.build (cs:=[.slice none 0 0,.slice none 0 0,.slice none 0 0,.slice none 0 0,.int .i64 0,.int .i64 0]) ck rfl rfl) rfl<|?_
      refine R.s rfl (s.st (us:=[.slice none 0 0,.slice none 0 0,.slice none 0 0,.slice none 0 0,.int .i64 0,.int .i64 0]) (cs':=[.slice none 0 0,.slice none 0 0,.slice none 0 0,.slice none 0 0,.int .i64 0,.int .i64 0]) 0 _ rfl rfl rfl rfl (.inl au) rfl rfl rfl rfl) fun _=>?_
      refine R.u 1 rfl<|R.nil ?_
      refine R.mp (fun _ hw=>hw.aN (α:=ao)) ?_
      refine R.mp (fun _ hw=>hw.aN (α:=ai)) ?_
      refine R.mp (fun _ hw=>hw.aN (α:=Held)) ?_
      refine R.mp (fun _ hw=>hw.aN (α:=Note)) ?_
      have hz:aU r p kind=((⟨[],[],[],[],0,0⟩:ay),8):=by (unfold aU;(repeat' split) <;> first|rfl|(exfalso;omega)|(simp_all;done))
      rw [hz]
      exact R.w2 ((.slice none 0 0),(.slice none 0 0),(.slice none 0 0),(.slice none 0 0)) [3] [3,2,1,0] rfl Tryz.results53 (RV.cell 0 rfl rfl au) (RV.tmp rfl) rfl rfl rfl (cm rfl rfl)
theorem sd (aD az aB aA:Value)(r:ay)(p:Place)(t:Place)(rights:Int)(aC:Int)(w:World)(own:List Nat)(H:Wd w (blks []++own) ([]++[ah.held w own]) [ah.ls aD (r.ap:List ao),ah.ls az (r.Things:List ai),ah.ls aB (r.Held:List Held),ah.ls aA (r.Notes:List Note)] w)(hk:Ok r)(hI:Inv r):Calls Tryz.prog 54 #[.agg #[aD,az,aB,aA,.int .i64 r.ae,.int .i64 r.af],.agg #[.int .i64 p.ag,.int .i64 p.Slot],.agg #[.int .i64 t.ag,.int .i64 t.Slot],.int .i64 rights,.int .i64 aC] w fun e w' => ∃z:Value×Value×Value×Value,e = .returned (.tuple #[.agg #[z.1,z.2.1,z.2.2.1,z.2.2.2,.int .i64 ((((bD r p t rights aC)).1).ae),.int .i64 ((((bD r p t rights aC)).1).af)],.int .i64 (((bD r p t rights aC)).2)])∧Wd w (blks []++own) ([]++[ah.held w own]) [ah.ls z.1 ((((bD r p t rights aC)).1).ap:List ao),ah.ls z.2.1 ((((bD r p t rights aC)).1).Things:List ai),ah.ls z.2.2.1 ((((bD r p t rights aC)).1).Held:List Held),ah.ls z.2.2.2 ((((bD r p t rights aC)).1).Notes:List Note)] w':=by
  have cw:=H.bS 0 rfl
  have bY:=H.bS 1 rfl
  have cI:=H.bS 2 rfl
  have cx:=H.bS 3 rfl
  have bw:=hk.wl;have bt:=hk.tl;have bh:=hk.hl;have bn:=hk.nl;have lS:=hk.w0;have lT:=hk.w1;have lU:=hk.t0;have lV:=hk.t1
  have gn:=dq r p
  have dc:=e8 (ak r p).1 r.ae rights aC
  refine R.cC (n:=72) (vs:=[.agg #[aD,az,aB,aA,.int .i64 r.ae,.int .i64 r.af],.agg #[.int .i64 p.ag,.int .i64 p.Slot],.agg #[.int .i64 t.ag,.int .i64 t.Slot],.int .i64 rights,.int .i64 aC]) (B:=[ah.held w own]) [(0,.agg #[aD,az,aB,aA,.int .i64 r.ae,.int .i64 r.af]),(1,.agg #[.int .i64 p.ag,.int .i64 p.Slot]),(2,.agg #[.int .i64 t.ag,.int .i64 t.Slot]),(3,.int .i64 rights),(4,.int .i64 aC)] Tryz.func54 rfl rfl rfl rfl H ?_
  refine R.reg rfl<|?_
  refine R.s rfl (s.box (cs:=[aD,az,aB,aA,.int .i64 r.ae,.int .i64 r.af]) rfl rfl rfl) fun b1=>?_
  refine R.s rfl (s.box (cs:=[.int .i64 p.ag,.int .i64 p.Slot]) rfl rfl rfl) fun b2=>?_
  refine R.s rfl (s.box (cs:=[.int .i64 t.ag,.int .i64 t.Slot]) rfl rfl rfl) fun b3=>?_
  refine R.s rfl (s.alloc (cs:=[.slice none 0 0,.slice none 0 0,.slice none 0 0,.slice none 0 0,.int .i64 0,.int .i64 0]) bR rfl rfl) fun b4=>?_
  refine R.u 1 rfl<|R.nil ?_
  refine R.reg rfl<|R.q (q.bI 3 rfl rfl au) rfl<|R.q (q.bI 2 rfl rfl aM) rfl<|R.c (q.call pP rfl rfl (fun w hw=>(gW _ _ _ _ (r) (p) w ((fun _=>Wd.aO 0 rfl) w hw) ((fun _=>Wd.aO 1 rfl) w hw) ((fun _=>Wd.aO 2 rfl) w hw) ((fun _=>Wd.aO 3 rfl) w hw) (by assumption) (by assumption)))) rfl<|R.u 3 rfl<|?_
  refine R.s rfl (s.alloc (cs:=[.int .i64 0,.int .i64 0,.int .i64 0,.int .i64 0,.int .i64 0]) aY rfl rfl) fun b5=>?_
  refine R.s rfl (s.st (us:=[.int .i64 (((ak r p).1).ID),.int .i64 (((ak r p).1).ai),.int .i64 (((ak r p).1).Rights),.int .i64 (((ak r p).1).ar),.int .i64 (((ak r p).1).From)]) (cs':=[.int .i64 (((ak r p).1).ID),.int .i64 (((ak r p).1).ai),.int .i64 (((ak r p).1).Rights),.int .i64 (((ak r p).1).ar),.int .i64 (((ak r p).1).From)]) 0 _ rfl rfl rfl rfl (.inl aK) rfl rfl rfl rfl) fun _=>?_
  refine R.u 1 rfl<|R.nil ?_
  refine R.reg rfl<|R.u 1 rfl<|?_
  by_cases h1:0<(ak r p).2
  ·
    refine R.q (q.gtr rfl rfl (decide_eq_true (by omega))) rfl<|R.nil ?_
    refine R.aI rfl rfl ?_
    refine R.reg rfl<|R.q (q.build (cs:=[.slice none 0 0,.slice none 0 0,.slice none 0 0,.slice none 0 0,.int .i64 0,.int .i64 0]) ck rfl rfl) rfl<|R.u 1 rfl<|?_
    refine R.s rfl (s.st (us:=[.slice none 0 0,.slice none 0 0,.slice none 0 0,.slice none 0 0,.int .i64 0,.int .i64 0]) (cs':=[.slice none 0 0,.slice none 0 0,.slice none 0 0,.slice none 0 0,.int .i64 0,.int .i64 0]) 1 _ rfl rfl rfl rfl (.inl au) rfl rfl rfl rfl) fun _=>?_
    refine R.u 1 rfl<|R.nil ?_
    refine R.mp (fun _ hw=>hw.aN (α:=ao)) ?_
    refine R.mp (fun _ hw=>hw.aN (α:=ai)) ?_
    refine R.mp (fun _ hw=>hw.aN (α:=Held)) ?_
    refine R.mp (fun _ hw=>hw.aN (α:=Note)) ?_
    have hz:bD r p t rights aC=((⟨[],[],[],[],0,0⟩:ay),(ak r p).2):=by (unfold bD;rw [if_neg (by omega)];(try rfl))
    rw [hz]
    exact R.w2 ((.slice none 0 0),(.slice none 0 0),(.slice none 0 0),(.slice none 0 0)) [5] [3,2,1,0] rfl Tryz.results54 (RV.cell 1 rfl rfl au) (RV.tmp rfl) rfl rfl rfl (cm rfl rfl)
  ·
    have gz:(ak r p).2=0:=by omega
    have gr:=hk.get gz
    refine R.q (q.gtr rfl rfl (decide_eq_false (by omega))) rfl<|R.nil ?_
    refine R.aH rfl rfl ?_
    refine R.reg rfl<|R.q (q.bI 4 rfl rfl au) rfl<|R.q (q.bI 2 rfl rfl aM) rfl<|R.c (q.call qU rfl rfl (fun w hw=>(jT _ _ _ _ (r) (t) w ((fun _=>Wd.aO 0 rfl) w hw) ((fun _=>Wd.aO 1 rfl) w hw) ((fun _=>Wd.aO 2 rfl) w hw) ((fun _=>Wd.aO 3 rfl) w hw) (by assumption) (by assumption)))) rfl<|R.u 1 rfl<|R.nil ?_
    refine R.reg rfl<|R.u 1 rfl<|?_
    by_cases h2:0<cY r t
    ·
      refine R.q (q.gtr rfl rfl (decide_eq_true (by omega))) rfl<|R.nil ?_
      refine R.aI rfl rfl ?_
      refine R.reg rfl<|R.q (q.build (cs:=[.slice none 0 0,.slice none 0 0,.slice none 0 0,.slice none 0 0,.int .i64 0,.int .i64 0]) ck rfl rfl) rfl<|R.u 1 rfl<|?_
      refine R.s rfl (s.st (us:=[.slice none 0 0,.slice none 0 0,.slice none 0 0,.slice none 0 0,.int .i64 0,.int .i64 0]) (cs':=[.slice none 0 0,.slice none 0 0,.slice none 0 0,.slice none 0 0,.int .i64 0,.int .i64 0]) 1 _ rfl rfl rfl rfl (.inl au) rfl rfl rfl rfl) fun _=>?_
      refine R.u 1 rfl<|R.nil ?_
      refine R.mp (fun _ hw=>hw.aN (α:=ao)) ?_
      refine R.mp (fun _ hw=>hw.aN (α:=ai)) ?_
      refine R.mp (fun _ hw=>hw.aN (α:=Held)) ?_
      refine R.mp (fun _ hw=>hw.aN (α:=Note)) ?_
      have hz:bD r p t rights aC=((⟨[],[],[],[],0,0⟩:ay),cY r t):=by (unfold bD;rw [if_pos gz,if_neg (by have:=dS r t;omega)];(try rfl))
      rw [hz]
      exact R.w2 ((.slice none 0 0),(.slice none 0 0),(.slice none 0 0),(.slice none 0 0)) [5] [3,2,1,0] rfl Tryz.results54 (RV.cell 1 rfl rfl au) (RV.tmp rfl) rfl rfl rfl (cm rfl rfl)
    ·
      have fq:cY r t=0:=by have:=dS r t;omega
      have fz:=dO (fV fq).1
      refine R.q (q.gtr rfl rfl (decide_eq_false (by omega))) rfl<|R.nil ?_
      refine R.aH rfl rfl ?_
      refine R.reg rfl<|R.q (q.aS (off':=0) rfl bZ rfl) rfl<|R.q (q.ld 3 rfl rfl aG rfl) rfl<|R.q (q.aS (off':=0) rfl bZ rfl) rfl<|R.q (q.ld 2 rfl rfl aG rfl) rfl<|?_
      by_cases h3:p.ag=t.ag
      ·
        refine R.q (q.neq rfl rfl (bne_eq_false_iff_eq.2 (by omega))) rfl<|R.u 5 rfl<|R.nil ?_
        refine R.aH rfl rfl ?_
        refine R.reg rfl<|R.q (q.aS (off':=4) rfl bU rfl) rfl<|R.q (q.ld 4 rfl rfl aG rfl) rfl<|?_
        by_cases h4:999<r.ae
        ·
          refine R.q (q.gtr rfl rfl (decide_eq_true (by omega))) rfl<|R.nil ?_
          refine R.aI rfl rfl ?_
          refine R.reg rfl<|R.q (q.build (cs:=[.slice none 0 0,.slice none 0 0,.slice none 0 0,.slice none 0 0,.int .i64 0,.int .i64 0]) ck rfl rfl) rfl<|?_
          refine R.s rfl (s.st (us:=[.slice none 0 0,.slice none 0 0,.slice none 0 0,.slice none 0 0,.int .i64 0,.int .i64 0]) (cs':=[.slice none 0 0,.slice none 0 0,.slice none 0 0,.slice none 0 0,.int .i64 0,.int .i64 0]) 1 _ rfl rfl rfl rfl (.inl au) rfl rfl rfl rfl) fun _=>?_
          refine R.u 1 rfl<|R.nil ?_
          refine R.mp (fun _ hw=>hw.aN (α:=ao)) ?_
          refine R.mp (fun _ hw=>hw.aN (α:=ai)) ?_
          refine R.mp (fun _ hw=>hw.aN (α:=Held)) ?_
          refine R.mp (fun _ hw=>hw.aN (α:=Note)) ?_
          have hz:bD r p t rights aC=((⟨[],[],[],[],0,0⟩:ay),9):=by (unfold bD;rw [if_pos gz,if_pos fq,if_pos (by first|exact .inl (by assumption)|exact .inr (fh gr (by omega))),if_pos (by omega)];(try rfl))
          rw [hz]
          exact R.w2 ((.slice none 0 0),(.slice none 0 0),(.slice none 0 0),(.slice none 0 0)) [5] [3,2,1,0] rfl Tryz.results54 (RV.cell 1 rfl rfl au) (RV.tmp rfl) rfl rfl rfl (cm rfl rfl)
        ·
          refine R.q (q.gtr rfl rfl (decide_eq_false (by omega))) rfl<|R.nil ?_
          refine R.aH rfl rfl ?_
          refine R.reg rfl<|R.q (q.bI 0 rfl rfl aK) rfl<|R.q (q.aS (off':=4) rfl bU rfl) rfl<|R.q (q.ld 4 rfl rfl aG rfl) rfl<|R.u 2 rfl<|R.c (q.call sK rfl rfl (fun w hw=>(gP (((ak r p).1)) (r.ae) (rights) (aC) w  (by omega)))) rfl<|R.u 3 rfl<|?_
          refine R.s rfl (s.alloc (cs:=[.int .i64 0,.int .i64 0,.int .i64 0,.int .i64 0,.int .i64 0]) aY rfl rfl) fun b6=>?_
          refine R.s rfl (s.st (us:=[.int .i64 (((derived ((ak r p).1) r.ae rights aC).1).ID),.int .i64 (((derived ((ak r p).1) r.ae rights aC).1).ai),.int .i64 (((derived ((ak r p).1) r.ae rights aC).1).Rights),.int .i64 (((derived ((ak r p).1) r.ae rights aC).1).ar),.int .i64 (((derived ((ak r p).1) r.ae rights aC).1).From)]) (cs':=[.int .i64 (((derived ((ak r p).1) r.ae rights aC).1).ID),.int .i64 (((derived ((ak r p).1) r.ae rights aC).1).ai),.int .i64 (((derived ((ak r p).1) r.ae rights aC).1).Rights),.int .i64 (((derived ((ak r p).1) r.ae rights aC).1).ar),.int .i64 (((derived ((ak r p).1) r.ae rights aC).1).From)]) 0 _ rfl rfl rfl rfl (.inl aK) rfl rfl rfl rfl) fun _=>?_
          refine R.u 1 rfl<|R.nil ?_
          refine R.reg rfl<|R.u 1 rfl<|?_
          by_cases h5:0<(derived ((ak r p).1) r.ae rights aC).2
          ·
            refine R.q (q.gtr rfl rfl (decide_eq_true (by omega))) rfl<|R.nil ?_
            refine R.aI rfl rfl ?_
            refine R.reg rfl<|R.q (q.build (cs:=[.slice none 0 0,.slice none 0 0,.slice none 0 0,.slice none 0 0,.int .i64 0,.int .i64 0]) ck rfl rfl) rfl<|R.u 1 rfl<|?_
            refine R.s rfl (s.st (us:=[.slice none 0 0,.slice none 0 0,.slice none 0 0,.slice none 0 0,.int .i64 0,.int .i64 0]) (cs':=[.slice none 0 0,.slice none 0 0,.slice none 0 0,.slice none 0 0,.int .i64 0,.int .i64 0]) 2 _ rfl rfl rfl rfl (.inl au) rfl rfl rfl rfl) fun _=>?_
            refine R.u 1 rfl<|R.nil ?_
            refine R.mp (fun _ hw=>hw.aN (α:=ao)) ?_
            refine R.mp (fun _ hw=>hw.aN (α:=ai)) ?_
            refine R.mp (fun _ hw=>hw.aN (α:=Held)) ?_
            refine R.mp (fun _ hw=>hw.aN (α:=Note)) ?_
            have hz:bD r p t rights aC=((⟨[],[],[],[],0,0⟩:ay),(derived ((ak r p).1) r.ae rights aC).2):=by (unfold bD;rw [if_pos gz,if_pos fq,if_pos (by first|exact .inl (by assumption)|exact .inr (fh gr (by omega))),if_neg (by omega),if_neg (by omega)];(try rfl))
            rw [hz]
            exact R.w2 ((.slice none 0 0),(.slice none 0 0),(.slice none 0 0),(.slice none 0 0)) [6] [3,2,1,0] rfl Tryz.results54 (RV.cell 2 rfl rfl au) (RV.tmp rfl) rfl rfl rfl (cm rfl rfl)
          ·
            have dz:(derived (ak r p).1 r.ae rights aC).2=0:=by have:=e8 (ak r p).1 r.ae rights aC;omega
            have di:=(gG dz).2.2.2.2.2.1
            refine R.q (q.gtr rfl rfl (decide_eq_false (by omega))) rfl<|R.nil ?_
            refine R.aH rfl rfl ?_
            refine R.reg rfl<|R.q (q.bI 5 rfl rfl au) rfl<|R.q (q.bI 0 rfl rfl aK) rfl<|?_
            refine R.s (B':=(fun g_:Value×Value×Value×Value=>[ah.row 39 g_.1 (((aF r ((derived ((ak r p).1) r.ae rights aC).1))).ap:List ao),ah.row 74 g_.2.1 (((aF r ((derived ((ak r p).1) r.ae rights aC).1))).Things:List ai),ah.row 93 g_.2.2.1 (((aF r ((derived ((ak r p).1) r.ae rights aC).1))).Held:List Held),ah.row 52 g_.2.2.2 (((aF r ((derived ((ak r p).1) r.ae rights aC).1))).Notes:List Note),ah.box b6 [.int .i64 (((derived ((ak r p).1) r.ae rights aC).1).ID),.int .i64 (((derived ((ak r p).1) r.ae rights aC).1).ai),.int .i64 (((derived ((ak r p).1) r.ae rights aC).1).Rights),.int .i64 (((derived ((ak r p).1) r.ae rights aC).1).ar),.int .i64 (((derived ((ak r p).1) r.ae rights aC).1).From)] 39,ah.box b5 [.int .i64 (((ak r p).1).ID),.int .i64 (((ak r p).1).ai),.int .i64 (((ak r p).1).Rights),.int .i64 (((ak r p).1).ar),.int .i64 (((ak r p).1).From)] 39,ah.box b4 [.slice none 0 0,.slice none 0 0,.slice none 0 0,.slice none 0 0,.int .i64 0,.int .i64 0] 30,ah.box b3 [.int .i64 t.ag,.int .i64 t.Slot] 33,ah.box b2 [.int .i64 p.ag,.int .i64 p.Slot] 33,ah.box b1 [aD,az,aB,aA,.int .i64 r.ae,.int .i64 r.af] 30,ah.held w own])) (F':=(fun g_:Value×Value×Value×Value=>[ah.ls aD (r.ap:List ao),ah.ls az (r.Things:List ai),ah.ls aB (r.Held:List Held),ah.ls aA (r.Notes:List Note)])) rfl (s.bE (B0:=[]) (Br:=[ah.box b6 [.int .i64 (((derived ((ak r p).1) r.ae rights aC).1).ID),.int .i64 (((derived ((ak r p).1) r.ae rights aC).1).ai),.int .i64 (((derived ((ak r p).1) r.ae rights aC).1).Rights),.int .i64 (((derived ((ak r p).1) r.ae rights aC).1).ar),.int .i64 (((derived ((ak r p).1) r.ae rights aC).1).From)] 39,ah.box b5 [.int .i64 (((ak r p).1).ID),.int .i64 (((ak r p).1).ai),.int .i64 (((ak r p).1).Rights),.int .i64 (((ak r p).1).ar),.int .i64 (((ak r p).1).From)] 39,ah.box b4 [.slice none 0 0,.slice none 0 0,.slice none 0 0,.slice none 0 0,.int .i64 0,.int .i64 0] 30,ah.box b3 [.int .i64 t.ag,.int .i64 t.Slot] 33,ah.box b2 [.int .i64 p.ag,.int .i64 p.Slot] 33,ah.box b1 [aD,az,aB,aA,.int .i64 r.ae,.int .i64 r.af] 30,ah.held w own]) (F0:=[ah.ls aD (r.ap:List ao),ah.ls az (r.Things:List ai),ah.ls aB (r.Held:List Held),ah.ls aA (r.Notes:List Note)]) [0,1,2,3,4,5,6] [0,1,2,3] (fun g_:Value×Value×Value×Value => .agg #[g_.1,g_.2.1,g_.2.2.1,g_.2.2.2,.int .i64 (((aF r ((derived ((ak r p).1) r.ae rights aC).1))).ae),.int .i64 (((aF r ((derived ((ak r p).1) r.ae rights aC).1))).af)]) (fun g_:Value×Value×Value×Value=>[ah.row 39 g_.1 (((aF r ((derived ((ak r p).1) r.ae rights aC).1))).ap:List ao),ah.row 74 g_.2.1 (((aF r ((derived ((ak r p).1) r.ae rights aC).1))).Things:List ai),ah.row 93 g_.2.2.1 (((aF r ((derived ((ak r p).1) r.ae rights aC).1))).Held:List Held),ah.row 52 g_.2.2.2 (((aF r ((derived ((ak r p).1) r.ae rights aC).1))).Notes:List Note)]) (fun g_:Value×Value×Value×Value=>[]) rfl rfl rfl oO rfl rfl (fun w own hw H=>jG aD az aB aA (r) (((derived ((ak r p).1) r.ae rights aC).1)) w own H (by assumption)) rfl) ?_
            rintro ⟨z1,z2,z3,z4⟩
            dsimp only
            refine R.s rfl (s.cS (us:=[z1,z2,z3,z4,.int .i64 ((aF r ((derived ((ak r p).1) r.ae rights aC).1)).ae),.int .i64 ((aF r ((derived ((ak r p).1) r.ae rights aC).1)).af)]) (cs':=[z1,z2,z3,z4,.int .i64 ((aF r ((derived ((ak r p).1) r.ae rights aC).1)).ae),.int .i64 ((aF r ((derived ((ak r p).1) r.ae rights aC).1)).af)]) 9 _ rfl rfl rfl (fun _ _=>rfl) (.inl au) (fun w hw=>(aj (Sl.one ((fun _=>Wd.row 0 rfl) w hw)) (aj (Sl.one ((fun _=>Wd.row 1 rfl) w hw)) (aj (Sl.one ((fun _=>Wd.row 2 rfl) w hw)) (aj (Sl.one ((fun _=>Wd.row 3 rfl) w hw)) (aj rfl (aj rfl aJ))))))) rfl rfl rfl) fun _=>?_
            refine R.nil ?_
            refine R.reg rfl<|R.q (q.aS (off':=2) rfl bf rfl) rfl<|R.q (q.ld 9 rfl rfl bQ rfl) rfl<|R.q (q.bI 7 rfl rfl aM) rfl<|R.q (q.aS (off':=0) rfl bK rfl) rfl<|R.q (q.ld 4 rfl rfl aG rfl) rfl<|?_
            refine R.s (B':=(fun aL:Value=>[ah.row 93 aL ((bO ((aF r ((derived ((ak r p).1) r.ae rights aC).1)).Held) t (((derived ((ak r p).1) r.ae rights aC).1).ID)):List Held),ah.row 39 z1 ((aF r ((derived ((ak r p).1) r.ae rights aC).1)).ap:List ao),ah.row 74 z2 ((aF r ((derived ((ak r p).1) r.ae rights aC).1)).Things:List ai),ah.row 52 z4 ((aF r ((derived ((ak r p).1) r.ae rights aC).1)).Notes:List Note),ah.box b6 [.int .i64 (((derived ((ak r p).1) r.ae rights aC).1).ID),.int .i64 (((derived ((ak r p).1) r.ae rights aC).1).ai),.int .i64 (((derived ((ak r p).1) r.ae rights aC).1).Rights),.int .i64 (((derived ((ak r p).1) r.ae rights aC).1).ar),.int .i64 (((derived ((ak r p).1) r.ae rights aC).1).From)] 39,ah.box b5 [.int .i64 (((ak r p).1).ID),.int .i64 (((ak r p).1).ai),.int .i64 (((ak r p).1).Rights),.int .i64 (((ak r p).1).ar),.int .i64 (((ak r p).1).From)] 39,ah.box b4 [.slice none 0 0,.slice none 0 0,.slice none 0 0,.slice none 0 0,.int .i64 0,.int .i64 0] 30,ah.box b3 [.int .i64 t.ag,.int .i64 t.Slot] 33,ah.box b2 [.int .i64 p.ag,.int .i64 p.Slot] 33,ah.box b1 [z1,z2,z3,z4,.int .i64 ((aF r ((derived ((ak r p).1) r.ae rights aC).1)).ae),.int .i64 ((aF r ((derived ((ak r p).1) r.ae rights aC).1)).af)] 30,ah.held w own])) (F':=(fun aL:Value=>[ah.ls z3 ((aF r ((derived ((ak r p).1) r.ae rights aC).1)).Held:List Held),ah.ls aD (r.ap:List ao),ah.ls az (r.Things:List ai),ah.ls aB (r.Held:List Held),ah.ls aA (r.Notes:List Note)])) rfl (s.pre (B2:=[ah.row 39 z1 ((aF r ((derived ((ak r p).1) r.ae rights aC).1)).ap:List ao),ah.row 74 z2 ((aF r ((derived ((ak r p).1) r.ae rights aC).1)).Things:List ai),ah.row 52 z4 ((aF r ((derived ((ak r p).1) r.ae rights aC).1)).Notes:List Note),ah.box b6 [.int .i64 (((derived ((ak r p).1) r.ae rights aC).1).ID),.int .i64 (((derived ((ak r p).1) r.ae rights aC).1).ai),.int .i64 (((derived ((ak r p).1) r.ae rights aC).1).Rights),.int .i64 (((derived ((ak r p).1) r.ae rights aC).1).ar),.int .i64 (((derived ((ak r p).1) r.ae rights aC).1).From)] 39,ah.box b5 [.int .i64 (((ak r p).1).ID),.int .i64 (((ak r p).1).ai),.int .i64 (((ak r p).1).Rights),.int .i64 (((ak r p).1).ar),.int .i64 (((ak r p).1).From)] 39,ah.box b4 [.slice none 0 0,.slice none 0 0,.slice none 0 0,.slice none 0 0,.int .i64 0,.int .i64 0] 30,ah.box b3 [.int .i64 t.ag,.int .i64 t.Slot] 33,ah.box b2 [.int .i64 p.ag,.int .i64 p.Slot] 33,ah.box b1 [z1,z2,z3,z4,.int .i64 ((aF r ((derived ((ak r p).1) r.ae rights aC).1)).ae),.int .i64 ((aF r ((derived ((ak r p).1) r.ae rights aC).1)).af)] 30,ah.held w own]) (F2:=[ah.ls z3 ((aF r ((derived ((ak r p).1) r.ae rights aC).1)).Held:List Held),ah.ls aD (r.ap:List ao),ah.ls az (r.Things:List ai),ah.ls aB (r.Held:List Held),ah.ls aA (r.Notes:List Note)]) (fun _ hw=>hw.aZ 2 _ rfl rfl) (s.bE (B0:=[]) (Br:=[ah.row 39 z1 ((aF r ((derived ((ak r p).1) r.ae rights aC).1)).ap:List ao),ah.row 74 z2 ((aF r ((derived ((ak r p).1) r.ae rights aC).1)).Things:List ai),ah.row 52 z4 ((aF r ((derived ((ak r p).1) r.ae rights aC).1)).Notes:List Note),ah.box b6 [.int .i64 (((derived ((ak r p).1) r.ae rights aC).1).ID),.int .i64 (((derived ((ak r p).1) r.ae rights aC).1).ai),.int .i64 (((derived ((ak r p).1) r.ae rights aC).1).Rights),.int .i64 (((derived ((ak r p).1) r.ae rights aC).1).ar),.int .i64 (((derived ((ak r p).1) r.ae rights aC).1).From)] 39,ah.box b5 [.int .i64 (((ak r p).1).ID),.int .i64 (((ak r p).1).ai),.int .i64 (((ak r p).1).Rights),.int .i64 (((ak r p).1).ar),.int .i64 (((ak r p).1).From)] 39,ah.box b4 [.slice none 0 0,.slice none 0 0,.slice none 0 0,.slice none 0 0,.int .i64 0,.int .i64 0] 30,ah.box b3 [.int .i64 t.ag,.int .i64 t.Slot] 33,ah.box b2 [.int .i64 p.ag,.int .i64 p.Slot] 33,ah.box b1 [z1,z2,z3,z4,.int .i64 ((aF r ((derived ((ak r p).1) r.ae rights aC).1)).ae),.int .i64 ((aF r ((derived ((ak r p).1) r.ae rights aC).1)).af)] 30,ah.held w own]) (F0:=[ah.ls z3 ((aF r ((derived ((ak r p).1) r.ae rights aC).1)).Held:List Held)]) [0,1,2,3,4,5,6,7,8,9] [0] (fun aL:Value=>aL) (fun aL:Value=>[ah.row 93 aL ((bO ((aF r ((derived ((ak r p).1) r.ae rights aC).1)).Held) t (((derived ((ak r p).1) r.ae rights aC).1).ID)):List Held)]) (fun aL:Value=>[]) rfl rfl rfl mb rfl rfl (fun w own hw H=>gV z3 ((aF r ((derived ((ak r p).1) r.ae rights aC).1)).Held) (t) (((derived ((ak r p).1) r.ae rights aC).1).ID) w own H (by first|omega|assumption|(simp;done)|(simp;omega)|(dsimp only [aF];omega)) (by first|assumption|exact hI.good|exact hP.good|exact dD hI.good (by assumption))) rfl)) fun z5=>?_
            refine R.q (q.aS (off':=2) rfl bf rfl) rfl<|?_
            refine R.s rfl (s.cS (us:=[z5]) (cs':=[z1,z2,z5,z4,.int .i64 ((aF r ((derived ((ak r p).1) r.ae rights aC).1)).ae),.int .i64 ((aF r ((derived ((ak r p).1) r.ae rights aC).1)).af)]) 9 _ rfl rfl rfl (fun w hw=>Sl.bJ ((fun _=>Wd.row 0 rfl) w hw)) (.inr ⟨bQ,rfl⟩) (fun w hw=>(aj (Sl.one ((fun _=>Wd.row 0 rfl) w hw)) aJ)) rfl rfl rfl) fun _=>?_
            refine R.nil ?_
            refine R.reg rfl<|R.q (q.bI 9 rfl rfl au) rfl<|?_
            refine R.s rfl (s.cS (us:=[z1,z2,z5,z4,.int .i64 ((aF r ((derived ((ak r p).1) r.ae rights aC).1)).ae),.int .i64 ((aF r ((derived ((ak r p).1) r.ae rights aC).1)).af)]) (cs':=[z1,z2,z5,z4,.int .i64 ((aF r ((derived ((ak r p).1) r.ae rights aC).1)).ae),.int .i64 ((aF r ((derived ((ak r p).1) r.ae rights aC).1)).af)]) 6 _ rfl rfl rfl (fun _ _=>rfl) (.inl au) (fun w hw=>(aj (Sl.one ((fun _=>Wd.row 1 rfl) w hw)) (aj (Sl.one ((fun _=>Wd.row 2 rfl) w hw)) (aj (Sl.one ((fun _=>Wd.row 0 rfl) w hw)) (aj (Sl.one ((fun _=>Wd.row 3 rfl) w hw)) (aj rfl (aj rfl aJ))))))) rfl rfl rfl) fun _=>?_
            refine R.u 1 rfl<|R.nil ?_
            refine R.mp (B':=[ah.row 93 z5 (bO ((aF r ((derived ((ak r p).1) r.ae rights aC).1)).Held) t (((derived ((ak r p).1) r.ae rights aC).1).ID):List Held),ah.row 74 z2 ((aF r ((derived ((ak r p).1) r.ae rights aC).1)).Things:List ai),ah.row 52 z4 ((aF r ((derived ((ak r p).1) r.ae rights aC).1)).Notes:List Note),ah.box b6 [.int .i64 (((derived ((ak r p).1) r.ae rights aC).1).ID),.int .i64 (((derived ((ak r p).1) r.ae rights aC).1).ai),.int .i64 (((derived ((ak r p).1) r.ae rights aC).1).Rights),.int .i64 (((derived ((ak r p).1) r.ae rights aC).1).ar),.int .i64 (((derived ((ak r p).1) r.ae rights aC).1).From)] 39,ah.box b5 [.int .i64 (((ak r p).1).ID),.int .i64 (((ak r p).1).ai),.int .i64 (((ak r p).1).Rights),.int .i64 (((ak r p).1).ar),.int .i64 (((ak r p).1).From)] 39,ah.box b4 [z1,z2,z5,z4,.int .i64 ((aF r ((derived ((ak r p).1) r.ae rights aC).1)).ae),.int .i64 ((aF r ((derived ((ak r p).1) r.ae rights aC).1)).af)] 30,ah.box b3 [.int .i64 t.ag,.int .i64 t.Slot] 33,ah.box b2 [.int .i64 p.ag,.int .i64 p.Slot] 33,ah.box b1 [z1,z2,z5,z4,.int .i64 ((aF r ((derived ((ak r p).1) r.ae rights aC).1)).ae),.int .i64 ((aF r ((derived ((ak r p).1) r.ae rights aC).1)).af)] 30,ah.held w own]) (fun _ hw=>hw.aZ 1 _ rfl rfl) ?_
            refine R.mp (B':=[ah.row 93 z5 (bO ((aF r ((derived ((ak r p).1) r.ae rights aC).1)).Held) t (((derived ((ak r p).1) r.ae rights aC).1).ID):List Held),ah.row 52 z4 ((aF r ((derived ((ak r p).1) r.ae rights aC).1)).Notes:List Note),ah.box b6 [.int .i64 (((derived ((ak r p).1) r.ae rights aC).1).ID),.int .i64 (((derived ((ak r p).1) r.ae rights aC).1).ai),.int .i64 (((derived ((ak r p).1) r.ae rights aC).1).Rights),.int .i64 (((derived ((ak r p).1) r.ae rights aC).1).ar),.int .i64 (((derived ((ak r p).1) r.ae rights aC).1).From)] 39,ah.box b5 [.int .i64 (((ak r p).1).ID),.int .i64 (((ak r p).1).ai),.int .i64 (((ak r p).1).Rights),.int .i64 (((ak r p).1).ar),.int .i64 (((ak r p).1).From)] 39,ah.box b4 [z1,z2,z5,z4,.int .i64 ((aF r ((derived ((ak r p).1) r.ae rights aC).1)).ae),.int .i64 ((aF r ((derived ((ak r p).1) r.ae rights aC).1)).af)] 30,ah.box b3 [.int .i64 t.ag,.int .i64 t.Slot] 33,ah.box b2 [.int .i64 p.ag,.int .i64 p.Slot] 33,ah.box b1 [z1,z2,z5,z4,.int .i64 ((aF r ((derived ((ak r p).1) r.ae rights aC).1)).ae),.int .i64 ((aF r ((derived ((ak r p).1) r.ae rights aC).1)).af)] 30,ah.held w own]) (fun _ hw=>hw.aZ 1 _ rfl rfl) ?_
            refine R.mp (B':=[ah.row 52 z4 ((aF r ((derived ((ak r p).1) r.ae rights aC).1)).Notes:List Note),ah.box b6 [.int .i64 (((derived ((ak r p).1) r.ae rights aC).1).ID),.int .i64 (((derived ((ak r p).1) r.ae rights aC).1).ai),.int .i64 (((derived ((ak r p).1) r.ae rights aC).1).Rights),.int .i64 (((derived ((ak r p).1) r.ae rights aC).1).ar),.int .i64 (((derived ((ak r p).1) r.ae rights aC).1).From)] 39,ah.box b5 [.int .i64 (((ak r p).1).ID),.int .i64 (((ak r p).1).ai),.int .i64 (((ak r p).1).Rights),.int .i64 (((ak r p).1).ar),.int .i64 (((ak r p).1).From)] 39,ah.box b4 [z1,z2,z5,z4,.int .i64 ((aF r ((derived ((ak r p).1) r.ae rights aC).1)).ae),.int .i64 ((aF r ((derived ((ak r p).1) r.ae rights aC).1)).af)] 30,ah.box b3 [.int .i64 t.ag,.int .i64 t.Slot] 33,ah.box b2 [.int .i64 p.ag,.int .i64 p.Slot] 33,ah.box b1 [z1,z2,z5,z4,.int .i64 ((aF r ((derived ((ak r p).1) r.ae rights aC).1)).ae),.int .i64 ((aF r ((derived ((ak r p).1) r.ae rights aC).1)).af)] 30,ah.held w own]) (fun _ hw=>hw.aZ 0 _ rfl rfl) ?_
            refine R.mp (B':=[ah.box b6 [.int .i64 (((derived ((ak r p).1) r.ae rights aC).1).ID),.int .i64 (((derived ((ak r p).1) r.ae rights aC).1).ai),.int .i64 (((derived ((ak r p).1) r.ae rights aC).1).Rights),.int .i64 (((derived ((ak r p).1) r.ae rights aC).1).ar),.int .i64 (((derived ((ak r p).1) r.ae rights aC).1).From)] 39,ah.box b5 [.int .i64 (((ak r p).1).ID),.int .i64 (((ak r p).1).ai),.int .i64 (((ak r p).1).Rights),.int .i64 (((ak r p).1).ar),.int .i64 (((ak r p).1).From)] 39,ah.box b4 [z1,z2,z5,z4,.int .i64 ((aF r ((derived ((ak r p).1) r.ae rights aC).1)).ae),.int .i64 ((aF r ((derived ((ak r p).1) r.ae rights aC).1)).af)] 30,ah.box b3 [.int .i64 t.ag,.int .i64 t.Slot] 33,ah.box b2 [.int .i64 p.ag,.int .i64 p.Slot] 33,ah.box b1 [z1,z2,z5,z4,.int .i64 ((aF r ((derived ((ak r p).1) r.ae rights aC).1)).ae),.int .i64 ((aF r ((derived ((ak r p).1) r.ae rights aC).1)).af)] 30,ah.held w own]) (fun _ hw=>hw.aZ 0 _ rfl rfl) ?_
            have hz:bD r p t rights aC=((⟨(aF r ((derived ((ak r p).1) r.ae rights aC).1)).ap,(aF r ((derived ((ak r p).1) r.ae rights aC).1)).Things,bO ((aF r ((derived ((ak r p).1) r.ae rights aC).1)).Held) t (((derived ((ak r p).1) r.ae rights aC).1).ID),(aF r ((derived ((ak r p).1) r.ae rights aC).1)).Notes,(aF r ((derived ((ak r p).1) r.ae rights aC).1)).ae,(aF r ((derived ((ak r p).1) r.ae rights aC).1)).af⟩:ay),0):=by (unfold bD;rw [if_pos gz,if_pos fq,if_pos (by first|exact .inl (by assumption)|exact .inr (fh gr (by omega))),if_neg (by omega),if_pos dz];unfold aW;rw [if_pos (by omega)];(try rfl))
            rw [hz]
            exact R.w2 (z1,z2,z5,z4) [6] [3,2,1,0] rfl Tryz.results54 (RV.cell 2 rfl rfl au) (RV.tmp rfl) rfl rfl rfl (cm rfl rfl)
      ·
        refine R.q (q.neq rfl rfl (bne_iff_ne.2 (by omega))) rfl<|R.u 1 rfl<|R.qg rfl (q.aS (off':=2) rfl eP rfl) rfl<|R.qg rfl (q.ld 0 rfl rfl aG rfl) rfl<|?_
        by_cases h6:((ak r p).1).Rights<4
        ·
          refine R.qg rfl (q.lss rfl rfl (decide_eq_true (by omega))) rfl<|R.u 1 rfl<|R.nil ?_
          refine R.aI rfl rfl ?_
          refine R.reg rfl<|R.q (q.build (cs:=[.slice none 0 0,.slice none 0 0,.slice none 0 0,.slice none 0 0,.int .i64 0,.int .i64 0]) ck rfl rfl) rfl<|?_
          refine R.s rfl (s.st (us:=[.slice none 0 0,.slice none 0 0,.slice none 0 0,.slice none 0 0,.int .i64 0,.int .i64 0]) (cs':=[.slice none 0 0,.slice none 0 0,.slice none 0 0,.slice none 0 0,.int .i64 0,.int .i64 0]) 1 _ rfl rfl rfl rfl (.inl au) rfl rfl rfl rfl) fun _=>?_
          refine R.u 1 rfl<|R.nil ?_
          refine R.mp (fun _ hw=>hw.aN (α:=ao)) ?_
          refine R.mp (fun _ hw=>hw.aN (α:=ai)) ?_
          refine R.mp (fun _ hw=>hw.aN (α:=Held)) ?_
          refine R.mp (fun _ hw=>hw.aN (α:=Note)) ?_
          have hz:bD r p t rights aC=((⟨[],[],[],[],0,0⟩:ay),7):=by (unfold bD;rw [if_pos gz,if_pos fq,if_neg (by rintro (hh|hh) <;> first|contradiction|(rw [ru gr (by omega)] at hh;cases hh))];(try rfl))
          rw [hz]
          exact R.w2 ((.slice none 0 0),(.slice none 0 0),(.slice none 0 0),(.slice none 0 0)) [5] [3,2,1,0] rfl Tryz.results54 (RV.cell 1 rfl rfl au) (RV.tmp rfl) rfl rfl rfl (cm rfl rfl)
        ·
          refine R.qg rfl (q.lss rfl rfl (decide_eq_false (by omega))) rfl<|R.u 1 rfl<|R.nil ?_
          refine R.aH rfl rfl ?_
          refine R.reg rfl<|R.q (q.aS (off':=4) rfl bU rfl) rfl<|R.q (q.ld 4 rfl rfl aG rfl) rfl<|?_
          by_cases h7:999<r.ae
          ·
            refine R.q (q.gtr rfl rfl (decide_eq_true (by omega))) rfl<|R.nil ?_
            refine R.aI rfl rfl ?_
            refine R.reg rfl<|R.q (q.build (cs:=[.slice none 0 0,.slice none 0 0,.slice none 0 0,.slice none 0 0,.int .i64 0,.int .i64 0]) ck rfl rfl) rfl<|?_
            refine R.s rfl (s.st (us:=[.slice none 0 0,.slice none 0 0,.slice none 0 0,.slice none 0 0,.int .i64 0,.int .i64 0]) (cs':=[.slice none 0 0,.slice none 0 0,.slice none 0 0,.slice none 0 0,.int .i64 0,.int .i64 0]) 1 _ rfl rfl rfl rfl (.inl au) rfl rfl rfl rfl) fun _=>?_
            refine R.u 1 rfl<|R.nil ?_
            refine R.mp (fun _ hw=>hw.aN (α:=ao)) ?_
            refine R.mp (fun _ hw=>hw.aN (α:=ai)) ?_
            refine R.mp (fun _ hw=>hw.aN (α:=Held)) ?_
            refine R.mp (fun _ hw=>hw.aN (α:=Note)) ?_
            have hz:bD r p t rights aC=((⟨[],[],[],[],0,0⟩:ay),9):=by (unfold bD;rw [if_pos gz,if_pos fq,if_pos (by first|exact .inl (by assumption)|exact .inr (fh gr (by omega))),if_pos (by omega)];(try rfl))
            rw [hz]
            exact R.w2 ((.slice none 0 0),(.slice none 0 0),(.slice none 0 0),(.slice none 0 0)) [5] [3,2,1,0] rfl Tryz.results54 (RV.cell 1 rfl rfl au) (RV.tmp rfl) rfl rfl rfl (cm rfl rfl)
          ·
            refine R.q (q.gtr rfl rfl (decide_eq_false (by omega))) rfl<|R.nil ?_
            refine R.aH rfl rfl ?_
            refine R.reg rfl<|R.q (q.bI 0 rfl rfl aK) rfl<|R.q (q.aS (off':=4) rfl bU rfl) rfl<|R.q (q.ld 4 rfl rfl aG rfl) rfl<|R.u 2 rfl<|R.c (q.call sK rfl rfl (fun w hw=>(gP (((ak r p).1)) (r.ae) (rights) (aC) w  (by omega)))) rfl<|R.u 3 rfl<|?_
            refine R.s rfl (s.alloc (cs:=[.int .i64 0,.int .i64 0,.int .i64 0,.int .i64 0,.int .i64 0]) aY rfl rfl) fun b7=>?_
            refine R.s rfl (s.st (us:=[.int .i64 (((derived ((ak r p).1) r.ae rights aC).1).ID),.int .i64 (((derived ((ak r p).1) r.ae rights aC).1).ai),.int .i64 (((derived ((ak r p).1) r.ae rights aC).1).Rights),.int .i64 (((derived ((ak r p).1) r.ae rights aC).1).ar),.int .i64 (((derived ((ak r p).1) r.ae rights aC).1).From)]) (cs':=[.int .i64 (((derived ((ak r p).1) r.ae rights aC).1).ID),.int .i64 (((derived ((ak r p).1) r.ae rights aC).1).ai),.int .i64 (((derived ((ak r p).1) r.ae rights aC).1).Rights),.int .i64 (((derived ((ak r p).1) r.ae rights aC).1).ar),.int .i64 (((derived ((ak r p).1) r.ae rights aC).1).From)]) 0 _ rfl rfl rfl rfl (.inl aK) rfl rfl rfl rfl) fun _=>?_
            refine R.u 1 rfl<|R.nil ?_
            refine R.reg rfl<|R.u 1 rfl<|?_
            by_cases h8:0<(derived ((ak r p).1) r.ae rights aC).2
            ·
              refine R.q (q.gtr rfl rfl (decide_eq_true (by omega))) rfl<|R.nil ?_
              refine R.aI rfl rfl ?_
              refine R.reg rfl<|R.q (q.build (cs:=[.slice none 0 0,.slice none 0 0,.slice none 0 0,.slice none 0 0,.int .i64 0,.int .i64 0]) ck rfl rfl) rfl<|R.u 1 rfl<|?_
              refine R.s rfl (s.st (us:=[.slice none 0 0,.slice none 0 0,.slice none 0 0,.slice none 0 0,.int .i64 0,.int .i64 0]) (cs':=[.slice none 0 0,.slice none 0 0,.slice none 0 0,.slice none 0 0,.int .i64 0,.int .i64 0]) 2 _ rfl rfl rfl rfl (.inl au) rfl rfl rfl rfl) fun _=>?_
              refine R.u 1 rfl<|R.nil ?_
              refine R.mp (fun _ hw=>hw.aN (α:=ao)) ?_
              refine R.mp (fun _ hw=>hw.aN (α:=ai)) ?_
              refine R.mp (fun _ hw=>hw.aN (α:=Held)) ?_
              refine R.mp (fun _ hw=>hw.aN (α:=Note)) ?_
              have hz:bD r p t rights aC=((⟨[],[],[],[],0,0⟩:ay),(derived ((ak r p).1) r.ae rights aC).2):=by (unfold bD;rw [if_pos gz,if_pos fq,if_pos (by first|exact .inl (by assumption)|exact .inr (fh gr (by omega))),if_neg (by omega),if_neg (by omega)];(try rfl))
              rw [hz]
              exact R.w2 ((.slice none 0 0),(.slice none 0 0),(.slice none 0 0),(.slice none 0 0)) [6] [3,2,1,0] rfl Tryz.results54 (RV.cell 2 rfl rfl au) (RV.tmp rfl) rfl rfl rfl (cm rfl rfl)
            ·
              have dz:(derived (ak r p).1 r.ae rights aC).2=0:=by have:=e8 (ak r p).1 r.ae rights aC;omega
              have di:=(gG dz).2.2.2.2.2.1
              refine R.q (q.gtr rfl rfl (decide_eq_false (by omega))) rfl<|R.nil ?_
              refine R.aH rfl rfl ?_
              refine R.reg rfl<|R.q (q.bI 5 rfl rfl au) rfl<|R.q (q.bI 0 rfl rfl aK) rfl<|?_
              refine R.s (B':=(fun g_:Value×Value×Value×Value=>[ah.row 39 g_.1 (((aF r ((derived ((ak r p).1) r.ae rights aC).1))).ap:List ao),ah.row 74 g_.2.1 (((aF r ((derived ((ak r p).1) r.ae rights aC).1))).Things:List ai),ah.row 93 g_.2.2.1 (((aF r ((derived ((ak r p).1) r.ae rights aC).1))).Held:List Held),ah.row 52 g_.2.2.2 (((aF r ((derived ((ak r p).1) r.ae rights aC).1))).Notes:List Note),ah.box b7 [.int .i64 (((derived ((ak r p).1) r.ae rights aC).1).ID),.int .i64 (((derived ((ak r p).1) r.ae rights aC).1).ai),.int .i64 (((derived ((ak r p).1) r.ae rights aC).1).Rights),.int .i64 (((derived ((ak r p).1) r.ae rights aC).1).ar),.int .i64 (((derived ((ak r p).1) r.ae rights aC).1).From)] 39,ah.box b5 [.int .i64 (((ak r p).1).ID),.int .i64 (((ak r p).1).ai),.int .i64 (((ak r p).1).Rights),.int .i64 (((ak r p).1).ar),.int .i64 (((ak r p).1).From)] 39,ah.box b4 [.slice none 0 0,.slice none 0 0,.slice none 0 0,.slice none 0 0,.int .i64 0,.int .i64 0] 30,ah.box b3 [.int .i64 t.ag,.int .i64 t.Slot] 33,ah.box b2 [.int .i64 p.ag,.int .i64 p.Slot] 33,ah.box b1 [aD,az,aB,aA,.int .i64 r.ae,.int .i64 r.af] 30,ah.held w own])) (F':=(fun g_:Value×Value×Value×Value=>[ah.ls aD (r.ap:List ao),ah.ls az (r.Things:List ai),ah.ls aB (r.Held:List Held),ah.ls aA (r.Notes:List Note)])) rfl (s.bE (B0:=[]) (Br:=[ah.box b7 [.int .i64 (((derived ((ak r p).1) r.ae rights aC).1).ID),.int .i64 (((derived ((ak r p).1) r.ae rights aC).1).ai),.int .i64 (((derived ((ak r p).1) r.ae rights aC).1).Rights),.int .i64 (((derived ((ak r p).1) r.ae rights aC).1).ar),.int .i64 (((derived ((ak r p).1) r.ae rights aC).1).From)] 39,ah.box b5 [.int .i64 (((ak r p).1).ID),.int .i64 (((ak r p).1).ai),.int .i64 (((ak r p).1).Rights),.int .i64 (((ak r p).1).ar),.int .i64 (((ak r p).1).From)] 39,ah.box b4 [.slice none 0 0,.slice none 0 0,.slice none 0 0,.slice none 0 0,.int .i64 0,.int .i64 0] 30,ah.box b3 [.int .i64 t.ag,.int .i64 t.Slot] 33,ah.box b2 [.int .i64 p.ag,.int .i64 p.Slot] 33,ah.box b1 [aD,az,aB,aA,.int .i64 r.ae,.int .i64 r.af] 30,ah.held w own]) (F0:=[ah.ls aD (r.ap:List ao),ah.ls az (r.Things:List ai),ah.ls aB (r.Held:List Held),ah.ls aA (r.Notes:List Note)]) [0,1,2,3,4,5,6] [0,1,2,3] (fun g_:Value×Value×Value×Value => .agg #[g_.1,g_.2.1,g_.2.2.1,g_.2.2.2,.int .i64 (((aF r ((derived ((ak r p).1) r.ae rights aC).1))).ae),.int .i64 (((aF r ((derived ((ak r p).1) r.ae rights aC).1))).af)]) (fun g_:Value×Value×Value×Value=>[ah.row 39 g_.1 (((aF r ((derived ((ak r p).1) r.ae rights aC).1))).ap:List ao),ah.row 74 g_.2.1 (((aF r ((derived ((ak r p).1) r.ae rights aC).1))).Things:List ai),ah.row 93 g_.2.2.1 (((aF r ((derived ((ak r p).1) r.ae rights aC).1))).Held:List Held),ah.row 52 g_.2.2.2 (((aF r ((derived ((ak r p).1) r.ae rights aC).1))).Notes:List Note)]) (fun g_:Value×Value×Value×Value=>[]) rfl rfl rfl oO rfl rfl (fun w own hw H=>jG aD az aB aA (r) (((derived ((ak r p).1) r.ae rights aC).1)) w own H (by assumption)) rfl) ?_
              rintro ⟨z6,z7,z8,z9⟩
              dsimp only
              refine R.s rfl (s.cS (us:=[z6,z7,z8,z9,.int .i64 ((aF r ((derived ((ak r p).1) r.ae rights aC).1)).ae),.int .i64 ((aF r ((derived ((ak r p).1) r.ae rights aC).1)).af)]) (cs':=[z6,z7,z8,z9,.int .i64 ((aF r ((derived ((ak r p).1) r.ae rights aC).1)).ae),.int .i64 ((aF r ((derived ((ak r p).1) r.ae rights aC).1)).af)]) 9 _ rfl rfl rfl (fun _ _=>rfl) (.inl au) (fun w hw=>(aj (Sl.one ((fun _=>Wd.row 0 rfl) w hw)) (aj (Sl.one ((fun _=>Wd.row 1 rfl) w hw)) (aj (Sl.one ((fun _=>Wd.row 2 rfl) w hw)) (aj (Sl.one ((fun _=>Wd.row 3 rfl) w hw)) (aj rfl (aj rfl aJ))))))) rfl rfl rfl) fun _=>?_
              refine R.nil ?_
              refine R.reg rfl<|R.q (q.aS (off':=2) rfl bf rfl) rfl<|R.q (q.ld 9 rfl rfl bQ rfl) rfl<|R.q (q.bI 7 rfl rfl aM) rfl<|R.q (q.aS (off':=0) rfl bK rfl) rfl<|R.q (q.ld 4 rfl rfl aG rfl) rfl<|?_
              refine R.s (B':=(fun aL:Value=>[ah.row 93 aL ((bO ((aF r ((derived ((ak r p).1) r.ae rights aC).1)).Held) t (((derived ((ak r p).1) r.ae rights aC).1).ID)):List Held),ah.row 39 z6 ((aF r ((derived ((ak r p).1) r.ae rights aC).1)).ap:List ao),ah.row 74 z7 ((aF r ((derived ((ak r p).1) r.ae rights aC).1)).Things:List ai),ah.row 52 z9 ((aF r ((derived ((ak r p).1) r.ae rights aC).1)).Notes:List Note),ah.box b7 [.int .i64 (((derived ((ak r p).1) r.ae rights aC).1).ID),.int .i64 (((derived ((ak r p).1) r.ae rights aC).1).ai),.int .i64 (((derived ((ak r p).1) r.ae rights aC).1).Rights),.int .i64 (((derived ((ak r p).1) r.ae rights aC).1).ar),.int .i64 (((derived ((ak r p).1) r.ae rights aC).1).From)] 39,ah.box b5 [.int .i64 (((ak r p).1).ID),.int .i64 (((ak r p).1).ai),.int .i64 (((ak r p).1).Rights),.int .i64 (((ak r p).1).ar),.int .i64 (((ak r p).1).From)] 39,ah.box b4 [.slice none 0 0,.slice none 0 0,.slice none 0 0,.slice none 0 0,.int .i64 0,.int .i64 0] 30,ah.box b3 [.int .i64 t.ag,.int .i64 t.Slot] 33,ah.box b2 [.int .i64 p.ag,.int .i64 p.Slot] 33,ah.box b1 [z6,z7,z8,z9,.int .i64 ((aF r ((derived ((ak r p).1) r.ae rights aC).1)).ae),.int .i64 ((aF r ((derived ((ak r p).1) r.ae rights aC).1)).af)] 30,ah.held w own])) (F':=(fun aL:Value=>[ah.ls z8 ((aF r ((derived ((ak r p).1) r.ae rights aC).1)).Held:List Held),ah.ls aD (r.ap:List ao),ah.ls az (r.Things:List ai),ah.ls aB (r.Held:List Held),ah.ls aA (r.Notes:List Note)])) rfl (s.pre (B2:=[ah.row 39 z6 ((aF r ((derived ((ak r p).1) r.ae rights aC).1)).ap:List ao),ah.row 74 z7 ((aF r ((derived ((ak r p).1) r.ae rights aC).1)).Things:List ai),ah.row 52 z9 ((aF r ((derived ((ak r p).1) r.ae rights aC).1)).Notes:List Note),ah.box b7 [.int .i64 (((derived ((ak r p).1) r.ae rights aC).1).ID),.int .i64 (((derived ((ak r p).1) r.ae rights aC).1).ai),.int .i64 (((derived ((ak r p).1) r.ae rights aC).1).Rights),.int .i64 (((derived ((ak r p).1) r.ae rights aC).1).ar),.int .i64 (((derived ((ak r p).1) r.ae rights aC).1).From)] 39,ah.box b5 [.int .i64 (((ak r p).1).ID),.int .i64 (((ak r p).1).ai),.int .i64 (((ak r p).1).Rights),.int .i64 (((ak r p).1).ar),.int .i64 (((ak r p).1).From)] 39,ah.box b4 [.slice none 0 0,.slice none 0 0,.slice none 0 0,.slice none 0 0,.int .i64 0,.int .i64 0] 30,ah.box b3 [.int .i64 t.ag,.int .i64 t.Slot] 33,ah.box b2 [.int .i64 p.ag,.int .i64 p.Slot] 33,ah.box b1 [z6,z7,z8,z9,.int .i64 ((aF r ((derived ((ak r p).1) r.ae rights aC).1)).ae),.int .i64 ((aF r ((derived ((ak r p).1) r.ae rights aC).1)).af)] 30,ah.held w own]) (F2:=[ah.ls z8 ((aF r ((derived ((ak r p).1) r.ae rights aC).1)).Held:List Held),ah.ls aD (r.ap:List ao),ah.ls az (r.Things:List ai),ah.ls aB (r.Held:List Held),ah.ls aA (r.Notes:List Note)]) (fun _ hw=>hw.aZ 2 _ rfl rfl) (s.bE (B0:=[]) (Br:=[ah.row 39 z6 ((aF r ((derived ((ak r p).1) r.ae rights aC).1)).ap:List ao),ah.row 74 z7 ((aF r ((derived ((ak r p).1) r.ae rights aC).1)).Things:List ai),ah.row 52 z9 ((aF r ((derived ((ak r p).1) r.ae rights aC).1)).Notes:List Note),ah.box b7 [.int .i64 (((derived ((ak r p).1) r.ae rights aC).1).ID),.int .i64 (((derived ((ak r p).1) r.ae rights aC).1).ai),.int .i64 (((derived ((ak r p).1) r.ae rights aC).1).Rights),.int .i64 (((derived ((ak r p).1) r.ae rights aC).1).ar),.int .i64 (((derived ((ak r p).1) r.ae rights aC).1).From)] 39,ah.box b5 [.int .i64 (((ak r p).1).ID),.int .i64 (((ak r p).1).ai),.int .i64 (((ak r p).1).Rights),.int .i64 (((ak r p).1).ar),.int .i64 (((ak r p).1).From)] 39,ah.box b4 [.slice none 0 0,.slice none 0 0,.slice none 0 0,.slice none 0 0,.int .i64 0,.int .i64 0] 30,ah.box b3 [.int .i64 t.ag,.int .i64 t.Slot] 33,ah.box b2 [.int .i64 p.ag,.int .i64 p.Slot] 33,ah.box b1 [z6,z7,z8,z9,.int .i64 ((aF r ((derived ((ak r p).1) r.ae rights aC).1)).ae),.int .i64 ((aF r ((derived ((ak r p).1) r.ae rights aC).1)).af)] 30,ah.held w own]) (F0:=[ah.ls z8 ((aF r ((derived ((ak r p).1) r.ae rights aC).1)).Held:List Held)]) [0,1,2,3,4,5,6,7,8,9] [0] (fun aL:Value=>aL) (fun aL:Value=>[ah.row 93 aL ((bO ((aF r ((derived ((ak r p).1) r.ae rights aC).1)).Held) t (((derived ((ak r p).1) r.ae rights aC).1).ID)):List Held)]) (fun aL:Value=>[]) rfl rfl rfl mb rfl rfl (fun w own hw H=>gV z8 ((aF r ((derived ((ak r p).1) r.ae rights aC).1)).Held) (t) (((derived ((ak r p).1) r.ae rights aC).1).ID) w own H (by first|omega|assumption|(simp;done)|(simp;omega)|(dsimp only [aF];omega)) (by first|assumption|exact hI.good|exact hP.good|exact dD hI.good (by assumption))) rfl)) fun eY=>?_
              refine R.q (q.aS (off':=2) rfl bf rfl) rfl<|?_
              refine R.s rfl (s.cS (us:=[eY]) (cs':=[z6,z7,eY,z9,.int .i64 ((aF r ((derived ((ak r p).1) r.ae rights aC).1)).ae),.int .i64 ((aF r ((derived ((ak r p).1) r.ae rights aC).1)).af)]) 9 _ rfl rfl rfl (fun w hw=>Sl.bJ ((fun _=>Wd.row 0 rfl) w hw)) (.inr ⟨bQ,rfl⟩) (fun w hw=>(aj (Sl.one ((fun _=>Wd.row 0 rfl) w hw)) aJ)) rfl rfl rfl) fun _=>?_
              refine R.nil ?_
              refine R.reg rfl<|R.q (q.bI 9 rfl rfl au) rfl<|?_
              refine R.s rfl (s.cS (us:=[z6,z7,eY,z9,.int .i64 ((aF r ((derived ((ak r p).1) r.ae rights aC).1)).ae),.int .i64 ((aF r ((derived ((ak r p).1) r.ae rights aC).1)).af)]) (cs':=[z6,z7,eY,z9,.int .i64 ((aF r ((derived ((ak r p).1) r.ae rights aC).1)).ae),.int .i64 ((aF r ((derived ((ak r p).1) r.ae rights aC).1)).af)]) 6 _ rfl rfl rfl (fun _ _=>rfl) (.inl au) (fun w hw=>(aj (Sl.one ((fun _=>Wd.row 1 rfl) w hw)) (aj (Sl.one ((fun _=>Wd.row 2 rfl) w hw)) (aj (Sl.one ((fun _=>Wd.row 0 rfl) w hw)) (aj (Sl.one ((fun _=>Wd.row 3 rfl) w hw)) (aj rfl (aj rfl aJ))))))) rfl rfl rfl) fun _=>?_
              refine R.u 1 rfl<|R.nil ?_
              refine R.mp (B':=[ah.row 93 eY (bO ((aF r ((derived ((ak r p).1) r.ae rights aC).1)).Held) t (((derived ((ak r p).1) r.ae rights aC).1).ID):List Held),ah.row 74 z7 ((aF r ((derived ((ak r p).1) r.ae rights aC).1)).Things:List ai),ah.row 52 z9 ((aF r ((derived ((ak r p).1) r.ae rights aC).1)).Notes:List Note),ah.box b7 [.int .i64 (((derived ((ak r p).1) r.ae rights aC).1).ID),.int .i64 (((derived ((ak r p).1) r.ae rights aC).1).ai),.int .i64 (((derived ((ak r p).1) r.ae rights aC).1).Rights),.int .i64 (((derived ((ak r p).1) r.ae rights aC).1).ar),.int .i64 (((derived ((ak r p).1) r.ae rights aC).1).From)] 39,ah.box b5 [.int .i64 (((ak r p).1).ID),.int .i64 (((ak r p).1).ai),.int .i64 (((ak r p).1).Rights),.int .i64 (((ak r p).1).ar),.int .i64 (((ak r p).1).From)] 39,ah.box b4 [z6,z7,eY,z9,.int .i64 ((aF r ((derived ((ak r p).1) r.ae rights aC).1)).ae),.int .i64 ((aF r ((derived ((ak r p).1) r.ae rights aC).1)).af)] 30,ah.box b3 [.int .i64 t.ag,.int .i64 t.Slot] 33,ah.box b2 [.int .i64 p.ag,.int .i64 p.Slot] 33,ah.box b1 [z6,z7,eY,z9,.int .i64 ((aF r ((derived ((ak r p).1) r.ae rights aC).1)).ae),.int .i64 ((aF r ((derived ((ak r p).1) r.ae rights aC).1)).af)] 30,ah.held w own]) (fun _ hw=>hw.aZ 1 _ rfl rfl) ?_
              refine R.mp (B':=[ah.row 93 eY (bO ((aF r ((derived ((ak r p).1) r.ae rights aC).1)).Held) t (((derived ((ak r p).1) r.ae rights aC).1).ID):List Held),ah.row 52 z9 ((aF r ((derived ((ak r p).1) r.ae rights aC).1)).Notes:List Note),ah.box b7 [.int .i64 (((derived ((ak r p).1) r.ae rights aC).1).ID),.int .i64 (((derived ((ak r p).1) r.ae rights aC).1).ai),.int .i64 (((derived ((ak r p).1) r.ae rights aC).1).Rights),.int .i64 (((derived ((ak r p).1) r.ae rights aC).1).ar),.int .i64 (((derived ((ak r p).1) r.ae rights aC).1).From)] 39,ah.box b5 [.int .i64 (((ak r p).1).ID),.int .i64 (((ak r p).1).ai),.int .i64 (((ak r p).1).Rights),.int .i64 (((ak r p).1).ar),.int .i64 (((ak r p).1).From)] 39,ah.box b4 [z6,z7,eY,z9,.int .i64 ((aF r ((derived ((ak r p).1) r.ae rights aC).1)).ae),.int .i64 ((aF r ((derived ((ak r p).1) r.ae rights aC).1)).af)] 30,ah.box b3 [.int .i64 t.ag,.int .i64 t.Slot] 33,ah.box b2 [.int .i64 p.ag,.int .i64 p.Slot] 33,ah.box b1 [z6,z7,eY,z9,.int .i64 ((aF r ((derived ((ak r p).1) r.ae rights aC).1)).ae),.int .i64 ((aF r ((derived ((ak r p).1) r.ae rights aC).1)).af)] 30,ah.held w own]) (fun _ hw=>hw.aZ 1 _ rfl rfl) ?_
              refine R.mp (B':=[ah.row 52 z9 ((aF r ((derived ((ak r p).1) r.ae rights aC).1)).Notes:List Note),ah.box b7 [.int .i64 (((derived ((ak r p).1) r.ae rights aC).1).ID),.int .i64 (((derived ((ak r p).1) r.ae rights aC).1).ai),.int .i64 (((derived ((ak r p).1) r.ae rights aC).1).Rights),.int .i64 (((derived ((ak r p).1) r.ae rights aC).1).ar),.int .i64 (((derived ((ak r p).1) r.ae rights aC).1).From)] 39,ah.box b5 [.int .i64 (((ak r p).1).ID),.int .i64 (((ak r p).1).ai),.int .i64 (((ak r p).1).Rights),.int .i64 (((ak r p).1).ar),.int .i64 (((ak r p).1).From)] 39,ah.box b4 [z6,z7,eY,z9,.int .i64 ((aF r ((derived ((ak r p).1) r.ae rights aC).1)).ae),.int .i64 ((aF r ((derived ((ak r p).1) r.ae rights aC).1)).af)] 30,ah.box b3 [.int .i64 t.ag,.int .i64 t.Slot] 33,ah.box b2 [.int .i64 p.ag,.int .i64 p.Slot] 33,ah.box b1 [z6,z7,eY,z9,.int .i64 ((aF r ((derived ((ak r p).1) r.ae rights aC).1)).ae),.int .i64 ((aF r ((derived ((ak r p).1) r.ae rights aC).1)).af)] 30,ah.held w own]) (fun _ hw=>hw.aZ 0 _ rfl rfl) ?_
              refine R.mp (B':=[ah.box b7 [.int .i64 (((derived ((ak r p).1) r.ae rights aC).1).ID),.int .i64 (((derived ((ak r p).1) r.ae rights aC).1).ai),.int .i64 (((derived ((ak r p).1) r.ae rights aC).1).Rights),.int .i64 (((derived ((ak r p).1) r.ae rights aC).1).ar),.int .i64 (((derived ((ak r p).1) r.ae rights aC).1).From)] 39,ah.box b5 [.int .i64 (((ak r p).1).ID),.int .i64 (((ak r p).1).ai),.int .i64 (((ak r p).1).Rights),.int .i64 (((ak r p).1).ar),.int .i64 (((ak r p).1).From)] 39,ah.box b4 [z6,z7,eY,z9,.int .i64 ((aF r ((derived ((ak r p).1) r.ae rights aC).1)).ae),.int .i64 ((aF r ((derived ((ak r p).1) r.ae rights aC).1)).af)] 30,ah.box b3 [.int .i64 t.ag,.int .i64 t.Slot] 33,ah.box b2 [.int .i64 p.ag,.int .i64 p.Slot] 33,ah.box b1 [z6,z7,eY,z9,.int .i64 ((aF r ((derived ((ak r p).1) r.ae rights aC).1)).ae),.int .i64 ((aF r ((derived ((ak r p).1) r.ae rights aC).1)).af)] 30,ah.held w own]) (fun _ hw=>hw.aZ 0 _ rfl rfl) ?_
              have hz:bD r p t rights aC=((⟨(aF r ((derived ((ak r p).1) r.ae rights aC).1)).ap,(aF r ((derived ((ak r p).1) r.ae rights aC).1)).Things,bO ((aF r ((derived ((ak r p).1) r.ae rights aC).1)).Held) t (((derived ((ak r p).1) r.ae rights aC).1).ID),(aF r ((derived ((ak r p).1) r.ae rights aC).1)).Notes,(aF r ((derived ((ak r p).1) r.ae rights aC).1)).ae,(aF r ((derived ((ak r p).1) r.ae rights aC).1)).af⟩:ay),0):=by (unfold bD;rw [if_pos gz,if_pos fq,if_pos (by first|exact .inl (by assumption)|exact .inr (fh gr (by omega))),if_neg (by omega),if_pos dz];unfold aW;rw [if_pos (by omega)];(try rfl))
              rw [hz]
              exact R.w2 (z6,z7,eY,z9) [6] [3,2,1,0] rfl Tryz.results54 (RV.cell 2 rfl rfl au) (RV.tmp rfl) rfl rfl rfl (cm rfl rfl)
theorem sf (aD az aB aA:Value)(r:ay)(p:Place)(slot:Int)(w:World)(own:List Nat)(H:Wd w (blks []++own) ([]++[ah.held w own]) [ah.ls aD (r.ap:List ao),ah.ls az (r.Things:List ai),ah.ls aB (r.Held:List Held),ah.ls aA (r.Notes:List Note)] w)(hk:Ok r)(hI:Inv r):Calls Tryz.prog 55 #[.agg #[aD,az,aB,aA,.int .i64 r.ae,.int .i64 r.af],.agg #[.int .i64 p.ag,.int .i64 p.Slot],.int .i64 slot] w fun e w' => ∃z:Value×Value×Value×Value,e = .returned (.tuple #[.agg #[z.1,z.2.1,z.2.2.1,z.2.2.2,.int .i64 ((((cj r p slot)).1).ae),.int .i64 ((((cj r p slot)).1).af)],.int .i64 (((cj r p slot)).2)])∧Wd w (blks []++own) ([]++[ah.held w own]) [ah.ls z.1 ((((cj r p slot)).1).ap:List ao),ah.ls z.2.1 ((((cj r p slot)).1).Things:List ai),ah.ls z.2.2.1 ((((cj r p slot)).1).Held:List Held),ah.ls z.2.2.2 ((((cj r p slot)).1).Notes:List Note)] w':=by
  have cw:=H.bS 0 rfl
  have bY:=H.bS 1 rfl
  have cI:=H.bS 2 rfl
  have cx:=H.bS 3 rfl
  have bw:=hk.wl;have bt:=hk.tl;have bh:=hk.hl;have bn:=hk.nl;have lS:=hk.w0;have lT:=hk.w1;have lU:=hk.t0;have lV:=hk.t1
  have gn:=dq r p
  have bp:=gO r.Held p 0
  refine R.cC (n:=45) (vs:=[.agg #[aD,az,aB,aA,.int .i64 r.ae,.int .i64 r.af],.agg #[.int .i64 p.ag,.int .i64 p.Slot],.int .i64 slot]) (B:=[ah.held w own]) [(0,.agg #[aD,az,aB,aA,.int .i64 r.ae,.int .i64 r.af]),(1,.agg #[.int .i64 p.ag,.int .i64 p.Slot]),(2,.int .i64 slot)] Tryz.func55 rfl rfl rfl rfl H ?_
  refine R.reg rfl<|?_
  refine R.s rfl (s.box (cs:=[aD,az,aB,aA,.int .i64 r.ae,.int .i64 r.af]) rfl rfl rfl) fun b1=>?_
  refine R.s rfl (s.box (cs:=[.int .i64 p.ag,.int .i64 p.Slot]) rfl rfl rfl) fun b2=>?_
  refine R.s rfl (s.alloc (cs:=[.slice none 0 0,.slice none 0 0,.slice none 0 0,.slice none 0 0,.int .i64 0,.int .i64 0]) bR rfl rfl) fun b3=>?_
  refine R.u 1 rfl<|R.nil ?_
  refine R.reg rfl<|R.q (q.bI 2 rfl rfl au) rfl<|R.q (q.bI 1 rfl rfl aM) rfl<|R.c (q.call pP rfl rfl (fun w hw=>(gW _ _ _ _ (r) (p) w ((fun _=>Wd.aO 0 rfl) w hw) ((fun _=>Wd.aO 1 rfl) w hw) ((fun _=>Wd.aO 2 rfl) w hw) ((fun _=>Wd.aO 3 rfl) w hw) (by assumption) (by assumption)))) rfl<|R.u 3 rfl<|?_
  refine R.s rfl (s.alloc (cs:=[.int .i64 0,.int .i64 0,.int .i64 0,.int .i64 0,.int .i64 0]) aY rfl rfl) fun b4=>?_
  refine R.s rfl (s.st (us:=[.int .i64 (((ak r p).1).ID),.int .i64 (((ak r p).1).ai),.int .i64 (((ak r p).1).Rights),.int .i64 (((ak r p).1).ar),.int .i64 (((ak r p).1).From)]) (cs':=[.int .i64 (((ak r p).1).ID),.int .i64 (((ak r p).1).ai),.int .i64 (((ak r p).1).Rights),.int .i64 (((ak r p).1).ar),.int .i64 (((ak r p).1).From)]) 0 _ rfl rfl rfl rfl (.inl aK) rfl rfl rfl rfl) fun _=>?_
  refine R.u 1 rfl<|R.nil ?_
  refine R.reg rfl<|R.u 1 rfl<|?_
  by_cases h1:0<(ak r p).2
  ·
    refine R.q (q.gtr rfl rfl (decide_eq_true (by omega))) rfl<|R.nil ?_
    refine R.aI rfl rfl ?_
    refine R.reg rfl<|R.q (q.build (cs:=[.slice none 0 0,.slice none 0 0,.slice none 0 0,.slice none 0 0,.int .i64 0,.int .i64 0]) ck rfl rfl) rfl<|R.u 1 rfl<|?_
    refine R.s rfl (s.st (us:=[.slice none 0 0,.slice none 0 0,.slice none 0 0,.slice none 0 0,.int .i64 0,.int .i64 0]) (cs':=[.slice none 0 0,.slice none 0 0,.slice none 0 0,.slice none 0 0,.int .i64 0,.int .i64 0]) 1 _ rfl rfl rfl rfl (.inl au) rfl rfl rfl rfl) fun _=>?_
    refine R.u 1 rfl<|R.nil ?_
    refine R.mp (fun _ hw=>hw.aN (α:=ao)) ?_
    refine R.mp (fun _ hw=>hw.aN (α:=ai)) ?_
    refine R.mp (fun _ hw=>hw.aN (α:=Held)) ?_
    refine R.mp (fun _ hw=>hw.aN (α:=Note)) ?_
    have hz:cj r p slot=((⟨[],[],[],[],0,0⟩:ay),(ak r p).2):=by (unfold cj;rw [if_neg (by omega)];(try rfl))
    rw [hz]
    exact R.w2 ((.slice none 0 0),(.slice none 0 0),(.slice none 0 0),(.slice none 0 0)) [4] [3,2,1,0] rfl Tryz.results55 (RV.cell 1 rfl rfl au) (RV.tmp rfl) rfl rfl rfl (cm rfl rfl)
  ·
    have gz:(ak r p).2=0:=by omega
    have gr:=hk.get gz;have gp:=dD (id:=0) hI.good (jN gz).1
    refine R.q (q.gtr rfl rfl (decide_eq_false (by omega))) rfl<|R.nil ?_
    refine R.aH rfl rfl ?_
    refine R.reg rfl<|R.q (q.aS (off':=0) rfl bZ rfl) rfl<|R.q (q.ld 2 rfl rfl aG rfl) rfl<|R.u 1 rfl<|R.q (q.build (cs:=[.int .i64 p.ag,.int .i64 slot]) jt rfl rfl) rfl<|?_
    refine R.s rfl (s.alloc (cs:=[.int .i64 0,.int .i64 0]) kE rfl rfl) fun b5=>?_
    refine R.s rfl (s.st (us:=[.int .i64 p.ag,.int .i64 slot]) (cs':=[.int .i64 p.ag,.int .i64 slot]) 0 _ rfl rfl rfl rfl (.inl aM) rfl rfl rfl rfl) fun _=>?_
    refine R.nil ?_
    refine R.reg rfl<|R.q (q.bI 4 rfl rfl au) rfl<|R.q (q.bI 0 rfl rfl aM) rfl<|R.c (q.call qU rfl rfl (fun w hw=>(jT _ _ _ _ (r) ((⟨p.ag,slot⟩:Place)) w ((fun _=>Wd.aO 0 rfl) w hw) ((fun _=>Wd.aO 1 rfl) w hw) ((fun _=>Wd.aO 2 rfl) w hw) ((fun _=>Wd.aO 3 rfl) w hw) (by assumption) (by assumption)))) rfl<|R.u 1 rfl<|R.nil ?_
    refine R.reg rfl<|R.u 1 rfl<|?_
    by_cases h2:0<cY r (⟨p.ag,slot⟩:Place)
    ·
      refine R.q (q.gtr rfl rfl (decide_eq_true (by omega))) rfl<|R.nil ?_
      refine R.aI rfl rfl ?_
      refine R.reg rfl<|R.q (q.build (cs:=[.slice none 0 0,.slice none 0 0,.slice none 0 0,.slice none 0 0,.int .i64 0,.int .i64 0]) ck rfl rfl) rfl<|R.u 1 rfl<|?_
      refine R.s rfl (s.st (us:=[.slice none 0 0,.slice none 0 0,.slice none 0 0,.slice none 0 0,.int .i64 0,.int .i64 0]) (cs':=[.slice none 0 0,.slice none 0 0,.slice none 0 0,.slice none 0 0,.int .i64 0,.int .i64 0]) 2 _ rfl rfl rfl rfl (.inl au) rfl rfl rfl rfl) fun _=>?_
      refine R.u 1 rfl<|R.nil ?_
      refine R.mp (fun _ hw=>hw.aN (α:=ao)) ?_
      refine R.mp (fun _ hw=>hw.aN (α:=ai)) ?_
      refine R.mp (fun _ hw=>hw.aN (α:=Held)) ?_
      refine R.mp (fun _ hw=>hw.aN (α:=Note)) ?_
      have hz:cj r p slot=((⟨[],[],[],[],0,0⟩:ay),cY r (⟨p.ag,slot⟩:Place)):=by (unfold cj;rw [if_pos gz,if_neg (by have:=dS r (⟨p.ag,slot⟩:Place);omega)];(try rfl))
      rw [hz]
      exact R.w2 ((.slice none 0 0),(.slice none 0 0),(.slice none 0 0),(.slice none 0 0)) [5] [3,2,1,0] rfl Tryz.results55 (RV.cell 2 rfl rfl au) (RV.tmp rfl) rfl rfl rfl (cm rfl rfl)
    ·
      have fq:cY r (⟨p.ag,slot⟩:Place)=0:=by have:=dS r (⟨p.ag,slot⟩:Place);omega
      have fz:=dO (fV fq).1
      refine R.q (q.gtr rfl rfl (decide_eq_false (by omega))) rfl<|R.nil ?_
      refine R.aH rfl rfl ?_
      refine R.reg rfl<|R.q (q.bI 4 rfl rfl au) rfl<|?_
      refine R.s (B':=(fun g_:Value×Value×Value×Value=>[ah.row 39 g_.1 ((r).ap:List ao),ah.row 74 g_.2.1 ((r).Things:List ai),ah.row 93 g_.2.2.1 ((r).Held:List Held),ah.row 52 g_.2.2.2 ((r).Notes:List Note),ah.box b5 [.int .i64 p.ag,.int .i64 slot] 33,ah.box b4 [.int .i64 (((ak r p).1).ID),.int .i64 (((ak r p).1).ai),.int .i64 (((ak r p).1).Rights),.int .i64 (((ak r p).1).ar),.int .i64 (((ak r p).1).From)] 39,ah.box b3 [.slice none 0 0,.slice none 0 0,.slice none 0 0,.slice none 0 0,.int .i64 0,.int .i64 0] 30,ah.box b2 [.int .i64 p.ag,.int .i64 p.Slot] 33,ah.box b1 [aD,az,aB,aA,.int .i64 r.ae,.int .i64 r.af] 30,ah.held w own])) (F':=(fun g_:Value×Value×Value×Value=>[ah.ls aD (r.ap:List ao),ah.ls az (r.Things:List ai),ah.ls aB (r.Held:List Held),ah.ls aA (r.Notes:List Note)])) rfl (s.bE (B0:=[]) (Br:=[ah.box b5 [.int .i64 p.ag,.int .i64 slot] 33,ah.box b4 [.int .i64 (((ak r p).1).ID),.int .i64 (((ak r p).1).ai),.int .i64 (((ak r p).1).Rights),.int .i64 (((ak r p).1).ar),.int .i64 (((ak r p).1).From)] 39,ah.box b3 [.slice none 0 0,.slice none 0 0,.slice none 0 0,.slice none 0 0,.int .i64 0,.int .i64 0] 30,ah.box b2 [.int .i64 p.ag,.int .i64 p.Slot] 33,ah.box b1 [aD,az,aB,aA,.int .i64 r.ae,.int .i64 r.af] 30,ah.held w own]) (F0:=[ah.ls aD (r.ap:List ao),ah.ls az (r.Things:List ai),ah.ls aB (r.Held:List Held),ah.ls aA (r.Notes:List Note)]) [0,1,2,3,4,5] [0,1,2,3] (fun g_:Value×Value×Value×Value => .agg #[g_.1,g_.2.1,g_.2.2.1,g_.2.2.2,.int .i64 ((r).ae),.int .i64 ((r).af)]) (fun g_:Value×Value×Value×Value=>[ah.row 39 g_.1 ((r).ap:List ao),ah.row 74 g_.2.1 ((r).Things:List ai),ah.row 93 g_.2.2.1 ((r).Held:List Held),ah.row 52 g_.2.2.2 ((r).Notes:List Note)]) (fun g_:Value×Value×Value×Value=>[]) rfl rfl rfl oN rfl rfl (fun w own hw H=>iU aD az aB aA (r) w own H (by assumption)) rfl) ?_
      rintro ⟨z1,z2,z3,z4⟩
      dsimp only
      refine R.s rfl (s.cS (us:=[z1,z2,z3,z4,.int .i64 r.ae,.int .i64 r.af]) (cs':=[z1,z2,z3,z4,.int .i64 r.ae,.int .i64 r.af]) 8 _ rfl rfl rfl (fun _ _=>rfl) (.inl au) (fun w hw=>(aj (Sl.one ((fun _=>Wd.row 0 rfl) w hw)) (aj (Sl.one ((fun _=>Wd.row 1 rfl) w hw)) (aj (Sl.one ((fun _=>Wd.row 2 rfl) w hw)) (aj (Sl.one ((fun _=>Wd.row 3 rfl) w hw)) (aj rfl (aj rfl aJ))))))) rfl rfl rfl) fun _=>?_
      refine R.nil ?_
      refine R.gD (fuel:=10) (Wd w (blks []++own) [ah.row 39 z1 (r.ap:List ao),ah.row 74 z2 (r.Things:List ai),ah.row 52 z4 (r.Notes:List Note),ah.box b5 [.int .i64 p.ag,.int .i64 slot] 33,ah.box b4 [.int .i64 (((ak r p).1).ID),.int .i64 (((ak r p).1).ai),.int .i64 (((ak r p).1).Rights),.int .i64 (((ak r p).1).ar),.int .i64 (((ak r p).1).From)] 39,ah.box b3 [.slice none 0 0,.slice none 0 0,.slice none 0 0,.slice none 0 0,.int .i64 0,.int .i64 0] 30,ah.box b2 [.int .i64 p.ag,.int .i64 p.Slot] 33,ah.held w own] [ah.ls aD (r.ap:List ao),ah.ls az (r.Things:List ai),ah.ls aB (r.Held:List Held),ah.ls aA (r.Notes:List Note)]) rfl mixed rfl ?_
      refine D.q (i:=0) rfl (by kernel_rfl) (fun _=>Wd.aV [0,1,3,4,5,6,7,9] [0,1,2,3] rfl rfl rfl) rfl (q.aS (off':=2) rfl bf rfl) rfl<|D.q (i:=2) rfl (by kernel_rfl) (fun _=>Wd.aV [0,1,3,4,5,6,7,9] [0,1,2,3] rfl rfl rfl) rfl (q.bI 6 rfl rfl aM) rfl<|D.q (i:=4) rfl (by kernel_rfl) (fun _=>Wd.aV [0,1,3,4,5,6,7,9] [0,1,2,3] rfl rfl rfl) rfl (q.bI 3 rfl rfl aM) rfl<|D.q (i:=5) rfl (by kernel_rfl) (fun _=>Wd.aV [0,1,3,4,5,6,7,9] [0,1,2,3] rfl rfl rfl) rfl (q.aS (off':=0) rfl bK rfl) rfl<|D.q (i:=6) rfl (by kernel_rfl) (fun _=>Wd.aV [0,1,3,4,5,6,7,9] [0,1,2,3] rfl rfl rfl) rfl (q.ld 4 rfl rfl aG rfl) rfl<|?_
      refine D.one (i:=1) (by kernel_rfl) rfl ?_
      refine Do.s (s.c (Qt.a (q.ld 8 rfl rfl bQ rfl)) rfl) (fun _=>(fun _=>Wd.aV [0,1,3,4,5,6,7,9] [0,1,2,3] rfl rfl rfl)) rfl fun _=>?_
      refine D.one (i:=3) (by kernel_rfl) rfl ?_
      refine Do.s (B':=(fun aL:Value=>[ah.row 93 aL ((bO r.Held p 0):List Held),ah.row 39 z1 (r.ap:List ao),ah.row 74 z2 (r.Things:List ai),ah.row 52 z4 (r.Notes:List Note),ah.box b5 [.int .i64 p.ag,.int .i64 slot] 33,ah.box b4 [.int .i64 (((ak r p).1).ID),.int .i64 (((ak r p).1).ai),.int .i64 (((ak r p).1).Rights),.int .i64 (((ak r p).1).ar),.int .i64 (((ak r p).1).From)] 39,ah.box b3 [.slice none 0 0,.slice none 0 0,.slice none 0 0,.slice none 0 0,.int .i64 0,.int .i64 0] 30,ah.box b2 [.int .i64 p.ag,.int .i64 p.Slot] 33,ah.box b1 [z1,z2,z3,z4,.int .i64 r.ae,.int .i64 r.af] 30,ah.held w own])) (F':=(fun aL:Value=>[ah.ls z3 (r.Held:List Held),ah.ls aD (r.ap:List ao),ah.ls az (r.Things:List ai),ah.ls aB (r.Held:List Held),ah.ls aA (r.Notes:List Note)])) (s.pre (B2:=[ah.row 39 z1 (r.ap:List ao),ah.row 74 z2 (r.Things:List ai),ah.row 52 z4 (r.Notes:List Note),ah.box b5 [.int .i64 p.ag,.int .i64 slot] 33,ah.box b4 [.int .i64 (((ak r p).1).ID),.int .i64 (((ak r p).1).ai),.int .i64 (((ak r p).1).Rights),.int .i64 (((ak r p).1).ar),.int .i64 (((ak r p).1).From)] 39,ah.box b3 [.slice none 0 0,.slice none 0 0,.slice none 0 0,.slice none 0 0,.int .i64 0,.int .i64 0] 30,ah.box b2 [.int .i64 p.ag,.int .i64 p.Slot] 33,ah.box b1 [z1,z2,z3,z4,.int .i64 r.ae,.int .i64 r.af] 30,ah.held w own]) (F2:=[ah.ls z3 (r.Held:List Held),ah.ls aD (r.ap:List ao),ah.ls az (r.Things:List ai),ah.ls aB (r.Held:List Held),ah.ls aA (r.Notes:List Note)]) (fun _ hw=>hw.aZ 2 _ rfl rfl) (s.bE (B0:=[]) (Br:=[ah.row 39 z1 (r.ap:List ao),ah.row 74 z2 (r.Things:List ai),ah.row 52 z4 (r.Notes:List Note),ah.box b5 [.int .i64 p.ag,.int .i64 slot] 33,ah.box b4 [.int .i64 (((ak r p).1).ID),.int .i64 (((ak r p).1).ai),.int .i64 (((ak r p).1).Rights),.int .i64 (((ak r p).1).ar),.int .i64 (((ak r p).1).From)] 39,ah.box b3 [.slice none 0 0,.slice none 0 0,.slice none 0 0,.slice none 0 0,.int .i64 0,.int .i64 0] 30,ah.box b2 [.int .i64 p.ag,.int .i64 p.Slot] 33,ah.box b1 [z1,z2,z3,z4,.int .i64 r.ae,.int .i64 r.af] 30,ah.held w own]) (F0:=[ah.ls z3 (r.Held:List Held)]) [0,1,2,3,4,5,6,7,8] [0] (fun aL:Value=>aL) (fun aL:Value=>[ah.row 93 aL ((bO r.Held p 0):List Held)]) (fun aL:Value=>[]) rfl rfl rfl mb rfl rfl (fun w own hw H=>gV z3 (r.Held) (p) (0) w own H (by first|omega|assumption|(simp;done)|(simp;omega)|(dsimp only [aF];omega)) (by first|assumption|exact hI.good|exact hP.good|exact dD hI.good (by assumption))) rfl)) (fun _=>(fun _=>Wd.aV [1,2,3,4,5,6,7,9] [1,2,3,4] rfl rfl rfl)) rfl fun z7=>?_
      refine D.one (i:=7) (by kernel_rfl) rfl ?_
      refine Do.s (B':=(fun aL:Value=>[ah.row 93 aL ((bO (bO r.Held p 0) (⟨p.ag,slot⟩:Place) (((ak r p).1).ID)):List Held),ah.row 39 z1 (r.ap:List ao),ah.row 74 z2 (r.Things:List ai),ah.row 52 z4 (r.Notes:List Note),ah.box b5 [.int .i64 p.ag,.int .i64 slot] 33,ah.box b4 [.int .i64 (((ak r p).1).ID),.int .i64 (((ak r p).1).ai),.int .i64 (((ak r p).1).Rights),.int .i64 (((ak r p).1).ar),.int .i64 (((ak r p).1).From)] 39,ah.box b3 [.slice none 0 0,.slice none 0 0,.slice none 0 0,.slice none 0 0,.int .i64 0,.int .i64 0] 30,ah.box b2 [.int .i64 p.ag,.int .i64 p.Slot] 33,ah.box b1 [z1,z2,z3,z4,.int .i64 r.ae,.int .i64 r.af] 30,ah.held w own])) (F':=(fun aL:Value=>[ah.ls z7 (bO r.Held p 0:List Held),ah.ls z3 (r.Held:List Held),ah.ls aD (r.ap:List ao),ah.ls az (r.Things:List ai),ah.ls aB (r.Held:List Held),ah.ls aA (r.Notes:List Note)])) (s.pre (B2:=[ah.row 39 z1 (r.ap:List ao),ah.row 74 z2 (r.Things:List ai),ah.row 52 z4 (r.Notes:List Note),ah.box b5 [.int .i64 p.ag,.int .i64 slot] 33,ah.box b4 [.int .i64 (((ak r p).1).ID),.int .i64 (((ak r p).1).ai),.int .i64 (((ak r p).1).Rights),.int .i64 (((ak r p).1).ar),.int .i64 (((ak r p).1).From)] 39,ah.box b3 [.slice none 0 0,.slice none 0 0,.slice none 0 0,.slice none 0 0,.int .i64 0,.int .i64 0] 30,ah.box b2 [.int .i64 p.ag,.int .i64 p.Slot] 33,ah.box b1 [z1,z2,z3,z4,.int .i64 r.ae,.int .i64 r.af] 30,ah.held w own]) (F2:=[ah.ls z7 (bO r.Held p 0:List Held),ah.ls z3 (r.Held:List Held),ah.ls aD (r.ap:List ao),ah.ls az (r.Things:List ai),ah.ls aB (r.Held:List Held),ah.ls aA (r.Notes:List Note)]) (fun _ hw=>hw.aZ 0 _ rfl rfl) (s.bE (B0:=[]) (Br:=[ah.row 39 z1 (r.ap:List ao),ah.row 74 z2 (r.Things:List ai),ah.row 52 z4 (r.Notes:List Note),ah.box b5 [.int .i64 p.ag,.int .i64 slot] 33,ah.box b4 [.int .i64 (((ak r p).1).ID),.int .i64 (((ak r p).1).ai),.int .i64 (((ak r p).1).Rights),.int .i64 (((ak r p).1).ar),.int .i64 (((ak r p).1).From)] 39,ah.box b3 [.slice none 0 0,.slice none 0 0,.slice none 0 0,.slice none 0 0,.int .i64 0,.int .i64 0] 30,ah.box b2 [.int .i64 p.ag,.int .i64 p.Slot] 33,ah.box b1 [z1,z2,z3,z4,.int .i64 r.ae,.int .i64 r.af] 30,ah.held w own]) (F0:=[ah.ls z7 (bO r.Held p 0:List Held)]) [0,1,2,3,4,5,6,7,8] [0] (fun aL:Value=>aL) (fun aL:Value=>[ah.row 93 aL ((bO (bO r.Held p 0) (⟨p.ag,slot⟩:Place) (((ak r p).1).ID)):List Held)]) (fun aL:Value=>[]) rfl rfl rfl mb rfl rfl (fun w own hw H=>gV z7 (bO r.Held p 0) ((⟨p.ag,slot⟩:Place)) (((ak r p).1).ID) w own H (by first|omega|assumption|(simp;done)|(simp;omega)|(dsimp only [aF];omega)) (by first|assumption|exact hI.good|exact hP.good|exact dD hI.good (by assumption))) rfl)) (fun _=>(fun _=>Wd.aV [1,2,3,4,5,6,7,9] [2,3,4,5] rfl rfl rfl)) rfl fun z8=>?_
      refine D.q (i:=8) rfl (by kernel_rfl) (fun _=>Wd.aV [1,2,3,4,5,6,7,9] [2,3,4,5] rfl rfl rfl) rfl (q.aS (off':=2) rfl bf rfl) rfl<|?_
      refine D.one (i:=9) (by kernel_rfl) rfl ?_
      refine Do.s (s.cS (us:=[z8]) (cs':=[z1,z2,z8,z4,.int .i64 r.ae,.int .i64 r.af]) 8 _ rfl rfl rfl (fun w hw=>Sl.bJ ((fun _=>Wd.row 0 rfl) w hw)) (.inr ⟨bQ,rfl⟩) (fun w hw=>(aj (Sl.one ((fun _=>Wd.row 0 rfl) w hw)) aJ)) rfl rfl rfl) (fun _=>(fun _=>Wd.aV [1,2,3,4,5,6,7,9] [2,3,4,5] rfl rfl rfl)) rfl fun _=>?_
      refine D.done (by kernel_rfl)<|?_
      refine R.reg rfl<|R.q (q.bI 8 rfl rfl au) rfl<|?_
      refine R.s rfl (s.cS (us:=[z1,z2,z8,z4,.int .i64 r.ae,.int .i64 r.af]) (cs':=[z1,z2,z8,z4,.int .i64 r.ae,.int .i64 r.af]) 6 _ rfl rfl rfl (fun _ _=>rfl) (.inl au) (fun w hw=>(aj (Sl.one ((fun _=>Wd.row 1 rfl) w hw)) (aj (Sl.one ((fun _=>Wd.row 2 rfl) w hw)) (aj (Sl.one ((fun _=>Wd.row 0 rfl) w hw)) (aj (Sl.one ((fun _=>Wd.row 3 rfl) w hw)) (aj rfl (aj rfl aJ))))))) rfl rfl rfl) fun _=>?_
      refine R.u 1 rfl<|R.nil ?_
      refine R.mp (B':=[ah.row 93 z8 (bO (bO r.Held p 0) (⟨p.ag,slot⟩:Place) (((ak r p).1).ID):List Held),ah.row 74 z2 (r.Things:List ai),ah.row 52 z4 (r.Notes:List Note),ah.box b5 [.int .i64 p.ag,.int .i64 slot] 33,ah.box b4 [.int .i64 (((ak r p).1).ID),.int .i64 (((ak r p).1).ai),.int .i64 (((ak r p).1).Rights),.int .i64 (((ak r p).1).ar),.int .i64 (((ak r p).1).From)] 39,ah.box b3 [z1,z2,z8,z4,.int .i64 r.ae,.int .i64 r.af] 30,ah.box b2 [.int .i64 p.ag,.int .i64 p.Slot] 33,ah.box b1 [z1,z2,z8,z4,.int .i64 r.ae,.int .i64 r.af] 30,ah.held w own]) (fun _ hw=>hw.aZ 1 _ rfl rfl) ?_
      refine R.mp (B':=[ah.row 93 z8 (bO (bO r.Held p 0) (⟨p.ag,slot⟩:Place) (((ak r p).1).ID):List Held),ah.row 52 z4 (r.Notes:List Note),ah.box b5 [.int .i64 p.ag,.int .i64 slot] 33,ah.box b4 [.int .i64 (((ak r p).1).ID),.int .i64 (((ak r p).1).ai),.int .i64 (((ak r p).1).Rights),.int .i64 (((ak r p).1).ar),.int .i64 (((ak r p).1).From)] 39,ah.box b3 [z1,z2,z8,z4,.int .i64 r.ae,.int .i64 r.af] 30,ah.box b2 [.int .i64 p.ag,.int .i64 p.Slot] 33,ah.box b1 [z1,z2,z8,z4,.int .i64 r.ae,.int .i64 r.af] 30,ah.held w own]) (fun _ hw=>hw.aZ 1 _ rfl rfl) ?_
      refine R.mp (B':=[ah.row 52 z4 (r.Notes:List Note),ah.box b5 [.int .i64 p.ag,.int .i64 slot] 33,ah.box b4 [.int .i64 (((ak r p).1).ID),.int .i64 (((ak r p).1).ai),.int .i64 (((ak r p).1).Rights),.int .i64 (((ak r p).1).ar),.int .i64 (((ak r p).1).From)] 39,ah.box b3 [z1,z2,z8,z4,.int .i64 r.ae,.int .i64 r.af] 30,ah.box b2 [.int .i64 p.ag,.int .i64 p.Slot] 33,ah.box b1 [z1,z2,z8,z4,.int .i64 r.ae,.int .i64 r.af] 30,ah.held w own]) (fun _ hw=>hw.aZ 0 _ rfl rfl) ?_
      refine R.mp (B':=[ah.box b5 [.int .i64 p.ag,.int .i64 slot] 33,ah.box b4 [.int .i64 (((ak r p).1).ID),.int .i64 (((ak r p).1).ai),.int .i64 (((ak r p).1).Rights),.int .i64 (((ak r p).1).ar),.int .i64 (((ak r p).1).From)] 39,ah.box b3 [z1,z2,z8,z4,.int .i64 r.ae,.int .i64 r.af] 30,ah.box b2 [.int .i64 p.ag,.int .i64 p.Slot] 33,ah.box b1 [z1,z2,z8,z4,.int .i64 r.ae,.int .i64 r.af] 30,ah.held w own]) (fun _ hw=>hw.aZ 0 _ rfl rfl) ?_
      have hz:cj r p slot=((⟨r.ap,r.Things,bO (bO r.Held p 0) (⟨p.ag,slot⟩:Place) (((ak r p).1).ID),r.Notes,r.ae,r.af⟩:ay),0):=by (unfold cj;rw [if_pos gz,if_pos fq];(try rfl))
      rw [hz]
      exact R.w2 (z1,z2,z8,z4) [5] [3,2,1,0] rfl Tryz.results55 (RV.cell 2 rfl rfl au) (RV.tmp rfl) rfl rfl rfl (cm rfl rfl)
end Go.Proofs.YtpipachmngdegaaGreat
end
