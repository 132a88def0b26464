import Derived.Test.YtbkfhjaibhnkmaaGreatDoorTRP42
namespace Go.Proofs.YtbkfhjaibhnkmaaGreatDoor
open Go Go.RowKit
set_option linter.unusedVariables false
set_option linter.unusedSimpArgs false
set_option maxRecDepth 100000
theorem uc {s:ByteArray}{m:Nat}(h:cD s m=true):cK s m=some (numsL s m):=by
  unfold cD at h;unfold numsL
  cases hq:cK s m with|none=>rw [hq] at h;cases h|some l=>rfl
theorem jN {s:ByteArray}{m:Nat}(h:cD s m=true):(numsL s m).length=m∧4*m≤s.size:=tW (uc h)
theorem km {s:ByteArray}{m j:Nat}{x:Int}(h:(numsL s m)[j]? = some x):tZ (cK s m) j=x:=by
  show (((numsL s m)[j]?).getD 0)=x;rw [h];rfl
section
variable {r:au} {c:Change} {y:UInt8}
theorem gy (h:¬ c.Key=⟨#[]⟩):¬ c.Key.size=0:=fun e=>h (vF e)
theorem iI {s:ByteArray}{i:Nat}{y:UInt8}(h:s.data[i]? = some y):fw s i=y.toNat:=by unfold fw;rw [h];rfl
theorem v7 (h:c.Key=⟨#[]⟩):rowP r c=(r,false):=by unfold rowP;rw [if_pos (by rw [h];rfl)]
theorem gA (h0:¬ c.Key=⟨#[]⟩)(hy:c.Key.data[0]? = some y)(e:y.toNat=104)(hb:cD c.Val 1=false∨¬ c.Val.size=4∨¬ c.Key.size=3):rowP r c=(r,false):=by
  unfold rowP;rw [if_neg (gy h0)];dsimp only;rw [if_pos ((iI hy).trans e),if_pos (show (cK c.Val 1).isSome=false∨c.Val.size≠4∨c.Key.size≠3 from hb)]
theorem qE {a b:UInt8}{n:Int}{v:Bool}(h0:¬ c.Key=⟨#[]⟩)(hy:c.Key.data[0]? = some y)(e:y.toNat=104)(hb:cD c.Val 1=true)(h4:c.Val.size=4)(h3:c.Key.size=3)(ha:c.Key.data[1]? = some a)(hbb:c.Key.data[2]? = some b)
    (hn:(numsL c.Val 1)[0]? = some n) (hv:v=decide (aW ⟨(a.toNat:Int)-48,(b.toNat:Int)-48⟩=0)):rowP r c=(⟨r.aj,r.Things,r.Held++[⟨⟨(a.toNat:Int)-48,(b.toNat:Int)-48⟩,n⟩],r.Notes,r.ae,r.af⟩,v):=by
  unfold rowP;rw [if_neg (gy h0)];dsimp only
  rw [if_pos ((iI hy).trans e),if_neg (show ¬ ((cK c.Val 1).isSome=false∨c.Val.size≠4∨c.Key.size≠3) from (by show ¬ (cD c.Val 1=false∨c.Val.size≠4∨c.Key.size≠3);rw [hb,h4,h3];simp)),km hn,hv]
  unfold tX AP xh;rw [iI ha,iI hbb]
def qI (c:Change):Bool:=cD (c.Key.extract 1 c.Key.size) 1&&decide (c.Key.size=5)
theorem rV (h:cD (c.Key.extract 1 c.Key.size) 1=false):false=qI c:=by unfold qI;rw [h];rfl
theorem pA (h:¬ c.Key.size=5):false=qI c:=by unfold qI;rw [decide_eq_false h,Bool.and_false]
theorem pB (h:cD (c.Key.extract 1 c.Key.size) 1=true)(h5:c.Key.size=5):true=qI c:=by unfold qI;rw [h,decide_eq_true h5];rfl
theorem v8 (h:qI c=true):(numsL (c.Key.extract 1 c.Key.size) 1).length=1:=by
  unfold qI at h;rw [Bool.and_eq_true] at h;exact (jN h.1).1
theorem gB (h0:¬ c.Key=⟨#[]⟩)(hy:c.Key.data[0]? = some y)(e:y.toNat=116)(hb:qI c=false∨cD c.Val 1=false∨12<c.Val.size):rowP r c=(r,false):=by
  unfold rowP;rw [if_neg (gy h0)];dsimp only
  rw [if_neg (by rw [iI hy];omega),if_pos ((iI hy).trans e),if_pos (show ((cK (c.Key.extract 1 c.Key.size) 1).isSome&&decide (c.Key.size=5))=false∨(cK c.Val 1).isSome=false∨12<c.Val.size from hb)]
theorem ka {k n:Int}{v:Bool}(h0:¬ c.Key=⟨#[]⟩)(hy:c.Key.data[0]? = some y)(e:y.toNat=116)(hk:qI c=true)(hb:cD c.Val 1=true)(h12:¬ 12<c.Val.size)
    (hi:(numsL (c.Key.extract 1 c.Key.size) 1)[0]? = some k) (hn:(numsL c.Val 1)[0]? = some n) (hv:v=decide (n=1∨n=2∧c.Val.size=4)):rowP r c=(⟨r.aj,r.Things++[⟨k,n,c.Val.extract 4 c.Val.size⟩],r.Held,r.Notes,r.ae,r.af⟩,v):=by
  unfold rowP;rw [if_neg (gy h0)];dsimp only
  rw [if_neg (by rw [iI hy];omega),if_pos ((iI hy).trans e),if_neg (show ¬ (((cK (c.Key.extract 1 c.Key.size) 1).isSome&&decide (c.Key.size=5))=false∨(cK c.Val 1).isSome=false∨12<c.Val.size) from (by
    show ¬ (qI c=false∨cD c.Val 1=false∨12<c.Val.size)
    rw [hk,hb];simp;omega)),km hn,km hi,hv]
  rfl
theorem gC (h0:¬ c.Key=⟨#[]⟩)(hy:c.Key.data[0]? = some y)(e:y.toNat=119)(hb:qI c=false∨cD c.Val 4=false∨¬ c.Val.size=16):rowP r c=(r,false):=by
  unfold rowP;rw [if_neg (gy h0)];dsimp only
  rw [if_neg (by rw [iI hy];omega),if_neg (by rw [iI hy];omega),if_pos ((iI hy).trans e),if_pos (show ((cK (c.Key.extract 1 c.Key.size) 1).isSome&&decide (c.Key.size=5))=false∨(cK c.Val 4).isSome=false∨c.Val.size≠16 from hb)]
theorem AZ {k n0 n1 n2 n3:Int}(h0:¬ c.Key=⟨#[]⟩)(hy:c.Key.data[0]? = some y)(e:y.toNat=119)(hk:qI c=true)(hb:cD c.Val 4=true)(h16:c.Val.size=16)
    (hi:(numsL (c.Key.extract 1 c.Key.size) 1)[0]? = some k) (a0:(numsL c.Val 4)[0]? = some n0) (a1:(numsL c.Val 4)[1]? = some n1) (a2:(numsL c.Val 4)[2]? = some n2) (a3:(numsL c.Val 4)[3]? = some n3):rowP r c=(⟨r.aj++[⟨k,n0,n1,n2,n3⟩],r.Things,r.Held,r.Notes,r.ae,r.af⟩,true):=by
  unfold rowP;rw [if_neg (gy h0)];dsimp only
  rw [if_neg (by rw [iI hy];omega),if_neg (by rw [iI hy];omega),if_pos ((iI hy).trans e),if_neg (show ¬ (((cK (c.Key.extract 1 c.Key.size) 1).isSome&&decide (c.Key.size=5))=false∨(cK c.Val 4).isSome=false∨c.Val.size≠16) from (by
    show ¬ (qI c=false∨cD c.Val 4=false∨c.Val.size≠16)
    rw [hk,hb,h16];simp)),km hi,km a0,km a1,km a2,km a3]
  rfl
theorem gD (h0:¬ c.Key=⟨#[]⟩)(hy:c.Key.data[0]? = some y)(e1:¬ y.toNat=104)(e2:¬ y.toNat=116)(e3:¬ y.toNat=119)(hb:¬ c.Key=⟨#[120]⟩∨cD c.Val 2=false∨¬ c.Val.size=8):rowP r c=(r,false):=by
  unfold rowP;rw [if_neg (gy h0)];dsimp only
  rw [if_neg (by rw [iI hy];omega),if_neg (by rw [iI hy];omega),if_neg (by rw [iI hy];omega),if_pos (show c.Key≠kX∨(cK c.Val 2).isSome=false∨c.Val.size≠8 from hb)]
theorem BX {n0 n1:Int}(h0:¬ c.Key=⟨#[]⟩)(hy:c.Key.data[0]? = some y)(e1:¬ y.toNat=104)(e2:¬ y.toNat=116)(e3:¬ y.toNat=119)(hk:c.Key=⟨#[120]⟩)(hb:cD c.Val 2=true)(h8:c.Val.size=8)(a0:(numsL c.Val 2)[0]? = some n0)(a1:(numsL c.Val 2)[1]? = some n1) :
    rowP r c=(⟨r.aj,r.Things,r.Held,r.Notes,n0,n1⟩,true):=by
  unfold rowP;rw [if_neg (gy h0)];dsimp only
  rw [if_neg (by rw [iI hy];omega),if_neg (by rw [iI hy];omega),if_neg (by rw [iI hy];omega),if_neg (show ¬ (c.Key≠kX∨(cK c.Val 2).isSome=false∨c.Val.size≠8) from (by
    show ¬ (c.Key≠⟨#[120]⟩∨cD c.Val 2=false∨c.Val.size≠8)
    rw [hb,h8];simp [hk])),km a0,km a1]
  rfl
end
attribute [local irreducible] numsL cD qI rowP
set_option maxRecDepth 100000 in
set_option maxHeartbeats 3200000 in
theorem mR (ki:Nat)(aM aJ aP aL:Value)(r:au)(c:Change)(w:World)(own:List Nat)(H:Wd w (blks [ah.box ki [aM,aJ,aP,aL,.int .i64 r.ae,.int .i64 r.af] 32,ah.row 88 aM (r.aj:List ak),ah.row 62 aJ (r.Things:List ai),ah.row 85 aP (r.Held:List Held),ah.row 72 aL (r.Notes:List Note)]++own) ([ah.box ki [aM,aJ,aP,aL,.int .i64 r.ae,.int .i64 r.af] 32,ah.row 88 aM (r.aj:List ak),ah.row 62 aJ (r.Things:List ai),ah.row 85 aP (r.Held:List Held),ah.row 72 aL (r.Notes:List Note)]++[ah.held w own]) [bm] w)(hc:c.Key.size≤1000∧c.Val.size≤1000)(hr:r.aj.length≤1000∧r.Things.length≤1000∧r.Held.length≤1000):Calls Tryz.prog 50 #[.pointer (some ⟨ki,0,none⟩),.agg #[.string c.Key,.string c.Val,.bool c.Gone]] w fun e w' => ∃z:Value×Value×Value×Value,e = .returned (.bool (((rowP r c)).2))∧Wd w (blks [ah.box ki [aM,aJ,aP,aL,.int .i64 r.ae,.int .i64 r.af] 32,ah.row 88 aM (r.aj:List ak),ah.row 62 aJ (r.Things:List ai),ah.row 85 aP (r.Held:List Held),ah.row 72 aL (r.Notes:List Note)]++own) ([ah.box ki [z.1,z.2.1,z.2.2.1,z.2.2.2,.int .i64 ((((rowP r c)).1).ae),.int .i64 ((((rowP r c)).1).af)] 32,ah.row 88 z.1 ((((rowP r c)).1).aj:List ak),ah.row 62 z.2.1 ((((rowP r c)).1).Things:List ai),ah.row 85 z.2.2.1 ((((rowP r c)).1).Held:List Held),ah.row 72 z.2.2.2 ((((rowP r c)).1).Notes:List Note)]++[ah.held w own]) [] w':=by
  have zx:=H.cap 1 rfl;have dF:=H.nf 1 rfl
  have zh:=H.cap 2 rfl;have cX:=H.nf 2 rfl
  have A8:=H.cap 3 rfl;have ej:=H.nf 3 rfl
  have zy:=H.cap 4 rfl;have dG:=H.nf 4 rfl
  refine R.cQ (n:=217) (vs:=[.pointer (some ⟨ki,0,none⟩),.agg #[.string c.Key,.string c.Val,.bool c.Gone]]) (B:=[ah.box ki [aM,aJ,aP,aL,.int .i64 r.ae,.int .i64 r.af] 32,ah.row 88 aM (r.aj:List ak),ah.row 62 aJ (r.Things:List ai),ah.row 85 aP (r.Held:List Held),ah.row 72 aL (r.Notes:List Note),ah.held w own]) [(0,.pointer (some ⟨ki,0,none⟩)),(1,.agg #[.string c.Key,.string c.Val,.bool c.Gone])] Tryz.func50 rfl rfl rfl rfl H ?_
  refine R.reg rfl<|?_
  refine R.s rfl (s.box (cs:=[.string c.Key,.string c.Val,.bool c.Gone]) rfl rfl rfl) fun b1=>?_
  refine R.u 1 rfl<|R.nil ?_
  refine R.reg rfl<|R.q (q.aX (off':=0) rfl cM rfl) rfl<|R.q (q.ld 0 rfl rfl cd rfl) rfl<|?_
  by_cases h1:c.Key=⟨#[]⟩
  ·
    refine R.q (q.kR rfl rfl h1) rfl<|R.nil ?_
    refine R.aE rfl rfl ?_
    refine R.reg rfl<|R.u 1 rfl<|R.nil ?_
    have hz:rowP r c=(r,false):=by (exact v7 (by assumption))
    rw [hz]
    exact R.w1 (aM,aJ,aP,aL) [1,2,3,4,5,6] [] rfl Tryz.results50 (RV.tmp rfl) rfl rfl rfl rfl
  ·
    refine R.q (q.kS rfl rfl h1) rfl<|R.nil ?_
    refine R.aH rfl rfl ?_
    have kp:=gy (c:=c) (by assumption)
    refine R.reg rfl<|R.q (q.aX (off':=0) rfl cM rfl) rfl<|R.q (q.ld 0 rfl rfl cd rfl) rfl<|R.q (q.xG (i:=1) rfl rfl Tryz.underlying9 rfl (by omega)) rfl<|?_
    refine R.s (B':=(fun aG:Value=>[ah.row 3 aG ((numsL (c.Key.extract 1 c.Key.size) 1):List Int),ah.box b1 [.string c.Key,.string c.Val,.bool c.Gone] 52,ah.box ki [aM,aJ,aP,aL,.int .i64 r.ae,.int .i64 r.af] 32,ah.row 88 aM (r.aj:List ak),ah.row 62 aJ (r.Things:List ai),ah.row 85 aP (r.Held:List Held),ah.row 72 aL (r.Notes:List Note),ah.held w own])) (F':=(fun aG:Value=>[bm])) rfl (s.bA (B0:=[]) (Br:=[ah.box b1 [.string c.Key,.string c.Val,.bool c.Gone] 52,ah.box ki [aM,aJ,aP,aL,.int .i64 r.ae,.int .i64 r.af] 32,ah.row 88 aM (r.aj:List ak),ah.row 62 aJ (r.Things:List ai),ah.row 85 aP (r.Held:List Held),ah.row 72 aL (r.Notes:List Note),ah.held w own]) (F0:=[bm]) [0,1,2,3,4,5,6] [0] (fun aG:Value => .tuple #[aG,.bool ((cD (c.Key.extract 1 c.Key.size) 1))]) (fun aG:Value=>[ah.row 3 aG ((numsL (c.Key.extract 1 c.Key.size) 1):List Int)]) (fun aG:Value=>[]) rfl rfl rfl pP rfl rfl (fun w own hw H=>gq ((c.Key.extract 1 c.Key.size)) (1) w own H (by first|assumption|omega|(rw [ByteArray.size_extract];omega))) rfl) fun z1=>?_
    refine R.u 5 rfl<|R.nil ?_
    refine R.cut 1 (fun b:Bool=>[(0,.pointer (some ⟨ki,0,none⟩)),(3,.pointer (some ⟨b1,0,none⟩)),(5,z1),(6,.bool b)]) (fun b:Bool=>[ah.row 3 z1 (numsL (c.Key.extract 1 c.Key.size) 1:List Int),ah.box b1 [.string c.Key,.string c.Val,.bool c.Gone] 52,ah.box ki [aM,aJ,aP,aL,.int .i64 r.ae,.int .i64 r.af] 32,ah.row 88 aM (r.aj:List ak),ah.row 62 aJ (r.Things:List ai),ah.row 85 aP (r.Held:List Held),ah.row 72 aL (r.Notes:List Note),ah.held w own]) (fun b:Bool=>[bm]) (fun b:Bool=>b=qI c) rfl rfl rfl ?_ ?_
    ·
      refine R.reg rfl<|R.u 2 rfl<|?_
      rcases Bool.eq_false_or_eq_true (cD (c.Key.extract 1 c.Key.size) 1) with h2|h2
      ·
        rw [h2]
        refine R.qg rfl (q.aX (off':=0) rfl cM rfl) rfl<|R.qg rfl (q.ld 1 rfl rfl cd rfl) rfl<|R.qg rfl (q.kr rfl Tryz.underlying9) rfl<|?_
        by_cases h3:c.Key.size=5
        ·
          refine R.qg rfl (q.eql rfl rfl (beq_iff_eq.2 (by omega))) rfl<|R.u 2 rfl<|R.nil ?_
          exact R.meet true rfl (by (first|exact rV (by assumption)|exact pB (by assumption) (by omega)|exact pA (by omega))) ⟨rfl,rfl,rfl,rfl,trivial⟩ (fun _=>Wd.pick [0,1,2,3,4,5,6,7] [0] rfl rfl rfl)
        ·
          refine R.qg rfl (q.eql rfl rfl (beq_eq_false_iff_ne.2 (by omega))) rfl<|R.u 2 rfl<|R.nil ?_
          exact R.meet false rfl (by (first|exact rV (by assumption)|exact pB (by assumption) (by omega)|exact pA (by omega))) ⟨rfl,rfl,rfl,rfl,trivial⟩ (fun _=>Wd.pick [0,1,2,3,4,5,6,7] [0] rfl rfl rfl)
      ·
        rw [h2]
        refine R.u 6 rfl<|R.nil ?_
        exact R.meet false rfl (by (first|exact rV (by assumption)|exact pB (by assumption) (by omega)|exact pA (by omega))) ⟨rfl,rfl,rfl,rfl,trivial⟩ (fun _=>Wd.pick [0,1,2,3,4,5,6,7] [0] rfl rfl rfl)
    ·
      rintro b hC
      refine R.reg rfl<|R.q (q.aX (off':=0) rfl cM rfl) rfl<|R.q (q.ld 1 rfl rfl cd rfl) rfl<|?_
      obtain ⟨y1,hy1⟩:∃z,c.Key.data[0]? = some z:=⟨_,Array.getElem?_eq_getElem (show 0<c.Key.size from by omega)⟩
      have Dd:=y1.toNat_lt
      refine R.q (q.yo (i:=0) rfl rfl Tryz.underlying9 rfl hy1) rfl<|R.nil ?_
      refine R.reg rfl<|?_
      by_cases h4:y1.toNat=104
      ·
        refine R.q (q.eql rfl rfl (beq_iff_eq.2 (by omega))) rfl<|R.u 1 rfl<|R.nil ?_
        refine R.aE rfl rfl ?_
        refine R.reg rfl<|R.q (q.aX (off':=1) rfl d9 rfl) rfl<|R.q (q.ld 1 rfl rfl cd rfl) rfl<|?_
        refine R.s (B':=(fun aG:Value=>[ah.row 3 aG ((numsL c.Val 1):List Int),ah.row 3 z1 (numsL (c.Key.extract 1 c.Key.size) 1:List Int),ah.box b1 [.string c.Key,.string c.Val,.bool c.Gone] 52,ah.box ki [aM,aJ,aP,aL,.int .i64 r.ae,.int .i64 r.af] 32,ah.row 88 aM (r.aj:List ak),ah.row 62 aJ (r.Things:List ai),ah.row 85 aP (r.Held:List Held),ah.row 72 aL (r.Notes:List Note),ah.held w own])) (F':=(fun aG:Value=>[bm])) rfl (s.bA (B0:=[]) (Br:=[ah.row 3 z1 (numsL (c.Key.extract 1 c.Key.size) 1:List Int),ah.box b1 [.string c.Key,.string c.Val,.bool c.Gone] 52,ah.box ki [aM,aJ,aP,aL,.int .i64 r.ae,.int .i64 r.af] 32,ah.row 88 aM (r.aj:List ak),ah.row 62 aJ (r.Things:List ai),ah.row 85 aP (r.Held:List Held),ah.row 72 aL (r.Notes:List Note),ah.held w own]) (F0:=[bm]) [0,1,2,3,4,5,6,7] [0] (fun aG:Value => .tuple #[aG,.bool ((cD c.Val 1))]) (fun aG:Value=>[ah.row 3 aG ((numsL c.Val 1):List Int)]) (fun aG:Value=>[]) rfl rfl rfl pP rfl rfl (fun w own hw H=>gq (c.Val) (1) w own H (by first|assumption|omega|(rw [ByteArray.size_extract];omega))) rfl) fun z2=>?_
        refine R.u 5 rfl<|R.nil ?_
        refine R.reg rfl<|R.u 1 rfl<|R.q (q.not rfl) rfl<|R.u 1 rfl<|?_
        rcases Bool.eq_false_or_eq_true (cD c.Val 1) with h5|h5
        ·
          rw [h5]
          refine R.qg rfl (q.aX (off':=1) rfl d9 rfl) rfl<|R.qg rfl (q.ld 2 rfl rfl cd rfl) rfl<|R.qg rfl (q.kr rfl Tryz.underlying9) rfl<|?_
          by_cases h6:c.Val.size=4
          ·
            refine R.qg rfl (q.neq rfl rfl (bne_eq_false_iff_eq.2 (by omega))) rfl<|R.u 2 rfl<|R.qg rfl (q.aX (off':=0) rfl cM rfl) rfl<|R.qg rfl (q.ld 2 rfl rfl cd rfl) rfl<|R.qg rfl (q.kr rfl Tryz.underlying9) rfl<|?_
            by_cases h7:c.Key.size=3
            ·
              refine R.qg rfl (q.neq rfl rfl (bne_eq_false_iff_eq.2 (by omega))) rfl<|R.u 1 rfl<|R.nil ?_
              refine R.aH rfl rfl ?_
              obtain ⟨y2,hy2⟩:∃z,c.Key.data[1]? = some z:=⟨_,Array.getElem?_eq_getElem (show 1<c.Key.size from by omega)⟩
              have De:=y2.toNat_lt
              obtain ⟨y3,hy3⟩:∃z,c.Key.data[2]? = some z:=⟨_,Array.getElem?_eq_getElem (show 2<c.Key.size from by omega)⟩
              have Df:=y3.toNat_lt
              refine R.fT (fuel:=13) (Wd w (blks [ah.box ki [aM,aJ,aP,aL,.int .i64 r.ae,.int .i64 r.af] 32,ah.row 88 aM (r.aj:List ak),ah.row 62 aJ (r.Things:List ai),ah.row 85 aP (r.Held:List Held),ah.row 72 aL (r.Notes:List Note)]++own) [ah.row 3 z2 (numsL c.Val 1:List Int),ah.row 3 z1 (numsL (c.Key.extract 1 c.Key.size) 1:List Int),ah.box b1 [.string c.Key,.string c.Val,.bool c.Gone] 52,ah.box ki [aM,aJ,aP,aL,.int .i64 r.ae,.int .i64 r.af] 32,ah.row 88 aM (r.aj:List ak),ah.row 62 aJ (r.Things:List ai),ah.row 85 aP (r.Held:List Held),ah.row 72 aL (r.Notes:List Note),ah.held w own] [bm]) rfl mixed rfl ?_
              refine D.q (i:=0) rfl (by kernel_rfl) (fun _=>Wd.aK [0,1,2,3,4,5,6,7,8] [0] rfl rfl rfl) rfl (q.aX (off':=0) rfl cM rfl) rfl<|D.q (i:=1) rfl (by kernel_rfl) (fun _=>Wd.aK [0,1,2,3,4,5,6,7,8] [0] rfl rfl rfl) rfl (q.ld 2 rfl rfl cd rfl) rfl<|D.q (i:=2) rfl (by kernel_rfl) (fun _=>Wd.aK [0,1,2,3,4,5,6,7,8] [0] rfl rfl rfl) rfl (q.yo (i:=1) rfl rfl Tryz.underlying9 rfl hy2) rfl<|D.q (i:=3) rfl (by kernel_rfl) (fun _=>Wd.aK [0,1,2,3,4,5,6,7,8] [0] rfl rfl rfl) rfl (q.Bf (r:=((y2.toNat:Nat):Int)) rfl (by rw [Tryz.underlying5];rfl) Tryz.underlying3 (wr (by omega))) rfl<|D.q (i:=4) rfl (by kernel_rfl) (fun _=>Wd.aK [0,1,2,3,4,5,6,7,8] [0] rfl rfl rfl) rfl (q.sub (r:=(y2.toNat:Int)-48) rfl rfl (wr (by omega))) rfl<|D.q (i:=5) rfl (by kernel_rfl) (fun _=>Wd.aK [0,1,2,3,4,5,6,7,8] [0] rfl rfl rfl) rfl (q.aX (off':=0) rfl cM rfl) rfl<|D.q (i:=6) rfl (by kernel_rfl) (fun _=>Wd.aK [0,1,2,3,4,5,6,7,8] [0] rfl rfl rfl) rfl (q.ld 2 rfl rfl cd rfl) rfl<|D.q (i:=7) rfl (by kernel_rfl) (fun _=>Wd.aK [0,1,2,3,4,5,6,7,8] [0] rfl rfl rfl) rfl (q.yo (i:=2) rfl rfl Tryz.underlying9 rfl hy3) rfl<|D.q (i:=8) rfl (by kernel_rfl) (fun _=>Wd.aK [0,1,2,3,4,5,6,7,8] [0] rfl rfl rfl) rfl (q.Bf (r:=((y3.toNat:Nat):Int)) rfl (by rw [Tryz.underlying5];rfl) Tryz.underlying3 (wr (by omega))) rfl<|D.q (i:=9) rfl (by kernel_rfl) (fun _=>Wd.aK [0,1,2,3,4,5,6,7,8] [0] rfl rfl rfl) rfl (q.sub (r:=(y3.toNat:Int)-48) rfl rfl (wr (by omega))) rfl<|D.q (i:=10) rfl (by kernel_rfl) (fun _=>Wd.aK [0,1,2,3,4,5,6,7,8] [0] rfl rfl rfl) rfl (q.build (cs:=[.int .i64 ((y2.toNat:Int)-48),.int .i64 ((y3.toNat:Int)-48)]) lW rfl rfl) rfl<|?_
              refine D.one (i:=11) (by kernel_rfl) rfl ?_
              refine Do.s (s.alloc (cs:=[.int .i64 0,.int .i64 0]) pK rfl rfl) (fun _=>(fun _=>Wd.aK [1,2,3,4,5,6,7,8,9] [0] rfl rfl rfl)) rfl fun b2=>?_
              refine D.one (i:=12) (by kernel_rfl) rfl ?_
              refine Do.s (s.st (us:=[.int .i64 ((y2.toNat:Int)-48),.int .i64 ((y3.toNat:Int)-48)]) (cs':=[.int .i64 ((y2.toNat:Int)-48),.int .i64 ((y3.toNat:Int)-48)]) 0 _ rfl rfl rfl rfl (.inl bk) rfl rfl rfl rfl) (fun _=>(fun _=>Wd.aK [1,2,3,4,5,6,7,8,9] [0] rfl rfl rfl)) rfl fun _=>?_
              refine D.done (by kernel_rfl)<|?_
              have CU:=jN (s:=c.Val) (m:=1) (by assumption)
              obtain ⟨x1,hx1⟩:∃z,(numsL c.Val 1)[0]? = some z:=⟨_,List.getElem?_eq_getElem (by omega)⟩
              refine R.fT (fuel:=15) (Wd w (blks [ah.box ki [aM,aJ,aP,aL,.int .i64 r.ae,.int .i64 r.af] 32,ah.row 88 aM (r.aj:List ak),ah.row 62 aJ (r.Things:List ai),ah.row 85 aP (r.Held:List Held),ah.row 72 aL (r.Notes:List Note)]++own) [ah.box b2 [.int .i64 ((y2.toNat:Int)-48),.int .i64 ((y3.toNat:Int)-48)] 39,ah.row 3 z2 (numsL c.Val 1:List Int),ah.row 3 z1 (numsL (c.Key.extract 1 c.Key.size) 1:List Int),ah.box b1 [.string c.Key,.string c.Val,.bool c.Gone] 52,ah.row 88 aM (r.aj:List ak),ah.row 62 aJ (r.Things:List ai),ah.row 72 aL (r.Notes:List Note),ah.held w own] [bm]) rfl mixed rfl ?_
              refine D.q (i:=0) rfl (by kernel_rfl) (fun _=>Wd.aK [0,1,2,3,5,6,8,9] [0] rfl rfl rfl) rfl (q.mv rfl) rfl<|D.q (i:=1) rfl (by kernel_rfl) (fun _=>Wd.aK [0,1,2,3,5,6,8,9] [0] rfl rfl rfl) rfl (q.mv rfl) rfl<|D.q (i:=2) rfl (by kernel_rfl) (fun _=>Wd.aK [0,1,2,3,5,6,8,9] [0] rfl rfl rfl) rfl (q.m5 rfl) rfl<|D.q (i:=3) rfl (by kernel_rfl) (fun _=>Wd.aK [0,1,2,3,5,6,8,9] [0] rfl rfl rfl) rfl (q.aX (off':=2) rfl bJ rfl) rfl<|D.q (i:=5) rfl (by kernel_rfl) (fun _=>Wd.aK [0,1,2,3,5,6,8,9] [0] rfl rfl rfl) rfl (q.cF 0 rfl rfl bk) rfl<|D.q (i:=6) rfl (by kernel_rfl) (fun _=>Wd.aK [0,1,2,3,5,6,8,9] [0] rfl rfl rfl) rfl (q.mv rfl) rfl<|D.q (i:=7) rfl (by kernel_rfl) (fun _=>Wd.aK [0,1,2,3,5,6,8,9] [0] rfl rfl rfl) rfl (q.idx (i:=0) (fun _=>Wd.row 1 rfl) rfl rfl cG rfl hx1) rfl<|D.q (i:=8) rfl (by kernel_rfl) (fun _=>Wd.aK [0,1,2,3,5,6,8,9] [0] rfl rfl rfl) rfl (q.hZ (fun _=>Wd.row 1 rfl) hx1 rfl aA rfl) rfl<|D.q (i:=9) rfl (by kernel_rfl) (fun _=>Wd.aK [0,1,2,3,5,6,8,9] [0] rfl rfl rfl) rfl (q.build (cs:=[.int .i64 ((y2.toNat:Int)-48),.int .i64 ((y3.toNat:Int)-48),.int .i64 x1]) xH rfl rfl) rfl<|?_
              refine D.two (i:=4) (j:=10) (by kernel_rfl) rfl rfl ?_ ?_
              ·
                refine Do.s (s.c (Qt.a (q.ld 4 rfl rfl cw rfl)) rfl) (fun _=>(fun _=>Wd.aK [0,1,2,3,5,6,8,9] [0] rfl rfl rfl)) rfl fun _=>?_
                refine D.one (i:=10) (by kernel_rfl) rfl ?_
                refine Do.s (s.bs (l:=([(⟨(⟨((y2.toNat:Int)-48),((y3.toNat:Int)-48)⟩:Place),x1⟩:Held)]:List Held)) bH eV rfl rfl rfl rfl rfl rfl rfl) (fun _=>(fun _=>Wd.aK [1,2,3,4,6,7,9,10] [0] rfl rfl rfl)) rfl fun b3=>?_
                refine D.one (i:=11) (by kernel_rfl) rfl ?_
                refine Do.s (s.app (l2:=[(⟨(⟨((y2.toNat:Int)-48),((y3.toNat:Int)-48)⟩:Place),x1⟩:Held)]) 8 _ rfl rfl rfl (fun _=>Wd.row 0 rfl) iT (by first|omega|(simp;done)|(simp;omega)) (by first|omega|(simp;done)|(simp;omega)) (fun _=>rfl) rfl) (fun _=>(fun _=>Wd.aK [1,2,3,4,6,7,9,10] [0] rfl rfl rfl)) rfl fun v1=>?_
                refine D.q (i:=12) rfl (by kernel_rfl) (fun _=>Wd.aK [1,2,3,4,6,7,9,10] [0] rfl rfl rfl) rfl (q.m5 rfl) rfl<|D.q (i:=13) rfl (by kernel_rfl) (fun _=>Wd.aK [1,2,3,4,6,7,9,10] [0] rfl rfl rfl) rfl (q.aX (off':=2) rfl bJ rfl) rfl<|?_
                refine D.one (i:=14) (by kernel_rfl) rfl ?_
                refine Do.s (s.eH (us:=[v1]) (cs':=[aM,aJ,v1,aL,.int .i64 r.ae,.int .i64 r.af]) 5 _ rfl rfl rfl (fun w hw=>Sl.cr ((fun _=>Wd.row 8 rfl) w hw)) (.inr ⟨cw,rfl⟩) (fun w hw=>(ao (Sl.one ((fun _=>Wd.row 8 rfl) w hw)) aO)) rfl rfl rfl) (fun _=>(fun _=>Wd.aK [1,2,3,4,6,7,9,10] [0] rfl rfl rfl)) rfl fun _=>?_
                refine D.done (by kernel_rfl)<|?_
                refine R.reg rfl<|R.q (q.cF 1 rfl rfl bk) rfl<|R.c (q.call su rfl rfl (fun w hw=>(fI ((⟨((y2.toNat:Int)-48),((y3.toNat:Int)-48)⟩:Place)) w  ))) rfl<|?_
                by_cases h8:aW (⟨((y2.toNat:Int)-48),((y3.toNat:Int)-48)⟩:Place)=0
                ·
                  refine R.q (q.lU rfl rfl Tryz.underlying35 (by omega)) rfl<|R.u 1 rfl<|R.nil ?_
                  have hz:rowP r c=((⟨r.aj,r.Things,(r.Held++([(⟨(⟨((y2.toNat:Int)-48),((y3.toNat:Int)-48)⟩:Place),x1⟩:Held)])),r.Notes,r.ae,r.af⟩:au),true):=by (first|exact qE (by assumption) hy1 (by omega) (by assumption) (by omega) (by omega) hy2 hy3 (by assumption) (decide_eq_true (by assumption)).symm|exact qE (by assumption) hy1 (by omega) (by assumption) (by omega) (by omega) hy2 hy3 (by assumption) (decide_eq_false (by assumption)).symm)
                  rw [hz]
                  exact R.w1 (aM,aJ,v1,aL) [5,6,7,8,9,10] [] rfl Tryz.results50 (RV.tmp rfl) rfl rfl rfl rfl
                ·
                  refine R.q (q.pF rfl rfl Tryz.underlying35 (by omega)) rfl<|R.u 1 rfl<|R.nil ?_
                  have hz:rowP r c=((⟨r.aj,r.Things,(r.Held++([(⟨(⟨((y2.toNat:Int)-48),((y3.toNat:Int)-48)⟩:Place),x1⟩:Held)])),r.Notes,r.ae,r.af⟩:au),false):=by (first|exact qE (by assumption) hy1 (by omega) (by assumption) (by omega) (by omega) hy2 hy3 (by assumption) (decide_eq_true (by assumption)).symm|exact qE (by assumption) hy1 (by omega) (by assumption) (by omega) (by omega) hy2 hy3 (by assumption) (decide_eq_false (by assumption)).symm)
                  rw [hz]
                  exact R.w1 (aM,aJ,v1,aL) [5,6,7,8,9,10] [] rfl Tryz.results50 (RV.tmp rfl) rfl rfl rfl rfl
              ·
                refine Do.s (s.bs (l:=([(⟨(⟨((y2.toNat:Int)-48),((y3.toNat:Int)-48)⟩:Place),x1⟩:Held)]:List Held)) bH eV rfl rfl rfl rfl rfl rfl rfl) (fun _=>(fun _=>Wd.aK [1,2,3,4,6,7,9,10] [0] rfl rfl rfl)) rfl fun b4=>?_
                refine D.one (i:=4) (by kernel_rfl) rfl ?_
                refine Do.s (s.c (Qt.a (q.ld 5 rfl rfl cw rfl)) rfl) (fun _=>(fun _=>Wd.aK [1,2,3,4,6,7,9,10] [0] rfl rfl rfl)) rfl fun _=>?_
                refine D.one (i:=11) (by kernel_rfl) rfl ?_
                refine Do.s (s.app (l2:=[(⟨(⟨((y2.toNat:Int)-48),((y3.toNat:Int)-48)⟩:Place),x1⟩:Held)]) 8 _ rfl rfl rfl (fun _=>Wd.row 0 rfl) iT (by first|omega|(simp;done)|(simp;omega)) (by first|omega|(simp;done)|(simp;omega)) (fun _=>rfl) rfl) (fun _=>(fun _=>Wd.aK [1,2,3,4,6,7,9,10] [0] rfl rfl rfl)) rfl fun v2=>?_
                refine D.q (i:=12) rfl (by kernel_rfl) (fun _=>Wd.aK [1,2,3,4,6,7,9,10] [0] rfl rfl rfl) rfl (q.m5 rfl) rfl<|D.q (i:=13) rfl (by kernel_rfl) (fun _=>Wd.aK [1,2,3,4,6,7,9,10] [0] rfl rfl rfl) rfl (q.aX (off':=2) rfl bJ rfl) rfl<|?_
                refine D.one (i:=14) (by kernel_rfl) rfl ?_
                refine Do.s (s.eH (us:=[v2]) (cs':=[aM,aJ,v2,aL,.int .i64 r.ae,.int .i64 r.af]) 5 _ rfl rfl rfl (fun w hw=>Sl.cr ((fun _=>Wd.row 8 rfl) w hw)) (.inr ⟨cw,rfl⟩) (fun w hw=>(ao (Sl.one ((fun _=>Wd.row 8 rfl) w hw)) aO)) rfl rfl rfl) (fun _=>(fun _=>Wd.aK [1,2,3,4,6,7,9,10] [0] rfl rfl rfl)) rfl fun _=>?_
                refine D.done (by kernel_rfl)<|?_
                refine R.reg rfl<|R.q (q.cF 1 rfl rfl bk) rfl<|R.c (q.call su rfl rfl (fun w hw=>(fI ((⟨((y2.toNat:Int)-48),((y3.toNat:Int)-48)⟩:Place)) w  ))) rfl<|?_
                by_cases h9:aW (⟨((y2.toNat:Int)-48),((y3.toNat:Int)-48)⟩:Place)=0
                ·
                  refine R.q (q.lU rfl rfl Tryz.underlying35 (by omega)) rfl<|R.u 1 rfl<|R.nil ?_
                  have hz:rowP r c=((⟨r.aj,r.Things,(r.Held++([(⟨(⟨((y2.toNat:Int)-48),((y3.toNat:Int)-48)⟩:Place),x1⟩:Held)])),r.Notes,r.ae,r.af⟩:au),true):=by (first|exact qE (by assumption) hy1 (by omega) (by assumption) (by omega) (by omega) hy2 hy3 (by assumption) (decide_eq_true (by assumption)).symm|exact qE (by assumption) hy1 (by omega) (by assumption) (by omega) (by omega) hy2 hy3 (by assumption) (decide_eq_false (by assumption)).symm)
                  rw [hz]
                  exact R.w1 (aM,aJ,v2,aL) [5,6,7,8,9,10] [] rfl Tryz.results50 (RV.tmp rfl) rfl rfl rfl rfl
                ·
                  refine R.q (q.pF rfl rfl Tryz.underlying35 (by omega)) rfl<|R.u 1 rfl<|R.nil ?_
                  have hz:rowP r c=((⟨r.aj,r.Things,(r.Held++([(⟨(⟨((y2.toNat:Int)-48),((y3.toNat:Int)-48)⟩:Place),x1⟩:Held)])),r.Notes,r.ae,r.af⟩:au),false):=by (first|exact qE (by assumption) hy1 (by omega) (by assumption) (by omega) (by omega) hy2 hy3 (by assumption) (decide_eq_true (by assumption)).symm|exact qE (by assumption) hy1 (by omega) (by assumption) (by omega) (by omega) hy2 hy3 (by assumption) (decide_eq_false (by assumption)).symm)
                  rw [hz]
                  exact R.w1 (aM,aJ,v2,aL) [5,6,7,8,9,10] [] rfl Tryz.results50 (RV.tmp rfl) rfl rfl rfl rfl
            ·
              refine R.qg rfl (q.neq rfl rfl (bne_iff_ne.2 (by omega))) rfl<|R.u 1 rfl<|R.nil ?_
              refine R.aE rfl rfl ?_
              refine R.reg rfl<|R.u 1 rfl<|R.nil ?_
              have hz:rowP r c=(r,false):=by (first|exact gA (by assumption) hy1 (by omega) (.inl (by assumption))|exact gA (by assumption) hy1 (by omega) (.inr (.inl (by omega)))|exact gA (by assumption) hy1 (by omega) (.inr (.inr (by omega))))
              rw [hz]
              exact R.w1 (aM,aJ,aP,aL) [3,4,5,6,7,8] [] rfl Tryz.results50 (RV.tmp rfl) rfl rfl rfl rfl
          ·
            refine R.qg rfl (q.neq rfl rfl (bne_iff_ne.2 (by omega))) rfl<|R.u 7 rfl<|R.nil ?_
            refine R.aE rfl rfl ?_
            refine R.reg rfl<|R.u 1 rfl<|R.nil ?_
            have hz:rowP r c=(r,false):=by (first|exact gA (by assumption) hy1 (by omega) (.inl (by assumption))|exact gA (by assumption) hy1 (by omega) (.inr (.inl (by omega)))|exact gA (by assumption) hy1 (by omega) (.inr (.inr (by omega))))
            rw [hz]
            exact R.w1 (aM,aJ,aP,aL) [3,4,5,6,7,8] [] rfl Tryz.results50 (RV.tmp rfl) rfl rfl rfl rfl
        ·
          rw [h5]
          refine R.u 11 rfl<|R.nil ?_
          refine R.aE rfl rfl ?_
          refine R.reg rfl<|R.u 1 rfl<|R.nil ?_
          have hz:rowP r c=(r,false):=by (first|exact gA (by assumption) hy1 (by omega) (.inl (by assumption))|exact gA (by assumption) hy1 (by omega) (.inr (.inl (by omega)))|exact gA (by assumption) hy1 (by omega) (.inr (.inr (by omega))))
          rw [hz]
          exact R.w1 (aM,aJ,aP,aL) [3,4,5,6,7,8] [] rfl Tryz.results50 (RV.tmp rfl) rfl rfl rfl rfl
      ·
        refine R.q (q.eql rfl rfl (beq_eq_false_iff_ne.2 (by omega))) rfl<|R.u 1 rfl<|R.nil ?_
        refine R.aH rfl rfl ?_
        refine R.reg rfl<|?_
        by_cases h10:y1.toNat=116
        ·
          refine R.q (q.eql rfl rfl (beq_iff_eq.2 (by omega))) rfl<|R.u 1 rfl<|R.nil ?_
          refine R.aE rfl rfl ?_
          refine R.reg rfl<|R.q (q.aX (off':=1) rfl d9 rfl) rfl<|R.q (q.ld 1 rfl rfl cd rfl) rfl<|?_
          refine R.s (B':=(fun aG:Value=>[ah.row 3 aG ((numsL c.Val 1):List Int),ah.row 3 z1 (numsL (c.Key.extract 1 c.Key.size) 1:List Int),ah.box b1 [.string c.Key,.string c.Val,.bool c.Gone] 52,ah.box ki [aM,aJ,aP,aL,.int .i64 r.ae,.int .i64 r.af] 32,ah.row 88 aM (r.aj:List ak),ah.row 62 aJ (r.Things:List ai),ah.row 85 aP (r.Held:List Held),ah.row 72 aL (r.Notes:List Note),ah.held w own])) (F':=(fun aG:Value=>[bm])) rfl (s.bA (B0:=[]) (Br:=[ah.row 3 z1 (numsL (c.Key.extract 1 c.Key.size) 1:List Int),ah.box b1 [.string c.Key,.string c.Val,.bool c.Gone] 52,ah.box ki [aM,aJ,aP,aL,.int .i64 r.ae,.int .i64 r.af] 32,ah.row 88 aM (r.aj:List ak),ah.row 62 aJ (r.Things:List ai),ah.row 85 aP (r.Held:List Held),ah.row 72 aL (r.Notes:List Note),ah.held w own]) (F0:=[bm]) [0,1,2,3,4,5,6,7] [0] (fun aG:Value => .tuple #[aG,.bool ((cD c.Val 1))]) (fun aG:Value=>[ah.row 3 aG ((numsL c.Val 1):List Int)]) (fun aG:Value=>[]) rfl rfl rfl pP rfl rfl (fun w own hw H=>gq (c.Val) (1) w own H (by first|assumption|omega|(rw [ByteArray.size_extract];omega))) rfl) fun z3=>?_
          refine R.u 5 rfl<|R.nil ?_
          refine R.reg rfl<|R.u 1 rfl<|R.q (q.not rfl) rfl<|R.u 1 rfl<|?_
          cases b
          ·
            refine R.u 9 rfl<|R.nil ?_
            refine R.aE rfl rfl ?_
            refine R.reg rfl<|R.u 1 rfl<|R.nil ?_
            have hz:rowP r c=(r,false):=by (first|exact gB (by assumption) hy1 (by omega) (.inl hC.symm)|exact gB (by assumption) hy1 (by omega) (.inr (.inl (by assumption)))|exact gB (by assumption) hy1 (by omega) (.inr (.inr (by omega))))
            rw [hz]
            exact R.w1 (aM,aJ,aP,aL) [3,4,5,6,7,8] [] rfl Tryz.results50 (RV.tmp rfl) rfl rfl rfl rfl
          ·
            refine R.u 1 rfl<|R.qg rfl (q.not rfl) rfl<|R.u 2 rfl<|?_
            rcases Bool.eq_false_or_eq_true (cD c.Val 1) with h11|h11
            ·
              rw [h11]
              refine R.qg rfl (q.aX (off':=1) rfl d9 rfl) rfl<|R.qg rfl (q.ld 2 rfl rfl cd rfl) rfl<|R.qg rfl (q.kr rfl Tryz.underlying9) rfl<|?_
              by_cases h12:12<c.Val.size
              ·
                refine R.qg rfl (q.gtr rfl rfl (decide_eq_true (by omega))) rfl<|R.u 1 rfl<|R.nil ?_
                refine R.aE rfl rfl ?_
                refine R.reg rfl<|R.u 1 rfl<|R.nil ?_
                have hz:rowP r c=(r,false):=by (first|exact gB (by assumption) hy1 (by omega) (.inl hC.symm)|exact gB (by assumption) hy1 (by omega) (.inr (.inl (by assumption)))|exact gB (by assumption) hy1 (by omega) (.inr (.inr (by omega))))
                rw [hz]
                exact R.w1 (aM,aJ,aP,aL) [3,4,5,6,7,8] [] rfl Tryz.results50 (RV.tmp rfl) rfl rfl rfl rfl
              ·
                refine R.qg rfl (q.gtr rfl rfl (decide_eq_false (by omega))) rfl<|R.u 1 rfl<|R.nil ?_
                refine R.aH rfl rfl ?_
                have ek:=v8 (c:=c) hC.symm
                have CU:=jN (s:=c.Val) (m:=1) (by assumption)
                obtain ⟨x2,hx2⟩:∃z,(numsL (c.Key.extract 1 c.Key.size) 1)[0]? = some z:=⟨_,List.getElem?_eq_getElem (by omega)⟩
                obtain ⟨x3,hx3⟩:∃z,(numsL c.Val 1)[0]? = some z:=⟨_,List.getElem?_eq_getElem (by omega)⟩
                refine R.fT (fuel:=20) (Wd w (blks [ah.box ki [aM,aJ,aP,aL,.int .i64 r.ae,.int .i64 r.af] 32,ah.row 88 aM (r.aj:List ak),ah.row 62 aJ (r.Things:List ai),ah.row 85 aP (r.Held:List Held),ah.row 72 aL (r.Notes:List Note)]++own) [ah.row 3 z3 (numsL c.Val 1:List Int),ah.row 3 z1 (numsL (c.Key.extract 1 c.Key.size) 1:List Int),ah.box b1 [.string c.Key,.string c.Val,.bool c.Gone] 52,ah.row 88 aM (r.aj:List ak),ah.row 85 aP (r.Held:List Held),ah.row 72 aL (r.Notes:List Note),ah.held w own] [bm]) rfl mixed rfl ?_
                refine D.q (i:=0) rfl (by kernel_rfl) (fun _=>Wd.aK [0,1,2,4,6,7,8] [0] rfl rfl rfl) rfl (q.mv rfl) rfl<|D.q (i:=1) rfl (by kernel_rfl) (fun _=>Wd.aK [0,1,2,4,6,7,8] [0] rfl rfl rfl) rfl (q.mv rfl) rfl<|D.q (i:=2) rfl (by kernel_rfl) (fun _=>Wd.aK [0,1,2,4,6,7,8] [0] rfl rfl rfl) rfl (q.m5 rfl) rfl<|D.q (i:=3) rfl (by kernel_rfl) (fun _=>Wd.aK [0,1,2,4,6,7,8] [0] rfl rfl rfl) rfl (q.aX (off':=1) rfl bI rfl) rfl<|D.q (i:=5) rfl (by kernel_rfl) (fun _=>Wd.aK [0,1,2,4,6,7,8] [0] rfl rfl rfl) rfl (q.mv rfl) rfl<|D.q (i:=6) rfl (by kernel_rfl) (fun _=>Wd.aK [0,1,2,4,6,7,8] [0] rfl rfl rfl) rfl (q.idx (i:=0) (fun _=>Wd.row 1 rfl) rfl rfl cG rfl hx2) rfl<|D.q (i:=7) rfl (by kernel_rfl) (fun _=>Wd.aK [0,1,2,4,6,7,8] [0] rfl rfl rfl) rfl (q.hZ (fun _=>Wd.row 1 rfl) hx2 rfl aA rfl) rfl<|D.q (i:=8) rfl (by kernel_rfl) (fun _=>Wd.aK [0,1,2,4,6,7,8] [0] rfl rfl rfl) rfl (q.mv rfl) rfl<|D.q (i:=9) rfl (by kernel_rfl) (fun _=>Wd.aK [0,1,2,4,6,7,8] [0] rfl rfl rfl) rfl (q.idx (i:=0) (fun _=>Wd.row 0 rfl) rfl rfl cG rfl hx3) rfl<|D.q (i:=10) rfl (by kernel_rfl) (fun _=>Wd.aK [0,1,2,4,6,7,8] [0] rfl rfl rfl) rfl (q.hZ (fun _=>Wd.row 0 rfl) hx3 rfl aA rfl) rfl<|D.q (i:=11) rfl (by kernel_rfl) (fun _=>Wd.aK [0,1,2,4,6,7,8] [0] rfl rfl rfl) rfl (q.aX (off':=1) rfl d9 rfl) rfl<|D.q (i:=12) rfl (by kernel_rfl) (fun _=>Wd.aK [0,1,2,4,6,7,8] [0] rfl rfl rfl) rfl (q.ld 2 rfl rfl cd rfl) rfl<|D.q (i:=13) rfl (by kernel_rfl) (fun _=>Wd.aK [0,1,2,4,6,7,8] [0] rfl rfl rfl) rfl (q.xG (i:=4) rfl rfl Tryz.underlying9 rfl (by omega)) rfl<|D.q (i:=14) rfl (by kernel_rfl) (fun _=>Wd.aK [0,1,2,4,6,7,8] [0] rfl rfl rfl) rfl (q.build (cs:=[.int .i64 x2,.int .i64 x3,.string (c.Val.extract 4 c.Val.size)]) uA rfl rfl) rfl<|?_
                refine D.two (i:=4) (j:=15) (by kernel_rfl) rfl rfl ?_ ?_
                ·
                  refine Do.s (s.c (Qt.a (q.ld 3 rfl rfl cu rfl)) rfl) (fun _=>(fun _=>Wd.aK [0,1,2,4,6,7,8] [0] rfl rfl rfl)) rfl fun _=>?_
                  refine D.one (i:=15) (by kernel_rfl) rfl ?_
                  refine Do.s (s.bs (l:=([(⟨x2,x3,(c.Val.extract 4 c.Val.size)⟩:ai)]:List ai)) eQ fE rfl rfl rfl rfl rfl rfl rfl) (fun _=>(fun _=>Wd.aK [1,2,3,5,7,8,9] [0] rfl rfl rfl)) rfl fun b5=>?_
                  refine D.one (i:=16) (by kernel_rfl) rfl ?_
                  refine Do.s (s.app (l2:=[(⟨x2,x3,(c.Val.extract 4 c.Val.size)⟩:ai)]) 6 _ rfl rfl rfl (fun _=>Wd.row 0 rfl) kZ (by first|omega|(simp;done)|(simp;omega)) (by first|omega|(simp;done)|(simp;omega)) (fun _=>rfl) rfl) (fun _=>(fun _=>Wd.aK [1,2,3,5,7,8,9] [0] rfl rfl rfl)) rfl fun v3=>?_
                  refine D.q (i:=17) rfl (by kernel_rfl) (fun _=>Wd.aK [1,2,3,5,7,8,9] [0] rfl rfl rfl) rfl (q.m5 rfl) rfl<|D.q (i:=18) rfl (by kernel_rfl) (fun _=>Wd.aK [1,2,3,5,7,8,9] [0] rfl rfl rfl) rfl (q.aX (off':=1) rfl bI rfl) rfl<|?_
                  refine D.one (i:=19) (by kernel_rfl) rfl ?_
                  refine Do.s (s.eH (us:=[v3]) (cs':=[aM,v3,aP,aL,.int .i64 r.ae,.int .i64 r.af]) 4 _ rfl rfl rfl (fun w hw=>Sl.cr ((fun _=>Wd.row 6 rfl) w hw)) (.inr ⟨cu,rfl⟩) (fun w hw=>(ao (Sl.one ((fun _=>Wd.row 6 rfl) w hw)) aO)) rfl rfl rfl) (fun _=>(fun _=>Wd.aK [1,2,3,5,7,8,9] [0] rfl rfl rfl)) rfl fun _=>?_
                  refine D.done (by kernel_rfl)<|?_
                  refine R.reg rfl<|R.u 1 rfl<|R.q (q.idx (i:=0) (fun _=>Wd.row 1 rfl) rfl rfl cG rfl hx3) rfl<|R.q (q.hZ (fun _=>Wd.row 1 rfl) hx3 rfl aA rfl) rfl<|?_
                  by_cases CV:x3=1
                  ·
                    refine R.q (q.eql rfl rfl (beq_iff_eq.2 (by omega))) rfl<|R.u 13 rfl<|R.nil ?_
                    have hz:rowP r c=((⟨r.aj,(r.Things++([(⟨x2,x3,(c.Val.extract 4 c.Val.size)⟩:ai)])),r.Held,r.Notes,r.ae,r.af⟩:au),true):=by (first|exact ka (by assumption) hy1 (by omega) hC.symm (by assumption) (by omega) (by assumption) (by assumption) (decide_eq_true (by omega)).symm|exact ka (by assumption) hy1 (by omega) hC.symm (by assumption) (by omega) (by assumption) (by assumption) (decide_eq_false (by omega)).symm)
                    rw [hz]
                    exact R.w1 (aM,v3,aP,aL) [4,5,6,7,8,9] [] rfl Tryz.results50 (RV.tmp rfl) rfl rfl rfl rfl
                  ·
                    refine R.q (q.eql rfl rfl (beq_eq_false_iff_ne.2 (by omega))) rfl<|R.u 2 rfl<|R.qg rfl (q.idx (i:=0) (fun _=>Wd.row 1 rfl) rfl rfl cG rfl hx3) rfl<|R.qg rfl (q.hZ (fun _=>Wd.row 1 rfl) hx3 rfl aA rfl) rfl<|?_
                    by_cases CW:x3=2
                    ·
                      refine R.qg rfl (q.eql rfl rfl (beq_iff_eq.2 (by omega))) rfl<|R.u 1 rfl<|R.qg rfl (q.aX (off':=1) rfl d9 rfl) rfl<|R.qg rfl (q.ld 3 rfl rfl cd rfl) rfl<|R.qg rfl (q.kr rfl Tryz.underlying9) rfl<|?_
                      by_cases CX:c.Val.size=4
                      ·
                        refine R.qg rfl (q.eql rfl rfl (beq_iff_eq.2 (by omega))) rfl<|R.u 3 rfl<|R.nil ?_
                        have hz:rowP r c=((⟨r.aj,(r.Things++([(⟨x2,x3,(c.Val.extract 4 c.Val.size)⟩:ai)])),r.Held,r.Notes,r.ae,r.af⟩:au),true):=by (first|exact ka (by assumption) hy1 (by omega) hC.symm (by assumption) (by omega) (by assumption) (by assumption) (decide_eq_true (by omega)).symm|exact ka (by assumption) hy1 (by omega) hC.symm (by assumption) (by omega) (by assumption) (by assumption) (decide_eq_false (by omega)).symm)
                        rw [hz]
                        exact R.w1 (aM,v3,aP,aL) [4,5,6,7,8,9] [] rfl Tryz.results50 (RV.tmp rfl) rfl rfl rfl rfl
                      ·
                        refine R.qg rfl (q.eql rfl rfl (beq_eq_false_iff_ne.2 (by omega))) rfl<|R.u 3 rfl<|R.nil ?_
                        have hz:rowP r c=((⟨r.aj,(r.Things++([(⟨x2,x3,(c.Val.extract 4 c.Val.size)⟩:ai)])),r.Held,r.Notes,r.ae,r.af⟩:au),false):=by (first|exact ka (by assumption) hy1 (by omega) hC.symm (by assumption) (by omega) (by assumption) (by assumption) (decide_eq_true (by omega)).symm|exact ka (by assumption) hy1 (by omega) hC.symm (by assumption) (by omega) (by assumption) (by assumption) (decide_eq_false (by omega)).symm)
                        rw [hz]
                        exact R.w1 (aM,v3,aP,aL) [4,5,6,7,8,9] [] rfl Tryz.results50 (RV.tmp rfl) rfl rfl rfl rfl
                    ·
                      refine R.qg rfl (q.eql rfl rfl (beq_eq_false_iff_ne.2 (by omega))) rfl<|R.u 8 rfl<|R.nil ?_
                      have hz:rowP r c=((⟨r.aj,(r.Things++([(⟨x2,x3,(c.Val.extract 4 c.Val.size)⟩:ai)])),r.Held,r.Notes,r.ae,r.af⟩:au),false):=by (first|exact ka (by assumption) hy1 (by omega) hC.symm (by assumption) (by omega) (by assumption) (by assumption) (decide_eq_true (by omega)).symm|exact ka (by assumption) hy1 (by omega) hC.symm (by assumption) (by omega) (by assumption) (by assumption) (decide_eq_false (by omega)).symm)
                      rw [hz]
                      exact R.w1 (aM,v3,aP,aL) [4,5,6,7,8,9] [] rfl Tryz.results50 (RV.tmp rfl) rfl rfl rfl rfl
                ·
                  refine Do.s (s.bs (l:=([(⟨x2,x3,(c.Val.extract 4 c.Val.size)⟩:ai)]:List ai)) eQ fE rfl rfl rfl rfl rfl rfl rfl) (fun _=>(fun _=>Wd.aK [1,2,3,5,7,8,9] [0] rfl rfl rfl)) rfl fun b6=>?_
                  refine D.one (i:=4) (by kernel_rfl) rfl ?_
                  refine Do.s (s.c (Qt.a (q.ld 4 rfl rfl cu rfl)) rfl) (fun _=>(fun _=>Wd.aK [1,2,3,5,7,8,9] [0] rfl rfl rfl)) rfl fun _=>?_
                  refine D.one (i:=16) (by kernel_rfl) rfl ?_
                  refine Do.s (s.app (l2:=[(⟨x2,x3,(c.Val.extract 4 c.Val.size)⟩:ai)]) 6 _ rfl rfl rfl (fun _=>Wd.row 0 rfl) kZ (by first|omega|(simp;done)|(simp;omega)) (by first|omega|(simp;done)|(simp;omega)) (fun _=>rfl) rfl) (fun _=>(fun _=>Wd.aK [1,2,3,5,7,8,9] [0] rfl rfl rfl)) rfl fun v4=>?_
                  refine D.q (i:=17) rfl (by kernel_rfl) (fun _=>Wd.aK [1,2,3,5,7,8,9] [0] rfl rfl rfl) rfl (q.m5 rfl) rfl<|D.q (i:=18) rfl (by kernel_rfl) (fun _=>Wd.aK [1,2,3,5,7,8,9] [0] rfl rfl rfl) rfl (q.aX (off':=1) rfl bI rfl) rfl<|?_
                  refine D.one (i:=19) (by kernel_rfl) rfl ?_
                  refine Do.s (s.eH (us:=[v4]) (cs':=[aM,v4,aP,aL,.int .i64 r.ae,.int .i64 r.af]) 4 _ rfl rfl rfl (fun w hw=>Sl.cr ((fun _=>Wd.row 6 rfl) w hw)) (.inr ⟨cu,rfl⟩) (fun w hw=>(ao (Sl.one ((fun _=>Wd.row 6 rfl) w hw)) aO)) rfl rfl rfl) (fun _=>(fun _=>Wd.aK [1,2,3,5,7,8,9] [0] rfl rfl rfl)) rfl fun _=>?_
                  refine D.done (by kernel_rfl)<|?_
                  refine R.reg rfl<|R.u 1 rfl<|R.q (q.idx (i:=0) (fun _=>Wd.row 1 rfl) rfl rfl cG rfl hx3) rfl<|R.q (q.hZ (fun _=>Wd.row 1 rfl) hx3 rfl aA rfl) rfl<|?_
                  by_cases h16:x3=1
                  ·
                    refine R.q (q.eql rfl rfl (beq_iff_eq.2 (by omega))) rfl<|R.u 13 rfl<|R.nil ?_
                    have hz:rowP r c=((⟨r.aj,(r.Things++([(⟨x2,x3,(c.Val.extract 4 c.Val.size)⟩:ai)])),r.Held,r.Notes,r.ae,r.af⟩:au),true):=by (first|exact ka (by assumption) hy1 (by omega) hC.symm (by assumption) (by omega) (by assumption) (by assumption) (decide_eq_true (by omega)).symm|exact ka (by assumption) hy1 (by omega) hC.symm (by assumption) (by omega) (by assumption) (by assumption) (decide_eq_false (by omega)).symm)
                    rw [hz]
                    exact R.w1 (aM,v4,aP,aL) [4,5,6,7,8,9] [] rfl Tryz.results50 (RV.tmp rfl) rfl rfl rfl rfl
                  ·
                    refine R.q (q.eql rfl rfl (beq_eq_false_iff_ne.2 (by omega))) rfl<|R.u 2 rfl<|R.qg rfl (q.idx (i:=0) (fun _=>Wd.row 1 rfl) rfl rfl cG rfl hx3) rfl<|R.qg rfl (q.hZ (fun _=>Wd.row 1 rfl) hx3 rfl aA rfl) rfl<|?_
                    by_cases CY:x3=2
                    ·
                      refine R.qg rfl (q.eql rfl rfl (beq_iff_eq.2 (by omega))) rfl<|R.u 1 rfl<|R.qg rfl (q.aX (off':=1) rfl d9 rfl) rfl<|R.qg rfl (q.ld 3 rfl rfl cd rfl) rfl<|R.qg rfl (q.kr rfl Tryz.underlying9) rfl<|?_
                      by_cases h18:c.Val.size=4
                      ·
                        refine R.qg rfl (q.eql rfl rfl (beq_iff_eq.2 (by omega))) rfl<|R.u 3 rfl<|R.nil ?_
                        have hz:rowP r c=((⟨r.aj,(r.Things++([(⟨x2,x3,(c.Val.extract 4 c.Val.size)⟩:ai)])),r.Held,r.Notes,r.ae,r.af⟩:au),true):=by (first|exact ka (by assumption) hy1 (by omega) hC.symm (by assumption) (by omega) (by assumption) (by assumption) (decide_eq_true (by omega)).symm|exact ka (by assumption) hy1 (by omega) hC.symm (by assumption) (by omega) (by assumption) (by assumption) (decide_eq_false (by omega)).symm)
                        rw [hz]
                        exact R.w1 (aM,v4,aP,aL) [4,5,6,7,8,9] [] rfl Tryz.results50 (RV.tmp rfl) rfl rfl rfl rfl
                      ·
                        refine R.qg rfl (q.eql rfl rfl (beq_eq_false_iff_ne.2 (by omega))) rfl<|R.u 3 rfl<|R.nil ?_
                        have hz:rowP r c=((⟨r.aj,(r.Things++([(⟨x2,x3,(c.Val.extract 4 c.Val.size)⟩:ai)])),r.Held,r.Notes,r.ae,r.af⟩:au),false):=by (first|exact ka (by assumption) hy1 (by omega) hC.symm (by assumption) (by omega) (by assumption) (by assumption) (decide_eq_true (by omega)).symm|exact ka (by assumption) hy1 (by omega) hC.symm (by assumption) (by omega) (by assumption) (by assumption) (decide_eq_false (by omega)).symm)
                        rw [hz]
                        exact R.w1 (aM,v4,aP,aL) [4,5,6,7,8,9] [] rfl Tryz.results50 (RV.tmp rfl) rfl rfl rfl rfl
                    ·
                      refine R.qg rfl (q.eql rfl rfl (beq_eq_false_iff_ne.2 (by omega))) rfl<|R.u 8 rfl<|R.nil ?_
                      have hz:rowP r c=((⟨r.aj,(r.Things++([(⟨x2,x3,(c.Val.extract 4 c.Val.size)⟩:ai)])),r.Held,r.Notes,r.ae,r.af⟩:au),false):=by (first|exact ka (by assumption) hy1 (by omega) hC.symm (by assumption) (by omega) (by assumption) (by assumption) (decide_eq_true (by omega)).symm|exact ka (by assumption) hy1 (by omega) hC.symm (by assumption) (by omega) (by assumption) (by assumption) (decide_eq_false (by omega)).symm)
                      rw [hz]
                      exact R.w1 (aM,v4,aP,aL) [4,5,6,7,8,9] [] rfl Tryz.results50 (RV.tmp rfl) rfl rfl rfl rfl
            ·
              rw [h11]
              refine R.u 5 rfl<|R.nil ?_
              refine R.aE rfl rfl ?_
              refine R.reg rfl<|R.u 1 rfl<|R.nil ?_
              have hz:rowP r c=(r,false):=by (first|exact gB (by assumption) hy1 (by omega) (.inl hC.symm)|exact gB (by assumption) hy1 (by omega) (.inr (.inl (by assumption)))|exact gB (by assumption) hy1 (by omega) (.inr (.inr (by omega))))
              rw [hz]
              exact R.w1 (aM,aJ,aP,aL) [3,4,5,6,7,8] [] rfl Tryz.results50 (RV.tmp rfl) rfl rfl rfl rfl
        ·
          refine R.q (q.eql rfl rfl (beq_eq_false_iff_ne.2 (by omega))) rfl<|R.u 1 rfl<|R.nil ?_
          refine R.aH rfl rfl ?_
          refine R.reg rfl<|?_
          by_cases h19:y1.toNat=119
          ·
            refine R.q (q.eql rfl rfl (beq_iff_eq.2 (by omega))) rfl<|R.u 1 rfl<|R.nil ?_
            refine R.aE rfl rfl ?_
            refine R.reg rfl<|R.q (q.aX (off':=1) rfl d9 rfl) rfl<|R.q (q.ld 1 rfl rfl cd rfl) rfl<|?_
            refine R.s (B':=(fun aG:Value=>[ah.row 3 aG ((numsL c.Val 4):List Int),ah.row 3 z1 (numsL (c.Key.extract 1 c.Key.size) 1:List Int),ah.box b1 [.string c.Key,.string c.Val,.bool c.Gone] 52,ah.box ki [aM,aJ,aP,aL,.int .i64 r.ae,.int .i64 r.af] 32,ah.row 88 aM (r.aj:List ak),ah.row 62 aJ (r.Things:List ai),ah.row 85 aP (r.Held:List Held),ah.row 72 aL (r.Notes:List Note),ah.held w own])) (F':=(fun aG:Value=>[bm])) rfl (s.bA (B0:=[]) (Br:=[ah.row 3 z1 (numsL (c.Key.extract 1 c.Key.size) 1:List Int),ah.box b1 [.string c.Key,.string c.Val,.bool c.Gone] 52,ah.box ki [aM,aJ,aP,aL,.int .i64 r.ae,.int .i64 r.af] 32,ah.row 88 aM (r.aj:List ak),ah.row 62 aJ (r.Things:List ai),ah.row 85 aP (r.Held:List Held),ah.row 72 aL (r.Notes:List Note),ah.held w own]) (F0:=[bm]) [0,1,2,3,4,5,6,7] [0] (fun aG:Value => .tuple #[aG,.bool ((cD c.Val 4))]) (fun aG:Value=>[ah.row 3 aG ((numsL c.Val 4):List Int)]) (fun aG:Value=>[]) rfl rfl rfl pP rfl rfl (fun w own hw H=>gq (c.Val) (4) w own H (by first|assumption|omega|(rw [ByteArray.size_extract];omega))) rfl) fun z4=>?_
            refine R.u 5 rfl<|R.nil ?_
            refine R.reg rfl<|R.u 1 rfl<|R.q (q.not rfl) rfl<|R.u 1 rfl<|?_
            cases b
            ·
              refine R.u 9 rfl<|R.nil ?_
              refine R.aE rfl rfl ?_
              refine R.reg rfl<|R.u 1 rfl<|R.nil ?_
              have hz:rowP r c=(r,false):=by (first|exact gC (by assumption) hy1 (by omega) (.inl hC.symm)|exact gC (by assumption) hy1 (by omega) (.inr (.inl (by assumption)))|exact gC (by assumption) hy1 (by omega) (.inr (.inr (by omega))))
              rw [hz]
              exact R.w1 (aM,aJ,aP,aL) [3,4,5,6,7,8] [] rfl Tryz.results50 (RV.tmp rfl) rfl rfl rfl rfl
            ·
              refine R.u 1 rfl<|R.qg rfl (q.not rfl) rfl<|R.u 2 rfl<|?_
              rcases Bool.eq_false_or_eq_true (cD c.Val 4) with h20|h20
              ·
                rw [h20]
                refine R.qg rfl (q.aX (off':=1) rfl d9 rfl) rfl<|R.qg rfl (q.ld 2 rfl rfl cd rfl) rfl<|R.qg rfl (q.kr rfl Tryz.underlying9) rfl<|?_
                by_cases h21:c.Val.size=16
                ·
                  refine R.qg rfl (q.neq rfl rfl (bne_eq_false_iff_eq.2 (by omega))) rfl<|R.u 1 rfl<|R.nil ?_
                  refine R.aH rfl rfl ?_
                  have ek:=v8 (c:=c) hC.symm
                  have Dh:=jN (s:=c.Val) (m:=4) (by assumption)
                  obtain ⟨x4,hx4⟩:∃z,(numsL (c.Key.extract 1 c.Key.size) 1)[0]? = some z:=⟨_,List.getElem?_eq_getElem (by omega)⟩
                  obtain ⟨x5,hx5⟩:∃z,(numsL c.Val 4)[0]? = some z:=⟨_,List.getElem?_eq_getElem (by omega)⟩
                  obtain ⟨x6,hx6⟩:∃z,(numsL c.Val 4)[1]? = some z:=⟨_,List.getElem?_eq_getElem (by omega)⟩
                  obtain ⟨x7,hx7⟩:∃z,(numsL c.Val 4)[2]? = some z:=⟨_,List.getElem?_eq_getElem (by omega)⟩
                  obtain ⟨x8,Cg⟩:∃z,(numsL c.Val 4)[3]? = some z:=⟨_,List.getElem?_eq_getElem (by omega)⟩
                  refine R.fT (fuel:=26) (Wd w (blks [ah.box ki [aM,aJ,aP,aL,.int .i64 r.ae,.int .i64 r.af] 32,ah.row 88 aM (r.aj:List ak),ah.row 62 aJ (r.Things:List ai),ah.row 85 aP (r.Held:List Held),ah.row 72 aL (r.Notes:List Note)]++own) [ah.row 3 z4 (numsL c.Val 4:List Int),ah.row 3 z1 (numsL (c.Key.extract 1 c.Key.size) 1:List Int),ah.box b1 [.string c.Key,.string c.Val,.bool c.Gone] 52,ah.row 62 aJ (r.Things:List ai),ah.row 85 aP (r.Held:List Held),ah.row 72 aL (r.Notes:List Note),ah.held w own] [bm]) rfl mixed rfl ?_
                  refine D.q (i:=0) rfl (by kernel_rfl) (fun _=>Wd.aK [0,1,2,5,6,7,8] [0] rfl rfl rfl) rfl (q.mv rfl) rfl<|D.q (i:=1) rfl (by kernel_rfl) (fun _=>Wd.aK [0,1,2,5,6,7,8] [0] rfl rfl rfl) rfl (q.mv rfl) rfl<|D.q (i:=2) rfl (by kernel_rfl) (fun _=>Wd.aK [0,1,2,5,6,7,8] [0] rfl rfl rfl) rfl (q.m5 rfl) rfl<|D.q (i:=3) rfl (by kernel_rfl) (fun _=>Wd.aK [0,1,2,5,6,7,8] [0] rfl rfl rfl) rfl (q.aX (off':=0) rfl aY rfl) rfl<|D.q (i:=5) rfl (by kernel_rfl) (fun _=>Wd.aK [0,1,2,5,6,7,8] [0] rfl rfl rfl) rfl (q.mv rfl) rfl<|D.q (i:=6) rfl (by kernel_rfl) (fun _=>Wd.aK [0,1,2,5,6,7,8] [0] rfl rfl rfl) rfl (q.idx (i:=0) (fun _=>Wd.row 1 rfl) rfl rfl cG rfl hx4) rfl<|D.q (i:=7) rfl (by kernel_rfl) (fun _=>Wd.aK [0,1,2,5,6,7,8] [0] rfl rfl rfl) rfl (q.hZ (fun _=>Wd.row 1 rfl) hx4 rfl aA rfl) rfl<|D.q (i:=8) rfl (by kernel_rfl) (fun _=>Wd.aK [0,1,2,5,6,7,8] [0] rfl rfl rfl) rfl (q.mv rfl) rfl<|D.q (i:=9) rfl (by kernel_rfl) (fun _=>Wd.aK [0,1,2,5,6,7,8] [0] rfl rfl rfl) rfl (q.idx (i:=0) (fun _=>Wd.row 0 rfl) rfl rfl cG rfl hx5) rfl<|D.q (i:=10) rfl (by kernel_rfl) (fun _=>Wd.aK [0,1,2,5,6,7,8] [0] rfl rfl rfl) rfl (q.hZ (fun _=>Wd.row 0 rfl) hx5 rfl aA rfl) rfl<|D.q (i:=11) rfl (by kernel_rfl) (fun _=>Wd.aK [0,1,2,5,6,7,8] [0] rfl rfl rfl) rfl (q.mv rfl) rfl<|D.q (i:=12) rfl (by kernel_rfl) (fun _=>Wd.aK [0,1,2,5,6,7,8] [0] rfl rfl rfl) rfl (q.idx (i:=1) (fun _=>Wd.row 0 rfl) rfl rfl cG rfl hx6) rfl<|D.q (i:=13) rfl (by kernel_rfl) (fun _=>Wd.aK [0,1,2,5,6,7,8] [0] rfl rfl rfl) rfl (q.hZ (fun _=>Wd.row 0 rfl) hx6 rfl aA rfl) rfl<|D.q (i:=14) rfl (by kernel_rfl) (fun _=>Wd.aK [0,1,2,5,6,7,8] [0] rfl rfl rfl) rfl (q.mv rfl) rfl<|D.q (i:=15) rfl (by kernel_rfl) (fun _=>Wd.aK [0,1,2,5,6,7,8] [0] rfl rfl rfl) rfl (q.idx (i:=2) (fun _=>Wd.row 0 rfl) rfl rfl cG rfl hx7) rfl<|D.q (i:=16) rfl (by kernel_rfl) (fun _=>Wd.aK [0,1,2,5,6,7,8] [0] rfl rfl rfl) rfl (q.hZ (fun _=>Wd.row 0 rfl) hx7 rfl aA rfl) rfl<|D.q (i:=17) rfl (by kernel_rfl) (fun _=>Wd.aK [0,1,2,5,6,7,8] [0] rfl rfl rfl) rfl (q.mv rfl) rfl<|D.q (i:=18) rfl (by kernel_rfl) (fun _=>Wd.aK [0,1,2,5,6,7,8] [0] rfl rfl rfl) rfl (q.idx (i:=3) (fun _=>Wd.row 0 rfl) rfl rfl cG rfl Cg) rfl<|D.q (i:=19) rfl (by kernel_rfl) (fun _=>Wd.aK [0,1,2,5,6,7,8] [0] rfl rfl rfl) rfl (q.hZ (fun _=>Wd.row 0 rfl) Cg rfl aA rfl) rfl<|D.q (i:=20) rfl (by kernel_rfl) (fun _=>Wd.aK [0,1,2,5,6,7,8] [0] rfl rfl rfl) rfl (q.build (cs:=[.int .i64 x4,.int .i64 x5,.int .i64 x6,.int .i64 x7,.int .i64 x8]) gk rfl rfl) rfl<|?_
                  refine D.two (i:=4) (j:=21) (by kernel_rfl) rfl rfl ?_ ?_
                  ·
                    refine Do.s (s.c (Qt.a (q.ld 3 rfl rfl bq rfl)) rfl) (fun _=>(fun _=>Wd.aK [0,1,2,5,6,7,8] [0] rfl rfl rfl)) rfl fun _=>?_
                    refine D.one (i:=21) (by kernel_rfl) rfl ?_
                    refine Do.s (s.bs (l:=([(⟨x4,x5,x6,x7,x8⟩:ak)]:List ak)) ct br rfl rfl rfl rfl rfl rfl rfl) (fun _=>(fun _=>Wd.aK [1,2,3,6,7,8,9] [0] rfl rfl rfl)) rfl fun b7=>?_
                    refine D.one (i:=22) (by kernel_rfl) rfl ?_
                    refine Do.s (s.app (l2:=[(⟨x4,x5,x6,x7,x8⟩:ak)]) 5 _ rfl rfl rfl (fun _=>Wd.row 0 rfl) f6 (by first|omega|(simp;done)|(simp;omega)) (by first|omega|(simp;done)|(simp;omega)) (fun _=>rfl) rfl) (fun _=>(fun _=>Wd.aK [1,2,3,6,7,8,9] [0] rfl rfl rfl)) rfl fun v5=>?_
                    refine D.q (i:=23) rfl (by kernel_rfl) (fun _=>Wd.aK [1,2,3,6,7,8,9] [0] rfl rfl rfl) rfl (q.m5 rfl) rfl<|D.q (i:=24) rfl (by kernel_rfl) (fun _=>Wd.aK [1,2,3,6,7,8,9] [0] rfl rfl rfl) rfl (q.aX (off':=0) rfl aY rfl) rfl<|?_
                    refine D.one (i:=25) (by kernel_rfl) rfl ?_
                    refine Do.s (s.eH (us:=[v5]) (cs':=[v5,aJ,aP,aL,.int .i64 r.ae,.int .i64 r.af]) 4 _ rfl rfl rfl (fun w hw=>Sl.cr ((fun _=>Wd.row 5 rfl) w hw)) (.inr ⟨bq,rfl⟩) (fun w hw=>(ao (Sl.one ((fun _=>Wd.row 5 rfl) w hw)) aO)) rfl rfl rfl) (fun _=>(fun _=>Wd.aK [1,2,3,6,7,8,9] [0] rfl rfl rfl)) rfl fun _=>?_
                    refine D.done (by kernel_rfl)<|?_
                    refine R.reg rfl<|R.u 1 rfl<|R.nil ?_
                    have hz:rowP r c=((⟨(r.aj++([(⟨x4,x5,x6,x7,x8⟩:ak)])),r.Things,r.Held,r.Notes,r.ae,r.af⟩:au),true):=by (exact AZ (by assumption) hy1 (by omega) hC.symm (by assumption) (by omega) (by assumption) (by assumption) (by assumption) (by assumption) (by assumption))
                    rw [hz]
                    exact R.w1 (v5,aJ,aP,aL) [4,5,6,7,8,9] [] rfl Tryz.results50 (RV.tmp rfl) rfl rfl rfl rfl
                  ·
                    refine Do.s (s.bs (l:=([(⟨x4,x5,x6,x7,x8⟩:ak)]:List ak)) ct br rfl rfl rfl rfl rfl rfl rfl) (fun _=>(fun _=>Wd.aK [1,2,3,6,7,8,9] [0] rfl rfl rfl)) rfl fun b8=>?_
                    refine D.one (i:=4) (by kernel_rfl) rfl ?_
                    refine Do.s (s.c (Qt.a (q.ld 4 rfl rfl bq rfl)) rfl) (fun _=>(fun _=>Wd.aK [1,2,3,6,7,8,9] [0] rfl rfl rfl)) rfl fun _=>?_
                    refine D.one (i:=22) (by kernel_rfl) rfl ?_
                    refine Do.s (s.app (l2:=[(⟨x4,x5,x6,x7,x8⟩:ak)]) 5 _ rfl rfl rfl (fun _=>Wd.row 0 rfl) f6 (by first|omega|(simp;done)|(simp;omega)) (by first|omega|(simp;done)|(simp;omega)) (fun _=>rfl) rfl) (fun _=>(fun _=>Wd.aK [1,2,3,6,7,8,9] [0] rfl rfl rfl)) rfl fun v6=>?_
                    refine D.q (i:=23) rfl (by kernel_rfl) (fun _=>Wd.aK [1,2,3,6,7,8,9] [0] rfl rfl rfl) rfl (q.m5 rfl) rfl<|D.q (i:=24) rfl (by kernel_rfl) (fun _=>Wd.aK [1,2,3,6,7,8,9] [0] rfl rfl rfl) rfl (q.aX (off':=0) rfl aY rfl) rfl<|?_
                    refine D.one (i:=25) (by kernel_rfl) rfl ?_
                    refine Do.s (s.eH (us:=[v6]) (cs':=[v6,aJ,aP,aL,.int .i64 r.ae,.int .i64 r.af]) 4 _ rfl rfl rfl (fun w hw=>Sl.cr ((fun _=>Wd.row 5 rfl) w hw)) (.inr ⟨bq,rfl⟩) (fun w hw=>(ao (Sl.one ((fun _=>Wd.row 5 rfl) w hw)) aO)) rfl rfl rfl) (fun _=>(fun _=>Wd.aK [1,2,3,6,7,8,9] [0] rfl rfl rfl)) rfl fun _=>?_
                    refine D.done (by kernel_rfl)<|?_
                    refine R.reg rfl<|R.u 1 rfl<|R.nil ?_
                    have hz:rowP r c=((⟨(r.aj++([(⟨x4,x5,x6,x7,x8⟩:ak)])),r.Things,r.Held,r.Notes,r.ae,r.af⟩:au),true):=by (exact AZ (by assumption) hy1 (by omega) hC.symm (by assumption) (by omega) (by assumption) (by assumption) (by assumption) (by assumption) (by assumption))
                    rw [hz]
                    exact R.w1 (v6,aJ,aP,aL) [4,5,6,7,8,9] [] rfl Tryz.results50 (RV.tmp rfl) rfl rfl rfl rfl
                ·
                  refine R.qg rfl (q.neq rfl rfl (bne_iff_ne.2 (by omega))) rfl<|R.u 1 rfl<|R.nil ?_
                  refine R.aE rfl rfl ?_
                  refine R.reg rfl<|R.u 1 rfl<|R.nil ?_
                  have hz:rowP r c=(r,false):=by (first|exact gC (by assumption) hy1 (by omega) (.inl hC.symm)|exact gC (by assumption) hy1 (by omega) (.inr (.inl (by assumption)))|exact gC (by assumption) hy1 (by omega) (.inr (.inr (by omega))))
                  rw [hz]
                  exact R.w1 (aM,aJ,aP,aL) [3,4,5,6,7,8] [] rfl Tryz.results50 (RV.tmp rfl) rfl rfl rfl rfl
              ·
                rw [h20]
                refine R.u 5 rfl<|R.nil ?_
                refine R.aE rfl rfl ?_
                refine R.reg rfl<|R.u 1 rfl<|R.nil ?_
                have hz:rowP r c=(r,false):=by (first|exact gC (by assumption) hy1 (by omega) (.inl hC.symm)|exact gC (by assumption) hy1 (by omega) (.inr (.inl (by assumption)))|exact gC (by assumption) hy1 (by omega) (.inr (.inr (by omega))))
                rw [hz]
                exact R.w1 (aM,aJ,aP,aL) [3,4,5,6,7,8] [] rfl Tryz.results50 (RV.tmp rfl) rfl rfl rfl rfl
          ·
            refine R.q (q.eql rfl rfl (beq_eq_false_iff_ne.2 (by omega))) rfl<|R.u 1 rfl<|R.nil ?_
            refine R.aH rfl rfl ?_
            refine R.reg rfl<|R.q (q.aX (off':=1) rfl d9 rfl) rfl<|R.q (q.ld 1 rfl rfl cd rfl) rfl<|?_
            refine R.s (B':=(fun aG:Value=>[ah.row 3 aG ((numsL c.Val 2):List Int),ah.row 3 z1 (numsL (c.Key.extract 1 c.Key.size) 1:List Int),ah.box b1 [.string c.Key,.string c.Val,.bool c.Gone] 52,ah.box ki [aM,aJ,aP,aL,.int .i64 r.ae,.int .i64 r.af] 32,ah.row 88 aM (r.aj:List ak),ah.row 62 aJ (r.Things:List ai),ah.row 85 aP (r.Held:List Held),ah.row 72 aL (r.Notes:List Note),ah.held w own])) (F':=(fun aG:Value=>[bm])) rfl (s.bA (B0:=[]) (Br:=[ah.row 3 z1 (numsL (c.Key.extract 1 c.Key.size) 1:List Int),ah.box b1 [.string c.Key,.string c.Val,.bool c.Gone] 52,ah.box ki [aM,aJ,aP,aL,.int .i64 r.ae,.int .i64 r.af] 32,ah.row 88 aM (r.aj:List ak),ah.row 62 aJ (r.Things:List ai),ah.row 85 aP (r.Held:List Held),ah.row 72 aL (r.Notes:List Note),ah.held w own]) (F0:=[bm]) [0,1,2,3,4,5,6,7] [0] (fun aG:Value => .tuple #[aG,.bool ((cD c.Val 2))]) (fun aG:Value=>[ah.row 3 aG ((numsL c.Val 2):List Int)]) (fun aG:Value=>[]) rfl rfl rfl pP rfl rfl (fun w own hw H=>gq (c.Val) (2) w own H (by first|assumption|omega|(rw [ByteArray.size_extract];omega))) rfl) fun z5=>?_
            refine R.u 5 rfl<|R.nil ?_
            refine R.reg rfl<|R.q (q.aX (off':=0) rfl cM rfl) rfl<|R.q (q.ld 2 rfl rfl cd rfl) rfl<|?_
            by_cases h22:c.Key=⟨#[120]⟩
            ·
              refine R.q (q.xw rfl rfl h22) rfl<|R.u 2 rfl<|R.qg rfl (q.not rfl) rfl<|R.u 2 rfl<|?_
              rcases Bool.eq_false_or_eq_true (cD c.Val 2) with h23|h23
              ·
                rw [h23]
                refine R.qg rfl (q.aX (off':=1) rfl d9 rfl) rfl<|R.qg rfl (q.ld 2 rfl rfl cd rfl) rfl<|R.qg rfl (q.kr rfl Tryz.underlying9) rfl<|?_
                by_cases Di:c.Val.size=8
                ·
                  refine R.qg rfl (q.neq rfl rfl (bne_eq_false_iff_eq.2 (by omega))) rfl<|R.u 1 rfl<|R.nil ?_
                  refine R.aH rfl rfl ?_
                  have Dj:=jN (s:=c.Val) (m:=2) (by assumption)
                  obtain ⟨x9,Ch⟩:∃z,(numsL c.Val 2)[0]? = some z:=⟨_,List.getElem?_eq_getElem (by omega)⟩
                  obtain ⟨x10,A9⟩:∃z,(numsL c.Val 2)[1]? = some z:=⟨_,List.getElem?_eq_getElem (by omega)⟩
                  refine R.fT (fuel:=14) (Wd w (blks [ah.box ki [aM,aJ,aP,aL,.int .i64 r.ae,.int .i64 r.af] 32,ah.row 88 aM (r.aj:List ak),ah.row 62 aJ (r.Things:List ai),ah.row 85 aP (r.Held:List Held),ah.row 72 aL (r.Notes:List Note)]++own) [ah.row 3 z5 (numsL c.Val 2:List Int),ah.row 3 z1 (numsL (c.Key.extract 1 c.Key.size) 1:List Int),ah.box b1 [.string c.Key,.string c.Val,.bool c.Gone] 52,ah.row 88 aM (r.aj:List ak),ah.row 62 aJ (r.Things:List ai),ah.row 85 aP (r.Held:List Held),ah.row 72 aL (r.Notes:List Note),ah.held w own] [bm]) rfl mixed rfl ?_
                  refine D.q (i:=0) rfl (by kernel_rfl) (fun _=>Wd.aK [0,1,2,4,5,6,7,8] [0] rfl rfl rfl) rfl (q.mv rfl) rfl<|D.q (i:=1) rfl (by kernel_rfl) (fun _=>Wd.aK [0,1,2,4,5,6,7,8] [0] rfl rfl rfl) rfl (q.mv rfl) rfl<|D.q (i:=2) rfl (by kernel_rfl) (fun _=>Wd.aK [0,1,2,4,5,6,7,8] [0] rfl rfl rfl) rfl (q.mv rfl) rfl<|D.q (i:=3) rfl (by kernel_rfl) (fun _=>Wd.aK [0,1,2,4,5,6,7,8] [0] rfl rfl rfl) rfl (q.idx (i:=0) (fun _=>Wd.row 0 rfl) rfl rfl cG rfl Ch) rfl<|D.q (i:=4) rfl (by kernel_rfl) (fun _=>Wd.aK [0,1,2,4,5,6,7,8] [0] rfl rfl rfl) rfl (q.hZ (fun _=>Wd.row 0 rfl) Ch rfl aA rfl) rfl<|D.q (i:=5) rfl (by kernel_rfl) (fun _=>Wd.aK [0,1,2,4,5,6,7,8] [0] rfl rfl rfl) rfl (q.mv rfl) rfl<|D.q (i:=6) rfl (by kernel_rfl) (fun _=>Wd.aK [0,1,2,4,5,6,7,8] [0] rfl rfl rfl) rfl (q.idx (i:=1) (fun _=>Wd.row 0 rfl) rfl rfl cG rfl A9) rfl<|D.q (i:=7) rfl (by kernel_rfl) (fun _=>Wd.aK [0,1,2,4,5,6,7,8] [0] rfl rfl rfl) rfl (q.hZ (fun _=>Wd.row 0 rfl) A9 rfl aA rfl) rfl<|D.q (i:=8) rfl (by kernel_rfl) (fun _=>Wd.aK [0,1,2,4,5,6,7,8] [0] rfl rfl rfl) rfl (q.m5 rfl) rfl<|D.q (i:=9) rfl (by kernel_rfl) (fun _=>Wd.aK [0,1,2,4,5,6,7,8] [0] rfl rfl rfl) rfl (q.aX (off':=4) rfl bL rfl) rfl<|?_
                  refine D.one (i:=10) (by kernel_rfl) rfl ?_
                  refine Do.s (s.st (us:=[.int .i64 x9]) (cs':=[aM,aJ,aP,aL,.int .i64 x9,.int .i64 r.af]) 3 _ rfl rfl rfl rfl (.inr ⟨aA,rfl⟩) rfl rfl rfl rfl) (fun _=>(fun _=>Wd.aK [0,1,2,4,5,6,7,8] [0] rfl rfl rfl)) rfl fun _=>?_
                  refine D.q (i:=11) rfl (by kernel_rfl) (fun _=>Wd.aK [0,1,2,4,5,6,7,8] [0] rfl rfl rfl) rfl (q.m5 rfl) rfl<|D.q (i:=12) rfl (by kernel_rfl) (fun _=>Wd.aK [0,1,2,4,5,6,7,8] [0] rfl rfl rfl) rfl (q.aX (off':=5) rfl cE rfl) rfl<|?_
                  refine D.one (i:=13) (by kernel_rfl) rfl ?_
                  refine Do.s (s.st (us:=[.int .i64 x10]) (cs':=[aM,aJ,aP,aL,.int .i64 x9,.int .i64 x10]) 3 _ rfl rfl rfl rfl (.inr ⟨aA,rfl⟩) rfl rfl rfl rfl) (fun _=>(fun _=>Wd.aK [0,1,2,4,5,6,7,8] [0] rfl rfl rfl)) rfl fun _=>?_
                  refine D.done (by kernel_rfl)<|?_
                  refine R.reg rfl<|R.u 1 rfl<|R.nil ?_
                  have hz:rowP r c=((⟨r.aj,r.Things,r.Held,r.Notes,x9,x10⟩:au),true):=by (exact BX (by assumption) hy1 (by omega) (by omega) (by omega) (by assumption) (by assumption) (by omega) (by assumption) (by assumption))
                  rw [hz]
                  exact R.w1 (aM,aJ,aP,aL) [3,4,5,6,7,8] [] rfl Tryz.results50 (RV.tmp rfl) rfl rfl rfl rfl
                ·
                  refine R.qg rfl (q.neq rfl rfl (bne_iff_ne.2 (by omega))) rfl<|R.u 1 rfl<|R.nil ?_
                  refine R.aE rfl rfl ?_
                  refine R.reg rfl<|R.u 1 rfl<|R.nil ?_
                  have hz:rowP r c=(r,false):=by (first|exact gD (by assumption) hy1 (by omega) (by omega) (by omega) (.inl (by assumption))|exact gD (by assumption) hy1 (by omega) (by omega) (by omega) (.inr (.inl (by assumption)))|exact gD (by assumption) hy1 (by omega) (by omega) (by omega) (.inr (.inr (by omega))))
                  rw [hz]
                  exact R.w1 (aM,aJ,aP,aL) [3,4,5,6,7,8] [] rfl Tryz.results50 (RV.tmp rfl) rfl rfl rfl rfl
              ·
                rw [h23]
                refine R.u 5 rfl<|R.nil ?_
                refine R.aE rfl rfl ?_
                refine R.reg rfl<|R.u 1 rfl<|R.nil ?_
                have hz:rowP r c=(r,false):=by (first|exact gD (by assumption) hy1 (by omega) (by omega) (by omega) (.inl (by assumption))|exact gD (by assumption) hy1 (by omega) (by omega) (by omega) (.inr (.inl (by assumption)))|exact gD (by assumption) hy1 (by omega) (by omega) (by omega) (.inr (.inr (by omega))))
                rw [hz]
                exact R.w1 (aM,aJ,aP,aL) [3,4,5,6,7,8] [] rfl Tryz.results50 (RV.tmp rfl) rfl rfl rfl rfl
            ·
              refine R.q (q.xx rfl rfl h22) rfl<|R.u 10 rfl<|R.nil ?_
              refine R.aE rfl rfl ?_
              refine R.reg rfl<|R.u 1 rfl<|R.nil ?_
              have hz:rowP r c=(r,false):=by (first|exact gD (by assumption) hy1 (by omega) (by omega) (by omega) (.inl (by assumption))|exact gD (by assumption) hy1 (by omega) (by omega) (by omega) (.inr (.inl (by assumption)))|exact gD (by assumption) hy1 (by omega) (by omega) (by omega) (.inr (.inr (by omega))))
              rw [hz]
              exact R.w1 (aM,aJ,aP,aL) [3,4,5,6,7,8] [] rfl Tryz.results50 (RV.tmp rfl) rfl rfl rfl rfl
end Go.Proofs.YtbkfhjaibhnkmaaGreatDoor
