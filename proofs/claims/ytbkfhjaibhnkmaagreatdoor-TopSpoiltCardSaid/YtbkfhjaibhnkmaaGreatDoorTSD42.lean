import Derived.Test.YtbkfhjaibhnkmaaGreatDoorTSD41
namespace Go.Proofs.YtbkfhjaibhnkmaaGreatDoor
open Go Go.RowKit
set_option linter.unusedVariables false
set_option linter.unusedSimpArgs false
set_option maxRecDepth 100000
theorem vr {s:ByteArray}{m:Nat}(h:cS s m=true):bV s m=some (numsL s m):=by
 unfold cS at h;unfold numsL
 cases hq:bV s m with|none=>rw [hq] at h;cases h|some l=>rfl
theorem ku {s:ByteArray}{m:Nat}(h:cS s m=true):(numsL s m).length=m∧4*m≤s.size:=jl (vr h)
theorem lf {s:ByteArray}{m j:Nat}{x:Int}(h:(numsL s m)[j]? = some x):mQ (bV s m) j=x:=by
 show (((numsL s m)[j]?).getD 0)=x;rw [h];rfl
section
variable {r:ap} {c:Change} {y:UInt8}
theorem gY (h:¬ c.Key=⟨#[]⟩):¬ c.Key.size=0:=fun e=>h (rR e)
theorem jo {s:ByteArray}{i:Nat}{y:UInt8}(h:s.data[i]? = some y):fQ s i=y.toNat:=by unfold fQ;rw [h];rfl
theorem xt (h:c.Key=⟨#[]⟩):rowP r c=(r,false):=by unfold rowP;rw [if_pos (by rw [h];rfl)]
theorem gZ (h0:¬ c.Key=⟨#[]⟩)(hy:c.Key.data[0]? = some y)(e:y.toNat=104)(hb:cS c.Val 1=false∨¬ c.Val.size=4∨¬ c.Key.size=3):rowP r c=(r,false):=by
 unfold rowP;rw [if_neg (gY h0)];dsimp only;rw [if_pos ((jo hy).trans e),if_pos (show (bV c.Val 1).isSome=false∨c.Val.size≠4∨c.Key.size≠3 from hb)]
theorem r9 {a b:UInt8}{n:Int}{v:Bool}(h0:¬ c.Key=⟨#[]⟩)(hy:c.Key.data[0]? = some y)(e:y.toNat=104)(hb:cS c.Val 1=true)(h4:c.Val.size=4)(h3:c.Key.size=3)(ha:c.Key.data[1]? = some a)(hbb:c.Key.data[2]? = some b)
 (hn:(numsL c.Val 1)[0]? = some n) (hv:v=decide (aX ⟨(a.toNat:Int)-48,(b.toNat:Int)-48⟩=0)):rowP r c=(⟨r.ai,r.Things,r.Held++[⟨⟨(a.toNat:Int)-48,(b.toNat:Int)-48⟩,n⟩],r.Notes,r.ae,r.af⟩,v):=by
 unfold rowP;rw [if_neg (gY h0)];dsimp only
 rw [if_pos ((jo hy).trans e),if_neg (show ¬ ((bV c.Val 1).isSome=false∨c.Val.size≠4∨c.Key.size≠3) from (by show ¬ (cS c.Val 1=false∨c.Val.size≠4∨c.Key.size≠3);rw [hb,h4,h3];simp)),lf hn,hv]
 unfold tf sh AG;rw [jo ha,jo hbb]
def si (c:Change):Bool:=cS (c.Key.extract 1 c.Key.size) 1&&decide (c.Key.size=5)
theorem tu (h:cS (c.Key.extract 1 c.Key.size) 1=false):false=si c:=by unfold si;rw [h];rfl
theorem qH (h:¬ c.Key.size=5):false=si c:=by unfold si;rw [decide_eq_false h,Bool.and_false]
theorem qI (h:cS (c.Key.extract 1 c.Key.size) 1=true)(h5:c.Key.size=5):true=si c:=by unfold si;rw [h,decide_eq_true h5];rfl
theorem xu (h:si c=true):(numsL (c.Key.extract 1 c.Key.size) 1).length=1:=by
 unfold si at h;rw [Bool.and_eq_true] at h;exact (ku h.1).1
theorem g9 (h0:¬ c.Key=⟨#[]⟩)(hy:c.Key.data[0]? = some y)(e:y.toNat=116)(hb:si c=false∨cS c.Val 1=false∨12<c.Val.size):rowP r c=(r,false):=by
 unfold rowP;rw [if_neg (gY h0)];dsimp only
 rw [if_neg (by rw [jo hy];omega),if_pos ((jo hy).trans e),if_pos (show ((bV (c.Key.extract 1 c.Key.size) 1).isSome&&decide (c.Key.size=5))=false∨(bV c.Val 1).isSome=false∨12<c.Val.size from hb)]
theorem kR {k n:Int}{v:Bool}(h0:¬ c.Key=⟨#[]⟩)(hy:c.Key.data[0]? = some y)(e:y.toNat=116)(hk:si c=true)(hb:cS c.Val 1=true)(h12:¬ 12<c.Val.size)
 (hi:(numsL (c.Key.extract 1 c.Key.size) 1)[0]? = some k) (hn:(numsL c.Val 1)[0]? = some n) (hv:v=decide (n=1∨n=2∧c.Val.size=4)):rowP r c=(⟨r.ai,r.Things++[⟨k,n,c.Val.extract 4 c.Val.size⟩],r.Held,r.Notes,r.ae,r.af⟩,v):=by
 unfold rowP;rw [if_neg (gY h0)];dsimp only
 rw [if_neg (by rw [jo hy];omega),if_pos ((jo hy).trans e),if_neg (show ¬ (((bV (c.Key.extract 1 c.Key.size) 1).isSome&&decide (c.Key.size=5))=false∨(bV c.Val 1).isSome=false∨12<c.Val.size) from (by
  show ¬ (si c=false∨cS c.Val 1=false∨12<c.Val.size)
  rw [hk,hb];simp;omega)),lf hn,lf hi,hv]
 rfl
theorem hD (h0:¬ c.Key=⟨#[]⟩)(hy:c.Key.data[0]? = some y)(e:y.toNat=119)(hb:si c=false∨cS c.Val 4=false∨¬ c.Val.size=16):rowP r c=(r,false):=by
 unfold rowP;rw [if_neg (gY h0)];dsimp only
 rw [if_neg (by rw [jo hy];omega),if_neg (by rw [jo hy];omega),if_pos ((jo hy).trans e),if_pos (show ((bV (c.Key.extract 1 c.Key.size) 1).isSome&&decide (c.Key.size=5))=false∨(bV c.Val 4).isSome=false∨c.Val.size≠16 from hb)]
theorem CR {k n0 n1 n2 n3:Int}(h0:¬ c.Key=⟨#[]⟩)(hy:c.Key.data[0]? = some y)(e:y.toNat=119)(hk:si c=true)(hb:cS c.Val 4=true)(h16:c.Val.size=16)
 (hi:(numsL (c.Key.extract 1 c.Key.size) 1)[0]? = some k) (a0:(numsL c.Val 4)[0]? = some n0) (a1:(numsL c.Val 4)[1]? = some n1) (a2:(numsL c.Val 4)[2]? = some n2) (a3:(numsL c.Val 4)[3]? = some n3):rowP r c=(⟨r.ai++[⟨k,n0,n1,n2,n3⟩],r.Things,r.Held,r.Notes,r.ae,r.af⟩,true):=by
 unfold rowP;rw [if_neg (gY h0)];dsimp only
 rw [if_neg (by rw [jo hy];omega),if_neg (by rw [jo hy];omega),if_pos ((jo hy).trans e),if_neg (show ¬ (((bV (c.Key.extract 1 c.Key.size) 1).isSome&&decide (c.Key.size=5))=false∨(bV c.Val 4).isSome=false∨c.Val.size≠16) from (by
  show ¬ (si c=false∨cS c.Val 4=false∨c.Val.size≠16)
  rw [hk,hb,h16];simp)),lf hi,lf a0,lf a1,lf a2,lf a3]
 rfl
theorem hG (h0:¬ c.Key=⟨#[]⟩)(hy:c.Key.data[0]? = some y)(e1:¬ y.toNat=104)(e2:¬ y.toNat=116)(e3:¬ y.toNat=119)(hb:¬ c.Key=⟨#[120]⟩∨cS c.Val 2=false∨¬ c.Val.size=8):rowP r c=(r,false):=by
 unfold rowP;rw [if_neg (gY h0)];dsimp only
 rw [if_neg (by rw [jo hy];omega),if_neg (by rw [jo hy];omega),if_neg (by rw [jo hy];omega),if_pos (show c.Key≠kX∨(bV c.Val 2).isSome=false∨c.Val.size≠8 from hb)]
theorem DR {n0 n1:Int}(h0:¬ c.Key=⟨#[]⟩)(hy:c.Key.data[0]? = some y)(e1:¬ y.toNat=104)(e2:¬ y.toNat=116)(e3:¬ y.toNat=119)(hk:c.Key=⟨#[120]⟩)(hb:cS c.Val 2=true)(h8:c.Val.size=8)(a0:(numsL c.Val 2)[0]? = some n0)(a1:(numsL c.Val 2)[1]? = some n1) :
 rowP r c=(⟨r.ai,r.Things,r.Held,r.Notes,n0,n1⟩,true):=by
 unfold rowP;rw [if_neg (gY h0)];dsimp only
 rw [if_neg (by rw [jo hy];omega),if_neg (by rw [jo hy];omega),if_neg (by rw [jo hy];omega),if_neg (show ¬ (c.Key≠kX∨(bV c.Val 2).isSome=false∨c.Val.size≠8) from (by
  show ¬ (c.Key≠⟨#[120]⟩∨cS c.Val 2=false∨c.Val.size≠8)
  rw [hb,h8];simp [hk])),lf a0,lf a1]
 rfl
end
attribute [local irreducible] numsL cS si rowP
set_option maxRecDepth 100000 in
set_option maxHeartbeats 3200000 in
theorem nM (k6:Nat)(aN aK aU aL:Value)(r:ap)(c:Change)(w:World)(own:List Nat)(H:Wd w (blks [ag.box k6 [aN,aK,aU,aL,iV r.ae,iV r.af] 32,ag.row 88 aN (r.ai:List aj),ag.row 62 aK (r.Things:List ah),ag.row 85 aU (r.Held:List Held),ag.row 72 aL (r.Notes:List Note)]++own) ([ag.box k6 [aN,aK,aU,aL,iV r.ae,iV r.af] 32,ag.row 88 aN (r.ai:List aj),ag.row 62 aK (r.Things:List ah),ag.row 85 aU (r.Held:List Held),ag.row 72 aL (r.Notes:List Note)]++[ag.held w own]) [bz] w)(hc:c.Key.size≤1000∧c.Val.size≤1000)(hr:r.ai.length≤1000∧r.Things.length≤1000∧r.Held.length≤1000):Calls Tryz.prog 50 #[.pointer (some ⟨k6,0,none⟩),.agg #[.string c.Key,.string c.Val,.bool c.Gone]] w fun e w' => ∃z:Value×Value×Value×Value,e = .returned (.bool (((rowP r c)).2))∧Wd w (blks [ag.box k6 [aN,aK,aU,aL,iV r.ae,iV r.af] 32,ag.row 88 aN (r.ai:List aj),ag.row 62 aK (r.Things:List ah),ag.row 85 aU (r.Held:List Held),ag.row 72 aL (r.Notes:List Note)]++own) ([ag.box k6 [z.1,z.2.1,z.2.2.1,z.2.2.2,iV ((((rowP r c)).1).ae),iV ((((rowP r c)).1).af)] 32,ag.row 88 z.1 ((((rowP r c)).1).ai:List aj),ag.row 62 z.2.1 ((((rowP r c)).1).Things:List ah),ag.row 85 z.2.2.1 ((((rowP r c)).1).Held:List Held),ag.row 72 z.2.2.2 ((((rowP r c)).1).Notes:List Note)]++[ag.held w own]) [] w':=by
 have Bg:=H.cap 1 rfl;have dR:=H.om 1 rfl
 have AO:=H.cap 2 rfl;have dq:=H.om 2 rfl
 have CS:=H.cap 3 rfl;have eK:=H.om 3 rfl
 have Bh:=H.cap 4 rfl;have dS:=H.om 4 rfl
 refine R.dc (n:=217) (vs:=[.pointer (some ⟨k6,0,none⟩),.agg #[.string c.Key,.string c.Val,.bool c.Gone]]) (B:=[ag.box k6 [aN,aK,aU,aL,iV r.ae,iV r.af] 32,ag.row 88 aN (r.ai:List aj),ag.row 62 aK (r.Things:List ah),ag.row 85 aU (r.Held:List Held),ag.row 72 aL (r.Notes:List Note),ag.held w own]) [(0,.pointer (some ⟨k6,0,none⟩)),(1,.agg #[.string c.Key,.string c.Val,.bool c.Gone])] Tryz.func50 rfl rfl rfl rfl H ?_
 refine R.reg rfl<|R.s rfl (s.box (cs:=bT c) rfl rfl rfl) fun b1=>R.u 1 rfl<|R.nil ?_
 refine R.reg rfl<|R.q (q.a8 (off':=0) rfl bu rfl) rfl<|R.q (q.ld 0 rfl rfl bF rfl) rfl<|?_
 by_cases h1:c.Key=⟨#[]⟩
 ·
  refine R.q (q.lK rfl rfl h1) rfl<|R.nil ?_
  refine R.aD rfl rfl ?_
  refine R.reg rfl<|R.u 1 rfl<|R.nil ?_
  have hz:rowP r c=(r,false):=by (exact xt ‹_›)
  rw [hz]
  exact R.w1 (aN,aK,aU,aL) [1,2,3,4,5,6] [] rfl Tryz.results50 (RV.tmp rfl) rfl rfl rfl rfl
 ·
  refine R.q (q.lL rfl rfl h1) rfl<|R.nil ?_
  refine R.aI rfl rfl ?_
  have kp:=gY (c:=c) ‹_›
  refine R.reg rfl<|R.q (q.a8 (off':=0) rfl bu rfl) rfl<|R.q (q.ld 0 rfl rfl bF rfl) rfl<|R.q (q.zc (i:=1) rfl rfl Tryz.underlying9 rfl (by omega)) rfl<|R.s (B':=(fun aH:Value=>[ag.row 3 aH ((numsL (c.Key.extract 1 c.Key.size) 1):List Int),ag.box b1 (bT c) 52,ag.box k6 [aN,aK,aU,aL,iV r.ae,iV r.af] 32,ag.row 88 aN (r.ai:List aj),ag.row 62 aK (r.Things:List ah),ag.row 85 aU (r.Held:List Held),ag.row 72 aL (r.Notes:List Note),ag.held w own])) (F':=(fun aH:Value=>[bz])) rfl (s.bJ (B0:=[]) (Br:=[ag.box b1 (bT c) 52,ag.box k6 [aN,aK,aU,aL,iV r.ae,iV r.af] 32,ag.row 88 aN (r.ai:List aj),ag.row 62 aK (r.Things:List ah),ag.row 85 aU (r.Held:List Held),ag.row 72 aL (r.Notes:List Note),ag.held w own]) (F0:=[bz]) [0,1,2,3,4,5,6] [0] (fun aH:Value => .tuple #[aH,.bool ((cS (c.Key.extract 1 c.Key.size) 1))]) (fun aH:Value=>[ag.row 3 aH ((numsL (c.Key.extract 1 c.Key.size) 1):List Int)]) (fun aH:Value=>[]) rfl rfl rfl qW rfl rfl (fun w own hw H=>gT ((c.Key.extract 1 c.Key.size)) (1) w own H (by first|assumption|omega|(rw [ByteArray.size_extract];omega))) rfl) fun z1=>R.u 5 rfl<|R.nil ?_
  refine R.cut 1 (fun b:Bool=>[(0,.pointer (some ⟨k6,0,none⟩)),(3,.pointer (some ⟨b1,0,none⟩)),(5,z1),(6,.bool b)]) (fun b:Bool=>[ag.row 3 z1 (numsL (c.Key.extract 1 c.Key.size) 1:List Int),ag.box b1 (bT c) 52,ag.box k6 [aN,aK,aU,aL,iV r.ae,iV r.af] 32,ag.row 88 aN (r.ai:List aj),ag.row 62 aK (r.Things:List ah),ag.row 85 aU (r.Held:List Held),ag.row 72 aL (r.Notes:List Note),ag.held w own]) (fun b:Bool=>[bz]) (fun b:Bool=>b=si c) rfl rfl rfl ?_ ?_
  ·
   refine R.reg rfl<|R.u 2 rfl<|?_
   rcases Bool.eq_false_or_eq_true (cS (c.Key.extract 1 c.Key.size) 1) with h2|h2
   ·
    rw [h2]
    refine R.qg rfl (q.a8 (off':=0) rfl bu rfl) rfl<|R.qg rfl (q.ld 1 rfl rfl bF rfl) rfl<|R.qg rfl (q.lh rfl Tryz.underlying9) rfl<|?_
    by_cases h3:c.Key.size=5
    ·
     refine R.qg rfl (q.eql rfl rfl (beq_iff_eq.2 (by omega))) rfl<|R.u 2 rfl<|R.nil ?_
     exact R.meet true rfl (by (first|exact tu ‹_› | exact qI ‹_› (by omega)|exact qH (by omega))) ⟨rfl,rfl,rfl,rfl,trivial⟩ (fun _=>Wd.pick [0,1,2,3,4,5,6,7] [0] rfl rfl rfl)
    ·
     refine R.qg rfl (q.eql rfl rfl (beq_eq_false_iff_ne.2 (by omega))) rfl<|R.u 2 rfl<|R.nil ?_
     exact R.meet false rfl (by (first|exact tu ‹_› | exact qI ‹_› (by omega)|exact qH (by omega))) ⟨rfl,rfl,rfl,rfl,trivial⟩ (fun _=>Wd.pick [0,1,2,3,4,5,6,7] [0] rfl rfl rfl)
   ·
    rw [h2]
    refine R.u 6 rfl<|R.nil ?_
    exact R.meet false rfl (by (first|exact tu ‹_› | exact qI ‹_› (by omega)|exact qH (by omega))) ⟨rfl,rfl,rfl,rfl,trivial⟩ (fun _=>Wd.pick [0,1,2,3,4,5,6,7] [0] rfl rfl rfl)
  ·
   rintro b hC
   refine R.reg rfl<|R.q (q.a8 (off':=0) rfl bu rfl) rfl<|R.q (q.ld 1 rfl rfl bF rfl) rfl<|?_
   obtain ⟨y1,hy1⟩:∃z,c.Key.data[0]? = some z:=⟨_,Array.getElem?_eq_getElem (show 0<c.Key.size from by omega)⟩
   have EW:=y1.toNat_lt
   refine R.q (q.zO (i:=0) rfl rfl Tryz.underlying9 rfl hy1) rfl<|R.nil ?_
   refine R.reg rfl<|?_
   by_cases h4:y1.toNat=104
   ·
    refine R.q (q.eql rfl rfl (beq_iff_eq.2 (by omega))) rfl<|R.u 1 rfl<|R.nil ?_
    refine R.aD rfl rfl ?_
    refine R.reg rfl<|R.q (q.a8 (off':=1) rfl eD rfl) rfl<|R.q (q.ld 1 rfl rfl bF rfl) rfl<|R.s (B':=(fun aH:Value=>[ag.row 3 aH ((numsL c.Val 1):List Int),ag.row 3 z1 (numsL (c.Key.extract 1 c.Key.size) 1:List Int),ag.box b1 (bT c) 52,ag.box k6 [aN,aK,aU,aL,iV r.ae,iV r.af] 32,ag.row 88 aN (r.ai:List aj),ag.row 62 aK (r.Things:List ah),ag.row 85 aU (r.Held:List Held),ag.row 72 aL (r.Notes:List Note),ag.held w own])) (F':=(fun aH:Value=>[bz])) rfl (s.bJ (B0:=[]) (Br:=[ag.row 3 z1 (numsL (c.Key.extract 1 c.Key.size) 1:List Int),ag.box b1 (bT c) 52,ag.box k6 [aN,aK,aU,aL,iV r.ae,iV r.af] 32,ag.row 88 aN (r.ai:List aj),ag.row 62 aK (r.Things:List ah),ag.row 85 aU (r.Held:List Held),ag.row 72 aL (r.Notes:List Note),ag.held w own]) (F0:=[bz]) [0,1,2,3,4,5,6,7] [0] (fun aH:Value => .tuple #[aH,.bool ((cS c.Val 1))]) (fun aH:Value=>[ag.row 3 aH ((numsL c.Val 1):List Int)]) (fun aH:Value=>[]) rfl rfl rfl qW rfl rfl (fun w own hw H=>gT (c.Val) (1) w own H (by first|assumption|omega|(rw [ByteArray.size_extract];omega))) rfl) fun z2=>R.u 5 rfl<|R.nil ?_
    refine R.reg rfl<|R.u 1 rfl<|R.q (q.not rfl) rfl<|R.u 1 rfl<|?_
    rcases Bool.eq_false_or_eq_true (cS c.Val 1) with h5|h5
    ·
     rw [h5]
     refine R.qg rfl (q.a8 (off':=1) rfl eD rfl) rfl<|R.qg rfl (q.ld 2 rfl rfl bF rfl) rfl<|R.qg rfl (q.lh rfl Tryz.underlying9) rfl<|?_
     by_cases h6:c.Val.size=4
     ·
      refine R.qg rfl (q.neq rfl rfl (bne_eq_false_iff_eq.2 (by omega))) rfl<|R.u 2 rfl<|R.qg rfl (q.a8 (off':=0) rfl bu rfl) rfl<|R.qg rfl (q.ld 2 rfl rfl bF rfl) rfl<|R.qg rfl (q.lh rfl Tryz.underlying9) rfl<|?_
      by_cases h7:c.Key.size=3
      ·
       refine R.qg rfl (q.neq rfl rfl (bne_eq_false_iff_eq.2 (by omega))) rfl<|R.u 1 rfl<|R.nil ?_
       refine R.aI rfl rfl ?_
       obtain ⟨y2,hy2⟩:∃z,c.Key.data[1]? = some z:=⟨_,Array.getElem?_eq_getElem (show 1<c.Key.size from by omega)⟩
       have EX:=y2.toNat_lt
       obtain ⟨y3,hy3⟩:∃z,c.Key.data[2]? = some z:=⟨_,Array.getElem?_eq_getElem (show 2<c.Key.size from by omega)⟩
       have EY:=y3.toNat_lt
       refine R.gN (fuel:=13) (Wd w (blks [ag.box k6 [aN,aK,aU,aL,iV r.ae,iV r.af] 32,ag.row 88 aN (r.ai:List aj),ag.row 62 aK (r.Things:List ah),ag.row 85 aU (r.Held:List Held),ag.row 72 aL (r.Notes:List Note)]++own) [ag.row 3 z2 (numsL c.Val 1:List Int),ag.row 3 z1 (numsL (c.Key.extract 1 c.Key.size) 1:List Int),ag.box b1 (bT c) 52,ag.box k6 [aN,aK,aU,aL,iV r.ae,iV r.af] 32,ag.row 88 aN (r.ai:List aj),ag.row 62 aK (r.Things:List ah),ag.row 85 aU (r.Held:List Held),ag.row 72 aL (r.Notes:List Note),ag.held w own] [bz]) rfl mixed rfl ?_
       refine D.q (i:=0) rfl (by kernel_rfl) (fun _=>Wd.aM [0,1,2,3,4,5,6,7,8] [0] rfl rfl rfl) rfl (q.a8 (off':=0) rfl bu rfl) rfl<|D.q (i:=1) rfl (by kernel_rfl) (fun _=>Wd.aM [0,1,2,3,4,5,6,7,8] [0] rfl rfl rfl) rfl (q.ld 2 rfl rfl bF rfl) rfl<|D.q (i:=2) rfl (by kernel_rfl) (fun _=>Wd.aM [0,1,2,3,4,5,6,7,8] [0] rfl rfl rfl) rfl (q.zO (i:=1) rfl rfl Tryz.underlying9 rfl hy2) rfl<|D.q (i:=3) rfl (by kernel_rfl) (fun _=>Wd.aM [0,1,2,3,4,5,6,7,8] [0] rfl rfl rfl) rfl (q.CZ (r:=((y2.toNat:Nat):Int)) rfl (by rw [Tryz.underlying5];rfl) Tryz.underlying3 (wr (by omega))) rfl<|D.q (i:=4) rfl (by kernel_rfl) (fun _=>Wd.aM [0,1,2,3,4,5,6,7,8] [0] rfl rfl rfl) rfl (q.sub (r:=(y2.toNat:Int)-48) rfl rfl (wr (by omega))) rfl<|D.q (i:=5) rfl (by kernel_rfl) (fun _=>Wd.aM [0,1,2,3,4,5,6,7,8] [0] rfl rfl rfl) rfl (q.a8 (off':=0) rfl bu rfl) rfl<|D.q (i:=6) rfl (by kernel_rfl) (fun _=>Wd.aM [0,1,2,3,4,5,6,7,8] [0] rfl rfl rfl) rfl (q.ld 2 rfl rfl bF rfl) rfl<|D.q (i:=7) rfl (by kernel_rfl) (fun _=>Wd.aM [0,1,2,3,4,5,6,7,8] [0] rfl rfl rfl) rfl (q.zO (i:=2) rfl rfl Tryz.underlying9 rfl hy3) rfl<|D.q (i:=8) rfl (by kernel_rfl) (fun _=>Wd.aM [0,1,2,3,4,5,6,7,8] [0] rfl rfl rfl) rfl (q.CZ (r:=((y3.toNat:Nat):Int)) rfl (by rw [Tryz.underlying5];rfl) Tryz.underlying3 (wr (by omega))) rfl<|D.q (i:=9) rfl (by kernel_rfl) (fun _=>Wd.aM [0,1,2,3,4,5,6,7,8] [0] rfl rfl rfl) rfl (q.sub (r:=(y3.toNat:Int)-48) rfl rfl (wr (by omega))) rfl<|D.q (i:=10) rfl (by kernel_rfl) (fun _=>Wd.aM [0,1,2,3,4,5,6,7,8] [0] rfl rfl rfl) rfl (q.build (cs:=[iV ((y2.toNat:Int)-48),iV ((y3.toNat:Int)-48)]) mW rfl rfl) rfl<|D.one (i:=11) (by kernel_rfl) rfl ?_
       refine Do.s (s.alloc (cs:=[iV 0,iV 0]) oo rfl rfl) (fun _=>(fun _=>Wd.aM [1,2,3,4,5,6,7,8,9] [0] rfl rfl rfl)) rfl fun b2=>D.one (i:=12) (by kernel_rfl) rfl ?_
       refine Do.s (s.st (us:=[iV ((y2.toNat:Int)-48),iV ((y3.toNat:Int)-48)]) (cs':=[iV ((y2.toNat:Int)-48),iV ((y3.toNat:Int)-48)]) 0 _ rfl rfl rfl rfl (.inl br) rfl rfl rfl rfl) (fun _=>(fun _=>Wd.aM [1,2,3,4,5,6,7,8,9] [0] rfl rfl rfl)) rfl fun _=>D.done (by kernel_rfl)<|?_
       have EE:=ku (s:=c.Val) (m:=1) ‹_›
       obtain ⟨x1,hx1⟩:∃z,(numsL c.Val 1)[0]? = some z:=⟨_,List.getElem?_eq_getElem (by omega)⟩
       refine R.gN (fuel:=15) (Wd w (blks [ag.box k6 [aN,aK,aU,aL,iV r.ae,iV r.af] 32,ag.row 88 aN (r.ai:List aj),ag.row 62 aK (r.Things:List ah),ag.row 85 aU (r.Held:List Held),ag.row 72 aL (r.Notes:List Note)]++own) [ag.box b2 [iV ((y2.toNat:Int)-48),iV ((y3.toNat:Int)-48)] 39,ag.row 3 z2 (numsL c.Val 1:List Int),ag.row 3 z1 (numsL (c.Key.extract 1 c.Key.size) 1:List Int),ag.box b1 (bT c) 52,ag.row 88 aN (r.ai:List aj),ag.row 62 aK (r.Things:List ah),ag.row 72 aL (r.Notes:List Note),ag.held w own] [bz]) rfl mixed rfl ?_
       refine D.q (i:=0) rfl (by kernel_rfl) (fun _=>Wd.aM [0,1,2,3,5,6,8,9] [0] rfl rfl rfl) rfl (q.mv rfl) rfl<|D.q (i:=1) rfl (by kernel_rfl) (fun _=>Wd.aM [0,1,2,3,5,6,8,9] [0] rfl rfl rfl) rfl (q.mv rfl) rfl<|D.q (i:=2) rfl (by kernel_rfl) (fun _=>Wd.aM [0,1,2,3,5,6,8,9] [0] rfl rfl rfl) rfl (q.ob rfl) rfl<|D.q (i:=3) rfl (by kernel_rfl) (fun _=>Wd.aM [0,1,2,3,5,6,8,9] [0] rfl rfl rfl) rfl (q.a8 (off':=2) rfl bP rfl) rfl<|D.q (i:=5) rfl (by kernel_rfl) (fun _=>Wd.aM [0,1,2,3,5,6,8,9] [0] rfl rfl rfl) rfl (q.cT 0 rfl rfl br) rfl<|D.q (i:=6) rfl (by kernel_rfl) (fun _=>Wd.aM [0,1,2,3,5,6,8,9] [0] rfl rfl rfl) rfl (q.mv rfl) rfl<|D.q (i:=7) rfl (by kernel_rfl) (fun _=>Wd.aM [0,1,2,3,5,6,8,9] [0] rfl rfl rfl) rfl (q.idx (i:=0) (fun _=>Wd.row 1 rfl) rfl rfl ct rfl hx1) rfl<|D.q (i:=8) rfl (by kernel_rfl) (fun _=>Wd.aM [0,1,2,3,5,6,8,9] [0] rfl rfl rfl) rfl (q.fk (fun _=>Wd.row 1 rfl) hx1 rfl av rfl) rfl<|D.q (i:=9) rfl (by kernel_rfl) (fun _=>Wd.aM [0,1,2,3,5,6,8,9] [0] rfl rfl rfl) rfl (q.build (cs:=[iV ((y2.toNat:Int)-48),iV ((y3.toNat:Int)-48),iV x1]) zd rfl rfl) rfl<|D.two (i:=4) (j:=10) (by kernel_rfl) rfl rfl ?_ ?_
       ·
        refine Do.s (s.c (Qt.a (q.ld 4 rfl rfl cx rfl)) rfl) (fun _=>(fun _=>Wd.aM [0,1,2,3,5,6,8,9] [0] rfl rfl rfl)) rfl fun _=>D.one (i:=10) (by kernel_rfl) rfl ?_
        refine Do.s (s.bs (l:=([(⟨(⟨((y2.toNat:Int)-48),((y3.toNat:Int)-48)⟩:Place),x1⟩:Held)]:List Held)) bD fA rfl rfl rfl rfl rfl rfl rfl) (fun _=>(fun _=>Wd.aM [1,2,3,4,6,7,9,10] [0] rfl rfl rfl)) rfl fun b3=>D.one (i:=11) (by kernel_rfl) rfl ?_
        refine Do.s (s.app (l2:=[(⟨(⟨((y2.toNat:Int)-48),((y3.toNat:Int)-48)⟩:Place),x1⟩:Held)]) 8 _ rfl rfl rfl (fun _=>Wd.row 0 rfl) jy (by first|omega|(simp;done)|(simp;omega)) (by first|omega|(simp;done)|(simp;omega)) (fun _=>rfl) rfl) (fun _=>(fun _=>Wd.aM [1,2,3,4,6,7,9,10] [0] rfl rfl rfl)) rfl fun v1=>D.q (i:=12) rfl (by kernel_rfl) (fun _=>Wd.aM [1,2,3,4,6,7,9,10] [0] rfl rfl rfl) rfl (q.ob rfl) rfl<|D.q (i:=13) rfl (by kernel_rfl) (fun _=>Wd.aM [1,2,3,4,6,7,9,10] [0] rfl rfl rfl) rfl (q.a8 (off':=2) rfl bP rfl) rfl<|D.one (i:=14) (by kernel_rfl) rfl ?_
        refine Do.s (s.e8 (us:=[v1]) (cs':=[aN,aK,v1,aL,iV r.ae,iV r.af]) 5 _ rfl rfl rfl (fun w hw=>Sl.cJ (hw.row 8 rfl)) (.inr ⟨cx,rfl⟩) (fun w hw=>(ak (Sl.one (hw.row 8 rfl)) aS)) rfl rfl rfl) (fun _=>(fun _=>Wd.aM [1,2,3,4,6,7,9,10] [0] rfl rfl rfl)) rfl fun _=>D.done (by kernel_rfl)<|R.reg rfl<|R.q (q.cT 1 rfl rfl br) rfl<|R.c (q.call tQ rfl rfl (fun w hw=>(gk ((⟨((y2.toNat:Int)-48),((y3.toNat:Int)-48)⟩:Place)) w  ))) rfl<|?_
        by_cases h8:aX (⟨((y2.toNat:Int)-48),((y3.toNat:Int)-48)⟩:Place)=0
        ·
         refine R.q (q.nV rfl rfl Tryz.underlying35 (by omega)) rfl<|R.u 1 rfl<|R.nil ?_
         have hz:rowP r c=((⟨r.ai,r.Things,(r.Held++([(⟨(⟨((y2.toNat:Int)-48),((y3.toNat:Int)-48)⟩:Place),x1⟩:Held)])),r.Notes,r.ae,r.af⟩:ap),true):=by (first|exact r9 ‹_› hy1 (by omega) ‹_› (by omega) (by omega) hy2 hy3 ‹_› (decide_eq_true ‹_›).symm|exact r9 ‹_› hy1 (by omega) ‹_› (by omega) (by omega) hy2 hy3 ‹_› (decide_eq_false ‹_›).symm)
         rw [hz]
         exact R.w1 (aN,aK,v1,aL) [5,6,7,8,9,10] [] rfl Tryz.results50 (RV.tmp rfl) rfl rfl rfl rfl
        ·
         refine R.q (q.qM rfl rfl Tryz.underlying35 (by omega)) rfl<|R.u 1 rfl<|R.nil ?_
         have hz:rowP r c=((⟨r.ai,r.Things,(r.Held++([(⟨(⟨((y2.toNat:Int)-48),((y3.toNat:Int)-48)⟩:Place),x1⟩:Held)])),r.Notes,r.ae,r.af⟩:ap),false):=by (first|exact r9 ‹_› hy1 (by omega) ‹_› (by omega) (by omega) hy2 hy3 ‹_› (decide_eq_true ‹_›).symm|exact r9 ‹_› hy1 (by omega) ‹_› (by omega) (by omega) hy2 hy3 ‹_› (decide_eq_false ‹_›).symm)
         rw [hz]
         exact R.w1 (aN,aK,v1,aL) [5,6,7,8,9,10] [] rfl Tryz.results50 (RV.tmp rfl) rfl rfl rfl rfl
       ·
        refine Do.s (s.bs (l:=([(⟨(⟨((y2.toNat:Int)-48),((y3.toNat:Int)-48)⟩:Place),x1⟩:Held)]:List Held)) bD fA rfl rfl rfl rfl rfl rfl rfl) (fun _=>(fun _=>Wd.aM [1,2,3,4,6,7,9,10] [0] rfl rfl rfl)) rfl fun b4=>D.one (i:=4) (by kernel_rfl) rfl ?_
        refine Do.s (s.c (Qt.a (q.ld 5 rfl rfl cx rfl)) rfl) (fun _=>(fun _=>Wd.aM [1,2,3,4,6,7,9,10] [0] rfl rfl rfl)) rfl fun _=>D.one (i:=11) (by kernel_rfl) rfl ?_
        refine Do.s (s.app (l2:=[(⟨(⟨((y2.toNat:Int)-48),((y3.toNat:Int)-48)⟩:Place),x1⟩:Held)]) 8 _ rfl rfl rfl (fun _=>Wd.row 0 rfl) jy (by first|omega|(simp;done)|(simp;omega)) (by first|omega|(simp;done)|(simp;omega)) (fun _=>rfl) rfl) (fun _=>(fun _=>Wd.aM [1,2,3,4,6,7,9,10] [0] rfl rfl rfl)) rfl fun v2=>D.q (i:=12) rfl (by kernel_rfl) (fun _=>Wd.aM [1,2,3,4,6,7,9,10] [0] rfl rfl rfl) rfl (q.ob rfl) rfl<|D.q (i:=13) rfl (by kernel_rfl) (fun _=>Wd.aM [1,2,3,4,6,7,9,10] [0] rfl rfl rfl) rfl (q.a8 (off':=2) rfl bP rfl) rfl<|D.one (i:=14) (by kernel_rfl) rfl ?_
        refine Do.s (s.e8 (us:=[v2]) (cs':=[aN,aK,v2,aL,iV r.ae,iV r.af]) 5 _ rfl rfl rfl (fun w hw=>Sl.cJ (hw.row 8 rfl)) (.inr ⟨cx,rfl⟩) (fun w hw=>(ak (Sl.one (hw.row 8 rfl)) aS)) rfl rfl rfl) (fun _=>(fun _=>Wd.aM [1,2,3,4,6,7,9,10] [0] rfl rfl rfl)) rfl fun _=>D.done (by kernel_rfl)<|R.reg rfl<|R.q (q.cT 1 rfl rfl br) rfl<|R.c (q.call tQ rfl rfl (fun w hw=>(gk ((⟨((y2.toNat:Int)-48),((y3.toNat:Int)-48)⟩:Place)) w  ))) rfl<|?_
        by_cases h9:aX (⟨((y2.toNat:Int)-48),((y3.toNat:Int)-48)⟩:Place)=0
        ·
         refine R.q (q.nV rfl rfl Tryz.underlying35 (by omega)) rfl<|R.u 1 rfl<|R.nil ?_
         have hz:rowP r c=((⟨r.ai,r.Things,(r.Held++([(⟨(⟨((y2.toNat:Int)-48),((y3.toNat:Int)-48)⟩:Place),x1⟩:Held)])),r.Notes,r.ae,r.af⟩:ap),true):=by (first|exact r9 ‹_› hy1 (by omega) ‹_› (by omega) (by omega) hy2 hy3 ‹_› (decide_eq_true ‹_›).symm|exact r9 ‹_› hy1 (by omega) ‹_› (by omega) (by omega) hy2 hy3 ‹_› (decide_eq_false ‹_›).symm)
         rw [hz]
         exact R.w1 (aN,aK,v2,aL) [5,6,7,8,9,10] [] rfl Tryz.results50 (RV.tmp rfl) rfl rfl rfl rfl
        ·
         refine R.q (q.qM rfl rfl Tryz.underlying35 (by omega)) rfl<|R.u 1 rfl<|R.nil ?_
         have hz:rowP r c=((⟨r.ai,r.Things,(r.Held++([(⟨(⟨((y2.toNat:Int)-48),((y3.toNat:Int)-48)⟩:Place),x1⟩:Held)])),r.Notes,r.ae,r.af⟩:ap),false):=by (first|exact r9 ‹_› hy1 (by omega) ‹_› (by omega) (by omega) hy2 hy3 ‹_› (decide_eq_true ‹_›).symm|exact r9 ‹_› hy1 (by omega) ‹_› (by omega) (by omega) hy2 hy3 ‹_› (decide_eq_false ‹_›).symm)
         rw [hz]
         exact R.w1 (aN,aK,v2,aL) [5,6,7,8,9,10] [] rfl Tryz.results50 (RV.tmp rfl) rfl rfl rfl rfl
      ·
       refine R.qg rfl (q.neq rfl rfl (bne_iff_ne.2 (by omega))) rfl<|R.u 1 rfl<|R.nil ?_
       refine R.aD rfl rfl ?_
       refine R.reg rfl<|R.u 1 rfl<|R.nil ?_
       have hz:rowP r c=(r,false):=by (first|exact gZ ‹_› hy1 (by omega) (.inl ‹_›)|exact gZ ‹_› hy1 (by omega) (.inr (.inl (by omega)))|exact gZ ‹_› hy1 (by omega) (.inr (.inr (by omega))))
       rw [hz]
       exact R.w1 (aN,aK,aU,aL) [3,4,5,6,7,8] [] rfl Tryz.results50 (RV.tmp rfl) rfl rfl rfl rfl
     ·
      refine R.qg rfl (q.neq rfl rfl (bne_iff_ne.2 (by omega))) rfl<|R.u 7 rfl<|R.nil ?_
      refine R.aD rfl rfl ?_
      refine R.reg rfl<|R.u 1 rfl<|R.nil ?_
      have hz:rowP r c=(r,false):=by (first|exact gZ ‹_› hy1 (by omega) (.inl ‹_›)|exact gZ ‹_› hy1 (by omega) (.inr (.inl (by omega)))|exact gZ ‹_› hy1 (by omega) (.inr (.inr (by omega))))
      rw [hz]
      exact R.w1 (aN,aK,aU,aL) [3,4,5,6,7,8] [] rfl Tryz.results50 (RV.tmp rfl) rfl rfl rfl rfl
    ·
     rw [h5]
     refine R.u 11 rfl<|R.nil ?_
     refine R.aD rfl rfl ?_
     refine R.reg rfl<|R.u 1 rfl<|R.nil ?_
     have hz:rowP r c=(r,false):=by (first|exact gZ ‹_› hy1 (by omega) (.inl ‹_›)|exact gZ ‹_› hy1 (by omega) (.inr (.inl (by omega)))|exact gZ ‹_› hy1 (by omega) (.inr (.inr (by omega))))
     rw [hz]
     exact R.w1 (aN,aK,aU,aL) [3,4,5,6,7,8] [] rfl Tryz.results50 (RV.tmp rfl) rfl rfl rfl rfl
   ·
    refine R.q (q.eql rfl rfl (beq_eq_false_iff_ne.2 (by omega))) rfl<|R.u 1 rfl<|R.nil ?_
    refine R.aI rfl rfl ?_
    refine R.reg rfl<|?_
    by_cases h10:y1.toNat=116
    ·
     refine R.q (q.eql rfl rfl (beq_iff_eq.2 (by omega))) rfl<|R.u 1 rfl<|R.nil ?_
     refine R.aD rfl rfl ?_
     refine R.reg rfl<|R.q (q.a8 (off':=1) rfl eD rfl) rfl<|R.q (q.ld 1 rfl rfl bF rfl) rfl<|R.s (B':=(fun aH:Value=>[ag.row 3 aH ((numsL c.Val 1):List Int),ag.row 3 z1 (numsL (c.Key.extract 1 c.Key.size) 1:List Int),ag.box b1 (bT c) 52,ag.box k6 [aN,aK,aU,aL,iV r.ae,iV r.af] 32,ag.row 88 aN (r.ai:List aj),ag.row 62 aK (r.Things:List ah),ag.row 85 aU (r.Held:List Held),ag.row 72 aL (r.Notes:List Note),ag.held w own])) (F':=(fun aH:Value=>[bz])) rfl (s.bJ (B0:=[]) (Br:=[ag.row 3 z1 (numsL (c.Key.extract 1 c.Key.size) 1:List Int),ag.box b1 (bT c) 52,ag.box k6 [aN,aK,aU,aL,iV r.ae,iV r.af] 32,ag.row 88 aN (r.ai:List aj),ag.row 62 aK (r.Things:List ah),ag.row 85 aU (r.Held:List Held),ag.row 72 aL (r.Notes:List Note),ag.held w own]) (F0:=[bz]) [0,1,2,3,4,5,6,7] [0] (fun aH:Value => .tuple #[aH,.bool ((cS c.Val 1))]) (fun aH:Value=>[ag.row 3 aH ((numsL c.Val 1):List Int)]) (fun aH:Value=>[]) rfl rfl rfl qW rfl rfl (fun w own hw H=>gT (c.Val) (1) w own H (by first|assumption|omega|(rw [ByteArray.size_extract];omega))) rfl) fun z3=>R.u 5 rfl<|R.nil ?_
     refine R.reg rfl<|R.u 1 rfl<|R.q (q.not rfl) rfl<|R.u 1 rfl<|?_
     cases b
     ·
      refine R.u 9 rfl<|R.nil ?_
      refine R.aD rfl rfl ?_
      refine R.reg rfl<|R.u 1 rfl<|R.nil ?_
      have hz:rowP r c=(r,false):=by (first|exact g9 ‹_› hy1 (by omega) (.inl hC.symm)|exact g9 ‹_› hy1 (by omega) (.inr (.inl ‹_›))|exact g9 ‹_› hy1 (by omega) (.inr (.inr (by omega))))
      rw [hz]
      exact R.w1 (aN,aK,aU,aL) [3,4,5,6,7,8] [] rfl Tryz.results50 (RV.tmp rfl) rfl rfl rfl rfl
     ·
      refine R.u 1 rfl<|R.qg rfl (q.not rfl) rfl<|R.u 2 rfl<|?_
      rcases Bool.eq_false_or_eq_true (cS c.Val 1) with h11|h11
      ·
       rw [h11]
       refine R.qg rfl (q.a8 (off':=1) rfl eD rfl) rfl<|R.qg rfl (q.ld 2 rfl rfl bF rfl) rfl<|R.qg rfl (q.lh rfl Tryz.underlying9) rfl<|?_
       by_cases h12:12<c.Val.size
       ·
        refine R.qg rfl (q.gtr rfl rfl (decide_eq_true (by omega))) rfl<|R.u 1 rfl<|R.nil ?_
        refine R.aD rfl rfl ?_
        refine R.reg rfl<|R.u 1 rfl<|R.nil ?_
        have hz:rowP r c=(r,false):=by (first|exact g9 ‹_› hy1 (by omega) (.inl hC.symm)|exact g9 ‹_› hy1 (by omega) (.inr (.inl ‹_›))|exact g9 ‹_› hy1 (by omega) (.inr (.inr (by omega))))
        rw [hz]
        exact R.w1 (aN,aK,aU,aL) [3,4,5,6,7,8] [] rfl Tryz.results50 (RV.tmp rfl) rfl rfl rfl rfl
       ·
        refine R.qg rfl (q.gtr rfl rfl (decide_eq_false (by omega))) rfl<|R.u 1 rfl<|R.nil ?_
        refine R.aI rfl rfl ?_
        have ek:=xu (c:=c) hC.symm
        have EE:=ku (s:=c.Val) (m:=1) ‹_›
        obtain ⟨x2,hx2⟩:∃z,(numsL (c.Key.extract 1 c.Key.size) 1)[0]? = some z:=⟨_,List.getElem?_eq_getElem (by omega)⟩
        obtain ⟨x3,hx3⟩:∃z,(numsL c.Val 1)[0]? = some z:=⟨_,List.getElem?_eq_getElem (by omega)⟩
        refine R.gN (fuel:=20) (Wd w (blks [ag.box k6 [aN,aK,aU,aL,iV r.ae,iV r.af] 32,ag.row 88 aN (r.ai:List aj),ag.row 62 aK (r.Things:List ah),ag.row 85 aU (r.Held:List Held),ag.row 72 aL (r.Notes:List Note)]++own) [ag.row 3 z3 (numsL c.Val 1:List Int),ag.row 3 z1 (numsL (c.Key.extract 1 c.Key.size) 1:List Int),ag.box b1 (bT c) 52,ag.row 88 aN (r.ai:List aj),ag.row 85 aU (r.Held:List Held),ag.row 72 aL (r.Notes:List Note),ag.held w own] [bz]) rfl mixed rfl ?_
        refine D.q (i:=0) rfl (by kernel_rfl) (fun _=>Wd.aM [0,1,2,4,6,7,8] [0] rfl rfl rfl) rfl (q.mv rfl) rfl<|D.q (i:=1) rfl (by kernel_rfl) (fun _=>Wd.aM [0,1,2,4,6,7,8] [0] rfl rfl rfl) rfl (q.mv rfl) rfl<|D.q (i:=2) rfl (by kernel_rfl) (fun _=>Wd.aM [0,1,2,4,6,7,8] [0] rfl rfl rfl) rfl (q.ob rfl) rfl<|D.q (i:=3) rfl (by kernel_rfl) (fun _=>Wd.aM [0,1,2,4,6,7,8] [0] rfl rfl rfl) rfl (q.a8 (off':=1) rfl bO rfl) rfl<|D.q (i:=5) rfl (by kernel_rfl) (fun _=>Wd.aM [0,1,2,4,6,7,8] [0] rfl rfl rfl) rfl (q.mv rfl) rfl<|D.q (i:=6) rfl (by kernel_rfl) (fun _=>Wd.aM [0,1,2,4,6,7,8] [0] rfl rfl rfl) rfl (q.idx (i:=0) (fun _=>Wd.row 1 rfl) rfl rfl ct rfl hx2) rfl<|D.q (i:=7) rfl (by kernel_rfl) (fun _=>Wd.aM [0,1,2,4,6,7,8] [0] rfl rfl rfl) rfl (q.fk (fun _=>Wd.row 1 rfl) hx2 rfl av rfl) rfl<|D.q (i:=8) rfl (by kernel_rfl) (fun _=>Wd.aM [0,1,2,4,6,7,8] [0] rfl rfl rfl) rfl (q.mv rfl) rfl<|D.q (i:=9) rfl (by kernel_rfl) (fun _=>Wd.aM [0,1,2,4,6,7,8] [0] rfl rfl rfl) rfl (q.idx (i:=0) (fun _=>Wd.row 0 rfl) rfl rfl ct rfl hx3) rfl<|D.q (i:=10) rfl (by kernel_rfl) (fun _=>Wd.aM [0,1,2,4,6,7,8] [0] rfl rfl rfl) rfl (q.fk (fun _=>Wd.row 0 rfl) hx3 rfl av rfl) rfl<|D.q (i:=11) rfl (by kernel_rfl) (fun _=>Wd.aM [0,1,2,4,6,7,8] [0] rfl rfl rfl) rfl (q.a8 (off':=1) rfl eD rfl) rfl<|D.q (i:=12) rfl (by kernel_rfl) (fun _=>Wd.aM [0,1,2,4,6,7,8] [0] rfl rfl rfl) rfl (q.ld 2 rfl rfl bF rfl) rfl<|D.q (i:=13) rfl (by kernel_rfl) (fun _=>Wd.aM [0,1,2,4,6,7,8] [0] rfl rfl rfl) rfl (q.zc (i:=4) rfl rfl Tryz.underlying9 rfl (by omega)) rfl<|D.q (i:=14) rfl (by kernel_rfl) (fun _=>Wd.aM [0,1,2,4,6,7,8] [0] rfl rfl rfl) rfl (q.build (cs:=[iV x2,iV x3,.string (c.Val.extract 4 c.Val.size)]) vQ rfl rfl) rfl<|D.two (i:=4) (j:=15) (by kernel_rfl) rfl rfl ?_ ?_
        ·
         refine Do.s (s.c (Qt.a (q.ld 3 rfl rfl cw rfl)) rfl) (fun _=>(fun _=>Wd.aM [0,1,2,4,6,7,8] [0] rfl rfl rfl)) rfl fun _=>D.one (i:=15) (by kernel_rfl) rfl ?_
         refine Do.s (s.bs (l:=([(⟨x2,x3,(c.Val.extract 4 c.Val.size)⟩:ah)]:List ah)) fb gi rfl rfl rfl rfl rfl rfl rfl) (fun _=>(fun _=>Wd.aM [1,2,3,5,7,8,9] [0] rfl rfl rfl)) rfl fun b5=>D.one (i:=16) (by kernel_rfl) rfl ?_
         refine Do.s (s.app (l2:=[(⟨x2,x3,(c.Val.extract 4 c.Val.size)⟩:ah)]) 6 _ rfl rfl rfl (fun _=>Wd.row 0 rfl) lP (by first|omega|(simp;done)|(simp;omega)) (by first|omega|(simp;done)|(simp;omega)) (fun _=>rfl) rfl) (fun _=>(fun _=>Wd.aM [1,2,3,5,7,8,9] [0] rfl rfl rfl)) rfl fun v3=>D.q (i:=17) rfl (by kernel_rfl) (fun _=>Wd.aM [1,2,3,5,7,8,9] [0] rfl rfl rfl) rfl (q.ob rfl) rfl<|D.q (i:=18) rfl (by kernel_rfl) (fun _=>Wd.aM [1,2,3,5,7,8,9] [0] rfl rfl rfl) rfl (q.a8 (off':=1) rfl bO rfl) rfl<|D.one (i:=19) (by kernel_rfl) rfl ?_
         refine Do.s (s.e8 (us:=[v3]) (cs':=[aN,v3,aU,aL,iV r.ae,iV r.af]) 4 _ rfl rfl rfl (fun w hw=>Sl.cJ (hw.row 6 rfl)) (.inr ⟨cw,rfl⟩) (fun w hw=>(ak (Sl.one (hw.row 6 rfl)) aS)) rfl rfl rfl) (fun _=>(fun _=>Wd.aM [1,2,3,5,7,8,9] [0] rfl rfl rfl)) rfl fun _=>D.done (by kernel_rfl)<|R.reg rfl<|R.u 1 rfl<|R.q (q.idx (i:=0) (fun _=>Wd.row 1 rfl) rfl rfl ct rfl hx3) rfl<|R.q (q.fk (fun _=>Wd.row 1 rfl) hx3 rfl av rfl) rfl<|?_
         by_cases EF:x3=1
         ·
          refine R.q (q.eql rfl rfl (beq_iff_eq.2 (by omega))) rfl<|R.u 13 rfl<|R.nil ?_
          have hz:rowP r c=((⟨r.ai,(r.Things++([(⟨x2,x3,(c.Val.extract 4 c.Val.size)⟩:ah)])),r.Held,r.Notes,r.ae,r.af⟩:ap),true):=by (first|exact kR ‹_› hy1 (by omega) hC.symm ‹_› (by omega) ‹_› ‹_› (decide_eq_true (by omega)).symm|exact kR ‹_› hy1 (by omega) hC.symm ‹_› (by omega) ‹_› ‹_› (decide_eq_false (by omega)).symm)
          rw [hz]
          exact R.w1 (aN,v3,aU,aL) [4,5,6,7,8,9] [] rfl Tryz.results50 (RV.tmp rfl) rfl rfl rfl rfl
         ·
          refine R.q (q.eql rfl rfl (beq_eq_false_iff_ne.2 (by omega))) rfl<|R.u 2 rfl<|R.qg rfl (q.idx (i:=0) (fun _=>Wd.row 1 rfl) rfl rfl ct rfl hx3) rfl<|R.qg rfl (q.fk (fun _=>Wd.row 1 rfl) hx3 rfl av rfl) rfl<|?_
          by_cases EG:x3=2
          ·
           refine R.qg rfl (q.eql rfl rfl (beq_iff_eq.2 (by omega))) rfl<|R.u 1 rfl<|R.qg rfl (q.a8 (off':=1) rfl eD rfl) rfl<|R.qg rfl (q.ld 3 rfl rfl bF rfl) rfl<|R.qg rfl (q.lh rfl Tryz.underlying9) rfl<|?_
           by_cases EH:c.Val.size=4
           ·
            refine R.qg rfl (q.eql rfl rfl (beq_iff_eq.2 (by omega))) rfl<|R.u 3 rfl<|R.nil ?_
            have hz:rowP r c=((⟨r.ai,(r.Things++([(⟨x2,x3,(c.Val.extract 4 c.Val.size)⟩:ah)])),r.Held,r.Notes,r.ae,r.af⟩:ap),true):=by (first|exact kR ‹_› hy1 (by omega) hC.symm ‹_› (by omega) ‹_› ‹_› (decide_eq_true (by omega)).symm|exact kR ‹_› hy1 (by omega) hC.symm ‹_› (by omega) ‹_› ‹_› (decide_eq_false (by omega)).symm)
            rw [hz]
            exact R.w1 (aN,v3,aU,aL) [4,5,6,7,8,9] [] rfl Tryz.results50 (RV.tmp rfl) rfl rfl rfl rfl
           ·
            refine R.qg rfl (q.eql rfl rfl (beq_eq_false_iff_ne.2 (by omega))) rfl<|R.u 3 rfl<|R.nil ?_
            have hz:rowP r c=((⟨r.ai,(r.Things++([(⟨x2,x3,(c.Val.extract 4 c.Val.size)⟩:ah)])),r.Held,r.Notes,r.ae,r.af⟩:ap),false):=by (first|exact kR ‹_› hy1 (by omega) hC.symm ‹_› (by omega) ‹_› ‹_› (decide_eq_true (by omega)).symm|exact kR ‹_› hy1 (by omega) hC.symm ‹_› (by omega) ‹_› ‹_› (decide_eq_false (by omega)).symm)
            rw [hz]
            exact R.w1 (aN,v3,aU,aL) [4,5,6,7,8,9] [] rfl Tryz.results50 (RV.tmp rfl) rfl rfl rfl rfl
          ·
           refine R.qg rfl (q.eql rfl rfl (beq_eq_false_iff_ne.2 (by omega))) rfl<|R.u 8 rfl<|R.nil ?_
           have hz:rowP r c=((⟨r.ai,(r.Things++([(⟨x2,x3,(c.Val.extract 4 c.Val.size)⟩:ah)])),r.Held,r.Notes,r.ae,r.af⟩:ap),false):=by (first|exact kR ‹_› hy1 (by omega) hC.symm ‹_› (by omega) ‹_› ‹_› (decide_eq_true (by omega)).symm|exact kR ‹_› hy1 (by omega) hC.symm ‹_› (by omega) ‹_› ‹_› (decide_eq_false (by omega)).symm)
           rw [hz]
           exact R.w1 (aN,v3,aU,aL) [4,5,6,7,8,9] [] rfl Tryz.results50 (RV.tmp rfl) rfl rfl rfl rfl
        ·
         refine Do.s (s.bs (l:=([(⟨x2,x3,(c.Val.extract 4 c.Val.size)⟩:ah)]:List ah)) fb gi rfl rfl rfl rfl rfl rfl rfl) (fun _=>(fun _=>Wd.aM [1,2,3,5,7,8,9] [0] rfl rfl rfl)) rfl fun b6=>D.one (i:=4) (by kernel_rfl) rfl ?_
         refine Do.s (s.c (Qt.a (q.ld 4 rfl rfl cw rfl)) rfl) (fun _=>(fun _=>Wd.aM [1,2,3,5,7,8,9] [0] rfl rfl rfl)) rfl fun _=>D.one (i:=16) (by kernel_rfl) rfl ?_
         refine Do.s (s.app (l2:=[(⟨x2,x3,(c.Val.extract 4 c.Val.size)⟩:ah)]) 6 _ rfl rfl rfl (fun _=>Wd.row 0 rfl) lP (by first|omega|(simp;done)|(simp;omega)) (by first|omega|(simp;done)|(simp;omega)) (fun _=>rfl) rfl) (fun _=>(fun _=>Wd.aM [1,2,3,5,7,8,9] [0] rfl rfl rfl)) rfl fun v4=>D.q (i:=17) rfl (by kernel_rfl) (fun _=>Wd.aM [1,2,3,5,7,8,9] [0] rfl rfl rfl) rfl (q.ob rfl) rfl<|D.q (i:=18) rfl (by kernel_rfl) (fun _=>Wd.aM [1,2,3,5,7,8,9] [0] rfl rfl rfl) rfl (q.a8 (off':=1) rfl bO rfl) rfl<|D.one (i:=19) (by kernel_rfl) rfl ?_
         refine Do.s (s.e8 (us:=[v4]) (cs':=[aN,v4,aU,aL,iV r.ae,iV r.af]) 4 _ rfl rfl rfl (fun w hw=>Sl.cJ (hw.row 6 rfl)) (.inr ⟨cw,rfl⟩) (fun w hw=>(ak (Sl.one (hw.row 6 rfl)) aS)) rfl rfl rfl) (fun _=>(fun _=>Wd.aM [1,2,3,5,7,8,9] [0] rfl rfl rfl)) rfl fun _=>D.done (by kernel_rfl)<|R.reg rfl<|R.u 1 rfl<|R.q (q.idx (i:=0) (fun _=>Wd.row 1 rfl) rfl rfl ct rfl hx3) rfl<|R.q (q.fk (fun _=>Wd.row 1 rfl) hx3 rfl av rfl) rfl<|?_
         by_cases h16:x3=1
         ·
          refine R.q (q.eql rfl rfl (beq_iff_eq.2 (by omega))) rfl<|R.u 13 rfl<|R.nil ?_
          have hz:rowP r c=((⟨r.ai,(r.Things++([(⟨x2,x3,(c.Val.extract 4 c.Val.size)⟩:ah)])),r.Held,r.Notes,r.ae,r.af⟩:ap),true):=by (first|exact kR ‹_› hy1 (by omega) hC.symm ‹_› (by omega) ‹_› ‹_› (decide_eq_true (by omega)).symm|exact kR ‹_› hy1 (by omega) hC.symm ‹_› (by omega) ‹_› ‹_› (decide_eq_false (by omega)).symm)
          rw [hz]
          exact R.w1 (aN,v4,aU,aL) [4,5,6,7,8,9] [] rfl Tryz.results50 (RV.tmp rfl) rfl rfl rfl rfl
         ·
          refine R.q (q.eql rfl rfl (beq_eq_false_iff_ne.2 (by omega))) rfl<|R.u 2 rfl<|R.qg rfl (q.idx (i:=0) (fun _=>Wd.row 1 rfl) rfl rfl ct rfl hx3) rfl<|R.qg rfl (q.fk (fun _=>Wd.row 1 rfl) hx3 rfl av rfl) rfl<|?_
          by_cases EI:x3=2
          ·
           refine R.qg rfl (q.eql rfl rfl (beq_iff_eq.2 (by omega))) rfl<|R.u 1 rfl<|R.qg rfl (q.a8 (off':=1) rfl eD rfl) rfl<|R.qg rfl (q.ld 3 rfl rfl bF rfl) rfl<|R.qg rfl (q.lh rfl Tryz.underlying9) rfl<|?_
           by_cases h18:c.Val.size=4
           ·
            refine R.qg rfl (q.eql rfl rfl (beq_iff_eq.2 (by omega))) rfl<|R.u 3 rfl<|R.nil ?_
            have hz:rowP r c=((⟨r.ai,(r.Things++([(⟨x2,x3,(c.Val.extract 4 c.Val.size)⟩:ah)])),r.Held,r.Notes,r.ae,r.af⟩:ap),true):=by (first|exact kR ‹_› hy1 (by omega) hC.symm ‹_› (by omega) ‹_› ‹_› (decide_eq_true (by omega)).symm|exact kR ‹_› hy1 (by omega) hC.symm ‹_› (by omega) ‹_› ‹_› (decide_eq_false (by omega)).symm)
            rw [hz]
            exact R.w1 (aN,v4,aU,aL) [4,5,6,7,8,9] [] rfl Tryz.results50 (RV.tmp rfl) rfl rfl rfl rfl
           ·
            refine R.qg rfl (q.eql rfl rfl (beq_eq_false_iff_ne.2 (by omega))) rfl<|R.u 3 rfl<|R.nil ?_
            have hz:rowP r c=((⟨r.ai,(r.Things++([(⟨x2,x3,(c.Val.extract 4 c.Val.size)⟩:ah)])),r.Held,r.Notes,r.ae,r.af⟩:ap),false):=by (first|exact kR ‹_› hy1 (by omega) hC.symm ‹_› (by omega) ‹_› ‹_› (decide_eq_true (by omega)).symm|exact kR ‹_› hy1 (by omega) hC.symm ‹_› (by omega) ‹_› ‹_› (decide_eq_false (by omega)).symm)
            rw [hz]
            exact R.w1 (aN,v4,aU,aL) [4,5,6,7,8,9] [] rfl Tryz.results50 (RV.tmp rfl) rfl rfl rfl rfl
          ·
           refine R.qg rfl (q.eql rfl rfl (beq_eq_false_iff_ne.2 (by omega))) rfl<|R.u 8 rfl<|R.nil ?_
           have hz:rowP r c=((⟨r.ai,(r.Things++([(⟨x2,x3,(c.Val.extract 4 c.Val.size)⟩:ah)])),r.Held,r.Notes,r.ae,r.af⟩:ap),false):=by (first|exact kR ‹_› hy1 (by omega) hC.symm ‹_› (by omega) ‹_› ‹_› (decide_eq_true (by omega)).symm|exact kR ‹_› hy1 (by omega) hC.symm ‹_› (by omega) ‹_› ‹_› (decide_eq_false (by omega)).symm)
           rw [hz]
           exact R.w1 (aN,v4,aU,aL) [4,5,6,7,8,9] [] rfl Tryz.results50 (RV.tmp rfl) rfl rfl rfl rfl
      ·
       rw [h11]
       refine R.u 5 rfl<|R.nil ?_
       refine R.aD rfl rfl ?_
       refine R.reg rfl<|R.u 1 rfl<|R.nil ?_
       have hz:rowP r c=(r,false):=by (first|exact g9 ‹_› hy1 (by omega) (.inl hC.symm)|exact g9 ‹_› hy1 (by omega) (.inr (.inl ‹_›))|exact g9 ‹_› hy1 (by omega) (.inr (.inr (by omega))))
       rw [hz]
       exact R.w1 (aN,aK,aU,aL) [3,4,5,6,7,8] [] rfl Tryz.results50 (RV.tmp rfl) rfl rfl rfl rfl
    ·
     refine R.q (q.eql rfl rfl (beq_eq_false_iff_ne.2 (by omega))) rfl<|R.u 1 rfl<|R.nil ?_
     refine R.aI rfl rfl ?_
     refine R.reg rfl<|?_
     by_cases h19:y1.toNat=119
     ·
      refine R.q (q.eql rfl rfl (beq_iff_eq.2 (by omega))) rfl<|R.u 1 rfl<|R.nil ?_
      refine R.aD rfl rfl ?_
      refine R.reg rfl<|R.q (q.a8 (off':=1) rfl eD rfl) rfl<|R.q (q.ld 1 rfl rfl bF rfl) rfl<|R.s (B':=(fun aH:Value=>[ag.row 3 aH ((numsL c.Val 4):List Int),ag.row 3 z1 (numsL (c.Key.extract 1 c.Key.size) 1:List Int),ag.box b1 (bT c) 52,ag.box k6 [aN,aK,aU,aL,iV r.ae,iV r.af] 32,ag.row 88 aN (r.ai:List aj),ag.row 62 aK (r.Things:List ah),ag.row 85 aU (r.Held:List Held),ag.row 72 aL (r.Notes:List Note),ag.held w own])) (F':=(fun aH:Value=>[bz])) rfl (s.bJ (B0:=[]) (Br:=[ag.row 3 z1 (numsL (c.Key.extract 1 c.Key.size) 1:List Int),ag.box b1 (bT c) 52,ag.box k6 [aN,aK,aU,aL,iV r.ae,iV r.af] 32,ag.row 88 aN (r.ai:List aj),ag.row 62 aK (r.Things:List ah),ag.row 85 aU (r.Held:List Held),ag.row 72 aL (r.Notes:List Note),ag.held w own]) (F0:=[bz]) [0,1,2,3,4,5,6,7] [0] (fun aH:Value => .tuple #[aH,.bool ((cS c.Val 4))]) (fun aH:Value=>[ag.row 3 aH ((numsL c.Val 4):List Int)]) (fun aH:Value=>[]) rfl rfl rfl qW rfl rfl (fun w own hw H=>gT (c.Val) (4) w own H (by first|assumption|omega|(rw [ByteArray.size_extract];omega))) rfl) fun z4=>R.u 5 rfl<|R.nil ?_
      refine R.reg rfl<|R.u 1 rfl<|R.q (q.not rfl) rfl<|R.u 1 rfl<|?_
      cases b
      ·
       refine R.u 9 rfl<|R.nil ?_
       refine R.aD rfl rfl ?_
       refine R.reg rfl<|R.u 1 rfl<|R.nil ?_
       have hz:rowP r c=(r,false):=by (first|exact hD ‹_› hy1 (by omega) (.inl hC.symm)|exact hD ‹_› hy1 (by omega) (.inr (.inl ‹_›))|exact hD ‹_› hy1 (by omega) (.inr (.inr (by omega))))
       rw [hz]
       exact R.w1 (aN,aK,aU,aL) [3,4,5,6,7,8] [] rfl Tryz.results50 (RV.tmp rfl) rfl rfl rfl rfl
      ·
       refine R.u 1 rfl<|R.qg rfl (q.not rfl) rfl<|R.u 2 rfl<|?_
       rcases Bool.eq_false_or_eq_true (cS c.Val 4) with h20|h20
       ·
        rw [h20]
        refine R.qg rfl (q.a8 (off':=1) rfl eD rfl) rfl<|R.qg rfl (q.ld 2 rfl rfl bF rfl) rfl<|R.qg rfl (q.lh rfl Tryz.underlying9) rfl<|?_
        by_cases h21:c.Val.size=16
        ·
         refine R.qg rfl (q.neq rfl rfl (bne_eq_false_iff_eq.2 (by omega))) rfl<|R.u 1 rfl<|R.nil ?_
         refine R.aI rfl rfl ?_
         have ek:=xu (c:=c) hC.symm
         have EZ:=ku (s:=c.Val) (m:=4) ‹_›
         obtain ⟨x4,hx4⟩:∃z,(numsL (c.Key.extract 1 c.Key.size) 1)[0]? = some z:=⟨_,List.getElem?_eq_getElem (by omega)⟩
         obtain ⟨x5,hx5⟩:∃z,(numsL c.Val 4)[0]? = some z:=⟨_,List.getElem?_eq_getElem (by omega)⟩
         obtain ⟨x6,hx6⟩:∃z,(numsL c.Val 4)[1]? = some z:=⟨_,List.getElem?_eq_getElem (by omega)⟩
         obtain ⟨x7,hx7⟩:∃z,(numsL c.Val 4)[2]? = some z:=⟨_,List.getElem?_eq_getElem (by omega)⟩
         obtain ⟨x8,D7⟩:∃z,(numsL c.Val 4)[3]? = some z:=⟨_,List.getElem?_eq_getElem (by omega)⟩
         refine R.gN (fuel:=26) (Wd w (blks [ag.box k6 [aN,aK,aU,aL,iV r.ae,iV r.af] 32,ag.row 88 aN (r.ai:List aj),ag.row 62 aK (r.Things:List ah),ag.row 85 aU (r.Held:List Held),ag.row 72 aL (r.Notes:List Note)]++own) [ag.row 3 z4 (numsL c.Val 4:List Int),ag.row 3 z1 (numsL (c.Key.extract 1 c.Key.size) 1:List Int),ag.box b1 (bT c) 52,ag.row 62 aK (r.Things:List ah),ag.row 85 aU (r.Held:List Held),ag.row 72 aL (r.Notes:List Note),ag.held w own] [bz]) rfl mixed rfl ?_
         refine D.q (i:=0) rfl (by kernel_rfl) (fun _=>Wd.aM [0,1,2,5,6,7,8] [0] rfl rfl rfl) rfl (q.mv rfl) rfl<|D.q (i:=1) rfl (by kernel_rfl) (fun _=>Wd.aM [0,1,2,5,6,7,8] [0] rfl rfl rfl) rfl (q.mv rfl) rfl<|D.q (i:=2) rfl (by kernel_rfl) (fun _=>Wd.aM [0,1,2,5,6,7,8] [0] rfl rfl rfl) rfl (q.ob rfl) rfl<|D.q (i:=3) rfl (by kernel_rfl) (fun _=>Wd.aM [0,1,2,5,6,7,8] [0] rfl rfl rfl) rfl (q.a8 (off':=0) rfl bj rfl) rfl<|D.q (i:=5) rfl (by kernel_rfl) (fun _=>Wd.aM [0,1,2,5,6,7,8] [0] rfl rfl rfl) rfl (q.mv rfl) rfl<|D.q (i:=6) rfl (by kernel_rfl) (fun _=>Wd.aM [0,1,2,5,6,7,8] [0] rfl rfl rfl) rfl (q.idx (i:=0) (fun _=>Wd.row 1 rfl) rfl rfl ct rfl hx4) rfl<|D.q (i:=7) rfl (by kernel_rfl) (fun _=>Wd.aM [0,1,2,5,6,7,8] [0] rfl rfl rfl) rfl (q.fk (fun _=>Wd.row 1 rfl) hx4 rfl av rfl) rfl<|D.q (i:=8) rfl (by kernel_rfl) (fun _=>Wd.aM [0,1,2,5,6,7,8] [0] rfl rfl rfl) rfl (q.mv rfl) rfl<|D.q (i:=9) rfl (by kernel_rfl) (fun _=>Wd.aM [0,1,2,5,6,7,8] [0] rfl rfl rfl) rfl (q.idx (i:=0) (fun _=>Wd.row 0 rfl) rfl rfl ct rfl hx5) rfl<|D.q (i:=10) rfl (by kernel_rfl) (fun _=>Wd.aM [0,1,2,5,6,7,8] [0] rfl rfl rfl) rfl (q.fk (fun _=>Wd.row 0 rfl) hx5 rfl av rfl) rfl<|D.q (i:=11) rfl (by kernel_rfl) (fun _=>Wd.aM [0,1,2,5,6,7,8] [0] rfl rfl rfl) rfl (q.mv rfl) rfl<|D.q (i:=12) rfl (by kernel_rfl) (fun _=>Wd.aM [0,1,2,5,6,7,8] [0] rfl rfl rfl) rfl (q.idx (i:=1) (fun _=>Wd.row 0 rfl) rfl rfl ct rfl hx6) rfl<|D.q (i:=13) rfl (by kernel_rfl) (fun _=>Wd.aM [0,1,2,5,6,7,8] [0] rfl rfl rfl) rfl (q.fk (fun _=>Wd.row 0 rfl) hx6 rfl av rfl) rfl<|D.q (i:=14) rfl (by kernel_rfl) (fun _=>Wd.aM [0,1,2,5,6,7,8] [0] rfl rfl rfl) rfl (q.mv rfl) rfl<|D.q (i:=15) rfl (by kernel_rfl) (fun _=>Wd.aM [0,1,2,5,6,7,8] [0] rfl rfl rfl) rfl (q.idx (i:=2) (fun _=>Wd.row 0 rfl) rfl rfl ct rfl hx7) rfl<|D.q (i:=16) rfl (by kernel_rfl) (fun _=>Wd.aM [0,1,2,5,6,7,8] [0] rfl rfl rfl) rfl (q.fk (fun _=>Wd.row 0 rfl) hx7 rfl av rfl) rfl<|D.q (i:=17) rfl (by kernel_rfl) (fun _=>Wd.aM [0,1,2,5,6,7,8] [0] rfl rfl rfl) rfl (q.mv rfl) rfl<|D.q (i:=18) rfl (by kernel_rfl) (fun _=>Wd.aM [0,1,2,5,6,7,8] [0] rfl rfl rfl) rfl (q.idx (i:=3) (fun _=>Wd.row 0 rfl) rfl rfl ct rfl D7) rfl<|D.q (i:=19) rfl (by kernel_rfl) (fun _=>Wd.aM [0,1,2,5,6,7,8] [0] rfl rfl rfl) rfl (q.fk (fun _=>Wd.row 0 rfl) D7 rfl av rfl) rfl<|D.q (i:=20) rfl (by kernel_rfl) (fun _=>Wd.aM [0,1,2,5,6,7,8] [0] rfl rfl rfl) rfl (q.build (cs:=[iV x4,iV x5,iV x6,iV x7,iV x8]) gQ rfl rfl) rfl<|D.two (i:=4) (j:=21) (by kernel_rfl) rfl rfl ?_ ?_
         ·
          refine Do.s (s.c (Qt.a (q.ld 3 rfl rfl bA rfl)) rfl) (fun _=>(fun _=>Wd.aM [0,1,2,5,6,7,8] [0] rfl rfl rfl)) rfl fun _=>D.one (i:=21) (by kernel_rfl) rfl ?_
          refine Do.s (s.bs (l:=([(⟨x4,x5,x6,x7,x8⟩:aj)]:List aj)) cK bE rfl rfl rfl rfl rfl rfl rfl) (fun _=>(fun _=>Wd.aM [1,2,3,6,7,8,9] [0] rfl rfl rfl)) rfl fun b7=>D.one (i:=22) (by kernel_rfl) rfl ?_
          refine Do.s (s.app (l2:=[(⟨x4,x5,x6,x7,x8⟩:aj)]) 5 _ rfl rfl rfl (fun _=>Wd.row 0 rfl) gH (by first|omega|(simp;done)|(simp;omega)) (by first|omega|(simp;done)|(simp;omega)) (fun _=>rfl) rfl) (fun _=>(fun _=>Wd.aM [1,2,3,6,7,8,9] [0] rfl rfl rfl)) rfl fun v5=>D.q (i:=23) rfl (by kernel_rfl) (fun _=>Wd.aM [1,2,3,6,7,8,9] [0] rfl rfl rfl) rfl (q.ob rfl) rfl<|D.q (i:=24) rfl (by kernel_rfl) (fun _=>Wd.aM [1,2,3,6,7,8,9] [0] rfl rfl rfl) rfl (q.a8 (off':=0) rfl bj rfl) rfl<|D.one (i:=25) (by kernel_rfl) rfl ?_
          refine Do.s (s.e8 (us:=[v5]) (cs':=[v5,aK,aU,aL,iV r.ae,iV r.af]) 4 _ rfl rfl rfl (fun w hw=>Sl.cJ (hw.row 5 rfl)) (.inr ⟨bA,rfl⟩) (fun w hw=>(ak (Sl.one (hw.row 5 rfl)) aS)) rfl rfl rfl) (fun _=>(fun _=>Wd.aM [1,2,3,6,7,8,9] [0] rfl rfl rfl)) rfl fun _=>D.done (by kernel_rfl)<|R.reg rfl<|R.u 1 rfl<|R.nil ?_
          have hz:rowP r c=((⟨(r.ai++([(⟨x4,x5,x6,x7,x8⟩:aj)])),r.Things,r.Held,r.Notes,r.ae,r.af⟩:ap),true):=by (exact CR ‹_› hy1 (by omega) hC.symm ‹_› (by omega) ‹_› ‹_› ‹_› ‹_› ‹_›)
          rw [hz]
          exact R.w1 (v5,aK,aU,aL) [4,5,6,7,8,9] [] rfl Tryz.results50 (RV.tmp rfl) rfl rfl rfl rfl
         ·
          refine Do.s (s.bs (l:=([(⟨x4,x5,x6,x7,x8⟩:aj)]:List aj)) cK bE rfl rfl rfl rfl rfl rfl rfl) (fun _=>(fun _=>Wd.aM [1,2,3,6,7,8,9] [0] rfl rfl rfl)) rfl fun b8=>D.one (i:=4) (by kernel_rfl) rfl ?_
          refine Do.s (s.c (Qt.a (q.ld 4 rfl rfl bA rfl)) rfl) (fun _=>(fun _=>Wd.aM [1,2,3,6,7,8,9] [0] rfl rfl rfl)) rfl fun _=>D.one (i:=22) (by kernel_rfl) rfl ?_
          refine Do.s (s.app (l2:=[(⟨x4,x5,x6,x7,x8⟩:aj)]) 5 _ rfl rfl rfl (fun _=>Wd.row 0 rfl) gH (by first|omega|(simp;done)|(simp;omega)) (by first|omega|(simp;done)|(simp;omega)) (fun _=>rfl) rfl) (fun _=>(fun _=>Wd.aM [1,2,3,6,7,8,9] [0] rfl rfl rfl)) rfl fun v6=>D.q (i:=23) rfl (by kernel_rfl) (fun _=>Wd.aM [1,2,3,6,7,8,9] [0] rfl rfl rfl) rfl (q.ob rfl) rfl<|D.q (i:=24) rfl (by kernel_rfl) (fun _=>Wd.aM [1,2,3,6,7,8,9] [0] rfl rfl rfl) rfl (q.a8 (off':=0) rfl bj rfl) rfl<|D.one (i:=25) (by kernel_rfl) rfl ?_
          refine Do.s (s.e8 (us:=[v6]) (cs':=[v6,aK,aU,aL,iV r.ae,iV r.af]) 4 _ rfl rfl rfl (fun w hw=>Sl.cJ (hw.row 5 rfl)) (.inr ⟨bA,rfl⟩) (fun w hw=>(ak (Sl.one (hw.row 5 rfl)) aS)) rfl rfl rfl) (fun _=>(fun _=>Wd.aM [1,2,3,6,7,8,9] [0] rfl rfl rfl)) rfl fun _=>D.done (by kernel_rfl)<|R.reg rfl<|R.u 1 rfl<|R.nil ?_
          have hz:rowP r c=((⟨(r.ai++([(⟨x4,x5,x6,x7,x8⟩:aj)])),r.Things,r.Held,r.Notes,r.ae,r.af⟩:ap),true):=by (exact CR ‹_› hy1 (by omega) hC.symm ‹_› (by omega) ‹_› ‹_› ‹_› ‹_› ‹_›)
          rw [hz]
          exact R.w1 (v6,aK,aU,aL) [4,5,6,7,8,9] [] rfl Tryz.results50 (RV.tmp rfl) rfl rfl rfl rfl
        ·
         refine R.qg rfl (q.neq rfl rfl (bne_iff_ne.2 (by omega))) rfl<|R.u 1 rfl<|R.nil ?_
         refine R.aD rfl rfl ?_
         refine R.reg rfl<|R.u 1 rfl<|R.nil ?_
         have hz:rowP r c=(r,false):=by (first|exact hD ‹_› hy1 (by omega) (.inl hC.symm)|exact hD ‹_› hy1 (by omega) (.inr (.inl ‹_›))|exact hD ‹_› hy1 (by omega) (.inr (.inr (by omega))))
         rw [hz]
         exact R.w1 (aN,aK,aU,aL) [3,4,5,6,7,8] [] rfl Tryz.results50 (RV.tmp rfl) rfl rfl rfl rfl
       ·
        rw [h20]
        refine R.u 5 rfl<|R.nil ?_
        refine R.aD rfl rfl ?_
        refine R.reg rfl<|R.u 1 rfl<|R.nil ?_
        have hz:rowP r c=(r,false):=by (first|exact hD ‹_› hy1 (by omega) (.inl hC.symm)|exact hD ‹_› hy1 (by omega) (.inr (.inl ‹_›))|exact hD ‹_› hy1 (by omega) (.inr (.inr (by omega))))
        rw [hz]
        exact R.w1 (aN,aK,aU,aL) [3,4,5,6,7,8] [] rfl Tryz.results50 (RV.tmp rfl) rfl rfl rfl rfl
     ·
      refine R.q (q.eql rfl rfl (beq_eq_false_iff_ne.2 (by omega))) rfl<|R.u 1 rfl<|R.nil ?_
      refine R.aI rfl rfl ?_
      refine R.reg rfl<|R.q (q.a8 (off':=1) rfl eD rfl) rfl<|R.q (q.ld 1 rfl rfl bF rfl) rfl<|R.s (B':=(fun aH:Value=>[ag.row 3 aH ((numsL c.Val 2):List Int),ag.row 3 z1 (numsL (c.Key.extract 1 c.Key.size) 1:List Int),ag.box b1 (bT c) 52,ag.box k6 [aN,aK,aU,aL,iV r.ae,iV r.af] 32,ag.row 88 aN (r.ai:List aj),ag.row 62 aK (r.Things:List ah),ag.row 85 aU (r.Held:List Held),ag.row 72 aL (r.Notes:List Note),ag.held w own])) (F':=(fun aH:Value=>[bz])) rfl (s.bJ (B0:=[]) (Br:=[ag.row 3 z1 (numsL (c.Key.extract 1 c.Key.size) 1:List Int),ag.box b1 (bT c) 52,ag.box k6 [aN,aK,aU,aL,iV r.ae,iV r.af] 32,ag.row 88 aN (r.ai:List aj),ag.row 62 aK (r.Things:List ah),ag.row 85 aU (r.Held:List Held),ag.row 72 aL (r.Notes:List Note),ag.held w own]) (F0:=[bz]) [0,1,2,3,4,5,6,7] [0] (fun aH:Value => .tuple #[aH,.bool ((cS c.Val 2))]) (fun aH:Value=>[ag.row 3 aH ((numsL c.Val 2):List Int)]) (fun aH:Value=>[]) rfl rfl rfl qW rfl rfl (fun w own hw H=>gT (c.Val) (2) w own H (by first|assumption|omega|(rw [ByteArray.size_extract];omega))) rfl) fun z5=>R.u 5 rfl<|R.nil ?_
      refine R.reg rfl<|R.q (q.a8 (off':=0) rfl bu rfl) rfl<|R.q (q.ld 2 rfl rfl bF rfl) rfl<|?_
      by_cases h22:c.Key=⟨#[120]⟩
      ·
       refine R.q (q.qN rfl rfl h22) rfl<|R.u 2 rfl<|R.qg rfl (q.not rfl) rfl<|R.u 2 rfl<|?_
       rcases Bool.eq_false_or_eq_true (cS c.Val 2) with h23|h23
       ·
        rw [h23]
        refine R.qg rfl (q.a8 (off':=1) rfl eD rfl) rfl<|R.qg rfl (q.ld 2 rfl rfl bF rfl) rfl<|R.qg rfl (q.lh rfl Tryz.underlying9) rfl<|?_
        by_cases E0:c.Val.size=8
        ·
         refine R.qg rfl (q.neq rfl rfl (bne_eq_false_iff_eq.2 (by omega))) rfl<|R.u 1 rfl<|R.nil ?_
         refine R.aI rfl rfl ?_
         have E1:=ku (s:=c.Val) (m:=2) ‹_›
         obtain ⟨x9,D8⟩:∃z,(numsL c.Val 2)[0]? = some z:=⟨_,List.getElem?_eq_getElem (by omega)⟩
         obtain ⟨x10,CU⟩:∃z,(numsL c.Val 2)[1]? = some z:=⟨_,List.getElem?_eq_getElem (by omega)⟩
         refine R.gN (fuel:=14) (Wd w (blks [ag.box k6 [aN,aK,aU,aL,iV r.ae,iV r.af] 32,ag.row 88 aN (r.ai:List aj),ag.row 62 aK (r.Things:List ah),ag.row 85 aU (r.Held:List Held),ag.row 72 aL (r.Notes:List Note)]++own) [ag.row 3 z5 (numsL c.Val 2:List Int),ag.row 3 z1 (numsL (c.Key.extract 1 c.Key.size) 1:List Int),ag.box b1 (bT c) 52,ag.row 88 aN (r.ai:List aj),ag.row 62 aK (r.Things:List ah),ag.row 85 aU (r.Held:List Held),ag.row 72 aL (r.Notes:List Note),ag.held w own] [bz]) rfl mixed rfl ?_
         refine D.q (i:=0) rfl (by kernel_rfl) (fun _=>Wd.aM [0,1,2,4,5,6,7,8] [0] rfl rfl rfl) rfl (q.mv rfl) rfl<|D.q (i:=1) rfl (by kernel_rfl) (fun _=>Wd.aM [0,1,2,4,5,6,7,8] [0] rfl rfl rfl) rfl (q.mv rfl) rfl<|D.q (i:=2) rfl (by kernel_rfl) (fun _=>Wd.aM [0,1,2,4,5,6,7,8] [0] rfl rfl rfl) rfl (q.mv rfl) rfl<|D.q (i:=3) rfl (by kernel_rfl) (fun _=>Wd.aM [0,1,2,4,5,6,7,8] [0] rfl rfl rfl) rfl (q.idx (i:=0) (fun _=>Wd.row 0 rfl) rfl rfl ct rfl D8) rfl<|D.q (i:=4) rfl (by kernel_rfl) (fun _=>Wd.aM [0,1,2,4,5,6,7,8] [0] rfl rfl rfl) rfl (q.fk (fun _=>Wd.row 0 rfl) D8 rfl av rfl) rfl<|D.q (i:=5) rfl (by kernel_rfl) (fun _=>Wd.aM [0,1,2,4,5,6,7,8] [0] rfl rfl rfl) rfl (q.mv rfl) rfl<|D.q (i:=6) rfl (by kernel_rfl) (fun _=>Wd.aM [0,1,2,4,5,6,7,8] [0] rfl rfl rfl) rfl (q.idx (i:=1) (fun _=>Wd.row 0 rfl) rfl rfl ct rfl CU) rfl<|D.q (i:=7) rfl (by kernel_rfl) (fun _=>Wd.aM [0,1,2,4,5,6,7,8] [0] rfl rfl rfl) rfl (q.fk (fun _=>Wd.row 0 rfl) CU rfl av rfl) rfl<|D.q (i:=8) rfl (by kernel_rfl) (fun _=>Wd.aM [0,1,2,4,5,6,7,8] [0] rfl rfl rfl) rfl (q.ob rfl) rfl<|D.q (i:=9) rfl (by kernel_rfl) (fun _=>Wd.aM [0,1,2,4,5,6,7,8] [0] rfl rfl rfl) rfl (q.a8 (off':=4) rfl bW rfl) rfl<|D.one (i:=10) (by kernel_rfl) rfl ?_
         refine Do.s (s.st (us:=[iV x9]) (cs':=[aN,aK,aU,aL,iV x9,iV r.af]) 3 _ rfl rfl rfl rfl (.inr ⟨av,rfl⟩) rfl rfl rfl rfl) (fun _=>(fun _=>Wd.aM [0,1,2,4,5,6,7,8] [0] rfl rfl rfl)) rfl fun _=>D.q (i:=11) rfl (by kernel_rfl) (fun _=>Wd.aM [0,1,2,4,5,6,7,8] [0] rfl rfl rfl) rfl (q.ob rfl) rfl<|D.q (i:=12) rfl (by kernel_rfl) (fun _=>Wd.aM [0,1,2,4,5,6,7,8] [0] rfl rfl rfl) rfl (q.a8 (off':=5) rfl cU rfl) rfl<|D.one (i:=13) (by kernel_rfl) rfl ?_
         refine Do.s (s.st (us:=[iV x10]) (cs':=[aN,aK,aU,aL,iV x9,iV x10]) 3 _ rfl rfl rfl rfl (.inr ⟨av,rfl⟩) rfl rfl rfl rfl) (fun _=>(fun _=>Wd.aM [0,1,2,4,5,6,7,8] [0] rfl rfl rfl)) rfl fun _=>D.done (by kernel_rfl)<|R.reg rfl<|R.u 1 rfl<|R.nil ?_
         have hz:rowP r c=((⟨r.ai,r.Things,r.Held,r.Notes,x9,x10⟩:ap),true):=by (exact DR ‹_› hy1 (by omega) (by omega) (by omega) ‹_› ‹_› (by omega) ‹_› ‹_›)
         rw [hz]
         exact R.w1 (aN,aK,aU,aL) [3,4,5,6,7,8] [] rfl Tryz.results50 (RV.tmp rfl) rfl rfl rfl rfl
        ·
         refine R.qg rfl (q.neq rfl rfl (bne_iff_ne.2 (by omega))) rfl<|R.u 1 rfl<|R.nil ?_
         refine R.aD rfl rfl ?_
         refine R.reg rfl<|R.u 1 rfl<|R.nil ?_
         have hz:rowP r c=(r,false):=by (first|exact hG ‹_› hy1 (by omega) (by omega) (by omega) (.inl ‹_›)|exact hG ‹_› hy1 (by omega) (by omega) (by omega) (.inr (.inl ‹_›))|exact hG ‹_› hy1 (by omega) (by omega) (by omega) (.inr (.inr (by omega))))
         rw [hz]
         exact R.w1 (aN,aK,aU,aL) [3,4,5,6,7,8] [] rfl Tryz.results50 (RV.tmp rfl) rfl rfl rfl rfl
       ·
        rw [h23]
        refine R.u 5 rfl<|R.nil ?_
        refine R.aD rfl rfl ?_
        refine R.reg rfl<|R.u 1 rfl<|R.nil ?_
        have hz:rowP r c=(r,false):=by (first|exact hG ‹_› hy1 (by omega) (by omega) (by omega) (.inl ‹_›)|exact hG ‹_› hy1 (by omega) (by omega) (by omega) (.inr (.inl ‹_›))|exact hG ‹_› hy1 (by omega) (by omega) (by omega) (.inr (.inr (by omega))))
        rw [hz]
        exact R.w1 (aN,aK,aU,aL) [3,4,5,6,7,8] [] rfl Tryz.results50 (RV.tmp rfl) rfl rfl rfl rfl
      ·
       refine R.q (q.qO rfl rfl h22) rfl<|R.u 10 rfl<|R.nil ?_
       refine R.aD rfl rfl ?_
       refine R.reg rfl<|R.u 1 rfl<|R.nil ?_
       have hz:rowP r c=(r,false):=by (first|exact hG ‹_› hy1 (by omega) (by omega) (by omega) (.inl ‹_›)|exact hG ‹_› hy1 (by omega) (by omega) (by omega) (.inr (.inl ‹_›))|exact hG ‹_› hy1 (by omega) (by omega) (by omega) (.inr (.inr (by omega))))
       rw [hz]
       exact R.w1 (aN,aK,aU,aL) [3,4,5,6,7,8] [] rfl Tryz.results50 (RV.tmp rfl) rfl rfl rfl rfl
end Go.Proofs.YtbkfhjaibhnkmaaGreatDoor
