import Derived.Test.YtbkfhjaibhnkmaaGreatDoorIMS35
namespace Go.Proofs.YtbkfhjaibhnkmaaGreatDoor
open Go Go.RowKit
set_option linter.unusedVariables false
set_option linter.unusedSimpArgs false
set_option maxRecDepth 100000
theorem zO {s:ByteArray}{m:Nat}(h:ea s m=true):cx s m=some (numsL s m):=by
 unfold ea at h;unfold numsL
 cases hq:cx s m with|none=>rw [hq] at h;cases h|some l=>rfl
theorem mI {s:ByteArray}{m:Nat}(h:ea s m=true):(numsL s m).length=m∧4*m≤s.size:=kV (zO h)
theorem nE {s:ByteArray}{m j:Nat}{x:Int}(h:(numsL s m)[j]? = some x):pA (cx s m) j=x:=by
 show (((numsL s m)[j]?).getD 0)=x;rw [h];rfl
section
variable {r:ar} {c:Change} {y:UInt8}
theorem jw (h:¬ c.Key=⟨#[]⟩):¬ c.Key.size=0:=fun e=>h (vY e)
theorem kZ {s:ByteArray}{i:Nat}{y:UInt8}(h:s.data[i]? = some y):fa s i=y.toNat:=by unfold fa;rw [h];rfl
theorem Cv (h:c.Key=⟨#[]⟩):rowP r c=(r,false):=by unfold rowP;rw [if_pos (by rw [h];rfl)]
theorem uC (h0:¬ c.Key=⟨#[]⟩)(hy:c.Key.data[0]? = some y)(e:y.toNat=104)(hb:ea c.Val 1=false∨¬ c.Val.size=4∨¬ c.Key.size=3):rowP r c=(r,false):=by
 unfold rowP;rw [if_neg (jw h0)];dsimp only;rw [if_pos ((kZ hy).trans e),if_pos (show (cx c.Val 1).isSome=false∨c.Val.size≠4∨c.Key.size≠3 from hb)]
theorem DX {a b:UInt8}{n:Int}{v:Bool}(h0:¬ c.Key=⟨#[]⟩)(hy:c.Key.data[0]? = some y)(e:y.toNat=104)(hb:ea c.Val 1=true)(h4:c.Val.size=4)(h3:c.Key.size=3)(ha:c.Key.data[1]? = some a)(hbb:c.Key.data[2]? = some b)
 (hn:(numsL c.Val 1)[0]? = some n) (hv:v=decide (bu ⟨(a.toNat:Int)-48,(b.toNat:Int)-48⟩=0)):rowP r c=(⟨r.ai,r.Things,r.Held++[⟨⟨(a.toNat:Int)-48,(b.toNat:Int)-48⟩,n⟩],r.Notes,r.ae,r.af⟩,v):=by
 unfold rowP;rw [if_neg (jw h0)];dsimp only
 rw [if_pos ((kZ hy).trans e),if_neg (show ¬ ((cx c.Val 1).isSome=false∨c.Val.size≠4∨c.Key.size≠3) from (by show ¬ (ea c.Val 1=false∨c.Val.size≠4∨c.Key.size≠3);rw [hb,h4,h3];simp)),nE hn,hv]
 unfold sD uP DK;rw [kZ ha,kZ hbb]
def wR (c:Change):Bool:=ea (c.Key.extract 1 c.Key.size) 1&&decide (c.Key.size=5)
theorem FV (h:ea (c.Key.extract 1 c.Key.size) 1=false):false=wR c:=by unfold wR;rw [h];rfl
theorem DY (h:¬ c.Key.size=5):false=wR c:=by unfold wR;rw [decide_eq_false h,Bool.and_false]
theorem DZ (h:ea (c.Key.extract 1 c.Key.size) 1=true)(h5:c.Key.size=5):true=wR c:=by unfold wR;rw [h,decide_eq_true h5];rfl
theorem Cw (h:wR c=true):(numsL (c.Key.extract 1 c.Key.size) 1).length=1:=by
 unfold wR at h;rw [Bool.and_eq_true] at h;exact (mI h.1).1
theorem uD (h0:¬ c.Key=⟨#[]⟩)(hy:c.Key.data[0]? = some y)(e:y.toNat=116)(hb:wR c=false∨ea c.Val 1=false∨12<c.Val.size):rowP r c=(r,false):=by
 unfold rowP;rw [if_neg (jw h0)];dsimp only
 rw [if_neg (by rw [kZ hy];omega),if_pos ((kZ hy).trans e),if_pos (show ((cx (c.Key.extract 1 c.Key.size) 1).isSome&&decide (c.Key.size=5))=false∨(cx c.Val 1).isSome=false∨12<c.Val.size from hb)]
theorem wt {k n:Int}{v:Bool}(h0:¬ c.Key=⟨#[]⟩)(hy:c.Key.data[0]? = some y)(e:y.toNat=116)(hk:wR c=true)(hb:ea c.Val 1=true)(h12:¬ 12<c.Val.size)
 (hi:(numsL (c.Key.extract 1 c.Key.size) 1)[0]? = some k) (hn:(numsL c.Val 1)[0]? = some n) (hv:v=decide (n=1∨n=2∧c.Val.size=4)):rowP r c=(⟨r.ai,r.Things++[⟨k,n,c.Val.extract 4 c.Val.size⟩],r.Held,r.Notes,r.ae,r.af⟩,v):=by
 unfold rowP;rw [if_neg (jw h0)];dsimp only
 rw [if_neg (by rw [kZ hy];omega),if_pos ((kZ hy).trans e),if_neg (show ¬ (((cx (c.Key.extract 1 c.Key.size) 1).isSome&&decide (c.Key.size=5))=false∨(cx c.Val 1).isSome=false∨12<c.Val.size) from (by
  show ¬ (wR c=false∨ea c.Val 1=false∨12<c.Val.size)
  rw [hk,hb];simp;omega)),nE hn,nE hi,hv]
 rfl
theorem uE (h0:¬ c.Key=⟨#[]⟩)(hy:c.Key.data[0]? = some y)(e:y.toNat=119)(hb:wR c=false∨ea c.Val 4=false∨¬ c.Val.size=16):rowP r c=(r,false):=by
 unfold rowP;rw [if_neg (jw h0)];dsimp only
 rw [if_neg (by rw [kZ hy];omega),if_neg (by rw [kZ hy];omega),if_pos ((kZ hy).trans e),if_pos (show ((cx (c.Key.extract 1 c.Key.size) 1).isSome&&decide (c.Key.size=5))=false∨(cx c.Val 4).isSome=false∨c.Val.size≠16 from hb)]
theorem H5 {k n0 n1 n2 n3:Int}(h0:¬ c.Key=⟨#[]⟩)(hy:c.Key.data[0]? = some y)(e:y.toNat=119)(hk:wR c=true)(hb:ea c.Val 4=true)(h16:c.Val.size=16)
 (hi:(numsL (c.Key.extract 1 c.Key.size) 1)[0]? = some k) (a0:(numsL c.Val 4)[0]? = some n0) (a1:(numsL c.Val 4)[1]? = some n1) (a2:(numsL c.Val 4)[2]? = some n2) (a3:(numsL c.Val 4)[3]? = some n3):rowP r c=(⟨r.ai++[⟨k,n0,n1,n2,n3⟩],r.Things,r.Held,r.Notes,r.ae,r.af⟩,true):=by
 unfold rowP;rw [if_neg (jw h0)];dsimp only
 rw [if_neg (by rw [kZ hy];omega),if_neg (by rw [kZ hy];omega),if_pos ((kZ hy).trans e),if_neg (show ¬ (((cx (c.Key.extract 1 c.Key.size) 1).isSome&&decide (c.Key.size=5))=false∨(cx c.Val 4).isSome=false∨c.Val.size≠16) from (by
  show ¬ (wR c=false∨ea c.Val 4=false∨c.Val.size≠16)
  rw [hk,hb,h16];simp)),nE hi,nE a0,nE a1,nE a2,nE a3]
 rfl
theorem uF (h0:¬ c.Key=⟨#[]⟩)(hy:c.Key.data[0]? = some y)(e1:¬ y.toNat=104)(e2:¬ y.toNat=116)(e3:¬ y.toNat=119)(hb:¬ c.Key=⟨#[120]⟩∨ea c.Val 2=false∨¬ c.Val.size=8):rowP r c=(r,false):=by
 unfold rowP;rw [if_neg (jw h0)];dsimp only
 rw [if_neg (by rw [kZ hy];omega),if_neg (by rw [kZ hy];omega),if_neg (by rw [kZ hy];omega),if_pos (show c.Key≠kX∨(cx c.Val 2).isSome=false∨c.Val.size≠8 from hb)]
theorem I9 {n0 n1:Int}(h0:¬ c.Key=⟨#[]⟩)(hy:c.Key.data[0]? = some y)(e1:¬ y.toNat=104)(e2:¬ y.toNat=116)(e3:¬ y.toNat=119)(hk:c.Key=⟨#[120]⟩)(hb:ea c.Val 2=true)(h8:c.Val.size=8)(a0:(numsL c.Val 2)[0]? = some n0)(a1:(numsL c.Val 2)[1]? = some n1) :
 rowP r c=(⟨r.ai,r.Things,r.Held,r.Notes,n0,n1⟩,true):=by
 unfold rowP;rw [if_neg (jw h0)];dsimp only
 rw [if_neg (by rw [kZ hy];omega),if_neg (by rw [kZ hy];omega),if_neg (by rw [kZ hy];omega),if_neg (show ¬ (c.Key≠kX∨(cx c.Val 2).isSome=false∨c.Val.size≠8) from (by
  show ¬ (c.Key≠⟨#[120]⟩∨ea c.Val 2=false∨c.Val.size≠8)
  rw [hb,h8];simp [hk])),nE a0,nE a1]
 rfl
end
attribute [local irreducible] numsL ea wR rowP
set_option maxRecDepth 100000 in
set_option maxHeartbeats 3200000 in
theorem qE (nA:Nat)(bj aZ bA a8:Value)(r:ar)(c:Change)(w:World)(own:List Nat)(H:Wd w (blks [ag.box nA [bj,aZ,bA,a8,iV r.ae,iV r.af] 32,ag.row 88 bj (r.ai:List ak),ag.row 62 aZ (r.Things:List ao),ag.row 85 bA (r.Held:List Held),ag.row 72 a8 (r.Notes:List Note)]++own) ([ag.box nA [bj,aZ,bA,a8,iV r.ae,iV r.af] 32,ag.row 88 bj (r.ai:List ak),ag.row 62 aZ (r.Things:List ao),ag.row 85 bA (r.Held:List Held),ag.row 72 a8 (r.Notes:List Note)]++[ag.held w own]) [bR] w)(hc:c.Key.size≤1000∧c.Val.size≤1000)(hr:r.ai.length≤1000∧r.Things.length≤1000∧r.Held.length≤1000):Calls Tryz.prog 50 #[.pointer (some ⟨nA,0,none⟩),.agg #[.string c.Key,.string c.Val,.bool c.Gone]] w fun e w' => ∃z:Value×Value×Value×Value,e = .returned (.bool (((rowP r c)).2))∧Wd w (blks [ag.box nA [bj,aZ,bA,a8,iV r.ae,iV r.af] 32,ag.row 88 bj (r.ai:List ak),ag.row 62 aZ (r.Things:List ao),ag.row 85 bA (r.Held:List Held),ag.row 72 a8 (r.Notes:List Note)]++own) ([ag.box nA [z.1,z.2.1,z.2.2.1,z.2.2.2,iV ((((rowP r c)).1).ae),iV ((((rowP r c)).1).af)] 32,ag.row 88 z.1 ((((rowP r c)).1).ai:List ak),ag.row 62 z.2.1 ((((rowP r c)).1).Things:List ao),ag.row 85 z.2.2.1 ((((rowP r c)).1).Held:List Held),ag.row 72 z.2.2.2 ((((rowP r c)).1).Notes:List Note)]++[ag.held w own]) [] w':=by
 have Gl:=H.cap 1 rfl;have cS:=H.q8 1 rfl
 have FW:=H.cap 2 rfl;have cy:=H.q8 2 rfl
 have H6:=H.cap 3 rfl;have dq:=H.q8 3 rfl
 have Gm:=H.cap 4 rfl;have cT:=H.q8 4 rfl
 refine R.da (n:=217) (vs:=[.pointer (some ⟨nA,0,none⟩),.agg #[.string c.Key,.string c.Val,.bool c.Gone]]) (B:=[ag.box nA [bj,aZ,bA,a8,iV r.ae,iV r.af] 32,ag.row 88 bj r.ai,ag.row 62 aZ r.Things,ag.row 85 bA r.Held,ag.row 72 a8 r.Notes,ag.held w own]) [(0,.pointer (some ⟨nA,0,none⟩)),(1,.agg #[.string c.Key,.string c.Val,.bool c.Gone])] Tryz.func50 O O O O H ?_
 refine R.reg O<|R.s O (s.box (cs:=bY c) O O O) fun b1=>R.u 1 O<|R.nil ?_
 refine R.reg O<|R.q (q.aT (off':=0) O bD O) O<|R.q (q.ld 0 O O bV O) O<|?_
 by_cases h1:c.Key=⟨#[]⟩
 ·
  refine R.q (q.jc O O h1) O<|R.nil ?_
  refine R.aE O O ?_
  refine R.reg O<|R.u 1 O<|R.nil ?_
  have hz:rowP r c=(r,false):=by (exact Cv ‹_›)
  rw [hz]
  exact R.w1 (bj,aZ,bA,a8) [1,2,3,4,5,6] [] O Tryz.results50 (RV.tmp O) O O O O
 ·
  refine R.q (q.jd O O h1) O<|R.nil ?_
  refine R.aF O O ?_
  have kp:=jw (c:=c) ‹_›
  refine R.reg O<|R.q (q.aT (off':=0) O bD O) O<|R.q (q.ld 0 O O bV O) O<|R.q (q.Ev (i:=1) O O Tryz.underlying9 O (by omega)) O<|R.s (B':=(fun aN:Value=>[ag.row 3 aN (numsL (c.Key.extract 1 c.Key.size) 1),ag.box b1 (bY c) 52,ag.box nA [bj,aZ,bA,a8,iV r.ae,iV r.af] 32,ag.row 88 bj r.ai,ag.row 62 aZ r.Things,ag.row 85 bA r.Held,ag.row 72 a8 r.Notes,ag.held w own])) (F':=(fun aN:Value=>[bR])) O (s.bP (B0:=[]) (Br:=[ag.box b1 (bY c) 52,ag.box nA [bj,aZ,bA,a8,iV r.ae,iV r.af] 32,ag.row 88 bj r.ai,ag.row 62 aZ r.Things,ag.row 85 bA r.Held,ag.row 72 a8 r.Notes,ag.held w own]) (F0:=[bR]) gW [0] (fun aN:Value => .tuple #[aN,.bool ((ea (c.Key.extract 1 c.Key.size) 1))]) (fun aN:Value=>[ag.row 3 aN (numsL (c.Key.extract 1 c.Key.size) 1)]) (fun aN:Value=>[]) O O O vg O O (fun w own hw H=>jh ((c.Key.extract 1 c.Key.size)) (1) w own H (by (rw [ByteArray.size_extract];omega))) O) fun z1=>R.u 5 O<|R.nil ?_
  refine R.cut 1 (fun b:Bool=>[(0,.pointer (some ⟨nA,0,none⟩)),(3,.pointer (some ⟨b1,0,none⟩)),(5,z1),(6,.bool b)]) (fun b:Bool=>[ag.row 3 z1 (numsL (c.Key.extract 1 c.Key.size) 1),ag.box b1 (bY c) 52,ag.box nA [bj,aZ,bA,a8,iV r.ae,iV r.af] 32,ag.row 88 bj r.ai,ag.row 62 aZ r.Things,ag.row 85 bA r.Held,ag.row 72 a8 r.Notes,ag.held w own]) (fun b:Bool=>[bR]) (fun b:Bool=>b=wR c) O O O ?_ ?_
  ·
   refine R.reg O<|R.u 2 O<|?_
   rcases Bool.eq_false_or_eq_true (ea (c.Key.extract 1 c.Key.size) 1) with h2|h2
   ·
    rw [h2]
    refine R.qg O (q.aT (off':=0) O bD O) O<|R.qg O (q.ld 1 O O bV O) O<|R.qg O (q.lV O Tryz.underlying9) O<|?_
    by_cases h3:c.Key.size=5
    ·
     refine R.qg O (q.eql O O (beq_iff_eq.2 (by omega))) O<|R.u 2 O<|R.nil ?_
     exact R.meet true O (by (exact DZ ‹_› (by omega))) ⟨rfl,rfl,rfl,rfl,trivial⟩ (fun _=>Wd.pick bS [0] O O O)
    ·
     refine R.qg O (q.eql O O (beq_eq_false_iff_ne.2 (by omega))) O<|R.u 2 O<|R.nil ?_
     exact R.meet false O (by (exact DY (by omega))) ⟨rfl,rfl,rfl,rfl,trivial⟩ (fun _=>Wd.pick bS [0] O O O)
   ·
    rw [h2]
    refine R.u 6 O<|R.nil ?_
    exact R.meet false O (by (exact FV ‹_›)) ⟨rfl,rfl,rfl,rfl,trivial⟩ (fun _=>Wd.pick bS [0] O O O)
  ·
   rintro b hC
   refine R.reg O<|R.q (q.aT (off':=0) O bD O) O<|R.q (q.ld 1 O O bV O) O<|?_
   obtain ⟨y1,hy1⟩:∃z,c.Key.data[0]? = some z:=⟨_,Array.getElem?_eq_getElem (show 0<c.Key.size from by omega)⟩
   have Kj:=y1.toNat_lt
   refine R.q (q.E5 (i:=0) O O Tryz.underlying9 O hy1) O<|R.nil ?_
   refine R.reg O<|?_
   by_cases h4:y1.toNat=104
   ·
    refine R.q (q.eql O O (beq_iff_eq.2 (by omega))) O<|R.u 1 O<|R.nil ?_
    refine R.aE O O ?_
    refine R.reg O<|R.q (q.aT (off':=1) O fh O) O<|R.q (q.ld 1 O O bV O) O<|R.s (B':=(fun aN:Value=>[ag.row 3 aN (numsL c.Val 1),ag.row 3 z1 (numsL (c.Key.extract 1 c.Key.size) 1),ag.box b1 (bY c) 52,ag.box nA [bj,aZ,bA,a8,iV r.ae,iV r.af] 32,ag.row 88 bj r.ai,ag.row 62 aZ r.Things,ag.row 85 bA r.Held,ag.row 72 a8 r.Notes,ag.held w own])) (F':=(fun aN:Value=>[bR])) O (s.bP (B0:=[]) (Br:=[ag.row 3 z1 (numsL (c.Key.extract 1 c.Key.size) 1),ag.box b1 (bY c) 52,ag.box nA [bj,aZ,bA,a8,iV r.ae,iV r.af] 32,ag.row 88 bj r.ai,ag.row 62 aZ r.Things,ag.row 85 bA r.Held,ag.row 72 a8 r.Notes,ag.held w own]) (F0:=[bR]) bS [0] (fun aN:Value => .tuple #[aN,.bool ((ea c.Val 1))]) (fun aN:Value=>[ag.row 3 aN (numsL c.Val 1)]) (fun aN:Value=>[]) O O O vg O O (fun w own hw H=>jh (c.Val) (1) w own H (by omega)) O) fun z2=>R.u 5 O<|R.nil ?_
    refine R.reg O<|R.u 1 O<|R.q (q.not O) O<|R.u 1 O<|?_
    rcases Bool.eq_false_or_eq_true (ea c.Val 1) with h5|h5
    ·
     rw [h5]
     refine R.qg O (q.aT (off':=1) O fh O) O<|R.qg O (q.ld 2 O O bV O) O<|R.qg O (q.lV O Tryz.underlying9) O<|?_
     by_cases h6:c.Val.size=4
     ·
      refine R.qg O (q.neq O O (bne_eq_false_iff_eq.2 (by omega))) O<|R.u 2 O<|R.qg O (q.aT (off':=0) O bD O) O<|R.qg O (q.ld 2 O O bV O) O<|R.qg O (q.lV O Tryz.underlying9) O<|?_
      by_cases h7:c.Key.size=3
      ·
       refine R.qg O (q.neq O O (bne_eq_false_iff_eq.2 (by omega))) O<|R.u 1 O<|R.nil ?_
       refine R.aF O O ?_
       obtain ⟨y2,hy2⟩:∃z,c.Key.data[1]? = some z:=⟨_,Array.getElem?_eq_getElem (show 1<c.Key.size from by omega)⟩
       have Kk:=y2.toNat_lt
       obtain ⟨y3,hy3⟩:∃z,c.Key.data[2]? = some z:=⟨_,Array.getElem?_eq_getElem (show 2<c.Key.size from by omega)⟩
       have Kl:=y3.toNat_lt
       refine R.e8 (fuel:=13) (Wd w (blks [ag.box nA [bj,aZ,bA,a8,iV r.ae,iV r.af] 32,ag.row 88 bj r.ai,ag.row 62 aZ r.Things,ag.row 85 bA r.Held,ag.row 72 a8 r.Notes]++own) [ag.row 3 z2 (numsL c.Val 1),ag.row 3 z1 (numsL (c.Key.extract 1 c.Key.size) 1),ag.box b1 (bY c) 52,ag.box nA [bj,aZ,bA,a8,iV r.ae,iV r.af] 32,ag.row 88 bj r.ai,ag.row 62 aZ r.Things,ag.row 85 bA r.Held,ag.row 72 a8 r.Notes,ag.held w own] [bR]) O mixed O ?_
       refine D.q (i:=0) O (by kernel_rfl) (aK cU [0] O O O) O (q.aT (off':=0) O bD O) O<|D.q (i:=1) O (by kernel_rfl) (aK cU [0] O O O) O (q.ld 2 O O bV O) O<|D.q (i:=2) O (by kernel_rfl) (aK cU [0] O O O) O (q.E5 (i:=1) O O Tryz.underlying9 O hy2) O<|D.q (i:=3) O (by kernel_rfl) (aK cU [0] O O O) O (q.Em (r:=((y2.toNat:Nat):Int)) O (by rw [Tryz.underlying5];rfl) Tryz.underlying3 (wr (by omega))) O<|D.q (i:=4) O (by kernel_rfl) (aK cU [0] O O O) O (q.sub (r:=(y2.toNat:Int)-48) O O (wr (by omega))) O<|D.q (i:=5) O (by kernel_rfl) (aK cU [0] O O O) O (q.aT (off':=0) O bD O) O<|D.q (i:=6) O (by kernel_rfl) (aK cU [0] O O O) O (q.ld 2 O O bV O) O<|D.q (i:=7) O (by kernel_rfl) (aK cU [0] O O O) O (q.E5 (i:=2) O O Tryz.underlying9 O hy3) O<|D.q (i:=8) O (by kernel_rfl) (aK cU [0] O O O) O (q.Em (r:=((y3.toNat:Nat):Int)) O (by rw [Tryz.underlying5];rfl) Tryz.underlying3 (wr (by omega))) O<|D.q (i:=9) O (by kernel_rfl) (aK cU [0] O O O) O (q.sub (r:=(y3.toNat:Int)-48) O O (wr (by omega))) O<|D.q (i:=10) O (by kernel_rfl) (aK cU [0] O O O) O (q.build (cs:=[iV ((y2.toNat:Int)-48),iV ((y3.toNat:Int)-48)]) nu O O) O<|D.one (i:=11) (by kernel_rfl) O ?_
       refine Do.s (s.alloc (cs:=[iV 0,iV 0]) me O O) (fun _=>(aK [1,2,3,4,5,6,7,8,9] [0] O O O)) O fun b2=>D.one (i:=12) (by kernel_rfl) O ?_
       refine Do.s (s.st (us:=[iV ((y2.toNat:Int)-48),iV ((y3.toNat:Int)-48)]) (cs':=[iV ((y2.toNat:Int)-48),iV ((y3.toNat:Int)-48)]) 0 _ O O O O (.inl aS) O O O O) (fun _=>(aK [1,2,3,4,5,6,7,8,9] [0] O O O)) O fun _=>D.done (by kernel_rfl)<|?_
       have J4:=mI (s:=c.Val) (m:=1) ‹_›
       obtain ⟨x1,hx1⟩:∃z,(numsL c.Val 1)[0]? = some z:=⟨_,List.getElem?_eq_getElem (by omega)⟩
       refine R.e8 (fuel:=15) (Wd w (blks [ag.box nA [bj,aZ,bA,a8,iV r.ae,iV r.af] 32,ag.row 88 bj r.ai,ag.row 62 aZ r.Things,ag.row 85 bA r.Held,ag.row 72 a8 r.Notes]++own) [ag.box b2 [iV ((y2.toNat:Int)-48),iV ((y3.toNat:Int)-48)] 39,ag.row 3 z2 (numsL c.Val 1),ag.row 3 z1 (numsL (c.Key.extract 1 c.Key.size) 1),ag.box b1 (bY c) 52,ag.row 88 bj r.ai,ag.row 62 aZ r.Things,ag.row 72 a8 r.Notes,ag.held w own] [bR]) O mixed O ?_
       refine D.q (i:=0) O (by kernel_rfl) (aK np [0] O O O) O (q.mv O) O<|D.q (i:=1) O (by kernel_rfl) (aK np [0] O O O) O (q.mv O) O<|D.q (i:=2) O (by kernel_rfl) (aK np [0] O O O) O (q.qV O) O<|D.q (i:=3) O (by kernel_rfl) (aK np [0] O O O) O (q.aT (off':=2) O bB O) O<|D.q (i:=5) O (by kernel_rfl) (aK np [0] O O O) O (q.cj 0 O O aS) O<|D.q (i:=6) O (by kernel_rfl) (aK np [0] O O O) O (q.mv O) O<|D.q (i:=7) O (by kernel_rfl) (aK np [0] O O O) O (q.idx (i:=0) (cJ 1 O) O O dK O hx1) O<|D.q (i:=8) O (by kernel_rfl) (aK np [0] O O O) O (q.fb (cJ 1 O) hx1 O aA O) O<|D.q (i:=9) O (by kernel_rfl) (aK np [0] O O O) O (q.build (cs:=[iV ((y2.toNat:Int)-48),iV ((y3.toNat:Int)-48),iV x1]) pO O O) O<|D.two (i:=4) (j:=10) (by kernel_rfl) O O ?_ ?_
       ·
        refine Do.s (s.c (Qt.a (q.ld 4 O O bZ O)) O) (fun _=>(aK np [0] O O O)) O fun _=>D.one (i:=10) (by kernel_rfl) O ?_
        refine Do.s (s.bs (l:=([(⟨(⟨((y2.toNat:Int)-48),((y3.toNat:Int)-48)⟩:Place),x1⟩:Held)]:List Held)) bK dk O O O O O O O) (fun _=>(aK lZ [0] O O O)) O fun b3=>D.one (i:=11) (by kernel_rfl) O ?_
        refine Do.s (s.app (l2:=[(⟨(⟨((y2.toNat:Int)-48),((y3.toNat:Int)-48)⟩:Place),x1⟩:Held)]) 8 _ O O O (cJ 0 O) dZ (by (simp;omega)) (by (simp;omega)) (fun _=>rfl) O) (fun _=>(aK lZ [0] O O O)) O fun v1=>D.q (i:=12) O (by kernel_rfl) (aK lZ [0] O O O) O (q.qV O) O<|D.q (i:=13) O (by kernel_rfl) (aK lZ [0] O O O) O (q.aT (off':=2) O bB O) O<|D.one (i:=14) (by kernel_rfl) O ?_
        refine Do.s (s.dy (us:=[v1]) (cs':=[bj,aZ,v1,a8,iV r.ae,iV r.af]) 5 _ O O O (fun w hw=>Sl.cm (hw.row 8 O)) (.inr ⟨bZ,rfl⟩) (fun w hw=>(ah (Sl.one (hw.row 8 O)) aL)) O O O) (fun _=>(aK lZ [0] O O O)) O fun _=>D.done (by kernel_rfl)<|R.reg O<|R.q (q.cj 1 O O aS) O<|R.c (q.call yx O O (fun w hw=>(ic ((⟨((y2.toNat:Int)-48),((y3.toNat:Int)-48)⟩:Place)) w  ))) O<|?_
        by_cases h8:bu (⟨((y2.toNat:Int)-48),((y3.toNat:Int)-48)⟩:Place)=0
        ·
         refine R.q (q.uV O O Tryz.underlying35 (by omega)) O<|R.u 1 O<|R.nil ?_
         have hz:rowP r c=((⟨r.ai,r.Things,(r.Held++([(⟨(⟨((y2.toNat:Int)-48),((y3.toNat:Int)-48)⟩:Place),x1⟩:Held)])),r.Notes,r.ae,r.af⟩:ar),true):=by (exact DX ‹_› hy1 (by omega) ‹_› (by omega) (by omega) hy2 hy3 ‹_› (decide_eq_true ‹_›).symm)
         rw [hz]
         exact R.w1 (bj,aZ,v1,a8) [5,6,7,8,9,10] [] O Tryz.results50 (RV.tmp O) O O O O
        ·
         refine R.q (q.uW O O Tryz.underlying35 (by omega)) O<|R.u 1 O<|R.nil ?_
         have hz:rowP r c=((⟨r.ai,r.Things,(r.Held++([(⟨(⟨((y2.toNat:Int)-48),((y3.toNat:Int)-48)⟩:Place),x1⟩:Held)])),r.Notes,r.ae,r.af⟩:ar),false):=by (exact DX ‹_› hy1 (by omega) ‹_› (by omega) (by omega) hy2 hy3 ‹_› (decide_eq_false ‹_›).symm)
         rw [hz]
         exact R.w1 (bj,aZ,v1,a8) [5,6,7,8,9,10] [] O Tryz.results50 (RV.tmp O) O O O O
       ·
        refine Do.s (s.bs (l:=([(⟨(⟨((y2.toNat:Int)-48),((y3.toNat:Int)-48)⟩:Place),x1⟩:Held)]:List Held)) bK dk O O O O O O O) (fun _=>(aK lZ [0] O O O)) O fun b4=>D.one (i:=4) (by kernel_rfl) O ?_
        refine Do.s (s.c (Qt.a (q.ld 5 O O bZ O)) O) (fun _=>(aK lZ [0] O O O)) O fun _=>D.one (i:=11) (by kernel_rfl) O ?_
        refine Do.s (s.app (l2:=[(⟨(⟨((y2.toNat:Int)-48),((y3.toNat:Int)-48)⟩:Place),x1⟩:Held)]) 8 _ O O O (cJ 0 O) dZ (by (simp;omega)) (by (simp;omega)) (fun _=>rfl) O) (fun _=>(aK lZ [0] O O O)) O fun v2=>D.q (i:=12) O (by kernel_rfl) (aK lZ [0] O O O) O (q.qV O) O<|D.q (i:=13) O (by kernel_rfl) (aK lZ [0] O O O) O (q.aT (off':=2) O bB O) O<|D.one (i:=14) (by kernel_rfl) O ?_
        refine Do.s (s.dy (us:=[v2]) (cs':=[bj,aZ,v2,a8,iV r.ae,iV r.af]) 5 _ O O O (fun w hw=>Sl.cm (hw.row 8 O)) (.inr ⟨bZ,rfl⟩) (fun w hw=>(ah (Sl.one (hw.row 8 O)) aL)) O O O) (fun _=>(aK lZ [0] O O O)) O fun _=>D.done (by kernel_rfl)<|R.reg O<|R.q (q.cj 1 O O aS) O<|R.c (q.call yx O O (fun w hw=>(ic ((⟨((y2.toNat:Int)-48),((y3.toNat:Int)-48)⟩:Place)) w  ))) O<|?_
        by_cases h9:bu (⟨((y2.toNat:Int)-48),((y3.toNat:Int)-48)⟩:Place)=0
        ·
         refine R.q (q.uV O O Tryz.underlying35 (by omega)) O<|R.u 1 O<|R.nil ?_
         have hz:rowP r c=((⟨r.ai,r.Things,(r.Held++([(⟨(⟨((y2.toNat:Int)-48),((y3.toNat:Int)-48)⟩:Place),x1⟩:Held)])),r.Notes,r.ae,r.af⟩:ar),true):=by (exact DX ‹_› hy1 (by omega) ‹_› (by omega) (by omega) hy2 hy3 ‹_› (decide_eq_true ‹_›).symm)
         rw [hz]
         exact R.w1 (bj,aZ,v2,a8) [5,6,7,8,9,10] [] O Tryz.results50 (RV.tmp O) O O O O
        ·
         refine R.q (q.uW O O Tryz.underlying35 (by omega)) O<|R.u 1 O<|R.nil ?_
         have hz:rowP r c=((⟨r.ai,r.Things,(r.Held++([(⟨(⟨((y2.toNat:Int)-48),((y3.toNat:Int)-48)⟩:Place),x1⟩:Held)])),r.Notes,r.ae,r.af⟩:ar),false):=by (exact DX ‹_› hy1 (by omega) ‹_› (by omega) (by omega) hy2 hy3 ‹_› (decide_eq_false ‹_›).symm)
         rw [hz]
         exact R.w1 (bj,aZ,v2,a8) [5,6,7,8,9,10] [] O Tryz.results50 (RV.tmp O) O O O O
      ·
       refine R.qg O (q.neq O O (bne_iff_ne.2 (by omega))) O<|R.u 1 O<|R.nil ?_
       refine R.aE O O ?_
       refine R.reg O<|R.u 1 O<|R.nil ?_
       have hz:rowP r c=(r,false):=by (exact uC ‹_› hy1 (by omega) (.inr (.inr (by omega))))
       rw [hz]
       exact R.w1 (bj,aZ,bA,a8) kz [] O Tryz.results50 (RV.tmp O) O O O O
     ·
      refine R.qg O (q.neq O O (bne_iff_ne.2 (by omega))) O<|R.u 7 O<|R.nil ?_
      refine R.aE O O ?_
      refine R.reg O<|R.u 1 O<|R.nil ?_
      have hz:rowP r c=(r,false):=by (exact uC ‹_› hy1 (by omega) (.inr (.inl (by omega))))
      rw [hz]
      exact R.w1 (bj,aZ,bA,a8) kz [] O Tryz.results50 (RV.tmp O) O O O O
    ·
     rw [h5]
     refine R.u 11 O<|R.nil ?_
     refine R.aE O O ?_
     refine R.reg O<|R.u 1 O<|R.nil ?_
     have hz:rowP r c=(r,false):=by (exact uC ‹_› hy1 (by omega) (.inl ‹_›))
     rw [hz]
     exact R.w1 (bj,aZ,bA,a8) kz [] O Tryz.results50 (RV.tmp O) O O O O
   ·
    refine R.q (q.eql O O (beq_eq_false_iff_ne.2 (by omega))) O<|R.u 1 O<|R.nil ?_
    refine R.aF O O ?_
    refine R.reg O<|?_
    by_cases h10:y1.toNat=116
    ·
     refine R.q (q.eql O O (beq_iff_eq.2 (by omega))) O<|R.u 1 O<|R.nil ?_
     refine R.aE O O ?_
     refine R.reg O<|R.q (q.aT (off':=1) O fh O) O<|R.q (q.ld 1 O O bV O) O<|R.s (B':=(fun aN:Value=>[ag.row 3 aN (numsL c.Val 1),ag.row 3 z1 (numsL (c.Key.extract 1 c.Key.size) 1),ag.box b1 (bY c) 52,ag.box nA [bj,aZ,bA,a8,iV r.ae,iV r.af] 32,ag.row 88 bj r.ai,ag.row 62 aZ r.Things,ag.row 85 bA r.Held,ag.row 72 a8 r.Notes,ag.held w own])) (F':=(fun aN:Value=>[bR])) O (s.bP (B0:=[]) (Br:=[ag.row 3 z1 (numsL (c.Key.extract 1 c.Key.size) 1),ag.box b1 (bY c) 52,ag.box nA [bj,aZ,bA,a8,iV r.ae,iV r.af] 32,ag.row 88 bj r.ai,ag.row 62 aZ r.Things,ag.row 85 bA r.Held,ag.row 72 a8 r.Notes,ag.held w own]) (F0:=[bR]) bS [0] (fun aN:Value => .tuple #[aN,.bool ((ea c.Val 1))]) (fun aN:Value=>[ag.row 3 aN (numsL c.Val 1)]) (fun aN:Value=>[]) O O O vg O O (fun w own hw H=>jh (c.Val) (1) w own H (by omega)) O) fun z3=>R.u 5 O<|R.nil ?_
     refine R.reg O<|R.u 1 O<|R.q (q.not O) O<|R.u 1 O<|?_
     cases b
     ·
      refine R.u 9 O<|R.nil ?_
      refine R.aE O O ?_
      refine R.reg O<|R.u 1 O<|R.nil ?_
      have hz:rowP r c=(r,false):=by (exact uD ‹_› hy1 (by omega) (.inl hC.symm))
      rw [hz]
      exact R.w1 (bj,aZ,bA,a8) kz [] O Tryz.results50 (RV.tmp O) O O O O
     ·
      refine R.u 1 O<|R.qg O (q.not O) O<|R.u 2 O<|?_
      rcases Bool.eq_false_or_eq_true (ea c.Val 1) with h11|h11
      ·
       rw [h11]
       refine R.qg O (q.aT (off':=1) O fh O) O<|R.qg O (q.ld 2 O O bV O) O<|R.qg O (q.lV O Tryz.underlying9) O<|?_
       by_cases h12:12<c.Val.size
       ·
        refine R.qg O (q.gtr O O (decide_eq_true (by omega))) O<|R.u 1 O<|R.nil ?_
        refine R.aE O O ?_
        refine R.reg O<|R.u 1 O<|R.nil ?_
        have hz:rowP r c=(r,false):=by (exact uD ‹_› hy1 (by omega) (.inr (.inr (by omega))))
        rw [hz]
        exact R.w1 (bj,aZ,bA,a8) kz [] O Tryz.results50 (RV.tmp O) O O O O
       ·
        refine R.qg O (q.gtr O O (decide_eq_false (by omega))) O<|R.u 1 O<|R.nil ?_
        refine R.aF O O ?_
        have ek:=Cw (c:=c) hC.symm
        have J4:=mI (s:=c.Val) (m:=1) ‹_›
        obtain ⟨x2,hx2⟩:∃z,(numsL (c.Key.extract 1 c.Key.size) 1)[0]? = some z:=⟨_,List.getElem?_eq_getElem (by omega)⟩
        obtain ⟨x3,hx3⟩:∃z,(numsL c.Val 1)[0]? = some z:=⟨_,List.getElem?_eq_getElem (by omega)⟩
        refine R.e8 (fuel:=20) (Wd w (blks [ag.box nA [bj,aZ,bA,a8,iV r.ae,iV r.af] 32,ag.row 88 bj r.ai,ag.row 62 aZ r.Things,ag.row 85 bA r.Held,ag.row 72 a8 r.Notes]++own) [ag.row 3 z3 (numsL c.Val 1),ag.row 3 z1 (numsL (c.Key.extract 1 c.Key.size) 1),ag.box b1 (bY c) 52,ag.row 88 bj r.ai,ag.row 85 bA r.Held,ag.row 72 a8 r.Notes,ag.held w own] [bR]) O mixed O ?_
        refine D.q (i:=0) O (by kernel_rfl) (aK jB [0] O O O) O (q.mv O) O<|D.q (i:=1) O (by kernel_rfl) (aK jB [0] O O O) O (q.mv O) O<|D.q (i:=2) O (by kernel_rfl) (aK jB [0] O O O) O (q.qV O) O<|D.q (i:=3) O (by kernel_rfl) (aK jB [0] O O O) O (q.aT (off':=1) O bM O) O<|D.q (i:=5) O (by kernel_rfl) (aK jB [0] O O O) O (q.mv O) O<|D.q (i:=6) O (by kernel_rfl) (aK jB [0] O O O) O (q.idx (i:=0) (cJ 1 O) O O dK O hx2) O<|D.q (i:=7) O (by kernel_rfl) (aK jB [0] O O O) O (q.fb (cJ 1 O) hx2 O aA O) O<|D.q (i:=8) O (by kernel_rfl) (aK jB [0] O O O) O (q.mv O) O<|D.q (i:=9) O (by kernel_rfl) (aK jB [0] O O O) O (q.idx (i:=0) (cJ 0 O) O O dK O hx3) O<|D.q (i:=10) O (by kernel_rfl) (aK jB [0] O O O) O (q.fb (cJ 0 O) hx3 O aA O) O<|D.q (i:=11) O (by kernel_rfl) (aK jB [0] O O O) O (q.aT (off':=1) O fh O) O<|D.q (i:=12) O (by kernel_rfl) (aK jB [0] O O O) O (q.ld 2 O O bV O) O<|D.q (i:=13) O (by kernel_rfl) (aK jB [0] O O O) O (q.Ev (i:=4) O O Tryz.underlying9 O (by omega)) O<|D.q (i:=14) O (by kernel_rfl) (aK jB [0] O O O) O (q.build (cs:=[iV x2,iV x3,.string (c.Val.extract 4 c.Val.size)]) u6 O O) O<|D.two (i:=4) (j:=15) (by kernel_rfl) O O ?_ ?_
        ·
         refine Do.s (s.c (Qt.a (q.ld 3 O O cq O)) O) (fun _=>(aK jB [0] O O O)) O fun _=>D.one (i:=15) (by kernel_rfl) O ?_
         refine Do.s (s.bs (l:=([(⟨x2,x3,(c.Val.extract 4 c.Val.size)⟩:ao)]:List ao)) ew fw O O O O O O O) (fun _=>(aK l1 [0] O O O)) O fun b5=>D.one (i:=16) (by kernel_rfl) O ?_
         refine Do.s (s.app (l2:=[(⟨x2,x3,(c.Val.extract 4 c.Val.size)⟩:ao)]) 6 _ O O O (cJ 0 O) iP (by (simp;omega)) (by (simp;omega)) (fun _=>rfl) O) (fun _=>(aK l1 [0] O O O)) O fun v3=>D.q (i:=17) O (by kernel_rfl) (aK l1 [0] O O O) O (q.qV O) O<|D.q (i:=18) O (by kernel_rfl) (aK l1 [0] O O O) O (q.aT (off':=1) O bM O) O<|D.one (i:=19) (by kernel_rfl) O ?_
         refine Do.s (s.dy (us:=[v3]) (cs':=[bj,v3,bA,a8,iV r.ae,iV r.af]) 4 _ O O O (fun w hw=>Sl.cm (hw.row 6 O)) (.inr ⟨cq,rfl⟩) (fun w hw=>(ah (Sl.one (hw.row 6 O)) aL)) O O O) (fun _=>(aK l1 [0] O O O)) O fun _=>D.done (by kernel_rfl)<|R.reg O<|R.u 1 O<|R.q (q.idx (i:=0) (cJ 1 O) O O dK O hx3) O<|R.q (q.fb (cJ 1 O) hx3 O aA O) O<|?_
         by_cases Dk:x3=1
         ·
          refine R.q (q.eql O O (beq_iff_eq.2 (by omega))) O<|R.u 13 O<|R.nil ?_
          have hz:rowP r c=((⟨r.ai,(r.Things++([(⟨x2,x3,(c.Val.extract 4 c.Val.size)⟩:ao)])),r.Held,r.Notes,r.ae,r.af⟩:ar),true):=by (exact wt ‹_› hy1 (by omega) hC.symm ‹_› (by omega) ‹_› ‹_› (decide_eq_true (by omega)).symm)
          rw [hz]
          exact R.w1 (bj,v3,bA,a8) nq [] O Tryz.results50 (RV.tmp O) O O O O
         ·
          refine R.q (q.eql O O (beq_eq_false_iff_ne.2 (by omega))) O<|R.u 2 O<|R.qg O (q.idx (i:=0) (cJ 1 O) O O dK O hx3) O<|R.qg O (q.fb (cJ 1 O) hx3 O aA O) O<|?_
          by_cases Ik:x3=2
          ·
           refine R.qg O (q.eql O O (beq_iff_eq.2 (by omega))) O<|R.u 1 O<|R.qg O (q.aT (off':=1) O fh O) O<|R.qg O (q.ld 3 O O bV O) O<|R.qg O (q.lV O Tryz.underlying9) O<|?_
           by_cases Gh:c.Val.size=4
           ·
            refine R.qg O (q.eql O O (beq_iff_eq.2 (by omega))) O<|R.u 3 O<|R.nil ?_
            have hz:rowP r c=((⟨r.ai,(r.Things++([(⟨x2,x3,(c.Val.extract 4 c.Val.size)⟩:ao)])),r.Held,r.Notes,r.ae,r.af⟩:ar),true):=by (exact wt ‹_› hy1 (by omega) hC.symm ‹_› (by omega) ‹_› ‹_› (decide_eq_true (by omega)).symm)
            rw [hz]
            exact R.w1 (bj,v3,bA,a8) nq [] O Tryz.results50 (RV.tmp O) O O O O
           ·
            refine R.qg O (q.eql O O (beq_eq_false_iff_ne.2 (by omega))) O<|R.u 3 O<|R.nil ?_
            have hz:rowP r c=((⟨r.ai,(r.Things++([(⟨x2,x3,(c.Val.extract 4 c.Val.size)⟩:ao)])),r.Held,r.Notes,r.ae,r.af⟩:ar),false):=by (exact wt ‹_› hy1 (by omega) hC.symm ‹_› (by omega) ‹_› ‹_› (decide_eq_false (by omega)).symm)
            rw [hz]
            exact R.w1 (bj,v3,bA,a8) nq [] O Tryz.results50 (RV.tmp O) O O O O
          ·
           refine R.qg O (q.eql O O (beq_eq_false_iff_ne.2 (by omega))) O<|R.u 8 O<|R.nil ?_
           have hz:rowP r c=((⟨r.ai,(r.Things++([(⟨x2,x3,(c.Val.extract 4 c.Val.size)⟩:ao)])),r.Held,r.Notes,r.ae,r.af⟩:ar),false):=by (exact wt ‹_› hy1 (by omega) hC.symm ‹_› (by omega) ‹_› ‹_› (decide_eq_false (by omega)).symm)
           rw [hz]
           exact R.w1 (bj,v3,bA,a8) nq [] O Tryz.results50 (RV.tmp O) O O O O
        ·
         refine Do.s (s.bs (l:=([(⟨x2,x3,(c.Val.extract 4 c.Val.size)⟩:ao)]:List ao)) ew fw O O O O O O O) (fun _=>(aK l1 [0] O O O)) O fun b6=>D.one (i:=4) (by kernel_rfl) O ?_
         refine Do.s (s.c (Qt.a (q.ld 4 O O cq O)) O) (fun _=>(aK l1 [0] O O O)) O fun _=>D.one (i:=16) (by kernel_rfl) O ?_
         refine Do.s (s.app (l2:=[(⟨x2,x3,(c.Val.extract 4 c.Val.size)⟩:ao)]) 6 _ O O O (cJ 0 O) iP (by (simp;omega)) (by (simp;omega)) (fun _=>rfl) O) (fun _=>(aK l1 [0] O O O)) O fun v4=>D.q (i:=17) O (by kernel_rfl) (aK l1 [0] O O O) O (q.qV O) O<|D.q (i:=18) O (by kernel_rfl) (aK l1 [0] O O O) O (q.aT (off':=1) O bM O) O<|D.one (i:=19) (by kernel_rfl) O ?_
         refine Do.s (s.dy (us:=[v4]) (cs':=[bj,v4,bA,a8,iV r.ae,iV r.af]) 4 _ O O O (fun w hw=>Sl.cm (hw.row 6 O)) (.inr ⟨cq,rfl⟩) (fun w hw=>(ah (Sl.one (hw.row 6 O)) aL)) O O O) (fun _=>(aK l1 [0] O O O)) O fun _=>D.done (by kernel_rfl)<|R.reg O<|R.u 1 O<|R.q (q.idx (i:=0) (cJ 1 O) O O dK O hx3) O<|R.q (q.fb (cJ 1 O) hx3 O aA O) O<|?_
         by_cases h16:x3=1
         ·
          refine R.q (q.eql O O (beq_iff_eq.2 (by omega))) O<|R.u 13 O<|R.nil ?_
          have hz:rowP r c=((⟨r.ai,(r.Things++([(⟨x2,x3,(c.Val.extract 4 c.Val.size)⟩:ao)])),r.Held,r.Notes,r.ae,r.af⟩:ar),true):=by (exact wt ‹_› hy1 (by omega) hC.symm ‹_› (by omega) ‹_› ‹_› (decide_eq_true (by omega)).symm)
          rw [hz]
          exact R.w1 (bj,v4,bA,a8) nq [] O Tryz.results50 (RV.tmp O) O O O O
         ·
          refine R.q (q.eql O O (beq_eq_false_iff_ne.2 (by omega))) O<|R.u 2 O<|R.qg O (q.idx (i:=0) (cJ 1 O) O O dK O hx3) O<|R.qg O (q.fb (cJ 1 O) hx3 O aA O) O<|?_
          by_cases Il:x3=2
          ·
           refine R.qg O (q.eql O O (beq_iff_eq.2 (by omega))) O<|R.u 1 O<|R.qg O (q.aT (off':=1) O fh O) O<|R.qg O (q.ld 3 O O bV O) O<|R.qg O (q.lV O Tryz.underlying9) O<|?_
           by_cases h18:c.Val.size=4
           ·
            refine R.qg O (q.eql O O (beq_iff_eq.2 (by omega))) O<|R.u 3 O<|R.nil ?_
            have hz:rowP r c=((⟨r.ai,(r.Things++([(⟨x2,x3,(c.Val.extract 4 c.Val.size)⟩:ao)])),r.Held,r.Notes,r.ae,r.af⟩:ar),true):=by (exact wt ‹_› hy1 (by omega) hC.symm ‹_› (by omega) ‹_› ‹_› (decide_eq_true (by omega)).symm)
            rw [hz]
            exact R.w1 (bj,v4,bA,a8) nq [] O Tryz.results50 (RV.tmp O) O O O O
           ·
            refine R.qg O (q.eql O O (beq_eq_false_iff_ne.2 (by omega))) O<|R.u 3 O<|R.nil ?_
            have hz:rowP r c=((⟨r.ai,(r.Things++([(⟨x2,x3,(c.Val.extract 4 c.Val.size)⟩:ao)])),r.Held,r.Notes,r.ae,r.af⟩:ar),false):=by (exact wt ‹_› hy1 (by omega) hC.symm ‹_› (by omega) ‹_› ‹_› (decide_eq_false (by omega)).symm)
            rw [hz]
            exact R.w1 (bj,v4,bA,a8) nq [] O Tryz.results50 (RV.tmp O) O O O O
          ·
           refine R.qg O (q.eql O O (beq_eq_false_iff_ne.2 (by omega))) O<|R.u 8 O<|R.nil ?_
           have hz:rowP r c=((⟨r.ai,(r.Things++([(⟨x2,x3,(c.Val.extract 4 c.Val.size)⟩:ao)])),r.Held,r.Notes,r.ae,r.af⟩:ar),false):=by (exact wt ‹_› hy1 (by omega) hC.symm ‹_› (by omega) ‹_› ‹_› (decide_eq_false (by omega)).symm)
           rw [hz]
           exact R.w1 (bj,v4,bA,a8) nq [] O Tryz.results50 (RV.tmp O) O O O O
      ·
       rw [h11]
       refine R.u 5 O<|R.nil ?_
       refine R.aE O O ?_
       refine R.reg O<|R.u 1 O<|R.nil ?_
       have hz:rowP r c=(r,false):=by (exact uD ‹_› hy1 (by omega) (.inr (.inl ‹_›)))
       rw [hz]
       exact R.w1 (bj,aZ,bA,a8) kz [] O Tryz.results50 (RV.tmp O) O O O O
    ·
     refine R.q (q.eql O O (beq_eq_false_iff_ne.2 (by omega))) O<|R.u 1 O<|R.nil ?_
     refine R.aF O O ?_
     refine R.reg O<|?_
     by_cases h19:y1.toNat=119
     ·
      refine R.q (q.eql O O (beq_iff_eq.2 (by omega))) O<|R.u 1 O<|R.nil ?_
      refine R.aE O O ?_
      refine R.reg O<|R.q (q.aT (off':=1) O fh O) O<|R.q (q.ld 1 O O bV O) O<|R.s (B':=(fun aN:Value=>[ag.row 3 aN (numsL c.Val 4),ag.row 3 z1 (numsL (c.Key.extract 1 c.Key.size) 1),ag.box b1 (bY c) 52,ag.box nA [bj,aZ,bA,a8,iV r.ae,iV r.af] 32,ag.row 88 bj r.ai,ag.row 62 aZ r.Things,ag.row 85 bA r.Held,ag.row 72 a8 r.Notes,ag.held w own])) (F':=(fun aN:Value=>[bR])) O (s.bP (B0:=[]) (Br:=[ag.row 3 z1 (numsL (c.Key.extract 1 c.Key.size) 1),ag.box b1 (bY c) 52,ag.box nA [bj,aZ,bA,a8,iV r.ae,iV r.af] 32,ag.row 88 bj r.ai,ag.row 62 aZ r.Things,ag.row 85 bA r.Held,ag.row 72 a8 r.Notes,ag.held w own]) (F0:=[bR]) bS [0] (fun aN:Value => .tuple #[aN,.bool ((ea c.Val 4))]) (fun aN:Value=>[ag.row 3 aN (numsL c.Val 4)]) (fun aN:Value=>[]) O O O vg O O (fun w own hw H=>jh (c.Val) (4) w own H (by omega)) O) fun z4=>R.u 5 O<|R.nil ?_
      refine R.reg O<|R.u 1 O<|R.q (q.not O) O<|R.u 1 O<|?_
      cases b
      ·
       refine R.u 9 O<|R.nil ?_
       refine R.aE O O ?_
       refine R.reg O<|R.u 1 O<|R.nil ?_
       have hz:rowP r c=(r,false):=by (exact uE ‹_› hy1 (by omega) (.inl hC.symm))
       rw [hz]
       exact R.w1 (bj,aZ,bA,a8) kz [] O Tryz.results50 (RV.tmp O) O O O O
      ·
       refine R.u 1 O<|R.qg O (q.not O) O<|R.u 2 O<|?_
       rcases Bool.eq_false_or_eq_true (ea c.Val 4) with h20|h20
       ·
        rw [h20]
        refine R.qg O (q.aT (off':=1) O fh O) O<|R.qg O (q.ld 2 O O bV O) O<|R.qg O (q.lV O Tryz.underlying9) O<|?_
        by_cases h21:c.Val.size=16
        ·
         refine R.qg O (q.neq O O (bne_eq_false_iff_eq.2 (by omega))) O<|R.u 1 O<|R.nil ?_
         refine R.aF O O ?_
         have ek:=Cw (c:=c) hC.symm
         have Km:=mI (s:=c.Val) (m:=4) ‹_›
         obtain ⟨x4,hx4⟩:∃z,(numsL (c.Key.extract 1 c.Key.size) 1)[0]? = some z:=⟨_,List.getElem?_eq_getElem (by omega)⟩
         obtain ⟨x5,hx5⟩:∃z,(numsL c.Val 4)[0]? = some z:=⟨_,List.getElem?_eq_getElem (by omega)⟩
         obtain ⟨x6,hx6⟩:∃z,(numsL c.Val 4)[1]? = some z:=⟨_,List.getElem?_eq_getElem (by omega)⟩
         obtain ⟨x7,hx7⟩:∃z,(numsL c.Val 4)[2]? = some z:=⟨_,List.getElem?_eq_getElem (by omega)⟩
         obtain ⟨x8,Jp⟩:∃z,(numsL c.Val 4)[3]? = some z:=⟨_,List.getElem?_eq_getElem (by omega)⟩
         refine R.e8 (fuel:=26) (Wd w (blks [ag.box nA [bj,aZ,bA,a8,iV r.ae,iV r.af] 32,ag.row 88 bj r.ai,ag.row 62 aZ r.Things,ag.row 85 bA r.Held,ag.row 72 a8 r.Notes]++own) [ag.row 3 z4 (numsL c.Val 4),ag.row 3 z1 (numsL (c.Key.extract 1 c.Key.size) 1),ag.box b1 (bY c) 52,ag.row 62 aZ r.Things,ag.row 85 bA r.Held,ag.row 72 a8 r.Notes,ag.held w own] [bR]) O mixed O ?_
         refine D.q (i:=0) O (by kernel_rfl) (aK ko [0] O O O) O (q.mv O) O<|D.q (i:=1) O (by kernel_rfl) (aK ko [0] O O O) O (q.mv O) O<|D.q (i:=2) O (by kernel_rfl) (aK ko [0] O O O) O (q.qV O) O<|D.q (i:=3) O (by kernel_rfl) (aK ko [0] O O O) O (q.aT (off':=0) O bf O) O<|D.q (i:=5) O (by kernel_rfl) (aK ko [0] O O O) O (q.mv O) O<|D.q (i:=6) O (by kernel_rfl) (aK ko [0] O O O) O (q.idx (i:=0) (cJ 1 O) O O dK O hx4) O<|D.q (i:=7) O (by kernel_rfl) (aK ko [0] O O O) O (q.fb (cJ 1 O) hx4 O aA O) O<|D.q (i:=8) O (by kernel_rfl) (aK ko [0] O O O) O (q.mv O) O<|D.q (i:=9) O (by kernel_rfl) (aK ko [0] O O O) O (q.idx (i:=0) (cJ 0 O) O O dK O hx5) O<|D.q (i:=10) O (by kernel_rfl) (aK ko [0] O O O) O (q.fb (cJ 0 O) hx5 O aA O) O<|D.q (i:=11) O (by kernel_rfl) (aK ko [0] O O O) O (q.mv O) O<|D.q (i:=12) O (by kernel_rfl) (aK ko [0] O O O) O (q.idx (i:=1) (cJ 0 O) O O dK O hx6) O<|D.q (i:=13) O (by kernel_rfl) (aK ko [0] O O O) O (q.fb (cJ 0 O) hx6 O aA O) O<|D.q (i:=14) O (by kernel_rfl) (aK ko [0] O O O) O (q.mv O) O<|D.q (i:=15) O (by kernel_rfl) (aK ko [0] O O O) O (q.idx (i:=2) (cJ 0 O) O O dK O hx7) O<|D.q (i:=16) O (by kernel_rfl) (aK ko [0] O O O) O (q.fb (cJ 0 O) hx7 O aA O) O<|D.q (i:=17) O (by kernel_rfl) (aK ko [0] O O O) O (q.mv O) O<|D.q (i:=18) O (by kernel_rfl) (aK ko [0] O O O) O (q.idx (i:=3) (cJ 0 O) O O dK O Jp) O<|D.q (i:=19) O (by kernel_rfl) (aK ko [0] O O O) O (q.fb (cJ 0 O) Jp O aA O) O<|D.q (i:=20) O (by kernel_rfl) (aK ko [0] O O O) O (q.build (cs:=[iV x4,iV x5,iV x6,iV x7,iV x8]) eK O O) O<|D.two (i:=4) (j:=21) (by kernel_rfl) O O ?_ ?_
         ·
          refine Do.s (s.c (Qt.a (q.ld 3 O O bE O)) O) (fun _=>(aK ko [0] O O O)) O fun _=>D.one (i:=21) (by kernel_rfl) O ?_
          refine Do.s (s.bs (l:=([(⟨x4,x5,x6,x7,x8⟩:ak)]:List ak)) cK bF O O O O O O O) (fun _=>(aK l4 [0] O O O)) O fun b7=>D.one (i:=22) (by kernel_rfl) O ?_
          refine Do.s (s.app (l2:=[(⟨x4,x5,x6,x7,x8⟩:ak)]) 5 _ O O O (cJ 0 O) fJ (by (simp;omega)) (by (simp;omega)) (fun _=>rfl) O) (fun _=>(aK l4 [0] O O O)) O fun v5=>D.q (i:=23) O (by kernel_rfl) (aK l4 [0] O O O) O (q.qV O) O<|D.q (i:=24) O (by kernel_rfl) (aK l4 [0] O O O) O (q.aT (off':=0) O bf O) O<|D.one (i:=25) (by kernel_rfl) O ?_
          refine Do.s (s.dy (us:=[v5]) (cs':=[v5,aZ,bA,a8,iV r.ae,iV r.af]) 4 _ O O O (fun w hw=>Sl.cm (hw.row 5 O)) (.inr ⟨bE,rfl⟩) (fun w hw=>(ah (Sl.one (hw.row 5 O)) aL)) O O O) (fun _=>(aK l4 [0] O O O)) O fun _=>D.done (by kernel_rfl)<|R.reg O<|R.u 1 O<|R.nil ?_
          have hz:rowP r c=((⟨(r.ai++([(⟨x4,x5,x6,x7,x8⟩:ak)])),r.Things,r.Held,r.Notes,r.ae,r.af⟩:ar),true):=by (exact H5 ‹_› hy1 (by omega) hC.symm ‹_› (by omega) ‹_› ‹_› ‹_› ‹_› ‹_›)
          rw [hz]
          exact R.w1 (v5,aZ,bA,a8) nq [] O Tryz.results50 (RV.tmp O) O O O O
         ·
          refine Do.s (s.bs (l:=([(⟨x4,x5,x6,x7,x8⟩:ak)]:List ak)) cK bF O O O O O O O) (fun _=>(aK l4 [0] O O O)) O fun b8=>D.one (i:=4) (by kernel_rfl) O ?_
          refine Do.s (s.c (Qt.a (q.ld 4 O O bE O)) O) (fun _=>(aK l4 [0] O O O)) O fun _=>D.one (i:=22) (by kernel_rfl) O ?_
          refine Do.s (s.app (l2:=[(⟨x4,x5,x6,x7,x8⟩:ak)]) 5 _ O O O (cJ 0 O) fJ (by (simp;omega)) (by (simp;omega)) (fun _=>rfl) O) (fun _=>(aK l4 [0] O O O)) O fun v6=>D.q (i:=23) O (by kernel_rfl) (aK l4 [0] O O O) O (q.qV O) O<|D.q (i:=24) O (by kernel_rfl) (aK l4 [0] O O O) O (q.aT (off':=0) O bf O) O<|D.one (i:=25) (by kernel_rfl) O ?_
          refine Do.s (s.dy (us:=[v6]) (cs':=[v6,aZ,bA,a8,iV r.ae,iV r.af]) 4 _ O O O (fun w hw=>Sl.cm (hw.row 5 O)) (.inr ⟨bE,rfl⟩) (fun w hw=>(ah (Sl.one (hw.row 5 O)) aL)) O O O) (fun _=>(aK l4 [0] O O O)) O fun _=>D.done (by kernel_rfl)<|R.reg O<|R.u 1 O<|R.nil ?_
          have hz:rowP r c=((⟨(r.ai++([(⟨x4,x5,x6,x7,x8⟩:ak)])),r.Things,r.Held,r.Notes,r.ae,r.af⟩:ar),true):=by (exact H5 ‹_› hy1 (by omega) hC.symm ‹_› (by omega) ‹_› ‹_› ‹_› ‹_› ‹_›)
          rw [hz]
          exact R.w1 (v6,aZ,bA,a8) nq [] O Tryz.results50 (RV.tmp O) O O O O
        ·
         refine R.qg O (q.neq O O (bne_iff_ne.2 (by omega))) O<|R.u 1 O<|R.nil ?_
         refine R.aE O O ?_
         refine R.reg O<|R.u 1 O<|R.nil ?_
         have hz:rowP r c=(r,false):=by (exact uE ‹_› hy1 (by omega) (.inr (.inr (by omega))))
         rw [hz]
         exact R.w1 (bj,aZ,bA,a8) kz [] O Tryz.results50 (RV.tmp O) O O O O
       ·
        rw [h20]
        refine R.u 5 O<|R.nil ?_
        refine R.aE O O ?_
        refine R.reg O<|R.u 1 O<|R.nil ?_
        have hz:rowP r c=(r,false):=by (exact uE ‹_› hy1 (by omega) (.inr (.inl ‹_›)))
        rw [hz]
        exact R.w1 (bj,aZ,bA,a8) kz [] O Tryz.results50 (RV.tmp O) O O O O
     ·
      refine R.q (q.eql O O (beq_eq_false_iff_ne.2 (by omega))) O<|R.u 1 O<|R.nil ?_
      refine R.aF O O ?_
      refine R.reg O<|R.q (q.aT (off':=1) O fh O) O<|R.q (q.ld 1 O O bV O) O<|R.s (B':=(fun aN:Value=>[ag.row 3 aN (numsL c.Val 2),ag.row 3 z1 (numsL (c.Key.extract 1 c.Key.size) 1),ag.box b1 (bY c) 52,ag.box nA [bj,aZ,bA,a8,iV r.ae,iV r.af] 32,ag.row 88 bj r.ai,ag.row 62 aZ r.Things,ag.row 85 bA r.Held,ag.row 72 a8 r.Notes,ag.held w own])) (F':=(fun aN:Value=>[bR])) O (s.bP (B0:=[]) (Br:=[ag.row 3 z1 (numsL (c.Key.extract 1 c.Key.size) 1),ag.box b1 (bY c) 52,ag.box nA [bj,aZ,bA,a8,iV r.ae,iV r.af] 32,ag.row 88 bj r.ai,ag.row 62 aZ r.Things,ag.row 85 bA r.Held,ag.row 72 a8 r.Notes,ag.held w own]) (F0:=[bR]) bS [0] (fun aN:Value => .tuple #[aN,.bool ((ea c.Val 2))]) (fun aN:Value=>[ag.row 3 aN (numsL c.Val 2)]) (fun aN:Value=>[]) O O O vg O O (fun w own hw H=>jh (c.Val) (2) w own H (by omega)) O) fun z5=>R.u 5 O<|R.nil ?_
      refine R.reg O<|R.q (q.aT (off':=0) O bD O) O<|R.q (q.ld 2 O O bV O) O<|?_
      by_cases h22:c.Key=⟨#[120]⟩
      ·
       refine R.q (q.Ek O O h22) O<|R.u 2 O<|R.qg O (q.not O) O<|R.u 2 O<|?_
       rcases Bool.eq_false_or_eq_true (ea c.Val 2) with h23|h23
       ·
        rw [h23]
        refine R.qg O (q.aT (off':=1) O fh O) O<|R.qg O (q.ld 2 O O bV O) O<|R.qg O (q.lV O Tryz.underlying9) O<|?_
        by_cases Kn:c.Val.size=8
        ·
         refine R.qg O (q.neq O O (bne_eq_false_iff_eq.2 (by omega))) O<|R.u 1 O<|R.nil ?_
         refine R.aF O O ?_
         have Kp:=mI (s:=c.Val) (m:=2) ‹_›
         obtain ⟨x9,Jq⟩:∃z,(numsL c.Val 2)[0]? = some z:=⟨_,List.getElem?_eq_getElem (by omega)⟩
         obtain ⟨x10,H7⟩:∃z,(numsL c.Val 2)[1]? = some z:=⟨_,List.getElem?_eq_getElem (by omega)⟩
         refine R.e8 (fuel:=14) (Wd w (blks [ag.box nA [bj,aZ,bA,a8,iV r.ae,iV r.af] 32,ag.row 88 bj r.ai,ag.row 62 aZ r.Things,ag.row 85 bA r.Held,ag.row 72 a8 r.Notes]++own) [ag.row 3 z5 (numsL c.Val 2),ag.row 3 z1 (numsL (c.Key.extract 1 c.Key.size) 1),ag.box b1 (bY c) 52,ag.row 88 bj r.ai,ag.row 62 aZ r.Things,ag.row 85 bA r.Held,ag.row 72 a8 r.Notes,ag.held w own] [bR]) O mixed O ?_
         refine D.q (i:=0) O (by kernel_rfl) (aK j0 [0] O O O) O (q.mv O) O<|D.q (i:=1) O (by kernel_rfl) (aK j0 [0] O O O) O (q.mv O) O<|D.q (i:=2) O (by kernel_rfl) (aK j0 [0] O O O) O (q.mv O) O<|D.q (i:=3) O (by kernel_rfl) (aK j0 [0] O O O) O (q.idx (i:=0) (cJ 0 O) O O dK O Jq) O<|D.q (i:=4) O (by kernel_rfl) (aK j0 [0] O O O) O (q.fb (cJ 0 O) Jq O aA O) O<|D.q (i:=5) O (by kernel_rfl) (aK j0 [0] O O O) O (q.mv O) O<|D.q (i:=6) O (by kernel_rfl) (aK j0 [0] O O O) O (q.idx (i:=1) (cJ 0 O) O O dK O H7) O<|D.q (i:=7) O (by kernel_rfl) (aK j0 [0] O O O) O (q.fb (cJ 0 O) H7 O aA O) O<|D.q (i:=8) O (by kernel_rfl) (aK j0 [0] O O O) O (q.qV O) O<|D.q (i:=9) O (by kernel_rfl) (aK j0 [0] O O O) O (q.aT (off':=4) O bW O) O<|D.one (i:=10) (by kernel_rfl) O ?_
         refine Do.s (s.st (us:=[iV x9]) (cs':=[bj,aZ,bA,a8,iV x9,iV r.af]) 3 _ O O O O (.inr ⟨aA,rfl⟩) O O O O) (fun _=>(aK j0 [0] O O O)) O fun _=>D.q (i:=11) O (by kernel_rfl) (aK j0 [0] O O O) O (q.qV O) O<|D.q (i:=12) O (by kernel_rfl) (aK j0 [0] O O O) O (q.aT (off':=5) O cI O) O<|D.one (i:=13) (by kernel_rfl) O ?_
         refine Do.s (s.st (us:=[iV x10]) (cs':=[bj,aZ,bA,a8,iV x9,iV x10]) 3 _ O O O O (.inr ⟨aA,rfl⟩) O O O O) (fun _=>(aK j0 [0] O O O)) O fun _=>D.done (by kernel_rfl)<|R.reg O<|R.u 1 O<|R.nil ?_
         have hz:rowP r c=((⟨r.ai,r.Things,r.Held,r.Notes,x9,x10⟩:ar),true):=by (exact I9 ‹_› hy1 (by omega) (by omega) (by omega) ‹_› ‹_› (by omega) ‹_› ‹_›)
         rw [hz]
         exact R.w1 (bj,aZ,bA,a8) kz [] O Tryz.results50 (RV.tmp O) O O O O
        ·
         refine R.qg O (q.neq O O (bne_iff_ne.2 (by omega))) O<|R.u 1 O<|R.nil ?_
         refine R.aE O O ?_
         refine R.reg O<|R.u 1 O<|R.nil ?_
         have hz:rowP r c=(r,false):=by (exact uF ‹_› hy1 (by omega) (by omega) (by omega) (.inr (.inr (by omega))))
         rw [hz]
         exact R.w1 (bj,aZ,bA,a8) kz [] O Tryz.results50 (RV.tmp O) O O O O
       ·
        rw [h23]
        refine R.u 5 O<|R.nil ?_
        refine R.aE O O ?_
        refine R.reg O<|R.u 1 O<|R.nil ?_
        have hz:rowP r c=(r,false):=by (exact uF ‹_› hy1 (by omega) (by omega) (by omega) (.inr (.inl ‹_›)))
        rw [hz]
        exact R.w1 (bj,aZ,bA,a8) kz [] O Tryz.results50 (RV.tmp O) O O O O
      ·
       refine R.q (q.El O O h22) O<|R.u 10 O<|R.nil ?_
       refine R.aE O O ?_
       refine R.reg O<|R.u 1 O<|R.nil ?_
       have hz:rowP r c=(r,false):=by (exact uF ‹_› hy1 (by omega) (by omega) (by omega) (.inl ‹_›))
       rw [hz]
       exact R.w1 (bj,aZ,bA,a8) kz [] O Tryz.results50 (RV.tmp O) O O O O
end Go.Proofs.YtbkfhjaibhnkmaaGreatDoor
