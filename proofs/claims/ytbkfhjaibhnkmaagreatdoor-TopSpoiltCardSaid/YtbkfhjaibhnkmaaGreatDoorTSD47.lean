import Derived.Test.YtbkfhjaibhnkmaaGreatDoorTSD29
import Derived.Test.YtbkfhjaibhnkmaaGreatDoorTSD45
import Derived.Test.YtbkfhjaibhnkmaaGreatDoorTSD46
namespace Go.Proofs.YtbkfhjaibhnkmaaGreatDoor
open Go Go.RowKit
set_option linter.unusedVariables false
set_option linter.unusedSimpArgs false
set_option maxRecDepth 100000
def o9 (m:Int)(k:Nat):Nat:=(m % 18446744073709551616).toNat &&& k
theorem sg {m:Int}{k:Nat}(hk:k≤9223372036854775807):bits .and .i64 m (k:Int)=((o9 m k:Nat):Int):=by
 show IntKind.i64.wrap ((BitVec.ofInt 64 m &&& BitVec.ofInt 64 ((k:Nat):Int)).toNat:Int)=_
 have e:(BitVec.ofInt 64 m).toNat=(m % 18446744073709551616).toNat:=by simp [BitVec.toNat_ofInt]
 rw [BitVec.toNat_and,ofInt_u64 k (by omega),e]
 have hl:(m % 18446744073709551616).toNat &&& k≤k:=Nat.and_le_right
 unfold o9
 rw [IntKind.wrap_i64]
 omega
theorem vB {c:Change}(h:iR [c] 1=true):c.Key.size≤20∧c.Val.size≤40:=by
 unfold iR at h;simp [dU] at h;omega
theorem Inv.ok {z:ap}(h:Inv z)(hn:z.Notes=[])(hl:z.Held.length=z.ai.length):Ok z:=by
 have a:=oN h
 exact ⟨by omega,by have:=h.fN;omega,by omega,by rw [hn];exact Nat.zero_le _,h.toPre.ri,by have:=h.jV;omega,by have:=h.kP;omega,by have:=h.jY;omega,by have:=h.jZ;omega⟩
theorem vC {rows:List Change}(hr:gR rows)(hs:∀c∈rows,c.Key.size≤1000∧c.Val.size≤1000){c:Change}(hc:c.Key.size≤1000∧c.Val.size≤1000):∀d∈aP rows [c],d.Key.size≤1000∧d.Val.size≤1000:=fun d hd=>by
 rcases xA hr hd with h|h
 ·exact hs d h
 ·rw [h];exact hc
set_option maxRecDepth 100000 in
set_option maxHeartbeats 1600000 in
theorem py (bm:Value)(l:List df)(c:Change)(n0:Int)(gone:Bool)(w:World)(cp:Sl w bm l)(wm:∀x∈l,Sl w x.cv x.Changes)(ht:tq w):Calls Tryz.prog 5 #[bm,.agg #[.string c.Key,.string c.Val,.bool c.Gone],iV n0,.bool gone] w fun e w'=>e = .returned (.bool true)∧Ext w w':=by
 have ql:=cp.dH
 refine R.enter (n:=125) (vs:=[bm,.agg #[.string c.Key,.string c.Val,.bool c.Gone],iV n0,.bool gone]) [] [(0,bm),(1,.agg #[.string c.Key,.string c.Val,.bool c.Gone]),(2,iV n0),(3,.bool gone)] Tryz.func5 rfl rfl rfl rfl ?_
 refine R.nZ (r:=bz) ht (uw ht) ?_
 refine R.zK cp ?_
 refine R.nZ (r:=ag.acts l) wm (tI wm) ?_
 refine R.reg rfl<|R.s rfl (s.box (cs:=bT c) rfl rfl rfl) fun b1=>R.u 1 rfl<|R.nil ?_
 refine R.reg rfl<|R.c (q.call BR rfl rfl (fun w hw=>(wQ  w  ))) rfl<|R.u 1 rfl<|R.nil ?_
 refine R.reg rfl<|R.u 2 rfl<|R.nil ?_
 refine R.aI rfl rfl ?_
 refine R.reg rfl<|R.u 1 rfl<|R.s (B':=(fun g_:Value×Value×Value×Value=>[ag.box b1 (bT c) 52])) (F':=(fun g_:Value×Value×Value×Value=>[ag.ls g_.1 ((((ay l)).1).ai:List aj),ag.ls g_.2.1 ((((ay l)).1).Things:List ah),ag.ls g_.2.2.1 ((((ay l)).1).Held:List Held),ag.ls g_.2.2.2 ((((ay l)).1).Notes:List Note),ag.acts l,ag.ls bm (l:List df),bz])) rfl (s.bJ (B0:=[]) (Br:=[ag.box b1 (bT c) 52]) (F0:=[ag.ls bm (l:List df),ag.acts l]) [0] [1,0] (fun g_:Value×Value×Value×Value => .tuple #[.agg #[g_.1,g_.2.1,g_.2.2.1,g_.2.2.2,iV ((((ay l)).1).ae),iV ((((ay l)).1).af)],.bool (((ay l)).2)]) (fun g_:Value×Value×Value×Value=>[]) (fun g_:Value×Value×Value×Value=>[ag.ls g_.1 ((((ay l)).1).ai:List aj),ag.ls g_.2.1 ((((ay l)).1).Things:List ah),ag.ls g_.2.2.1 ((((ay l)).1).Held:List Held),ag.ls g_.2.2.2 ((((ay l)).1).Notes:List Note)]) rfl rfl rfl BS rfl rfl (fun w own hw H=>ve bm (l) w own H ) rfl) ?_
 rintro ⟨z1,z2,z3,z4⟩
 dsimp only
 refine R.u 3 rfl<|R.s rfl (s.alloc (cs:=aJ) cD rfl rfl) fun b2=>R.s rfl (s.e8 (us:=[z1,z2,z3,z4,iV (((ay l).1).ae),iV (((ay l).1).af)]) (cs':=[z1,z2,z3,z4,iV (((ay l).1).ae),iV (((ay l).1).af)]) 0 _ rfl rfl rfl (fun _ _=>rfl) (.inl ar) (fun w hw=>(ak (Sl.one (hw.aT 0 rfl)) (ak (Sl.one (hw.aT 1 rfl)) (ak (Sl.one (hw.aT 2 rfl)) (ak (Sl.one (hw.aT 3 rfl)) (ak rfl (ak rfl aS))))))) rfl rfl rfl) fun _=>R.u 1 rfl<|R.nil ?_
 refine R.reg rfl<|R.u 1 rfl<|R.q (q.not rfl) rfl<|R.u 1 rfl<|?_
 rcases Bool.eq_false_or_eq_true ((ay l).2) with h1|h1
 ·
  rw [h1]
  refine R.qg rfl (q.cT 1 rfl rfl eA) rfl<|R.s rfl (s.bs (l:=([c]:List Change)) bX fe rfl rfl rfl rfl rfl rfl rfl) fun b3=>?_
  rcases Bool.eq_false_or_eq_true (iR ([c]) 1) with h2|h2
  ·
   refine R.cg rfl (q.call ya rfl rfl (fun w hw=>(cv (congrArg Value.bool h2) (jJ _ ([c]) (1) w (hw.row 0 rfl) )))) rfl<|R.u 2 rfl<|R.nil ?_
   refine R.aI rfl rfl ?_
   have hg:=rP (show (ay l).2=true from by first|assumption|(have hq:= ‹(!(ay l).2)=false›;simpa using hq));have hI:=hg.1;have hz:=hg.2;have hk:Ok (ay l).1:=hz.ok (by decide);have bw:=hk.wl;have bt:=hk.tl;have bh:=hk.hl;have bn:=hk.nl
   have rl:=vq hI;have rs:=tC hI;have rr:=tA hI;have rp:=vA (r:=((ay l).1))
   refine R.reg rfl<|R.q (q.cT 1 rfl rfl ar) rfl<|R.s (B':=(fun aH:Value=>[ag.row 52 aH ((bk ((ay l).1)):List Change),ag.row 52 (.slice (some ⟨b3,0,none⟩) 1 1) ([c]:List Change),ag.box b2 [z1,z2,z3,z4,iV (((ay l).1).ae),iV (((ay l).1).af)] 32,ag.box b1 (bT c) 52])) (F':=(fun aH:Value=>[ag.ls z1 (((ay l).1).ai:List aj),ag.ls z2 (((ay l).1).Things:List ah),ag.ls z3 (((ay l).1).Held:List Held),ag.ls z4 (((ay l).1).Notes:List Note),ag.acts l,ag.ls bm (l:List df),bz])) rfl (s.bJ (B0:=[]) (Br:=[ag.row 52 (.slice (some ⟨b3,0,none⟩) 1 1) ([c]:List Change),ag.box b2 [z1,z2,z3,z4,iV (((ay l).1).ae),iV (((ay l).1).af)] 32,ag.box b1 (bT c) 52]) (F0:=[ag.ls z1 (((ay l).1).ai:List aj),ag.ls z2 (((ay l).1).Things:List ah),ag.ls z3 (((ay l).1).Held:List Held),ag.ls z4 (((ay l).1).Notes:List Note),bz]) [0,1,2] [0,1,2,3,6] (fun aH:Value=>aH) (fun aH:Value=>[ag.row 52 aH ((bk ((ay l).1)):List Change)]) (fun aH:Value=>[]) rfl rfl rfl zf rfl rfl (fun w own hw H=>r8 z1 z2 z3 z4 (((ay l).1)) w own H ‹_› ‹_›) rfl) fun z5=>R.u 1 rfl<|R.nil ?_
   refine R.reg rfl<|R.u 1 rfl<|R.q (q.and (r:=(((o9 n0 1023):Nat):Int)) rfl rfl (sg (by decide))) rfl<|R.u 1 rfl<|R.q (q.len' (fun _=>Wd.row 0 rfl) rfl Tryz.underlying23) rfl<|R.q (q.rem (r:=((((o9 n0 1023) % (bk ((ay l).1)).length):Nat):Int)) rfl rfl (by omega) (DI rfl)) rfl<|R.u 1 rfl<|R.nil ?_
   have lc:=vB (c:=c) ‹_›
   refine R.reg rfl<|R.q (q.a8 (off':=2) rfl fY rfl) rfl<|R.s rfl (s.st (us:=[.bool false]) (cs':=[.string c.Key,.string c.Val,.bool false]) 3 _ rfl rfl rfl rfl (.inr ⟨j7,rfl⟩) rfl rfl rfl rfl) fun _=>R.nil ?_
   refine R.cut 2 (fun K0:ByteArray=>[(3,.bool gone),(5,.pointer (some ⟨b1,0,none⟩)),(11,z5),(12,iV (((o9 n0 1023) % (bk ((ay l).1)).length):Int))]) (fun K0:ByteArray=>[ag.row 52 z5 (bk ((ay l).1):List Change),ag.row 52 (.slice (some ⟨b3,0,none⟩) 1 1) ([c]:List Change),ag.box b2 [z1,z2,z3,z4,iV (((ay l).1).ae),iV (((ay l).1).af)] 32,ag.box b1 [.string K0,.string c.Val,.bool false] 52]) (fun K0:ByteArray=>[ag.ls z1 (((ay l).1).ai:List aj),ag.ls z2 (((ay l).1).Things:List ah),ag.ls z3 (((ay l).1).Held:List Held),ag.ls z4 (((ay l).1).Notes:List Note),ag.acts l,ag.ls bm (l:List df),bz]) (fun K0:ByteArray=>K0.size≤1000) rfl rfl rfl ?_ ?_
   ·
    refine R.reg rfl<|R.u 1 rfl<|R.q (q.and (r:=(((o9 n0 1024):Nat):Int)) rfl rfl (sg (by decide))) rfl<|?_
    by_cases h3:(o9 n0 1024)=0
    ·
     refine R.q (q.neq rfl rfl (bne_eq_false_iff_eq.2 (by omega))) rfl<|R.nil ?_
     refine R.aI rfl rfl ?_
     exact R.meet c.Key rfl (by (omega)) ⟨rfl,rfl,rfl,rfl,trivial⟩ (fun _=>Wd.pick [0,1,2,3] [0,1,2,3,4,5,6] rfl rfl rfl)
    ·
     refine R.q (q.neq rfl rfl (bne_iff_ne.2 (by omega))) rfl<|R.nil ?_
     refine R.aD rfl rfl ?_
     refine R.reg rfl<|R.u 2 rfl<|?_
     obtain ⟨x1,hx1⟩:∃z,(bk ((ay l).1))[((o9 n0 1023) % (bk ((ay l).1)).length)]? = some z:=⟨_,List.getElem?_eq_getElem (by first|omega|exact Nat.mod_lt _ rp)⟩
     have D5:=rs x1 (List.mem_of_getElem? hx1)
     refine R.q (q.idx (i:=((o9 n0 1023) % (bk ((ay l).1)).length)) (fun _=>Wd.row 0 rfl) rfl rfl bX rfl hx1) rfl<|R.q (q.dm (j':=0) (fun _=>Wd.row 0 rfl) hx1 rfl bu rfl) rfl<|R.q (q.fk (fun _=>Wd.row 0 rfl) hx1 rfl bF rfl) rfl<|R.q (q.a8 (off':=0) rfl bu rfl) rfl<|R.s rfl (s.st (us:=[.string x1.Key]) (cs':=[.string x1.Key,.string c.Val,.bool false]) 3 _ rfl rfl rfl rfl (.inr ⟨bF,rfl⟩) rfl rfl rfl rfl) fun _=>R.nil ?_
     exact R.meet x1.Key rfl (by (omega)) ⟨rfl,rfl,rfl,rfl,trivial⟩ (fun _=>Wd.pick [0,1,2,3] [0,1,2,3,4,5,6] rfl rfl rfl)
   ·
    rintro K0 E6
    refine R.cut 2 (fun g_:ByteArray×ByteArray×Bool=>[(5,.pointer (some ⟨b1,0,none⟩)),(11,z5)]) (fun g_:ByteArray×ByteArray×Bool=>[ag.row 52 z5 (bk ((ay l).1):List Change),ag.row 52 (.slice (some ⟨b3,0,none⟩) 1 1) ([c]:List Change),ag.box b2 [z1,z2,z3,z4,iV (((ay l).1).ae),iV (((ay l).1).af)] 32,ag.box b1 [.string g_.1,.string g_.2.1,.bool g_.2.2] 52]) (fun g_:ByteArray×ByteArray×Bool=>[ag.ls z1 (((ay l).1).ai:List aj),ag.ls z2 (((ay l).1).Things:List ah),ag.ls z3 (((ay l).1).Held:List Held),ag.ls z4 (((ay l).1).Notes:List Note),ag.acts l,ag.ls bm (l:List df),bz]) (fun g_:ByteArray×ByteArray×Bool=>g_.1.size≤1000∧g_.2.1.size≤1000) rfl rfl rfl ?_ ?_
    ·
     refine R.reg rfl<|R.u 1 rfl<|R.nil ?_
     cases gone
     ·
      refine R.aI rfl rfl ?_
      exact R.meet (K0,c.Val,false) rfl (by ((try dsimp only);exact ⟨by first|omega|decide,by first|omega|decide⟩)) ⟨rfl,rfl,trivial⟩ (fun _=>Wd.pick [0,1,2,3] [0,1,2,3,4,5,6] rfl rfl rfl)
     ·
      refine R.aD rfl rfl ?_
      refine R.reg rfl<|R.u 2 rfl<|?_
      obtain ⟨x2,hx2⟩:∃z,(bk ((ay l).1))[((o9 n0 1023) % (bk ((ay l).1)).length)]? = some z:=⟨_,List.getElem?_eq_getElem (by first|omega|exact Nat.mod_lt _ rp)⟩
      have D6:=rs x2 (List.mem_of_getElem? hx2)
      refine R.q (q.idx (i:=((o9 n0 1023) % (bk ((ay l).1)).length)) (fun _=>Wd.row 0 rfl) rfl rfl bX rfl hx2) rfl<|R.q (q.dm (j':=0) (fun _=>Wd.row 0 rfl) hx2 rfl bu rfl) rfl<|R.q (q.fk (fun _=>Wd.row 0 rfl) hx2 rfl bF rfl) rfl<|R.q (q.build (cs:=[.string x2.Key,.string (⟨#[]⟩),.bool true]) qS rfl rfl) rfl<|R.s rfl (s.st (us:=[.string x2.Key,.string (⟨#[]⟩),.bool true]) (cs':=[.string x2.Key,.string (⟨#[]⟩),.bool true]) 3 _ rfl rfl rfl rfl (.inl eA) rfl rfl rfl rfl) fun _=>R.nil ?_
      exact R.meet (x2.Key,⟨#[]⟩,true) rfl (by ((try dsimp only);exact ⟨by first|omega|decide,by first|omega|decide⟩)) ⟨rfl,rfl,trivial⟩ (fun _=>Wd.pick [0,1,2,3] [0,1,2,3,4,5,6] rfl rfl rfl)
    ·
     rintro ⟨K,V,g⟩ ⟨hK,hV⟩
     dsimp only at *
     have yl:=jK [(⟨K,V,g⟩:Change)] (bk ((ay l).1));rw [List.length_singleton] at yl;have ys:=vC rr rs (c:=(⟨K,V,g⟩:Change)) ⟨hK,hV⟩
     refine R.reg rfl<|R.u 1 rfl<|R.q (q.cT 3 rfl rfl eA) rfl<|R.s rfl (s.bs (l:=([(⟨K,V,g⟩:Change)]:List Change)) bX fe rfl rfl rfl rfl rfl rfl rfl) fun b4=>R.s (B':=(fun aH:Value=>[ag.row 52 aH ((aP (bk ((ay l).1)) ([(⟨K,V,g⟩:Change)])):List Change),ag.row 52 (.slice (some ⟨b3,0,none⟩) 1 1) ([c]:List Change),ag.box b2 [z1,z2,z3,z4,iV (((ay l).1).ae),iV (((ay l).1).af)] 32,ag.box b1 [.string K,.string V,.bool g] 52])) (F':=(fun aH:Value=>[ag.ls (.slice (some ⟨b4,0,none⟩) 1 1) ([(⟨K,V,g⟩:Change)]:List Change),ag.ls z5 (bk ((ay l).1):List Change),ag.ls z1 (((ay l).1).ai:List aj),ag.ls z2 (((ay l).1).Things:List ah),ag.ls z3 (((ay l).1).Held:List Held),ag.ls z4 (((ay l).1).Notes:List Note),ag.acts l,ag.ls bm (l:List df),bz])) rfl (s.pre (B2:=[ag.row 52 (.slice (some ⟨b4,0,none⟩) 1 1) ([(⟨K,V,g⟩:Change)]:List Change),ag.row 52 (.slice (some ⟨b3,0,none⟩) 1 1) ([c]:List Change),ag.box b2 [z1,z2,z3,z4,iV (((ay l).1).ae),iV (((ay l).1).af)] 32,ag.box b1 [.string K,.string V,.bool g] 52]) (F2:=[ag.ls z5 (bk ((ay l).1):List Change),ag.ls z1 (((ay l).1).ai:List aj),ag.ls z2 (((ay l).1).Things:List ah),ag.ls z3 (((ay l).1).Held:List Held),ag.ls z4 (((ay l).1).Notes:List Note),ag.acts l,ag.ls bm (l:List df),bz]) (fun _ hw=>hw.di 1 _ rfl rfl) (s.pre (B2:=[ag.row 52 (.slice (some ⟨b3,0,none⟩) 1 1) ([c]:List Change),ag.box b2 [z1,z2,z3,z4,iV (((ay l).1).ae),iV (((ay l).1).af)] 32,ag.box b1 [.string K,.string V,.bool g] 52]) (F2:=[ag.ls (.slice (some ⟨b4,0,none⟩) 1 1) ([(⟨K,V,g⟩:Change)]:List Change),ag.ls z5 (bk ((ay l).1):List Change),ag.ls z1 (((ay l).1).ai:List aj),ag.ls z2 (((ay l).1).Things:List ah),ag.ls z3 (((ay l).1).Held:List Held),ag.ls z4 (((ay l).1).Notes:List Note),ag.acts l,ag.ls bm (l:List df),bz]) (fun _ hw=>hw.di 0 _ rfl rfl) (s.bJ (B0:=[]) (Br:=[ag.row 52 (.slice (some ⟨b3,0,none⟩) 1 1) ([c]:List Change),ag.box b2 [z1,z2,z3,z4,iV (((ay l).1).ae),iV (((ay l).1).af)] 32,ag.box b1 [.string K,.string V,.bool g] 52]) (F0:=[ag.ls z5 (bk ((ay l).1):List Change),ag.ls (.slice (some ⟨b4,0,none⟩) 1 1) ([(⟨K,V,g⟩:Change)]:List Change)]) [0,1,2] [1,0] (fun aH:Value=>aH) (fun aH:Value=>[ag.row 52 aH ((aP (bk ((ay l).1)) ([(⟨K,V,g⟩:Change)])):List Change)]) (fun aH:Value=>[]) rfl rfl rfl BV rfl rfl (fun w own hw H=>rX z5 (bk ((ay l).1)) (.slice (some ⟨b4,0,none⟩) 1 1) ([(⟨K,V,g⟩:Change)]) w own H (by first|omega|assumption|(simp;done)|(simp;omega))) rfl))) fun z6=>R.u 1 rfl<|R.nil ?_
     refine R.reg rfl<|R.u 1 rfl<|R.s (B':=(fun g_:Value×Value×Value×Value=>[ag.row 52 (.slice (some ⟨b3,0,none⟩) 1 1) ([c]:List Change),ag.box b2 [z1,z2,z3,z4,iV (((ay l).1).ae),iV (((ay l).1).af)] 32,ag.box b1 [.string K,.string V,.bool g] 52])) (F':=(fun g_:Value×Value×Value×Value=>[ag.ls g_.1 ((((aZ (aP (bk ((ay l).1)) ([(⟨K,V,g⟩:Change)])))).1).ai:List aj),ag.ls g_.2.1 ((((aZ (aP (bk ((ay l).1)) ([(⟨K,V,g⟩:Change)])))).1).Things:List ah),ag.ls g_.2.2.1 ((((aZ (aP (bk ((ay l).1)) ([(⟨K,V,g⟩:Change)])))).1).Held:List Held),ag.ls g_.2.2.2 ((((aZ (aP (bk ((ay l).1)) ([(⟨K,V,g⟩:Change)])))).1).Notes:List Note),ag.ls z6 (aP (bk ((ay l).1)) ([(⟨K,V,g⟩:Change)]):List Change),ag.ls (.slice (some ⟨b4,0,none⟩) 1 1) ([(⟨K,V,g⟩:Change)]:List Change),ag.ls z5 (bk ((ay l).1):List Change),ag.ls z1 (((ay l).1).ai:List aj),ag.ls z2 (((ay l).1).Things:List ah),ag.ls z3 (((ay l).1).Held:List Held),ag.ls z4 (((ay l).1).Notes:List Note),ag.acts l,ag.ls bm (l:List df),bz])) rfl (s.pre (B2:=[ag.row 52 (.slice (some ⟨b3,0,none⟩) 1 1) ([c]:List Change),ag.box b2 [z1,z2,z3,z4,iV (((ay l).1).ae),iV (((ay l).1).af)] 32,ag.box b1 [.string K,.string V,.bool g] 52]) (F2:=[ag.ls z6 (aP (bk ((ay l).1)) ([(⟨K,V,g⟩:Change)]):List Change),ag.ls (.slice (some ⟨b4,0,none⟩) 1 1) ([(⟨K,V,g⟩:Change)]:List Change),ag.ls z5 (bk ((ay l).1):List Change),ag.ls z1 (((ay l).1).ai:List aj),ag.ls z2 (((ay l).1).Things:List ah),ag.ls z3 (((ay l).1).Held:List Held),ag.ls z4 (((ay l).1).Notes:List Note),ag.acts l,ag.ls bm (l:List df),bz]) (fun _ hw=>hw.di 0 _ rfl rfl) (s.bJ (B0:=[]) (Br:=[ag.row 52 (.slice (some ⟨b3,0,none⟩) 1 1) ([c]:List Change),ag.box b2 [z1,z2,z3,z4,iV (((ay l).1).ae),iV (((ay l).1).af)] 32,ag.box b1 [.string K,.string V,.bool g] 52]) (F0:=[ag.ls z6 (aP (bk ((ay l).1)) ([(⟨K,V,g⟩:Change)]):List Change),bz]) [0,1,2] [0,9] (fun g_:Value×Value×Value×Value => .tuple #[.agg #[g_.1,g_.2.1,g_.2.2.1,g_.2.2.2,iV ((((aZ (aP (bk ((ay l).1)) ([(⟨K,V,g⟩:Change)])))).1).ae),iV ((((aZ (aP (bk ((ay l).1)) ([(⟨K,V,g⟩:Change)])))).1).af)],e6 (((aZ (aP (bk ((ay l).1)) ([(⟨K,V,g⟩:Change)])))).2)]) (fun g_:Value×Value×Value×Value=>[]) (fun g_:Value×Value×Value×Value=>[ag.ls g_.1 ((((aZ (aP (bk ((ay l).1)) ([(⟨K,V,g⟩:Change)])))).1).ai:List aj),ag.ls g_.2.1 ((((aZ (aP (bk ((ay l).1)) ([(⟨K,V,g⟩:Change)])))).1).Things:List ah),ag.ls g_.2.2.1 ((((aZ (aP (bk ((ay l).1)) ([(⟨K,V,g⟩:Change)])))).1).Held:List Held),ag.ls g_.2.2.2 ((((aZ (aP (bk ((ay l).1)) ([(⟨K,V,g⟩:Change)])))).1).Notes:List Note)]) rfl rfl rfl BP rfl rfl (fun w own hw H=>vz z6 (aP (bk ((ay l).1)) ([(⟨K,V,g⟩:Change)])) w own H (by first|assumption|omega) ‹_›) rfl)) ?_
     rintro ⟨z7,z8,z9,nf⟩
     dsimp only
     refine R.u 3 rfl<|R.s rfl (s.alloc (cs:=aJ) cD rfl rfl) fun b5=>R.s rfl (s.e8 (us:=[z7,z8,z9,nf,iV (((aZ (aP (bk ((ay l).1)) ([(⟨K,V,g⟩:Change)]))).1).ae),iV (((aZ (aP (bk ((ay l).1)) ([(⟨K,V,g⟩:Change)]))).1).af)]) (cs':=[z7,z8,z9,nf,iV (((aZ (aP (bk ((ay l).1)) ([(⟨K,V,g⟩:Change)]))).1).ae),iV (((aZ (aP (bk ((ay l).1)) ([(⟨K,V,g⟩:Change)]))).1).af)]) 0 _ rfl rfl rfl (fun _ _=>rfl) (.inl ar) (fun w hw=>(ak (Sl.one (hw.aT 0 rfl)) (ak (Sl.one (hw.aT 1 rfl)) (ak (Sl.one (hw.aT 2 rfl)) (ak (Sl.one (hw.aT 3 rfl)) (ak rfl (ak rfl aS))))))) rfl rfl rfl) fun _=>R.u 1 rfl<|R.nil ?_
     refine R.reg rfl<|R.u 1 rfl<|?_
     by_cases h4:(aZ (aP (bk ((ay l).1)) ([(⟨K,V,g⟩:Change)]))).2=0
     ·
      refine R.q (q.fr rfl rfl Tryz.underlying35 (by omega)) rfl<|R.nil ?_
      refine R.aI rfl rfl ?_
      obtain ⟨zI,zN,zR,zL⟩:=xw (l:=(aP (bk ((ay l).1)) ([(⟨K,V,g⟩:Change)]))) ‹_›;have zk:=zI.ok zN zL;have E7:=zk.wl;have E8:=zk.tl;have E9:=zk.hl;have EK:=decide_eq_true zR;have zG:=lR zI.good;have zT:cW ((aZ (aP (bk ((ay l).1)) ([(⟨K,V,g⟩:Change)]))).1).ai=0:=zI.tree;have Fa:(((aZ (aP (bk ((ay l).1)) ([(⟨K,V,g⟩:Change)]))).1).Notes).length=0:=(by rw [zN];rfl)
      refine R.reg rfl<|R.q (q.cT 0 rfl rfl ar) rfl<|R.s (B':=(fun aH:Value=>[ag.row 52 aH ((bk ((aZ (aP (bk ((ay l).1)) ([(⟨K,V,g⟩:Change)]))).1)):List Change),ag.box b5 [z7,z8,z9,nf,iV (((aZ (aP (bk ((ay l).1)) ([(⟨K,V,g⟩:Change)]))).1).ae),iV (((aZ (aP (bk ((ay l).1)) ([(⟨K,V,g⟩:Change)]))).1).af)] 32,ag.row 52 (.slice (some ⟨b3,0,none⟩) 1 1) ([c]:List Change),ag.box b2 [z1,z2,z3,z4,iV (((ay l).1).ae),iV (((ay l).1).af)] 32,ag.box b1 [.string K,.string V,.bool g] 52])) (F':=(fun aH:Value=>[ag.ls z7 (((aZ (aP (bk ((ay l).1)) ([(⟨K,V,g⟩:Change)]))).1).ai:List aj),ag.ls z8 (((aZ (aP (bk ((ay l).1)) ([(⟨K,V,g⟩:Change)]))).1).Things:List ah),ag.ls z9 (((aZ (aP (bk ((ay l).1)) ([(⟨K,V,g⟩:Change)]))).1).Held:List Held),ag.ls nf (((aZ (aP (bk ((ay l).1)) ([(⟨K,V,g⟩:Change)]))).1).Notes:List Note),ag.ls z6 (aP (bk ((ay l).1)) ([(⟨K,V,g⟩:Change)]):List Change),ag.ls (.slice (some ⟨b4,0,none⟩) 1 1) ([(⟨K,V,g⟩:Change)]:List Change),ag.ls z5 (bk ((ay l).1):List Change),ag.ls z1 (((ay l).1).ai:List aj),ag.ls z2 (((ay l).1).Things:List ah),ag.ls z3 (((ay l).1).Held:List Held),ag.ls z4 (((ay l).1).Notes:List Note),ag.acts l,ag.ls bm (l:List df),bz])) rfl (s.bJ (B0:=[]) (Br:=[ag.box b5 [z7,z8,z9,nf,iV (((aZ (aP (bk ((ay l).1)) ([(⟨K,V,g⟩:Change)]))).1).ae),iV (((aZ (aP (bk ((ay l).1)) ([(⟨K,V,g⟩:Change)]))).1).af)] 32,ag.row 52 (.slice (some ⟨b3,0,none⟩) 1 1) ([c]:List Change),ag.box b2 [z1,z2,z3,z4,iV (((ay l).1).ae),iV (((ay l).1).af)] 32,ag.box b1 [.string K,.string V,.bool g] 52]) (F0:=[ag.ls z7 (((aZ (aP (bk ((ay l).1)) ([(⟨K,V,g⟩:Change)]))).1).ai:List aj),ag.ls z8 (((aZ (aP (bk ((ay l).1)) ([(⟨K,V,g⟩:Change)]))).1).Things:List ah),ag.ls z9 (((aZ (aP (bk ((ay l).1)) ([(⟨K,V,g⟩:Change)]))).1).Held:List Held),ag.ls nf (((aZ (aP (bk ((ay l).1)) ([(⟨K,V,g⟩:Change)]))).1).Notes:List Note),bz]) [0,1,2,3] [0,1,2,3,13] (fun aH:Value=>aH) (fun aH:Value=>[ag.row 52 aH ((bk ((aZ (aP (bk ((ay l).1)) ([(⟨K,V,g⟩:Change)]))).1)):List Change)]) (fun aH:Value=>[]) rfl rfl rfl zf rfl rfl (fun w own hw H=>r8 z7 z8 z9 nf (((aZ (aP (bk ((ay l).1)) ([(⟨K,V,g⟩:Change)]))).1)) w own H ‹_› ‹_›) rfl) fun t7=>R.u 1 rfl<|R.c (q.call BO rfl rfl (fun w hw=>(cv (congrArg Value.bool EK) (nu _ (bk ((aZ (aP (bk ((ay l).1)) ([(⟨K,V,g⟩:Change)]))).1)) _ (aP (bk ((ay l).1)) ([(⟨K,V,g⟩:Change)])) w (hw.row 0 rfl) (hw.aT 4 rfl) )))) rfl<|R.u 2 rfl<|R.qg rfl (q.a8 (off':=0) rfl bj rfl) rfl<|R.qg rfl (q.ld 1 rfl rfl bA rfl) rfl<|R.cg rfl (q.call zg rfl rfl (fun w hw=>(k5 _ (((aZ (aP (bk ((ay l).1)) ([(⟨K,V,g⟩:Change)]))).1).ai) w (hw.aT 0 rfl) ))) rfl<|R.qg rfl (q.fr rfl rfl Tryz.underlying35 (by omega)) rfl<|R.u 2 rfl<|R.qg rfl (q.a8 (off':=2) rfl bP rfl) rfl<|R.qg rfl (q.ld 1 rfl rfl cx rfl) rfl<|R.qg rfl (q.len' (fun _=>Wd.aT 2 rfl) rfl Tryz.underlying29) rfl<|R.qg rfl (q.a8 (off':=0) rfl bj rfl) rfl<|R.qg rfl (q.ld 1 rfl rfl bA rfl) rfl<|R.qg rfl (q.len' (fun _=>Wd.aT 0 rfl) rfl Tryz.underlying27) rfl<|R.qg rfl (q.neq rfl rfl (bne_eq_false_iff_eq.2 (by omega))) rfl<|R.u 2 rfl<|R.qg rfl (q.a8 (off':=2) rfl bP rfl) rfl<|R.qg rfl (q.ld 1 rfl rfl cx rfl) rfl<|R.cg rfl (q.call BW rfl rfl (fun w hw=>(cv (congrArg Value.bool zG) (qo _ (((aZ (aP (bk ((ay l).1)) ([(⟨K,V,g⟩:Change)]))).1).Held) w (hw.aT 2 rfl) )))) rfl<|R.u 3 rfl<|R.qg rfl (q.a8 (off':=3) rfl bR rfl) rfl<|R.qg rfl (q.ld 1 rfl rfl cy rfl) rfl<|R.qg rfl (q.len' (fun _=>Wd.aT 3 rfl) rfl Tryz.underlying30) rfl<|R.qg rfl (q.neq rfl rfl (bne_eq_false_iff_eq.2 (by omega))) rfl<|R.u 1 rfl<|R.nil ?_
      refine R.aI rfl rfl ?_
      refine R.reg rfl<|R.u 1 rfl<|R.nil ?_
      refine R.reg rfl<|R.u 1 rfl<|R.nil ?_
      refine R.row0 (α:=Int) 3 ?_
      refine R.loop (fun g_:Nat×Value×(List Int)=>[(14,.pointer (some ⟨b5,0,none⟩)),(16,g_.2.1),(17,iV (g_.1:Int))]) (fun g_:Nat×Value×(List Int)=>[ag.row 3 g_.2.1 (g_.2.2:List Int),ag.row 52 t7 (bk ((aZ (aP (bk ((ay l).1)) ([(⟨K,V,g⟩:Change)]))).1):List Change),ag.box b5 [z7,z8,z9,nf,iV (((aZ (aP (bk ((ay l).1)) ([(⟨K,V,g⟩:Change)]))).1).ae),iV (((aZ (aP (bk ((ay l).1)) ([(⟨K,V,g⟩:Change)]))).1).af)] 32,ag.row 52 (.slice (some ⟨b3,0,none⟩) 1 1) ([c]:List Change),ag.box b2 [z1,z2,z3,z4,iV (((ay l).1).ae),iV (((ay l).1).af)] 32,ag.box b1 [.string K,.string V,.bool g] 52]) (fun g_:Nat×Value×(List Int)=>[ag.ls z7 (((aZ (aP (bk ((ay l).1)) ([(⟨K,V,g⟩:Change)]))).1).ai:List aj),ag.ls z8 (((aZ (aP (bk ((ay l).1)) ([(⟨K,V,g⟩:Change)]))).1).Things:List ah),ag.ls z9 (((aZ (aP (bk ((ay l).1)) ([(⟨K,V,g⟩:Change)]))).1).Held:List Held),ag.ls nf (((aZ (aP (bk ((ay l).1)) ([(⟨K,V,g⟩:Change)]))).1).Notes:List Note),ag.ls z6 (aP (bk ((ay l).1)) ([(⟨K,V,g⟩:Change)]):List Change),ag.ls (.slice (some ⟨b4,0,none⟩) 1 1) ([(⟨K,V,g⟩:Change)]:List Change),ag.ls z5 (bk ((ay l).1):List Change),ag.ls z1 (((ay l).1).ai:List aj),ag.ls z2 (((ay l).1).Things:List ah),ag.ls z3 (((ay l).1).Held:List Held),ag.ls z4 (((ay l).1).Notes:List Note),ag.acts l,ag.ls bm (l:List df),bz]) (fun g_:Nat×Value×(List Int)=>g_.1≤(((aZ (aP (bk ((ay l).1)) ([(⟨K,V,g⟩:Change)]))).1).Things).length∧g_.2.2=((((aZ (aP (bk ((ay l).1)) ([(⟨K,V,g⟩:Change)]))).1).Things).take g_.1).map ah.ID) (fun g_:Nat×Value×(List Int)=>(((aZ (aP (bk ((ay l).1)) ([(⟨K,V,g⟩:Change)]))).1).Things).length-g_.1) (0,(nS),[]) rfl (by exact ⟨by omega,rfl⟩) ⟨rfl,rfl,rfl,trivial⟩ (fun _=>Wd.pick [0,1,2,3,4,5] [0,1,2,3,4,5,6,7,8,9,10,11,12,13] rfl rfl rfl) ?_
      rintro ⟨k,u,ids⟩ ⟨hk1,HI⟩
      dsimp only at *
      refine R.reg rfl<|R.u 1 rfl<|R.q (q.a8 (off':=1) rfl bO rfl) rfl<|R.q (q.ld 2 rfl rfl cw rfl) rfl<|R.q (q.len' (fun _=>Wd.aT 1 rfl) rfl Tryz.underlying28) rfl<|?_
      by_cases h5:k<(((aZ (aP (bk ((ay l).1)) ([(⟨K,V,g⟩:Change)]))).1).Things).length
      ·
       refine R.q (q.lss rfl rfl (decide_eq_true (by omega))) rfl<|R.nil ?_
       refine R.aD rfl rfl ?_
       refine R.reg rfl<|R.u 1 rfl<|R.q (q.a8 (off':=1) rfl bO rfl) rfl<|R.q (q.ld 2 rfl rfl cw rfl) rfl<|R.u 1 rfl<|?_
       obtain ⟨x3,hx3⟩:∃z,(((aZ (aP (bk ((ay l).1)) ([(⟨K,V,g⟩:Change)]))).1).Things)[k]? = some z:=⟨_,List.getElem?_eq_getElem (by first|omega|exact Nat.mod_lt _ rp)⟩
       refine R.q (q.idx (i:=k) (fun _=>Wd.aT 1 rfl) rfl rfl fb rfl hx3) rfl<|R.q (q.dm (j':=0) (fun _=>Wd.aT 1 rfl) hx3 rfl iZ rfl) rfl<|R.q (q.fk (fun _=>Wd.aT 1 rfl) hx3 rfl av rfl) rfl<|R.s rfl (s.bs (l:=([x3.ID]:List Int)) ct iH rfl rfl rfl rfl rfl rfl rfl) fun b6=>R.s rfl (s.app (l2:=[x3.ID]) 1 _ rfl rfl rfl (fun _=>Wd.row 0 rfl) jz (by first|omega|(simp;omega)|(rw [HI];simp;omega)) (by first|omega|(simp;omega)|(rw [HI];simp;omega)) (fun _=>rfl) rfl) fun v1=>R.u 1 rfl<|R.nil ?_
       refine R.reg rfl<|R.u 1 rfl<|R.q (q.add (r:=((k+1:Nat):Int)) rfl rfl (wr (by omega))) rfl<|R.u 1 rfl<|R.nil ?_
       refine R.back ((k+1),v1,(ids++([x3.ID]))) rfl (by (exact ⟨by omega,by rw [HI];exact (jm ah.ID ‹_›).symm⟩)) (by dsimp only;omega) ⟨rfl,rfl,rfl,trivial⟩ (fun _=>Wd.aM [1,2,3,4,5,6] [0,1,2,3,4,5,6,7,8,9,10,11,12,13] rfl rfl rfl)
      ·
       refine R.q (q.lss rfl rfl (decide_eq_false (by omega))) rfl<|R.nil ?_
       refine R.aI rfl rfl ?_
       have fa:decide (ids=aY (((aZ (aP (bk ((ay l).1)) ([(⟨K,V,g⟩:Change)]))).1).ai))=true:=decide_eq_true (by rw [HI,List.take_of_length_le (by omega)];exact zI.ids)
       refine R.reg rfl<|R.u 1 rfl<|R.q (q.a8 (off':=0) rfl bj rfl) rfl<|R.q (q.ld 2 rfl rfl bA rfl) rfl<|R.s rfl (s.nT vR rfl rfl (fun w hw=>km _ (((aZ (aP (bk ((ay l).1)) ([(⟨K,V,g⟩:Change)]))).1).ai) w (hw.aT 0 rfl) (by first|omega|assumption)) rfl) fun v2=>R.c (q.call BX rfl rfl (fun w hw=>(cv (congrArg Value.bool fa) (nt _ (ids) _ ((aY (((aZ (aP (bk ((ay l).1)) ([(⟨K,V,g⟩:Change)]))).1).ai))) w (hw.row 1 rfl) (hw.row 0 rfl) )))) rfl<|R.u 1 rfl<|R.nil ?_
       exact R.rv rfl Tryz.results5 rfl (rB (by (first|rfl|(exfalso;omega))))
     ·
      refine R.q (q.fw rfl rfl Tryz.underlying35 (by omega)) rfl<|R.nil ?_
      refine R.aD rfl rfl ?_
      have qz:decide (((aZ (aP (bk ((ay l).1)) ([(⟨K,V,g⟩:Change)]))).1)=(⟨[],[],[],[],0,0⟩:ap))=true:=decide_eq_true (by rw [vv ‹_›];rfl)
      refine R.reg rfl<|R.q (q.cT 0 rfl rfl ar) rfl<|R.q (q.build (cs:=aJ) cY rfl rfl) rfl<|R.c (q.call BQ rfl rfl (fun w hw=>(cv (congrArg Value.bool qz) (pq _ _ _ _ (((aZ (aP (bk ((ay l).1)) ([(⟨K,V,g⟩:Change)]))).1)) _ _ _ _ ((⟨[],[],[],[],0,0⟩:ap)) w (hw.aT 0 rfl) (hw.aT 1 rfl) (hw.aT 2 rfl) (hw.aT 3 rfl) (Sl.nil w) (Sl.nil w) (Sl.nil w) (Sl.nil w) )))) rfl<|R.u 1 rfl<|R.nil ?_
      exact R.rv rfl Tryz.results5 rfl (rB (by (first|rfl|(exfalso;omega))))
  ·
   refine R.cg rfl (q.call ya rfl rfl (fun w hw=>(cv (congrArg Value.bool h2) (jJ _ ([c]) (1) w (hw.row 0 rfl) )))) rfl<|R.u 2 rfl<|R.nil ?_
   refine R.aD rfl rfl ?_
   refine R.reg rfl<|R.u 1 rfl<|R.nil ?_
   exact R.rv rfl Tryz.results5 rfl (rB (by (first|rfl|(exfalso;omega))))
 ·
  rw [h1]
  refine R.u 5 rfl<|R.nil ?_
  refine R.aD rfl rfl ?_
  refine R.reg rfl<|R.u 1 rfl<|R.nil ?_
  exact R.rv rfl Tryz.results5 rfl (rB (by (first|rfl|(exfalso;omega))))
end Go.Proofs.YtbkfhjaibhnkmaaGreatDoor
