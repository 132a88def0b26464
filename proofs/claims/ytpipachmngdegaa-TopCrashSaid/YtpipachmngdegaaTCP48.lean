import Derived.Test.YtpipachmngdegaaTCP47
import Derived.Test.YtpipachmngdegaaTCP25
import Derived.Test.YtpipachmngdegaaTCP17
section
namespace Go.Proofs.Ytpipachmngdegaa
open Go Go.RowKit
set_option linter.unusedVariables false
set_option linter.unusedSimpArgs false
set_option maxRecDepth 100000
attribute [local irreducible] ai ay af jB av dNew Ai
def iI (l:List bS)(most:Int):Bool:=decide ((l.length:Int)≤most)&&l.all (fun x=>fk x.L 14)
theorem qc {l:List bS}{m:Int}(h:iI l m=true):(l.length:Int)≤m:=by
  unfold iI at h;simp only [Bool.and_eq_true,decide_eq_true_eq] at h;exact h.1
theorem qe {l:List bS}{m:Int}(h:iI l m=true):∀x∈l,(x.L.length:Int)≤14:=fun x hx=>by
  unfold iI at h;simp only [Bool.and_eq_true,decide_eq_true_eq] at h
  exact pN (List.all_eq_true.1 h.2 x hx)
theorem my (bR:Value)(l:List Change)(most:Int)(w:World)(oz:Sl w bR l):Calls Try.prog 37 #[bR,.int .i64 most] w fun e w'=>e = .returned (.bool (fk l most))∧Ext w w':=by
  have yq:=oz.jZ
  refine R.enter (n:=32) (vs:=[bR,.int .i64 most]) [] [(0,bR),(1,.int .i64 most)] Try.func37 rfl rfl rfl rfl ?_
  refine R.iZ oz ?_
  refine R.reg rfl<|R.u 1 rfl<|R.nil ?_
  refine R.reg rfl<|R.u 1 rfl<|R.q (q.len' (fun _=>Wd.bZ 0 rfl) rfl Try.underlying46) rfl<|R.u 1 rfl<|?_
  by_cases h1:most<(l.length:Int)
  ·
    refine R.q (q.gtr rfl rfl (decide_eq_true (by omega))) rfl<|R.nil ?_
    refine R.aK rfl rfl ?_
    refine R.reg rfl<|R.u 1 rfl<|R.nil ?_
    exact R.rv rfl Try.results37 rfl (rB (by (unfold fk;first|(rw [decide_eq_false (by omega)];rfl)|(rw [decide_eq_true (by omega),jG (by omega) HA];rfl)|(rw [eQ hx1 (show cH _=false from by unfold cH;simp;omega)];simp)|(rw [eQ hx1 (show cH _=false from by unfold cH;simp_all)];simp))))
  ·
    refine R.q (q.gtr rfl rfl (decide_eq_false (by omega))) rfl<|R.nil ?_
    refine R.aI rfl rfl ?_
    refine R.reg rfl<|R.u 1 rfl<|R.nil ?_
    refine R.loop (fun k:Nat=>[(0,bR),(5,.int .i64 (k:Int))]) (fun k:Nat=>[]) (fun k:Nat=>[ah.ls bR (l:List Change)]) (fun k:Nat=>k≤l.length∧(l.take k).all cH=true) (fun k:Nat=>l.length-k) 0 rfl (by exact ⟨by omega,rfl⟩) ⟨rfl,rfl,trivial⟩ (fun _=>Wd.pick [] [0] rfl rfl rfl) ?_
    rintro k ⟨hk,HA⟩
    refine R.reg rfl<|R.u 2 rfl<|R.q (q.len' (fun _=>Wd.bZ 0 rfl) rfl Try.underlying46) rfl<|?_
    by_cases h2:k<l.length
    ·
      refine R.q (q.lss rfl rfl (decide_eq_true (by omega))) rfl<|R.nil ?_
      refine R.aK rfl rfl ?_
      refine R.reg rfl<|R.u 2 rfl<|?_
      obtain ⟨x1,hx1⟩:∃z,l[k]? = some z:=⟨_,List.getElem?_eq_getElem (by omega)⟩
      refine R.q (q.idx (i:=k) (fun _=>Wd.bZ 0 rfl) rfl rfl aT rfl hx1) rfl<|R.q (q.im (j':=0) (fun _=>Wd.bZ 0 rfl) hx1 rfl bu rfl) rfl<|R.q (q.iP (fun _=>Wd.bZ 0 rfl) hx1 rfl bB rfl) rfl<|R.q (q.fN rfl Try.underlying9) rfl<|?_
      by_cases h3:20<x1.Key.size
      ·
        refine R.q (q.gtr rfl rfl (decide_eq_true (by omega))) rfl<|R.u 9 rfl<|R.nil ?_
        refine R.aK rfl rfl ?_
        refine R.reg rfl<|R.u 1 rfl<|R.nil ?_
        exact R.rv rfl Try.results37 rfl (rB (by (unfold fk;first|(rw [decide_eq_false (by omega)];rfl)|(rw [decide_eq_true (by omega),jG (by omega) HA];rfl)|(rw [eQ hx1 (show cH _=false from by unfold cH;simp;omega)];simp)|(rw [eQ hx1 (show cH _=false from by unfold cH;simp_all)];simp))))
      ·
        refine R.q (q.gtr rfl rfl (decide_eq_false (by omega))) rfl<|R.u 3 rfl<|R.qg rfl (q.idx (i:=k) (fun _=>Wd.bZ 0 rfl) rfl rfl aT rfl hx1) rfl<|R.qg rfl (q.im (j':=1) (fun _=>Wd.bZ 0 rfl) hx1 rfl dV rfl) rfl<|R.qg rfl (q.iP (fun _=>Wd.bZ 0 rfl) hx1 rfl bB rfl) rfl<|R.qg rfl (q.fN rfl Try.underlying9) rfl<|?_
        by_cases h4:40<x1.Val.size
        ·
          refine R.qg rfl (q.gtr rfl rfl (decide_eq_true (by omega))) rfl<|R.u 1 rfl<|R.nil ?_
          refine R.aK rfl rfl ?_
          refine R.reg rfl<|R.u 1 rfl<|R.nil ?_
          exact R.rv rfl Try.results37 rfl (rB (by (unfold fk;first|(rw [decide_eq_false (by omega)];rfl)|(rw [decide_eq_true (by omega),jG (by omega) HA];rfl)|(rw [eQ hx1 (show cH _=false from by unfold cH;simp;omega)];simp)|(rw [eQ hx1 (show cH _=false from by unfold cH;simp_all)];simp))))
        ·
          refine R.qg rfl (q.gtr rfl rfl (decide_eq_false (by omega))) rfl<|R.u 1 rfl<|R.nil ?_
          refine R.aI rfl rfl ?_
          refine R.reg rfl<|R.u 1 rfl<|R.q (q.add (r:=((k+1:Nat):Int)) rfl rfl (wr (by omega))) rfl<|R.u 1 rfl<|R.nil ?_
          refine R.back (k+1) rfl (by (exact ⟨by omega,oZ hx1 HA (by unfold cH;simp_all)⟩)) (by omega) ⟨rfl,rfl,trivial⟩ (fun _=>Wd.aA [] [0] rfl rfl rfl)
    ·
      refine R.q (q.lss rfl rfl (decide_eq_false (by omega))) rfl<|R.nil ?_
      refine R.aI rfl rfl ?_
      refine R.reg rfl<|R.u 1 rfl<|R.nil ?_
      exact R.rv rfl Try.results37 rfl (rB (by (unfold fk;first|(rw [decide_eq_false (by omega)];rfl)|(rw [decide_eq_true (by omega),jG (by omega) HA];rfl)|(rw [eQ hx1 (show cH _=false from by unfold cH;simp;omega)];simp)|(rw [eQ hx1 (show cH _=false from by unfold cH;simp_all)];simp))))
theorem mA (bR:Value)(l:List bS)(most:Int)(w:World)(oz:Sl w bR l)(wb:∀x∈l,Sl w x.cv x.L):Calls Try.prog 30 #[bR,.int .i64 most] w fun e w'=>e = .returned (.bool (iI l most))∧Ext w w':=by
  have yq:=oz.jZ
  refine R.enter (n:=22) (vs:=[bR,.int .i64 most]) [] [(0,bR),(1,.int .i64 most)] Try.func30 rfl rfl rfl rfl ?_
  refine R.iZ oz ?_
  refine R.lv (r:=ah.cw l) wb (qx wb) ?_
  refine R.reg rfl<|R.u 1 rfl<|R.nil ?_
  refine R.reg rfl<|R.u 1 rfl<|R.q (q.len' (fun _=>Wd.bZ 1 rfl) rfl Try.underlying33) rfl<|R.u 1 rfl<|?_
  by_cases h1:most<(l.length:Int)
  ·
    refine R.q (q.gtr rfl rfl (decide_eq_true (by omega))) rfl<|R.nil ?_
    refine R.aK rfl rfl ?_
    refine R.reg rfl<|R.u 1 rfl<|R.nil ?_
    exact R.rv rfl Try.results30 rfl (rB (by (unfold iI;first|(rw [decide_eq_false (by omega)];rfl)|(rw [decide_eq_true (by omega),jG (by omega) HA];rfl)|(rw [eQ hx1 (show (fun x:bS=>fk x.L 14) x1=false from by assumption)];simp))))
  ·
    refine R.q (q.gtr rfl rfl (decide_eq_false (by omega))) rfl<|R.nil ?_
    refine R.aI rfl rfl ?_
    refine R.reg rfl<|R.u 1 rfl<|R.nil ?_
    refine R.loop (fun k:Nat=>[(0,bR),(5,.int .i64 (k:Int))]) (fun k:Nat=>[]) (fun k:Nat=>[ah.cw (l:List bS),ah.ls bR (l:List bS)]) (fun k:Nat=>k≤l.length∧(l.take k).all (fun x=>fk x.L 14)=true) (fun k:Nat=>l.length-k) 0 rfl (by exact ⟨by omega,rfl⟩) ⟨rfl,rfl,trivial⟩ (fun _=>Wd.pick [] [0,1] rfl rfl rfl) ?_
    rintro k ⟨hk,HA⟩
    refine R.reg rfl<|R.u 2 rfl<|R.q (q.len' (fun _=>Wd.bZ 1 rfl) rfl Try.underlying33) rfl<|?_
    by_cases h2:k<l.length
    ·
      refine R.q (q.lss rfl rfl (decide_eq_true (by omega))) rfl<|R.nil ?_
      refine R.aK rfl rfl ?_
      refine R.reg rfl<|R.u 2 rfl<|?_
      obtain ⟨x1,hx1⟩:∃z,l[k]? = some z:=⟨_,List.getElem?_eq_getElem (by omega)⟩
      refine R.q (q.idx (i:=k) (fun _=>Wd.bZ 1 rfl) rfl rfl iw rfl hx1) rfl<|R.q (q.iP (fun _=>Wd.bZ 1 rfl) hx1 rfl cj rfl) rfl<|?_
      rcases Bool.eq_false_or_eq_true (fk x1.L 14) with h3|h3
      ·
        refine R.c (q.call vu rfl rfl (fun w hw=>(cv (congrArg Value.bool h3) (my _ (x1.L) (14) w ((fun _=>Wd.vU (l:=l) 0 rfl (List.mem_of_getElem? hx1)) w hw) )))) rfl<|R.u 1 rfl<|R.nil ?_
        refine R.aI rfl rfl ?_
        refine R.reg rfl<|R.u 1 rfl<|R.q (q.add (r:=((k+1:Nat):Int)) rfl rfl (wr (by omega))) rfl<|R.u 1 rfl<|R.nil ?_
        refine R.back (k+1) rfl (by (exact ⟨by omega,oZ hx1 HA (by assumption)⟩)) (by omega) ⟨rfl,rfl,trivial⟩ (fun _=>Wd.aA [] [0,1] rfl rfl rfl)
      ·
        refine R.c (q.call vu rfl rfl (fun w hw=>(cv (congrArg Value.bool h3) (my _ (x1.L) (14) w ((fun _=>Wd.vU (l:=l) 0 rfl (List.mem_of_getElem? hx1)) w hw) )))) rfl<|R.u 1 rfl<|R.nil ?_
        refine R.aK rfl rfl ?_
        refine R.reg rfl<|R.u 1 rfl<|R.nil ?_
        exact R.rv rfl Try.results30 rfl (rB (by (unfold iI;first|(rw [decide_eq_false (by omega)];rfl)|(rw [decide_eq_true (by omega),jG (by omega) HA];rfl)|(rw [eQ hx1 (show (fun x:bS=>fk x.L 14) x1=false from by assumption)];simp))))
    ·
      refine R.q (q.lss rfl rfl (decide_eq_false (by omega))) rfl<|R.nil ?_
      refine R.aI rfl rfl ?_
      refine R.reg rfl<|R.u 1 rfl<|R.nil ?_
      exact R.rv rfl Try.results30 rfl (rB (by (unfold iI;first|(rw [decide_eq_false (by omega)];rfl)|(rw [decide_eq_true (by omega),jG (by omega) HA];rfl)|(rw [eQ hx1 (show (fun x:bS=>fk x.L 14) x1=false from by assumption)];simp))))
theorem jR (err:Int)(w:World)  : Calls Try.prog 32 #[bF err] w fun e w'=>e = .returned (.int .i64 err)∧Ext w w':=by
  refine R.enter (n:=15) (vs:=[bF err]) [] [(0,bF err)] Try.func32 rfl rfl rfl rfl ?_
  refine R.reg rfl<|R.u 1 rfl<|R.nil ?_
  refine R.reg rfl<|R.u 1 rfl<|?_
  by_cases h1:err=0
  ·
    refine R.q (q.hG rfl rfl Try.underlying28 (by omega)) rfl<|R.nil ?_
    refine R.aK rfl rfl ?_
    refine R.reg rfl<|R.u 1 rfl<|R.nil ?_
    exact R.rv rfl Try.results32 rfl (rI (by (first|omega|rfl)))
  ·
    refine R.q (q.eF rfl rfl Try.underlying28 (by omega)) rfl<|R.nil ?_
    refine R.aI rfl rfl ?_
    refine R.reg rfl<|R.u 1 rfl<|R.q (q.yC rfl (by omega) Try.underlying75) rfl<|R.u 5 rfl<|R.nil ?_
    refine R.reg rfl<|R.u 2 rfl<|R.nil ?_
    refine R.aI rfl rfl ?_
    refine R.reg rfl<|R.u 2 rfl<|R.nil ?_
    exact R.rv rfl Try.results32 rfl (rI (by (first|omega|rfl)))
theorem mB (cI:Int)(w:World)(own:List Nat)(H:Wd w (blks []++own) ([]++[ah.held w own]) [] w)(hn:166≤cI∧cI≤200):Calls Try.prog 35 #[.int .i64 cI] w fun e w' => ∃z:Nat×Value×Value×Value×Nat×Value×Nat,e = .returned (.tuple #[.pointer (some ⟨z.1,0,none⟩),.pointer (some ⟨z.2.2.2.2.1,0,none⟩),.bool true])∧Wd w (blks []++own) ([ah.box z.1 [z.2.1,z.2.2.1,z.2.2.2.1,.int .i64 ((((av (dNew (Int.toNat cI))).1)).Fuse),.bool ((((av (dNew (Int.toNat cI))).1)).Down)] 81,ah.row 9 z.2.1 ((((av (dNew (Int.toNat cI))).1)).Kept:List ByteArray),ah.row 9 z.2.2.1 ((((av (dNew (Int.toNat cI))).1)).Now:List ByteArray),ah.row 83 z.2.2.2.1 ((((av (dNew (Int.toNat cI))).1)).Wait:List Turn),ah.box z.2.2.2.2.1 [.pointer (some ⟨z.1,0,none⟩),.int .i64 ((((af (av (dNew (Int.toNat cI))).1).c)).Epoch),.int .i64 ((((af (av (dNew (Int.toNat cI))).1).c)).Side),.int .i64 ((((af (av (dNew (Int.toNat cI))).1).c)).Size),.int .i64 ((((af (av (dNew (Int.toNat cI))).1).c)).First),.pointer (some ⟨z.2.2.2.2.2.2,0,none⟩),z.2.2.2.2.2.1] 100,ah.box z.2.2.2.2.2.2 [.pointer (some ⟨z.1,0,none⟩),.int .i64 ((((af (av (dNew (Int.toNat cI))).1).L)).From),.int .i64 ((((af (av (dNew (Int.toNat cI))).1).L)).Many),.int .i64 ((((af (av (dNew (Int.toNat cI))).1).L)).First),.int .i64 ((((af (av (dNew (Int.toNat cI))).1).L)).Next)] 85]++[ah.held w own]) [ah.ls z.2.2.2.2.2.1 ((((af (av (dNew (Int.toNat cI))).1).c)).Rows:List Change)] w':=by
  obtain ⟨aF,sr⟩:∃m:Nat,cI=(m:Int):=⟨cI.toNat,by omega⟩;subst sr
  obtain ⟨f1,f2,f3,f4,f5⟩:=mr (k:=(Int.toNat (aF:Int))) (by omega) (by omega);have f6:=f4.ok;have f7:=f4.room;have f8:=f4.bnd (by omega);have f9:=f4.good;obtain ⟨f10,f11,f12⟩:=f9;have f13:=f7.2.2.1;have f14:cz (av (dNew (Int.toNat (aF:Int)))).1.Now.length 90000 (av (dNew (Int.toNat (aF:Int)))).1∧(av (dNew (Int.toNat (aF:Int)))).1.Now.length≤200:=⟨f6.1.up (by omega),f6.2.1⟩;have p0:cz (dNew (Int.toNat (aF:Int))).Now.length 80000 (dNew (Int.toNat (aF:Int)))∧(dNew (Int.toNat (aF:Int))).Now.length≤1000:=(by have:=(iA (Int.toNat (aF:Int))).nl;exact ⟨this.symm▸(iA (Int.toNat (aF:Int))).up (by omega),by omega⟩)
  refine R.bW (n:=37) (vs:=[.int .i64 (aF:Int)]) (B:=[ah.held w own]) [(0,.int .i64 (aF:Int))] Try.func35 rfl rfl rfl rfl H ?_
  refine R.reg rfl<|R.u 3 rfl<|R.nil ?_
  refine R.reg rfl<|R.u 1 rfl<|?_
  refine R.s (B':=(fun g_:Nat×Value×Value×Value=>[ah.box g_.1 [g_.2.1,g_.2.2.1,g_.2.2.2,.int .i64 (((dNew (Int.toNat (aF:Int)))).Fuse),.bool (((dNew (Int.toNat (aF:Int)))).Down)] 81,ah.row 9 g_.2.1 (((dNew (Int.toNat (aF:Int)))).Kept:List ByteArray),ah.row 9 g_.2.2.1 (((dNew (Int.toNat (aF:Int)))).Now:List ByteArray),ah.row 83 g_.2.2.2 (((dNew (Int.toNat (aF:Int)))).Wait:List Turn),ah.held w own])) (F':=(fun g_:Nat×Value×Value×Value=>[])) rfl (s.bD (B0:=[]) (Br:=[ah.held w own]) (F0:=[]) [0] [] (fun g_:Nat×Value×Value×Value => .tuple #[.pointer (some ⟨g_.1,0,none⟩),.nilIface]) (fun g_:Nat×Value×Value×Value=>[ah.box g_.1 [g_.2.1,g_.2.2.1,g_.2.2.2,.int .i64 (((dNew (Int.toNat (aF:Int)))).Fuse),.bool (((dNew (Int.toNat (aF:Int)))).Down)] 81,ah.row 9 g_.2.1 (((dNew (Int.toNat (aF:Int)))).Kept:List ByteArray),ah.row 9 g_.2.2.1 (((dNew (Int.toNat (aF:Int)))).Now:List ByteArray),ah.row 83 g_.2.2.2 (((dNew (Int.toNat (aF:Int)))).Wait:List Turn)]) (fun g_:Nat×Value×Value×Value=>[]) rfl rfl rfl yN rfl rfl (fun w own hw H=>sT ((aF:Int)) w own H (by first|omega|assumption)) rfl) ?_
  rintro ⟨z1,z2,z3,z4⟩
  dsimp only
  refine R.u 5 rfl<|R.nil ?_
  refine R.reg rfl<|R.u 1 rfl<|R.q (q.qn rfl rfl Try.underlying28) rfl<|R.u 2 rfl<|R.qg rfl (q.ut rfl rfl Try.underlying26) rfl<|R.u 3 rfl<|?_
  refine R.s (B':=(fun g_:Value×Value×Value=>[ah.box z1 [g_.1,g_.2.1,g_.2.2,.int .i64 ((((av (dNew (Int.toNat (aF:Int))))).1).Fuse),.bool ((((av (dNew (Int.toNat (aF:Int))))).1).Down)] 81,ah.row 9 g_.1 ((((av (dNew (Int.toNat (aF:Int))))).1).Kept:List ByteArray),ah.row 9 g_.2.1 ((((av (dNew (Int.toNat (aF:Int))))).1).Now:List ByteArray),ah.row 83 g_.2.2 ((((av (dNew (Int.toNat (aF:Int))))).1).Wait:List Turn),ah.held w own])) (F':=(fun g_:Value×Value×Value=>[])) rfl (s.bD (B0:=[ah.box z1 [z2,z3,z4,.int .i64 ((dNew (Int.toNat (aF:Int))).Fuse),.bool ((dNew (Int.toNat (aF:Int))).Down)] 81,ah.row 9 z2 ((dNew (Int.toNat (aF:Int))).Kept:List ByteArray),ah.row 9 z3 ((dNew (Int.toNat (aF:Int))).Now:List ByteArray),ah.row 83 z4 ((dNew (Int.toNat (aF:Int))).Wait:List Turn)]) (Br:=[ah.held w own]) (F0:=[]) [0,1,2,3,4] [] (fun g_:Value×Value×Value=>bF (((av (dNew (Int.toNat (aF:Int))))).2)) (fun g_:Value×Value×Value=>[ah.box z1 [g_.1,g_.2.1,g_.2.2,.int .i64 ((((av (dNew (Int.toNat (aF:Int))))).1).Fuse),.bool ((((av (dNew (Int.toNat (aF:Int))))).1).Down)] 81,ah.row 9 g_.1 ((((av (dNew (Int.toNat (aF:Int))))).1).Kept:List ByteArray),ah.row 9 g_.2.1 ((((av (dNew (Int.toNat (aF:Int))))).1).Now:List ByteArray),ah.row 83 g_.2.2 ((((av (dNew (Int.toNat (aF:Int))))).1).Wait:List Turn)]) (fun g_:Value×Value×Value=>[]) rfl rfl rfl xr rfl rfl (fun w own hw H=>pR z1 z2 z3 z4 ((dNew (Int.toNat (aF:Int)))) w own H (by first|assumption|exact ⟨by assumption,by omega⟩)) rfl) ?_
  rintro ⟨z5,z6,z7⟩
  dsimp only
  refine R.qg rfl (q.dj rfl rfl Try.underlying28 (by omega)) rfl<|R.u 1 rfl<|R.nil ?_
  refine R.aI rfl rfl ?_
  refine R.reg rfl<|R.u 1 rfl<|?_
  refine R.s (B':=(fun g_:Value×Value×Value×Nat×Value×Nat=>[ah.box z1 [g_.1,g_.2.1,g_.2.2.1,.int .i64 ((((av (dNew (Int.toNat (aF:Int)))).1)).Fuse),.bool ((((av (dNew (Int.toNat (aF:Int)))).1)).Down)] 81,ah.row 9 g_.1 ((((av (dNew (Int.toNat (aF:Int)))).1)).Kept:List ByteArray),ah.row 9 g_.2.1 ((((av (dNew (Int.toNat (aF:Int)))).1)).Now:List ByteArray),ah.row 83 g_.2.2.1 ((((av (dNew (Int.toNat (aF:Int)))).1)).Wait:List Turn),ah.box g_.2.2.2.1 [.pointer (some ⟨z1,0,none⟩),.int .i64 ((((af ((av (dNew (Int.toNat (aF:Int)))).1)).c)).Epoch),.int .i64 ((((af ((av (dNew (Int.toNat (aF:Int)))).1)).c)).Side),.int .i64 ((((af ((av (dNew (Int.toNat (aF:Int)))).1)).c)).Size),.int .i64 ((((af ((av (dNew (Int.toNat (aF:Int)))).1)).c)).First),.pointer (some ⟨g_.2.2.2.2.2,0,none⟩),g_.2.2.2.2.1] 100,ah.box g_.2.2.2.2.2 [.pointer (some ⟨z1,0,none⟩),.int .i64 ((((af ((av (dNew (Int.toNat (aF:Int)))).1)).L)).From),.int .i64 ((((af ((av (dNew (Int.toNat (aF:Int)))).1)).L)).Many),.int .i64 ((((af ((av (dNew (Int.toNat (aF:Int)))).1)).L)).First),.int .i64 ((((af ((av (dNew (Int.toNat (aF:Int)))).1)).L)).Next)] 85,ah.held w own])) (F':=(fun g_:Value×Value×Value×Nat×Value×Nat=>[ah.ls g_.2.2.2.2.1 ((((af ((av (dNew (Int.toNat (aF:Int)))).1)).c)).Rows:List Change)])) rfl (s.bD (B0:=[ah.box z1 [z5,z6,z7,.int .i64 (((av (dNew (Int.toNat (aF:Int)))).1).Fuse),.bool (((av (dNew (Int.toNat (aF:Int)))).1).Down)] 81,ah.row 9 z5 (((av (dNew (Int.toNat (aF:Int)))).1).Kept:List ByteArray),ah.row 9 z6 (((av (dNew (Int.toNat (aF:Int)))).1).Now:List ByteArray),ah.row 83 z7 (((av (dNew (Int.toNat (aF:Int)))).1).Wait:List Turn)]) (Br:=[ah.held w own]) (F0:=[]) [0,1,2,3,4] [] (fun g_:Value×Value×Value×Nat×Value×Nat => .tuple #[.pointer (some ⟨g_.2.2.2.1,0,none⟩),.nilIface]) (fun g_:Value×Value×Value×Nat×Value×Nat=>[ah.box z1 [g_.1,g_.2.1,g_.2.2.1,.int .i64 ((((av (dNew (Int.toNat (aF:Int)))).1)).Fuse),.bool ((((av (dNew (Int.toNat (aF:Int)))).1)).Down)] 81,ah.row 9 g_.1 ((((av (dNew (Int.toNat (aF:Int)))).1)).Kept:List ByteArray),ah.row 9 g_.2.1 ((((av (dNew (Int.toNat (aF:Int)))).1)).Now:List ByteArray),ah.row 83 g_.2.2.1 ((((av (dNew (Int.toNat (aF:Int)))).1)).Wait:List Turn),ah.box g_.2.2.2.1 [.pointer (some ⟨z1,0,none⟩),.int .i64 ((((af ((av (dNew (Int.toNat (aF:Int)))).1)).c)).Epoch),.int .i64 ((((af ((av (dNew (Int.toNat (aF:Int)))).1)).c)).Side),.int .i64 ((((af ((av (dNew (Int.toNat (aF:Int)))).1)).c)).Size),.int .i64 ((((af ((av (dNew (Int.toNat (aF:Int)))).1)).c)).First),.pointer (some ⟨g_.2.2.2.2.2,0,none⟩),g_.2.2.2.2.1] 100,ah.box g_.2.2.2.2.2 [.pointer (some ⟨z1,0,none⟩),.int .i64 ((((af ((av (dNew (Int.toNat (aF:Int)))).1)).L)).From),.int .i64 ((((af ((av (dNew (Int.toNat (aF:Int)))).1)).L)).Many),.int .i64 ((((af ((av (dNew (Int.toNat (aF:Int)))).1)).L)).First),.int .i64 ((((af ((av (dNew (Int.toNat (aF:Int)))).1)).L)).Next)] 85]) (fun g_:Value×Value×Value×Nat×Value×Nat=>[ah.ls g_.2.2.2.2.1 ((((af ((av (dNew (Int.toNat (aF:Int)))).1)).c)).Rows:List Change)]) rfl rfl rfl oI rfl rfl (fun w own hw H=>il z1 z5 z6 z7 (((av (dNew (Int.toNat (aF:Int)))).1)) w own H (by assumption) (by assumption) (by first|assumption|exact ⟨by assumption,by omega⟩)) rfl) ?_
  rintro ⟨z8,z9,gU,fx,z12,jK⟩
  dsimp only
  refine R.u 5 rfl<|R.nil ?_
  refine R.reg rfl<|R.u 3 rfl<|R.q (q.mS rfl rfl Try.underlying28) rfl<|R.u 2 rfl<|R.qg rfl (q.xk rfl rfl Try.underlying54) rfl<|R.u 4 rfl<|R.nil ?_
  have hz:((av (dNew (Int.toNat ((aF:Nat):Int)))).1,(af (av (dNew (Int.toNat ((aF:Nat):Int)))).1).c,(af (av (dNew (Int.toNat ((aF:Nat):Int)))).1).L)=(((av (dNew (Int.toNat (aF:Int)))).1),((af ((av (dNew (Int.toNat (aF:Int)))).1)).c),((af ((av (dNew (Int.toNat (aF:Int)))).1)).L)):=by (rfl)
  have hz0:(av (dNew (Int.toNat ((aF:Nat):Int)))).1=((av (dNew (Int.toNat (aF:Int)))).1):=congrArg (fun t_=>t_.1) hz
  rw [hz0]
  have hz1:(af (av (dNew (Int.toNat ((aF:Nat):Int)))).1).c=((af ((av (dNew (Int.toNat (aF:Int)))).1)).c):=congrArg (fun t_=>t_.2.1) hz
  rw [hz1]
  have hz2:(af (av (dNew (Int.toNat ((aF:Nat):Int)))).1).L=((af ((av (dNew (Int.toNat (aF:Int)))).1)).L):=congrArg (fun t_=>t_.2.2) hz
  rw [hz2]
  exact R.w3 (z1,z8,z9,gU,fx,z12,jK) [0,1,2,3,4,5,6] [0] rfl Try.results35 (RV.tmp rfl) (RV.tmp rfl) (RV.tmp rfl) rfl rfl rfl (sy rfl rfl rfl)
theorem pB {k t:Nat}{d:bp}{sc:gV}{lg:Lg}(h:SV k d (mkS sc lg) 0 t)(ht:t≤9999)(hf:d.Fuse = -1)(hr:sc.Rows=[]) :
    (ai (mkS sc lg) d [(⟨⟨#[107]⟩,⟨#[120]⟩,false⟩:Change)]).2.2=0∧(ai (mkS sc lg) d [(⟨⟨#[107]⟩,⟨#[120]⟩,false⟩:Change)]).1.c.Rows.length=1∧(ai (mkS sc lg) d [(⟨⟨#[107]⟩,⟨#[120]⟩,false⟩:Change)]).2.1.Fuse = -1∧SV k (ai (mkS sc lg) d [(⟨⟨#[107]⟩,⟨#[120]⟩,false⟩:Change)]).2.1 (mkS (ai (mkS sc lg) d [(⟨⟨#[107]⟩,⟨#[120]⟩,false⟩:Change)]).1.c (ai (mkS sc lg) d [(⟨⟨#[107]⟩,⟨#[120]⟩,false⟩:Change)]).1.L) 2 (t+1):=by
  have hm:=h.room
  have hap:a7 sc.Rows [(⟨⟨#[107]⟩,⟨#[120]⟩,false⟩:Change)]=[(⟨⟨#[107]⟩,⟨#[120]⟩,false⟩:Change)]:=by rw [hr];decide +kernel
  have hc:fJ (mkS sc lg) d.Now.length [(⟨⟨#[107]⟩,⟨#[120]⟩,false⟩:Change)]=0:=by
    unfold fJ
    rw [if_neg (by decide),if_neg (by decide +kernel),if_neg ?_]
    show ¬ (60<(a7 sc.Rows [(⟨⟨#[107]⟩,⟨#[120]⟩,false⟩:Change)]).length∨_)
    rw [hap]
    intro hh
    rcases hh with hh|hh
    · exact absurd hh (by decide)
    ·
      rw [hm.2.2.2.1] at hh
      have:(([(⟨⟨#[107]⟩,⟨#[120]⟩,false⟩:Change)]).length:Int)=1:=rfl
      omega
  rcases jQ h ht hc with ⟨e1,s1,u1,a1,a2,a3,a4,a5⟩ | ⟨e1,s1,a1,a2,_⟩
  ·
    have hu:u1=2:=by
      have e1:(mkS sc lg).L.Many-(mkS sc lg).L.Next=(k:Int)-102-0:=by
        show lg.Many-lg.Next=_
        rw [hm.1,hm.2.1];rfl
      rw [e1] at a5
      have:(([(⟨⟨#[107]⟩,⟨#[120]⟩,false⟩:Change)]).length:Int)=1:=rfl
      rw [this,if_neg (by omega)] at a5
      omega
    rw [a1];dsimp only;rw [ki]
    refine ⟨rfl,?_,a4 hf,hu▸a2⟩
    show s1.Rows.length=1
    rw [a3];show (a7 sc.Rows _).length=1
    rw [hap];rfl
  · exact absurd hf a2
end Go.Proofs.Ytpipachmngdegaa
end
