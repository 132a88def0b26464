import Derived.Test.YtpipachmngdegaaGreatRSP21
import Derived.Test.YtpipachmngdegaaGreatRSP22
section
namespace Go.Proofs.YtpipachmngdegaaGreat
open Go Go.RowKit
set_option linter.unusedVariables false
set_option maxRecDepth 100000
theorem og (bk:Value)(l:List ao)(id:Int)(w:World)(cF:Sl w bk l)(hl:l.length≤1000000):Calls Tryz.prog 83 #[bk,.int .i64 id] w fun e w' => ∃u,e = .returned u∧Own w.heap.size 3 w' u (cZ id l)∧Ext w w':=by
  have lR:=cF.dI
  refine R.enter (n:=37) (vs:=[bk,.int .i64 id]) [] [(0,bk),(1,.int .i64 id)] Tryz.func83 rfl rfl rfl rfl ?_
  refine R.reg rfl<|R.u 1 rfl<|R.nil ?_
  refine R.reg rfl<|?_
  refine R.s rfl (s.mk rfl) fun b1=>?_
  refine R.u 1 rfl<|?_
  refine R.s rfl (s.yg 0 _ rfl rfl rfl rfl kF rfl) fun _=>?_
  refine R.u 2 rfl<|R.nil ?_
  refine R.reg rfl<|R.u 1 rfl<|R.nil ?_
  refine R.reg rfl<|R.u 1 rfl<|R.q (q.len' (fun _=>Wd.old cF) rfl Tryz.underlying25) rfl<|R.u 1 rfl<|R.nil ?_
  refine R.row0 (α:=Int) 3 ?_
  refine R.loop (fun g_:Nat×Value×(List Int)×(List Int)=>[(5,.map (some b1)),(6,g_.2.1),(12,bk),(13,.int .i64 (l.length:Int)),(14,.int .i64 (g_.1:Int))]) (fun g_:Nat×Value×(List Int)×(List Int)=>[ah.row 3 g_.2.1 (g_.2.2.1:List Int),ah.iW b1 g_.2.2.2]) (fun g_:Nat×Value×(List Int)×(List Int)=>[]) (fun g_:Nat×Value×(List Int)×(List Int)=>g_.1≤l.length∧g_.2.2.1=cZ id (l.take g_.1) ∧ ∀z,z∈g_.2.2.2↔z=id∨z∈g_.2.2.1) (fun g_:Nat×Value×(List Int)×(List Int)=>l.length-g_.1) (0,(.slice none 0 0),[],[id]) rfl (by exact ⟨by simp,by simp [cZ],by simp⟩) ⟨rfl,rfl,rfl,rfl,rfl,trivial⟩ (fun _=>Wd.pick [0,1] [] rfl rfl rfl) ?_
  rintro ⟨k,v,acc,S⟩ ⟨hk,HA,HS⟩
  dsimp only at *
  have hal:acc.length≤k:=by rw [HA];exact Nat.le_trans (s6 _ _) (List.length_take_le _ _)
  refine R.reg rfl<|?_
  by_cases h1:k<l.length
  ·
    refine R.q (q.lss rfl rfl (decide_eq_true (by omega))) rfl<|R.nil ?_
    refine R.aI rfl rfl ?_
    refine R.reg rfl<|?_
    obtain ⟨x1,hx1⟩:∃z,l[k]? = some z:=⟨_,List.getElem?_eq_getElem (by omega)⟩
    refine R.q (q.idx (i:=k) (fun _=>Wd.old cF) rfl rfl cG rfl hx1) rfl<|R.q (q.dx (ds:=[.int .i64 x1.ID,.int .i64 x1.ai,.int .i64 x1.Rights,.int .i64 x1.ar,.int .i64 x1.From]) (fun _=>Wd.old cF) hx1 rfl aK rfl) rfl<|?_
    refine R.s rfl (s.alloc (cs:=[.int .i64 0,.int .i64 0,.int .i64 0,.int .i64 0,.int .i64 0]) aY rfl rfl) fun b2=>?_
    refine R.s rfl (s.st (us:=[.int .i64 x1.ID,.int .i64 x1.ai,.int .i64 x1.Rights,.int .i64 x1.ar,.int .i64 x1.From]) (cs':=[.int .i64 x1.ID,.int .i64 x1.ai,.int .i64 x1.Rights,.int .i64 x1.ar,.int .i64 x1.From]) 0 _ rfl rfl rfl rfl (.inl aK) rfl rfl rfl rfl) fun _=>?_
    refine R.nil ?_
    refine R.reg rfl<|R.u 1 rfl<|R.q (q.aS (off':=4) rfl d9 rfl) rfl<|R.q (q.ld 0 rfl rfl aG rfl) rfl<|?_
    by_cases h2:x1.From∈S
    ·
      refine R.q (q.uD 2 rfl rfl rfl kF (decide_eq_true h2)) rfl<|R.u 1 rfl<|R.qg rfl (q.aS (off':=4) rfl d9 rfl) rfl<|R.qg rfl (q.ld 0 rfl rfl aG rfl) rfl<|?_
      by_cases h3:0<x1.From
      ·
        refine R.qg rfl (q.gtr rfl rfl (decide_eq_true (by omega))) rfl<|R.u 1 rfl<|R.nil ?_
        refine R.aI rfl rfl ?_
        refine R.reg rfl<|R.u 1 rfl<|R.q (q.aS (off':=0) rfl bK rfl) rfl<|R.q (q.ld 0 rfl rfl aG rfl) rfl<|?_
        refine R.s rfl (s.yX 2 _ rfl rfl rfl rfl kF rfl) fun _=>?_
        refine R.nil ?_
        refine R.reg rfl<|R.u 1 rfl<|R.q (q.aS (off':=0) rfl bK rfl) rfl<|R.q (q.ld 0 rfl rfl aG rfl) rfl<|?_
        refine R.s rfl (s.bs (l:=([x1.ID]:List Int)) fL iX rfl rfl rfl rfl rfl rfl rfl) fun b3=>?_
        refine R.s rfl (s.app (l2:=[x1.ID]) 2 _ rfl rfl rfl (fun _=>Wd.row 0 rfl) iI (by simp;omega) (by simp;omega) (fun _=>rfl) rfl) fun v1=>?_
        refine R.u 1 rfl<|R.nil ?_
        refine R.reg rfl<|R.q (q.add (r:=((k+1:Nat):Int)) rfl rfl (wr (by omega))) rfl<|R.u 1 rfl<|R.nil ?_
        refine R.back (k+1,v1,(acc++([x1.ID])),(x1.ID::S)) rfl (by (exact ⟨by omega,by rw [HA,o5 hx1 (HA▸HS) (by assumption) (by assumption)],by intro z;rw [List.mem_cons,HS,List.mem_append,List.mem_singleton];constructor <;> (intro h;rcases h with h|h|h <;> simp [h])⟩)) (by dsimp only;omega) ⟨rfl,rfl,rfl,rfl,rfl,trivial⟩ (fun _=>Wd.pick [2,3] [] rfl rfl rfl)
      ·
        refine R.qg rfl (q.gtr rfl rfl (decide_eq_false (by omega))) rfl<|R.u 1 rfl<|R.nil ?_
        refine R.aH rfl rfl ?_
        refine R.reg rfl<|R.q (q.add (r:=((k+1:Nat):Int)) rfl rfl (wr (by omega))) rfl<|R.u 1 rfl<|R.nil ?_
        refine R.back (k+1,v,acc,S) rfl (by (exact ⟨by omega,by rw [HA,kZ hx1 (HA▸HS) (by first|(intro hh;exact absurd hh.1 (by assumption))|(intro hh;exact absurd hh.2 (by assumption)))],HS⟩)) (by dsimp only;omega) ⟨rfl,rfl,rfl,rfl,rfl,trivial⟩ (fun _=>Wd.pick [1,2] [] rfl rfl rfl)
    ·
      refine R.q (q.uD 2 rfl rfl rfl kF (decide_eq_false h2)) rfl<|R.u 5 rfl<|R.nil ?_
      refine R.aH rfl rfl ?_
      refine R.reg rfl<|R.q (q.add (r:=((k+1:Nat):Int)) rfl rfl (wr (by omega))) rfl<|R.u 1 rfl<|R.nil ?_
      refine R.back (k+1,v,acc,S) rfl (by (exact ⟨by omega,by rw [HA,kZ hx1 (HA▸HS) (by first|(intro hh;exact absurd hh.1 (by assumption))|(intro hh;exact absurd hh.2 (by assumption)))],HS⟩)) (by dsimp only;omega) ⟨rfl,rfl,rfl,rfl,rfl,trivial⟩ (fun _=>Wd.pick [1,2] [] rfl rfl rfl)
  ·
    refine R.q (q.lss rfl rfl (decide_eq_false (by omega))) rfl<|R.nil ?_
    refine R.aH rfl rfl ?_
    refine R.reg rfl<|R.u 2 rfl<|R.nil ?_
    exact R.ro 0 rfl Tryz.results83 rfl rfl (by (rw [HA,List.take_of_length_le (by omega)]))
theorem mJ (bk:Value)(l:List ao)(id:Int)(w:World)(cF:Sl w bk l)(hT:ct l)(hl:l.length≤1000000):Calls Tryz.prog 89 #[bk,.int .i64 id] w fun e w' => ∃u,e = .returned u∧Own w.heap.size 3 w' u (beneath l id)∧Ext w w':=by
  have lR:=cF.dI
  refine R.enter (n:=53) (vs:=[bk,.int .i64 id]) [] [(0,bk),(1,.int .i64 id)] Tryz.func89 rfl rfl rfl rfl ?_
  refine R.reg rfl<|R.u 1 rfl<|R.nil ?_
  refine R.reg rfl<|R.u 1 rfl<|R.nil ?_
  refine R.reg rfl<|R.u 1 rfl<|R.nil ?_
  refine R.row0 (α:=Int) 3 ?_
  refine R.loop (fun g_:Nat×Value×(List Int)=>[(0,bk),(1,.int .i64 id),(5,g_.2.1),(6,.int .i64 (g_.1:Int))]) (fun g_:Nat×Value×(List Int)=>[ah.row 3 g_.2.1 (g_.2.2:List Int)]) (fun g_:Nat×Value×(List Int)=>[]) (fun g_:Nat×Value×(List Int)=>g_.1≤l.length∧g_.2.2=jY l id (l.take g_.1)) (fun g_:Nat×Value×(List Int)=>l.length-g_.1) (0,(.slice none 0 0),[]) rfl (by exact ⟨by simp,by simp [jY]⟩) ⟨rfl,rfl,rfl,rfl,trivial⟩ (fun _=>Wd.pick [0] [] rfl rfl rfl) ?_
  rintro ⟨k,v,acc⟩ ⟨hk,HA⟩
  dsimp only at *
  have hal:acc.length≤k:=by rw [HA];exact Nat.le_trans (s7 _ _ _) (List.length_take_le _ _)
  refine R.reg rfl<|R.u 2 rfl<|R.q (q.len' (fun _=>Wd.old cF) rfl Tryz.underlying25) rfl<|?_
  by_cases h1:k<l.length
  ·
    refine R.q (q.lss rfl rfl (decide_eq_true (by omega))) rfl<|R.nil ?_
    refine R.aI rfl rfl ?_
    refine R.reg rfl<|R.u 2 rfl<|?_
    obtain ⟨x1,hx1⟩:∃z,l[k]? = some z:=⟨_,List.getElem?_eq_getElem (by omega)⟩
    have zl:=hT.mem (List.mem_of_getElem? hx1)
    have zm:=zl.xF
    refine R.q (q.idx (i:=k) (fun _=>Wd.old cF) rfl rfl cG rfl hx1) rfl<|R.q (q.eJ (j':=4) (fun _=>Wd.old cF) hx1 rfl d9 rfl) rfl<|R.q (q.jU (fun _=>Wd.old cF) hx1 rfl aG rfl) rfl<|R.u 1 rfl<|R.nil ?_
    refine R.loop (fun f:Int=>[(0,bk),(1,.int .i64 id),(5,v),(6,.int .i64 (k:Int)),(7,.int .i64 f)]) (fun f:Int=>[ah.row 3 v (acc:List Int)]) (fun f:Int=>[]) (fun f:Int=>0≤f∧up l id f=up l id x1.From) (fun f:Int=>f.toNat) x1.From rfl (by exact ⟨by omega,rfl⟩) ⟨rfl,rfl,rfl,rfl,rfl,trivial⟩ (fun _=>Wd.pick [0] [] rfl rfl rfl) ?_
    rintro f ⟨hf0,HU⟩
    refine R.reg rfl<|R.u 1 rfl<|?_
    by_cases h2:0<f
    ·
      refine R.q (q.gtr rfl rfl (decide_eq_true (by omega))) rfl<|R.u 3 rfl<|?_
      by_cases h3:f=id
      ·
        refine R.qg rfl (q.neq rfl rfl (bne_eq_false_iff_eq.2 (by omega))) rfl<|R.u 1 rfl<|R.nil ?_
        refine R.aH rfl rfl ?_
        refine R.reg rfl<|R.u 2 rfl<|R.q (q.eql rfl rfl (beq_iff_eq.2 (by omega))) rfl<|R.u 2 rfl<|?_
        by_cases h4:0<id
        ·
          refine R.qg rfl (q.gtr rfl rfl (decide_eq_true (by omega))) rfl<|R.u 1 rfl<|R.nil ?_
          refine R.aI rfl rfl ?_
          refine R.reg rfl<|R.u 3 rfl<|R.q (q.idx (i:=k) (fun _=>Wd.old cF) rfl rfl cG rfl hx1) rfl<|R.q (q.eJ (j':=0) (fun _=>Wd.old cF) hx1 rfl bK rfl) rfl<|R.q (q.jU (fun _=>Wd.old cF) hx1 rfl aG rfl) rfl<|?_
          refine R.s rfl (s.bs (l:=([x1.ID]:List Int)) fL iX rfl rfl rfl rfl rfl rfl rfl) fun b1=>?_
          refine R.s rfl (s.app (l2:=[x1.ID]) 1 _ rfl rfl rfl (fun _=>Wd.row 0 rfl) iI (by simp;omega) (by simp;omega) (fun _=>rfl) rfl) fun v1=>?_
          refine R.u 1 rfl<|R.nil ?_
          refine R.reg rfl<|R.u 1 rfl<|R.q (q.add (r:=((k+1:Nat):Int)) rfl rfl (wr (by omega))) rfl<|R.u 1 rfl<|R.nil ?_
          refine R.back (k+1,v1,(acc++([x1.ID]))) rfl (by (exact ⟨by omega,by rw [HA,mI hx1 (by rw [← HU,im (by omega)];omega) (by omega)]⟩)) (by dsimp only;omega) ⟨rfl,rfl,rfl,rfl,trivial⟩ (fun _=>Wd.pick [1] [] rfl rfl rfl)
        ·
          refine R.qg rfl (q.gtr rfl rfl (decide_eq_false (by omega))) rfl<|R.u 1 rfl<|R.nil ?_
          refine R.aH rfl rfl ?_
          refine R.reg rfl<|R.u 1 rfl<|R.q (q.add (r:=((k+1:Nat):Int)) rfl rfl (wr (by omega))) rfl<|R.u 1 rfl<|R.nil ?_
          refine R.back (k+1,v,acc) rfl (by (exact ⟨by omega,by rw [HA,iO hx1 (by rw [← HU,im (by omega)];omega)]⟩)) (by dsimp only;omega) ⟨rfl,rfl,rfl,rfl,trivial⟩ (fun _=>Wd.pick [0] [] rfl rfl rfl)
      ·
        refine R.qg rfl (q.neq rfl rfl (bne_iff_ne.2 (by omega))) rfl<|R.u 1 rfl<|R.nil ?_
        refine R.aI rfl rfl ?_
        refine R.reg rfl<|R.u 2 rfl<|R.c (q.call kG rfl rfl (fun w hw=>(ei _ (l) (f) w ((fun _=>Wd.old cF) w hw) ))) rfl<|R.u 1 rfl<|R.nil ?_
        refine R.reg rfl<|R.u 1 rfl<|?_
        by_cases h5:cb l f<0
        ·
          refine R.q (q.lss rfl rfl (decide_eq_true (by omega))) rfl<|R.nil ?_
          refine R.aI rfl rfl ?_
          refine R.reg rfl<|R.u 2 rfl<|R.q (q.eql rfl rfl (beq_eq_false_iff_ne.2 (by omega))) rfl<|R.u 4 rfl<|R.nil ?_
          refine R.aH rfl rfl ?_
          refine R.reg rfl<|R.u 1 rfl<|R.q (q.add (r:=((k+1:Nat):Int)) rfl rfl (wr (by omega))) rfl<|R.u 1 rfl<|R.nil ?_
          refine R.back (k+1,v,acc) rfl (by (exact ⟨by omega,by rw [HA,iO hx1 (by rw [← HU,im (by omega)];omega)]⟩)) (by dsimp only;omega) ⟨rfl,rfl,rfl,rfl,trivial⟩ (fun _=>Wd.pick [0] [] rfl rfl rfl)
        ·
          refine R.q (q.lss rfl rfl (decide_eq_false (by omega))) rfl<|R.nil ?_
          refine R.aH rfl rfl ?_
          refine R.reg rfl<|R.u 2 rfl<|?_
          obtain ⟨x2,hx2,zO,zn⟩:=mC l f (by omega)
          have x9:=hT.mem zn
          have zo:=x9.id1;have zp:=x9.xF;have zq:=x9.xG;have zr:=x9.yw
          have zt:dB l f=x2.From:=hX (j:=(cb l f).toNat) (by omega) hx2
          refine R.q (q.idx (i:=(cb l f).toNat) (fun _=>Wd.old cF) rfl rfl cG (by omega) hx2) rfl<|R.q (q.eJ (j':=4) (fun _=>Wd.old cF) hx2 rfl d9 rfl) rfl<|R.q (q.jU (fun _=>Wd.old cF) hx2 rfl aG rfl) rfl<|R.u 1 rfl<|R.nil ?_
          refine R.back x2.From rfl (by (exact ⟨by omega,by rw [← HU,od hT (f:=f) (by omega) (by omega),zt]⟩)) (by omega) ⟨rfl,rfl,rfl,rfl,rfl,trivial⟩ (fun _=>Wd.pick [0] [] rfl rfl rfl)
    ·
      refine R.q (q.gtr rfl rfl (decide_eq_false (by omega))) rfl<|R.u 5 rfl<|R.nil ?_
      refine R.aH rfl rfl ?_
      refine R.reg rfl<|R.u 2 rfl<|?_
      by_cases h6:f=id
      ·
        refine R.q (q.eql rfl rfl (beq_iff_eq.2 (by omega))) rfl<|R.u 2 rfl<|?_
        by_cases h7:0<id
        ·
          refine R.qg rfl (q.gtr rfl rfl (decide_eq_true (by omega))) rfl<|R.u 1 rfl<|R.nil ?_
          refine R.aI rfl rfl ?_
          refine R.reg rfl<|R.u 3 rfl<|R.q (q.idx (i:=k) (fun _=>Wd.old cF) rfl rfl cG rfl hx1) rfl<|R.q (q.eJ (j':=0) (fun _=>Wd.old cF) hx1 rfl bK rfl) rfl<|R.q (q.jU (fun _=>Wd.old cF) hx1 rfl aG rfl) rfl<|?_
          refine R.s rfl (s.bs (l:=([x1.ID]:List Int)) fL iX rfl rfl rfl rfl rfl rfl rfl) fun b2=>?_
          refine R.s rfl (s.app (l2:=[x1.ID]) 1 _ rfl rfl rfl (fun _=>Wd.row 0 rfl) iI (by simp;omega) (by simp;omega) (fun _=>rfl) rfl) fun v2=>?_
          refine R.u 1 rfl<|R.nil ?_
          refine R.reg rfl<|R.u 1 rfl<|R.q (q.add (r:=((k+1:Nat):Int)) rfl rfl (wr (by omega))) rfl<|R.u 1 rfl<|R.nil ?_
          refine R.back (k+1,v2,(acc++([x1.ID]))) rfl (by (exact ⟨by omega,by rw [HA,mI hx1 (by rw [← HU,im (by omega)];omega) (by omega)]⟩)) (by dsimp only;omega) ⟨rfl,rfl,rfl,rfl,trivial⟩ (fun _=>Wd.pick [1] [] rfl rfl rfl)
        ·
          refine R.qg rfl (q.gtr rfl rfl (decide_eq_false (by omega))) rfl<|R.u 1 rfl<|R.nil ?_
          refine R.aH rfl rfl ?_
          refine R.reg rfl<|R.u 1 rfl<|R.q (q.add (r:=((k+1:Nat):Int)) rfl rfl (wr (by omega))) rfl<|R.u 1 rfl<|R.nil ?_
          refine R.back (k+1,v,acc) rfl (by (exact ⟨by omega,by rw [HA,iO hx1 (by rw [← HU,im (by omega)];omega)]⟩)) (by dsimp only;omega) ⟨rfl,rfl,rfl,rfl,trivial⟩ (fun _=>Wd.pick [0] [] rfl rfl rfl)
      ·
        refine R.q (q.eql rfl rfl (beq_eq_false_iff_ne.2 (by omega))) rfl<|R.u 4 rfl<|R.nil ?_
        refine R.aH rfl rfl ?_
        refine R.reg rfl<|R.u 1 rfl<|R.q (q.add (r:=((k+1:Nat):Int)) rfl rfl (wr (by omega))) rfl<|R.u 1 rfl<|R.nil ?_
        refine R.back (k+1,v,acc) rfl (by (exact ⟨by omega,by rw [HA,iO hx1 (by rw [← HU,im (by omega)];omega)]⟩)) (by dsimp only;omega) ⟨rfl,rfl,rfl,rfl,trivial⟩ (fun _=>Wd.pick [0] [] rfl rfl rfl)
  ·
    refine R.q (q.lss rfl rfl (decide_eq_false (by omega))) rfl<|R.nil ?_
    refine R.aH rfl rfl ?_
    refine R.reg rfl<|R.u 2 rfl<|R.nil ?_
    exact R.ro 0 rfl Tryz.results89 rfl rfl (by (rw [HA,List.take_of_length_le (by omega)];rfl))
end Go.Proofs.YtpipachmngdegaaGreat
end
