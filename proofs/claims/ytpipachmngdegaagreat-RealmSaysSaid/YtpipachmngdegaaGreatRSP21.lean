import Derived.Test.YtpipachmngdegaaGreatRSP19
import Derived.Test.YtpipachmngdegaaGreatRSP9
import Derived.Test.YtpipachmngdegaaGreatRSP20
section
namespace Go.Proofs.YtpipachmngdegaaGreat
open Go Go.RowKit
set_option linter.unusedVariables false
set_option maxRecDepth 100000
theorem jw (bk:Value)(l:List ao)(id:Int)(w:World)(cF:Sl w bk l)(hl:l.length≤1000000):Calls Tryz.prog 40 #[bk,.int .i64 id] w fun e w' => ∃u,e = .returned u∧Own w.heap.size 39 w' u (without l id)∧Ext w w':=by
  have lR:=cF.dI
  refine R.enter (n:=42) (vs:=[bk,.int .i64 id]) [] [(0,bk),(1,.int .i64 id)] Tryz.func40 rfl rfl rfl rfl ?_
  refine R.reg rfl<|R.u 1 rfl<|R.nil ?_
  refine R.reg rfl<|R.u 1 rfl<|R.nil ?_
  refine R.reg rfl<|R.u 1 rfl<|R.nil ?_
  refine R.reg rfl<|R.u 2 rfl<|?_
  rcases dm l id with ⟨dt,j2⟩ | ⟨fU,dP,dt,e6,vV⟩
  ·
    refine R.c (q.call ln rfl rfl (fun w hw=>(cv (congrArg (Value.int .i64) dt) (gk _ (l) (id) w ((fun _=>Wd.old cF) w hw) )))) rfl<|R.u 1 rfl<|R.nil ?_
    refine R.reg rfl<|R.u 1 rfl<|R.q (q.geq (b:=false) rfl rfl (by decide)) rfl<|R.nil ?_
    refine R.aH rfl rfl ?_
    refine R.reg rfl<|R.u 1 rfl<|R.q (q.len' (fun _=>Wd.old cF) rfl Tryz.underlying25) rfl<|R.u 1 rfl<|R.nil ?_
    refine R.row0 (α:=ao) 39 ?_
    refine R.loop (fun g_:Nat×Value×(List ao)=>[(1,.int .i64 id),(5,g_.2.1),(6,.int .i64 0),(20,bk),(21,.int .i64 (l.length:Int)),(22,.int .i64 (g_.1:Int))]) (fun g_:Nat×Value×(List ao)=>[ah.row 39 g_.2.1 (g_.2.2:List ao)]) (fun g_:Nat×Value×(List ao)=>[]) (fun g_:Nat×Value×(List ao)=>g_.1≤l.length∧g_.2.2=oX id 0 (l.take g_.1)) (fun g_:Nat×Value×(List ao)=>l.length-g_.1) (0,(.slice none 0 0),[]) rfl (by exact ⟨by simp,by simp [oX,jX]⟩) ⟨rfl,rfl,rfl,rfl,rfl,rfl,trivial⟩ (fun _=>Wd.pick [0] [] rfl rfl rfl) ?_
    rintro ⟨k,v,acc⟩ ⟨hk,HA⟩
    dsimp only at *
    have hal:acc.length≤k:=by rw [HA];exact Nat.le_trans (oc _ _ _) (List.length_take_le _ _)
    refine R.reg rfl<|?_
    by_cases h1:k<l.length
    ·
      refine R.q (q.lss rfl rfl (decide_eq_true (by omega))) rfl<|R.nil ?_
      refine R.aI rfl rfl ?_
      refine R.reg rfl<|?_
      obtain ⟨x1,hx1⟩:∃z,l[k]? = some z:=⟨_,List.getElem?_eq_getElem (by omega)⟩
      refine R.q (q.idx (i:=k) (fun _=>Wd.old cF) rfl rfl cG rfl hx1) rfl<|R.q (q.dx (ds:=[.int .i64 x1.ID,.int .i64 x1.ai,.int .i64 x1.Rights,.int .i64 x1.ar,.int .i64 x1.From]) (fun _=>Wd.old cF) hx1 rfl aK rfl) rfl<|?_
      refine R.s rfl (s.alloc (cs:=[.int .i64 0,.int .i64 0,.int .i64 0,.int .i64 0,.int .i64 0]) aY rfl rfl) fun b1=>?_
      refine R.s rfl (s.st (us:=[.int .i64 x1.ID,.int .i64 x1.ai,.int .i64 x1.Rights,.int .i64 x1.ar,.int .i64 x1.From]) (cs':=[.int .i64 x1.ID,.int .i64 x1.ai,.int .i64 x1.Rights,.int .i64 x1.ar,.int .i64 x1.From]) 0 _ rfl rfl rfl rfl (.inl aK) rfl rfl rfl rfl) fun _=>?_
      refine R.nil ?_
      refine R.reg rfl<|R.q (q.aS (off':=0) rfl bK rfl) rfl<|R.q (q.ld 0 rfl rfl aG rfl) rfl<|R.u 1 rfl<|?_
      by_cases h2:x1.ID=id
      ·
        refine R.q (q.eql rfl rfl (beq_iff_eq.2 (by omega))) rfl<|R.nil ?_
        refine R.aI rfl rfl ?_
        refine R.reg rfl<|R.q (q.add (r:=((k+1:Nat):Int)) rfl rfl (wr (by omega))) rfl<|R.u 1 rfl<|R.nil ?_
        refine R.back (k+1,v,acc) rfl (by (exact ⟨by omega,by rw [HA,qY hx1 (by assumption)]⟩)) (by dsimp only;omega) ⟨rfl,rfl,rfl,rfl,rfl,rfl,trivial⟩ (fun _=>Wd.pick [1] [] rfl rfl rfl)
      ·
        refine R.q (q.eql rfl rfl (beq_eq_false_iff_ne.2 (by omega))) rfl<|R.nil ?_
        refine R.aH rfl rfl ?_
        refine R.reg rfl<|R.q (q.aS (off':=4) rfl d9 rfl) rfl<|R.q (q.ld 0 rfl rfl aG rfl) rfl<|R.u 1 rfl<|?_
        by_cases h3:x1.From=id
        ·
          refine R.q (q.eql rfl rfl (beq_iff_eq.2 (by omega))) rfl<|R.nil ?_
          refine R.aI rfl rfl ?_
          refine R.reg rfl<|R.u 1 rfl<|R.q (q.aS (off':=4) rfl d9 rfl) rfl<|?_
          refine R.s rfl (s.st (us:=[.int .i64 0]) (cs':=[.int .i64 x1.ID,.int .i64 x1.ai,.int .i64 x1.Rights,.int .i64 x1.ar,.int .i64 0]) 0 _ rfl rfl rfl rfl (.inr ⟨aG,rfl⟩) rfl rfl rfl rfl) fun _=>?_
          refine R.nil ?_
          refine R.reg rfl<|R.u 1 rfl<|R.q (q.bI 0 rfl rfl aK) rfl<|?_
          refine R.s rfl (s.bs (l:=([(⟨x1.ID,x1.ai,x1.Rights,x1.ar,0⟩:ao)]:List ao)) cG aY rfl rfl rfl rfl rfl rfl rfl) fun b2=>?_
          refine R.s rfl (s.app (l2:=[(⟨x1.ID,x1.ai,x1.Rights,x1.ar,0⟩:ao)]) 2 _ rfl rfl rfl (fun _=>Wd.row 0 rfl) eH (by simp;omega) (by simp;omega) (fun _=>rfl) rfl) fun v1=>?_
          refine R.u 1 rfl<|R.nil ?_
          refine R.reg rfl<|R.q (q.add (r:=((k+1:Nat):Int)) rfl rfl (wr (by omega))) rfl<|R.u 1 rfl<|R.nil ?_
          refine R.back (k+1,v1,(acc++([(⟨x1.ID,x1.ai,x1.Rights,x1.ar,0⟩:ao)]))) rfl (by (exact ⟨by omega,by rw [HA,kK hx1 (by assumption),mD (by assumption)]⟩)) (by dsimp only;omega) ⟨rfl,rfl,rfl,rfl,rfl,rfl,trivial⟩ (fun _=>Wd.pick [2] [] rfl rfl rfl)
        ·
          refine R.q (q.eql rfl rfl (beq_eq_false_iff_ne.2 (by omega))) rfl<|R.nil ?_
          refine R.aH rfl rfl ?_
          refine R.reg rfl<|R.u 1 rfl<|R.q (q.bI 0 rfl rfl aK) rfl<|?_
          refine R.s rfl (s.bs (l:=([x1]:List ao)) cG aY rfl rfl rfl rfl rfl rfl rfl) fun b3=>?_
          refine R.s rfl (s.app (l2:=[x1]) 2 _ rfl rfl rfl (fun _=>Wd.row 0 rfl) eH (by simp;omega) (by simp;omega) (fun _=>rfl) rfl) fun v2=>?_
          refine R.u 1 rfl<|R.nil ?_
          refine R.reg rfl<|R.q (q.add (r:=((k+1:Nat):Int)) rfl rfl (wr (by omega))) rfl<|R.u 1 rfl<|R.nil ?_
          refine R.back (k+1,v2,(acc++([x1]))) rfl (by (exact ⟨by omega,by rw [HA,kK hx1 (by assumption),jM (by assumption)]⟩)) (by dsimp only;omega) ⟨rfl,rfl,rfl,rfl,rfl,rfl,trivial⟩ (fun _=>Wd.pick [2] [] rfl rfl rfl)
    ·
      refine R.q (q.lss rfl rfl (decide_eq_false (by omega))) rfl<|R.nil ?_
      refine R.aH rfl rfl ?_
      refine R.reg rfl<|R.u 2 rfl<|R.nil ?_
      exact R.ro 0 rfl Tryz.results40 rfl rfl (by (rw [HA,List.take_of_length_le (by omega)];unfold without;rw [lu dt]))
  ·
    refine R.c (q.call ln rfl rfl (fun w hw=>(cv (congrArg (Value.int .i64) dt) (gk _ (l) (id) w ((fun _=>Wd.old cF) w hw) )))) rfl<|R.u 1 rfl<|R.nil ?_
    refine R.reg rfl<|R.u 1 rfl<|R.q (q.geq rfl rfl (decide_eq_true (by omega))) rfl<|R.nil ?_
    refine R.aI rfl rfl ?_
    refine R.reg rfl<|R.u 2 rfl<|R.q (q.idx (i:=fU) (fun _=>Wd.old cF) rfl rfl cG rfl (List.getElem?_eq_getElem dP)) rfl<|R.q (q.eJ (j':=4) (fun _=>Wd.old cF) (List.getElem?_eq_getElem dP) rfl d9 rfl) rfl<|R.q (q.jU (fun _=>Wd.old cF) (List.getElem?_eq_getElem dP) rfl aG rfl) rfl<|R.u 1 rfl<|R.nil ?_
    refine R.reg rfl<|R.u 1 rfl<|R.q (q.len' (fun _=>Wd.old cF) rfl Tryz.underlying25) rfl<|R.u 1 rfl<|R.nil ?_
    refine R.row0 (α:=ao) 39 ?_
    refine R.loop (fun g_:Nat×Value×(List ao)=>[(1,.int .i64 id),(5,g_.2.1),(6,.int .i64 ((l[fU]).From)),(20,bk),(21,.int .i64 (l.length:Int)),(22,.int .i64 (g_.1:Int))]) (fun g_:Nat×Value×(List ao)=>[ah.row 39 g_.2.1 (g_.2.2:List ao)]) (fun g_:Nat×Value×(List ao)=>[]) (fun g_:Nat×Value×(List ao)=>g_.1≤l.length∧g_.2.2=oX id ((l[fU]).From) (l.take g_.1)) (fun g_:Nat×Value×(List ao)=>l.length-g_.1) (0,(.slice none 0 0),[]) rfl (by exact ⟨by simp,by simp [oX,jX]⟩) ⟨rfl,rfl,rfl,rfl,rfl,rfl,trivial⟩ (fun _=>Wd.pick [0] [] rfl rfl rfl) ?_
    rintro ⟨k,v,acc⟩ ⟨hk,HA⟩
    dsimp only at *
    have hal:acc.length≤k:=by rw [HA];exact Nat.le_trans (oc _ _ _) (List.length_take_le _ _)
    refine R.reg rfl<|?_
    by_cases h4:k<l.length
    ·
      refine R.q (q.lss rfl rfl (decide_eq_true (by omega))) rfl<|R.nil ?_
      refine R.aI rfl rfl ?_
      refine R.reg rfl<|?_
      obtain ⟨x2,hx2⟩:∃z,l[k]? = some z:=⟨_,List.getElem?_eq_getElem (by omega)⟩
      refine R.q (q.idx (i:=k) (fun _=>Wd.old cF) rfl rfl cG rfl hx2) rfl<|R.q (q.dx (ds:=[.int .i64 x2.ID,.int .i64 x2.ai,.int .i64 x2.Rights,.int .i64 x2.ar,.int .i64 x2.From]) (fun _=>Wd.old cF) hx2 rfl aK rfl) rfl<|?_
      refine R.s rfl (s.alloc (cs:=[.int .i64 0,.int .i64 0,.int .i64 0,.int .i64 0,.int .i64 0]) aY rfl rfl) fun b4=>?_
      refine R.s rfl (s.st (us:=[.int .i64 x2.ID,.int .i64 x2.ai,.int .i64 x2.Rights,.int .i64 x2.ar,.int .i64 x2.From]) (cs':=[.int .i64 x2.ID,.int .i64 x2.ai,.int .i64 x2.Rights,.int .i64 x2.ar,.int .i64 x2.From]) 0 _ rfl rfl rfl rfl (.inl aK) rfl rfl rfl rfl) fun _=>?_
      refine R.nil ?_
      refine R.reg rfl<|R.q (q.aS (off':=0) rfl bK rfl) rfl<|R.q (q.ld 0 rfl rfl aG rfl) rfl<|R.u 1 rfl<|?_
      by_cases h5:x2.ID=id
      ·
        refine R.q (q.eql rfl rfl (beq_iff_eq.2 (by omega))) rfl<|R.nil ?_
        refine R.aI rfl rfl ?_
        refine R.reg rfl<|R.q (q.add (r:=((k+1:Nat):Int)) rfl rfl (wr (by omega))) rfl<|R.u 1 rfl<|R.nil ?_
        refine R.back (k+1,v,acc) rfl (by (exact ⟨by omega,by rw [HA,qY hx2 (by assumption)]⟩)) (by dsimp only;omega) ⟨rfl,rfl,rfl,rfl,rfl,rfl,trivial⟩ (fun _=>Wd.pick [1] [] rfl rfl rfl)
      ·
        refine R.q (q.eql rfl rfl (beq_eq_false_iff_ne.2 (by omega))) rfl<|R.nil ?_
        refine R.aH rfl rfl ?_
        refine R.reg rfl<|R.q (q.aS (off':=4) rfl d9 rfl) rfl<|R.q (q.ld 0 rfl rfl aG rfl) rfl<|R.u 1 rfl<|?_
        by_cases h6:x2.From=id
        ·
          refine R.q (q.eql rfl rfl (beq_iff_eq.2 (by omega))) rfl<|R.nil ?_
          refine R.aI rfl rfl ?_
          refine R.reg rfl<|R.u 1 rfl<|R.q (q.aS (off':=4) rfl d9 rfl) rfl<|?_
          refine R.s rfl (s.st (us:=[.int .i64 ((l[fU]).From)]) (cs':=[.int .i64 x2.ID,.int .i64 x2.ai,.int .i64 x2.Rights,.int .i64 x2.ar,.int .i64 ((l[fU]).From)]) 0 _ rfl rfl rfl rfl (.inr ⟨aG,rfl⟩) rfl rfl rfl rfl) fun _=>?_
          refine R.nil ?_
          refine R.reg rfl<|R.u 1 rfl<|R.q (q.bI 0 rfl rfl aK) rfl<|?_
          refine R.s rfl (s.bs (l:=([(⟨x2.ID,x2.ai,x2.Rights,x2.ar,(l[fU]).From⟩:ao)]:List ao)) cG aY rfl rfl rfl rfl rfl rfl rfl) fun b5=>?_
          refine R.s rfl (s.app (l2:=[(⟨x2.ID,x2.ai,x2.Rights,x2.ar,(l[fU]).From⟩:ao)]) 2 _ rfl rfl rfl (fun _=>Wd.row 0 rfl) eH (by simp;omega) (by simp;omega) (fun _=>rfl) rfl) fun v3=>?_
          refine R.u 1 rfl<|R.nil ?_
          refine R.reg rfl<|R.q (q.add (r:=((k+1:Nat):Int)) rfl rfl (wr (by omega))) rfl<|R.u 1 rfl<|R.nil ?_
          refine R.back (k+1,v3,(acc++([(⟨x2.ID,x2.ai,x2.Rights,x2.ar,(l[fU]).From⟩:ao)]))) rfl (by (exact ⟨by omega,by rw [HA,kK hx2 (by assumption),mD (by assumption)]⟩)) (by dsimp only;omega) ⟨rfl,rfl,rfl,rfl,rfl,rfl,trivial⟩ (fun _=>Wd.pick [2] [] rfl rfl rfl)
        ·
          refine R.q (q.eql rfl rfl (beq_eq_false_iff_ne.2 (by omega))) rfl<|R.nil ?_
          refine R.aH rfl rfl ?_
          refine R.reg rfl<|R.u 1 rfl<|R.q (q.bI 0 rfl rfl aK) rfl<|?_
          refine R.s rfl (s.bs (l:=([x2]:List ao)) cG aY rfl rfl rfl rfl rfl rfl rfl) fun b6=>?_
          refine R.s rfl (s.app (l2:=[x2]) 2 _ rfl rfl rfl (fun _=>Wd.row 0 rfl) eH (by simp;omega) (by simp;omega) (fun _=>rfl) rfl) fun v4=>?_
          refine R.u 1 rfl<|R.nil ?_
          refine R.reg rfl<|R.q (q.add (r:=((k+1:Nat):Int)) rfl rfl (wr (by omega))) rfl<|R.u 1 rfl<|R.nil ?_
          refine R.back (k+1,v4,(acc++([x2]))) rfl (by (exact ⟨by omega,by rw [HA,kK hx2 (by assumption),jM (by assumption)]⟩)) (by dsimp only;omega) ⟨rfl,rfl,rfl,rfl,rfl,rfl,trivial⟩ (fun _=>Wd.pick [2] [] rfl rfl rfl)
    ·
      refine R.q (q.lss rfl rfl (decide_eq_false (by omega))) rfl<|R.nil ?_
      refine R.aH rfl rfl ?_
      refine R.reg rfl<|R.u 2 rfl<|R.nil ?_
      exact R.ro 0 rfl Tryz.results40 rfl rfl (by (rw [HA,List.take_of_length_le (by omega)];unfold without;rw [hX dt (List.getElem?_eq_getElem dP)]))
theorem mF (bk:Value)(l:List ao)(id:Int)(w:World)(cF:Sl w bk l)(hl:l.length≤1000000):Calls Tryz.prog 42 #[bk,.int .i64 id] w fun e w' => ∃u,e = .returned u∧Own w.heap.size 39 w' u (oY l id)∧Ext w w':=by
  have lR:=cF.dI
  refine R.enter (n:=45) (vs:=[bk,.int .i64 id]) [] [(0,bk),(1,.int .i64 id)] Tryz.func42 rfl rfl rfl rfl ?_
  refine R.reg rfl<|R.u 1 rfl<|R.nil ?_
  refine R.reg rfl<|R.u 1 rfl<|R.nil ?_
  refine R.reg rfl<|R.u 2 rfl<|?_
  rcases dm l id with ⟨dt,j2⟩ | ⟨fU,dP,dt,e6,vV⟩
  ·
    refine R.c (q.call kG rfl rfl (fun w hw=>(cv (congrArg (Value.int .i64) dt) (ei _ (l) (id) w ((fun _=>Wd.old cF) w hw) )))) rfl<|R.u 1 rfl<|R.nil ?_
    refine R.reg rfl<|R.u 1 rfl<|R.nil ?_
    refine R.row0 (α:=ao) 39 ?_
    refine R.loop (fun g_:Nat×Value×(List ao)=>[(0,bk),(1,.int .i64 id),(5,g_.2.1),(6,.int .i64 (-1)),(7,.int .i64 (g_.1:Int))]) (fun g_:Nat×Value×(List ao)=>[ah.row 39 g_.2.1 (g_.2.2:List ao)]) (fun g_:Nat×Value×(List ao)=>[]) (fun g_:Nat×Value×(List ao)=>g_.1≤l.length∧g_.2.2=jX l id (l.take g_.1)) (fun g_:Nat×Value×(List ao)=>l.length-g_.1) (0,(.slice none 0 0),[]) rfl (by exact ⟨by simp,by simp [jX]⟩) ⟨rfl,rfl,rfl,rfl,rfl,trivial⟩ (fun _=>Wd.pick [0] [] rfl rfl rfl) ?_
    rintro ⟨k,v,acc⟩ ⟨hk,HA⟩
    dsimp only at *
    have hal:acc.length≤k:=by rw [HA];exact Nat.le_trans (oZ _ _ _) (List.length_take_le _ _)
    refine R.reg rfl<|R.u 2 rfl<|R.q (q.len' (fun _=>Wd.old cF) rfl Tryz.underlying25) rfl<|?_
    by_cases h1:k<l.length
    ·
      refine R.q (q.lss rfl rfl (decide_eq_true (by omega))) rfl<|R.nil ?_
      refine R.aI rfl rfl ?_
      refine R.reg rfl<|R.u 2 rfl<|?_
      obtain ⟨x1,hx1⟩:∃z,l[k]? = some z:=⟨_,List.getElem?_eq_getElem (by omega)⟩
      refine R.q (q.idx (i:=k) (fun _=>Wd.old cF) rfl rfl cG rfl hx1) rfl<|R.q (q.dx (ds:=[.int .i64 x1.ID,.int .i64 x1.ai,.int .i64 x1.Rights,.int .i64 x1.ar,.int .i64 x1.From]) (fun _=>Wd.old cF) hx1 rfl aK rfl) rfl<|?_
      refine R.s rfl (s.alloc (cs:=[.int .i64 0,.int .i64 0,.int .i64 0,.int .i64 0,.int .i64 0]) aY rfl rfl) fun b1=>?_
      refine R.s rfl (s.st (us:=[.int .i64 x1.ID,.int .i64 x1.ai,.int .i64 x1.Rights,.int .i64 x1.ar,.int .i64 x1.From]) (cs':=[.int .i64 x1.ID,.int .i64 x1.ai,.int .i64 x1.Rights,.int .i64 x1.ar,.int .i64 x1.From]) 0 _ rfl rfl rfl rfl (.inl aK) rfl rfl rfl rfl) fun _=>?_
      refine R.nil ?_
      refine R.reg rfl<|R.u 1 rfl<|R.q (q.geq (b:=false) rfl rfl (by decide)) rfl<|R.u 6 rfl<|R.nil ?_
      refine R.aH rfl rfl ?_
      refine R.reg rfl<|R.q (q.aS (off':=0) rfl bK rfl) rfl<|R.q (q.ld 0 rfl rfl aG rfl) rfl<|R.u 1 rfl<|?_
      by_cases h2:x1.ID=id
      ·
        refine R.q (q.neq rfl rfl (bne_eq_false_iff_eq.2 (by omega))) rfl<|R.nil ?_
        refine R.aH rfl rfl ?_
        refine R.reg rfl<|R.u 1 rfl<|R.q (q.add (r:=((k+1:Nat):Int)) rfl rfl (wr (by omega))) rfl<|R.u 1 rfl<|R.nil ?_
        refine R.back (k+1,v,acc) rfl (by (exact ⟨by omega,by rw [HA,mE hx1 (by first|assumption|(have:= ‹¬_≠_›;omega))]⟩)) (by dsimp only;omega) ⟨rfl,rfl,rfl,rfl,rfl,trivial⟩ (fun _=>Wd.pick [1] [] rfl rfl rfl)
      ·
        refine R.q (q.neq rfl rfl (bne_iff_ne.2 (by omega))) rfl<|R.nil ?_
        refine R.aI rfl rfl ?_
        refine R.reg rfl<|R.u 1 rfl<|R.q (q.bI 0 rfl rfl aK) rfl<|?_
        refine R.s rfl (s.bs (l:=([x1]:List ao)) cG aY rfl rfl rfl rfl rfl rfl rfl) fun b2=>?_
        refine R.s rfl (s.app (l2:=[x1]) 2 _ rfl rfl rfl (fun _=>Wd.row 0 rfl) eH (by simp;omega) (by simp;omega) (fun _=>rfl) rfl) fun v1=>?_
        refine R.u 1 rfl<|R.nil ?_
        refine R.reg rfl<|R.u 1 rfl<|R.q (q.add (r:=((k+1:Nat):Int)) rfl rfl (wr (by omega))) rfl<|R.u 1 rfl<|R.nil ?_
        refine R.back (k+1,v1,(acc++([x1]))) rfl (by (exact ⟨by omega,by rw [HA,kY hx1 (by assumption),show s5 l id x1=x1 from by unfold s5;first|rw [if_pos (by omega)] | rw [if_neg (by omega),jM (by assumption)]]⟩)) (by dsimp only;omega) ⟨rfl,rfl,rfl,rfl,rfl,trivial⟩ (fun _=>Wd.pick [2] [] rfl rfl rfl)
    ·
      refine R.q (q.lss rfl rfl (decide_eq_false (by omega))) rfl<|R.nil ?_
      refine R.aH rfl rfl ?_
      refine R.reg rfl<|R.u 2 rfl<|R.nil ?_
      exact R.ro 0 rfl Tryz.results42 rfl rfl (by (rw [HA,List.take_of_length_le (by omega)];exact o0 _ _))
  ·
    refine R.c (q.call kG rfl rfl (fun w hw=>(cv (congrArg (Value.int .i64) dt) (ei _ (l) (id) w ((fun _=>Wd.old cF) w hw) )))) rfl<|R.u 1 rfl<|R.nil ?_
    refine R.reg rfl<|R.u 1 rfl<|R.nil ?_
    refine R.row0 (α:=ao) 39 ?_
    refine R.loop (fun g_:Nat×Value×(List ao)=>[(0,bk),(1,.int .i64 id),(5,g_.2.1),(6,.int .i64 (fU:Int)),(7,.int .i64 (g_.1:Int))]) (fun g_:Nat×Value×(List ao)=>[ah.row 39 g_.2.1 (g_.2.2:List ao)]) (fun g_:Nat×Value×(List ao)=>[]) (fun g_:Nat×Value×(List ao)=>g_.1≤l.length∧g_.2.2=jX l id (l.take g_.1)) (fun g_:Nat×Value×(List ao)=>l.length-g_.1) (0,(.slice none 0 0),[]) rfl (by exact ⟨by simp,by simp [jX]⟩) ⟨rfl,rfl,rfl,rfl,rfl,trivial⟩ (fun _=>Wd.pick [0] [] rfl rfl rfl) ?_
    rintro ⟨k,v,acc⟩ ⟨hk,HA⟩
    dsimp only at *
    have hal:acc.length≤k:=by rw [HA];exact Nat.le_trans (oZ _ _ _) (List.length_take_le _ _)
    refine R.reg rfl<|R.u 2 rfl<|R.q (q.len' (fun _=>Wd.old cF) rfl Tryz.underlying25) rfl<|?_
    by_cases h3:k<l.length
    ·
      refine R.q (q.lss rfl rfl (decide_eq_true (by omega))) rfl<|R.nil ?_
      refine R.aI rfl rfl ?_
      refine R.reg rfl<|R.u 2 rfl<|?_
      obtain ⟨x2,hx2⟩:∃z,l[k]? = some z:=⟨_,List.getElem?_eq_getElem (by omega)⟩
      refine R.q (q.idx (i:=k) (fun _=>Wd.old cF) rfl rfl cG rfl hx2) rfl<|R.q (q.dx (ds:=[.int .i64 x2.ID,.int .i64 x2.ai,.int .i64 x2.Rights,.int .i64 x2.ar,.int .i64 x2.From]) (fun _=>Wd.old cF) hx2 rfl aK rfl) rfl<|?_
      refine R.s rfl (s.alloc (cs:=[.int .i64 0,.int .i64 0,.int .i64 0,.int .i64 0,.int .i64 0]) aY rfl rfl) fun b3=>?_
      refine R.s rfl (s.st (us:=[.int .i64 x2.ID,.int .i64 x2.ai,.int .i64 x2.Rights,.int .i64 x2.ar,.int .i64 x2.From]) (cs':=[.int .i64 x2.ID,.int .i64 x2.ai,.int .i64 x2.Rights,.int .i64 x2.ar,.int .i64 x2.From]) 0 _ rfl rfl rfl rfl (.inl aK) rfl rfl rfl rfl) fun _=>?_
      refine R.nil ?_
      refine R.reg rfl<|R.u 1 rfl<|R.q (q.geq rfl rfl (decide_eq_true (by omega))) rfl<|R.u 1 rfl<|R.qg rfl (q.aS (off':=4) rfl d9 rfl) rfl<|R.qg rfl (q.ld 0 rfl rfl aG rfl) rfl<|R.u 1 rfl<|?_
      by_cases h4:x2.From=id
      ·
        refine R.qg rfl (q.eql rfl rfl (beq_iff_eq.2 (by omega))) rfl<|R.u 1 rfl<|R.nil ?_
        refine R.aI rfl rfl ?_
        refine R.reg rfl<|R.u 2 rfl<|R.q (q.idx (i:=fU) (fun _=>Wd.old cF) rfl rfl cG rfl (List.getElem?_eq_getElem dP)) rfl<|R.q (q.eJ (j':=4) (fun _=>Wd.old cF) (List.getElem?_eq_getElem dP) rfl d9 rfl) rfl<|R.q (q.jU (fun _=>Wd.old cF) (List.getElem?_eq_getElem dP) rfl aG rfl) rfl<|R.q (q.aS (off':=4) rfl d9 rfl) rfl<|?_
        refine R.s rfl (s.st (us:=[.int .i64 ((l[fU]).From)]) (cs':=[.int .i64 x2.ID,.int .i64 x2.ai,.int .i64 x2.Rights,.int .i64 x2.ar,.int .i64 ((l[fU]).From)]) 0 _ rfl rfl rfl rfl (.inr ⟨aG,rfl⟩) rfl rfl rfl rfl) fun _=>?_
        refine R.nil ?_
        refine R.reg rfl<|R.q (q.aS (off':=0) rfl bK rfl) rfl<|R.q (q.ld 0 rfl rfl aG rfl) rfl<|R.u 1 rfl<|?_
        by_cases h5:x2.ID=id
        ·
          refine R.q (q.neq rfl rfl (bne_eq_false_iff_eq.2 (by omega))) rfl<|R.nil ?_
          refine R.aH rfl rfl ?_
          refine R.reg rfl<|R.u 1 rfl<|R.q (q.add (r:=((k+1:Nat):Int)) rfl rfl (wr (by omega))) rfl<|R.u 1 rfl<|R.nil ?_
          refine R.back (k+1,v,acc) rfl (by (exact ⟨by omega,by rw [HA,mE hx2 (by first|assumption|(have:= ‹¬_≠_›;omega))]⟩)) (by dsimp only;omega) ⟨rfl,rfl,rfl,rfl,rfl,trivial⟩ (fun _=>Wd.pick [1] [] rfl rfl rfl)
        ·
          refine R.q (q.neq rfl rfl (bne_iff_ne.2 (by omega))) rfl<|R.nil ?_
          refine R.aI rfl rfl ?_
          refine R.reg rfl<|R.u 1 rfl<|R.q (q.bI 0 rfl rfl aK) rfl<|?_
          refine R.s rfl (s.bs (l:=([(⟨x2.ID,x2.ai,x2.Rights,x2.ar,(l[fU]).From⟩:ao)]:List ao)) cG aY rfl rfl rfl rfl rfl rfl rfl) fun b4=>?_
          refine R.s rfl (s.app (l2:=[(⟨x2.ID,x2.ai,x2.Rights,x2.ar,(l[fU]).From⟩:ao)]) 2 _ rfl rfl rfl (fun _=>Wd.row 0 rfl) eH (by simp;omega) (by simp;omega) (fun _=>rfl) rfl) fun v2=>?_
          refine R.u 1 rfl<|R.nil ?_
          refine R.reg rfl<|R.u 1 rfl<|R.q (q.add (r:=((k+1:Nat):Int)) rfl rfl (wr (by omega))) rfl<|R.u 1 rfl<|R.nil ?_
          refine R.back (k+1,v2,(acc++([(⟨x2.ID,x2.ai,x2.Rights,x2.ar,(l[fU]).From⟩:ao)]))) rfl (by (exact ⟨by omega,by rw [HA,kY hx2 (by assumption),show s5 l id x2=_ from by unfold s5;rw [if_neg (by omega),hX dt (List.getElem?_eq_getElem dP),mD (by assumption)]]⟩)) (by dsimp only;omega) ⟨rfl,rfl,rfl,rfl,rfl,trivial⟩ (fun _=>Wd.pick [2] [] rfl rfl rfl)
      ·
        refine R.qg rfl (q.eql rfl rfl (beq_eq_false_iff_ne.2 (by omega))) rfl<|R.u 1 rfl<|R.nil ?_
        refine R.aH rfl rfl ?_
        refine R.reg rfl<|R.q (q.aS (off':=0) rfl bK rfl) rfl<|R.q (q.ld 0 rfl rfl aG rfl) rfl<|R.u 1 rfl<|?_
        by_cases h6:x2.ID=id
        ·
          refine R.q (q.neq rfl rfl (bne_eq_false_iff_eq.2 (by omega))) rfl<|R.nil ?_
          refine R.aH rfl rfl ?_
          refine R.reg rfl<|R.u 1 rfl<|R.q (q.add (r:=((k+1:Nat):Int)) rfl rfl (wr (by omega))) rfl<|R.u 1 rfl<|R.nil ?_
          refine R.back (k+1,v,acc) rfl (by (exact ⟨by omega,by rw [HA,mE hx2 (by first|assumption|(have:= ‹¬_≠_›;omega))]⟩)) (by dsimp only;omega) ⟨rfl,rfl,rfl,rfl,rfl,trivial⟩ (fun _=>Wd.pick [1] [] rfl rfl rfl)
        ·
          refine R.q (q.neq rfl rfl (bne_iff_ne.2 (by omega))) rfl<|R.nil ?_
          refine R.aI rfl rfl ?_
          refine R.reg rfl<|R.u 1 rfl<|R.q (q.bI 0 rfl rfl aK) rfl<|?_
          refine R.s rfl (s.bs (l:=([x2]:List ao)) cG aY rfl rfl rfl rfl rfl rfl rfl) fun b5=>?_
          refine R.s rfl (s.app (l2:=[x2]) 2 _ rfl rfl rfl (fun _=>Wd.row 0 rfl) eH (by simp;omega) (by simp;omega) (fun _=>rfl) rfl) fun v3=>?_
          refine R.u 1 rfl<|R.nil ?_
          refine R.reg rfl<|R.u 1 rfl<|R.q (q.add (r:=((k+1:Nat):Int)) rfl rfl (wr (by omega))) rfl<|R.u 1 rfl<|R.nil ?_
          refine R.back (k+1,v3,(acc++([x2]))) rfl (by (exact ⟨by omega,by rw [HA,kY hx2 (by assumption),show s5 l id x2=x2 from by unfold s5;first|rw [if_pos (by omega)] | rw [if_neg (by omega),jM (by assumption)]]⟩)) (by dsimp only;omega) ⟨rfl,rfl,rfl,rfl,rfl,trivial⟩ (fun _=>Wd.pick [2] [] rfl rfl rfl)
    ·
      refine R.q (q.lss rfl rfl (decide_eq_false (by omega))) rfl<|R.nil ?_
      refine R.aH rfl rfl ?_
      refine R.reg rfl<|R.u 2 rfl<|R.nil ?_
      exact R.ro 0 rfl Tryz.results42 rfl rfl (by (rw [HA,List.take_of_length_le (by omega)];exact o0 _ _))
end Go.Proofs.YtpipachmngdegaaGreat
end
