import Derived.Test.YtbkfhjaibhnkmaaGreatDoorTRP19
import Derived.Test.YtbkfhjaibhnkmaaGreatDoorTRP20
section
namespace Go.Proofs.YtbkfhjaibhnkmaaGreatDoor
open Go Go.RowKit
set_option linter.unusedVariables false
set_option maxRecDepth 100000
theorem pe (bf:Value)(l:List ak)(id:Int)(w:World)(dx:Sl w bf l)(hl:l.length≤1000000):Calls Tryz.prog 75 #[bf,.int .i64 id] w fun e w' => ∃u,e = .returned u∧Own w.heap.size 3 w' u (dv id l)∧Ext w w':=by
  have pC:=dx.dQ
  refine R.enter (n:=37) (vs:=[bf,.int .i64 id]) [] [(0,bf),(1,.int .i64 id)] Tryz.func75 rfl rfl rfl rfl ?_
  refine R.reg rfl<|R.u 1 rfl<|R.nil ?_
  refine R.reg rfl<|?_
  refine R.s rfl (s.mk rfl) fun b1=>?_
  refine R.u 1 rfl<|?_
  refine R.s rfl (s.Bo 0 _ rfl rfl rfl rfl kY rfl) fun _=>?_
  refine R.u 2 rfl<|R.nil ?_
  refine R.reg rfl<|R.u 1 rfl<|R.nil ?_
  refine R.reg rfl<|R.u 1 rfl<|R.q (q.len' (fun _=>Wd.old dx) rfl Tryz.underlying27) rfl<|R.u 1 rfl<|R.nil ?_
  refine R.row0 (α:=Int) 3 ?_
  refine R.loop (fun g_:Nat×Value×(List Int)×(List Int)=>[(5,.map (some b1)),(6,g_.2.1),(12,bf),(13,.int .i64 (l.length:Int)),(14,.int .i64 (g_.1:Int))]) (fun g_:Nat×Value×(List Int)×(List Int)=>[ah.row 3 g_.2.1 (g_.2.2.1:List Int),ah.iQ b1 g_.2.2.2]) (fun g_:Nat×Value×(List Int)×(List Int)=>[]) (fun g_:Nat×Value×(List Int)×(List Int)=>g_.1≤l.length∧g_.2.2.1=dv id (l.take g_.1) ∧ ∀z,z∈g_.2.2.2↔z=id∨z∈g_.2.2.1) (fun g_:Nat×Value×(List Int)×(List Int)=>l.length-g_.1) (0,(.slice none 0 0),[],[id]) rfl (by exact ⟨by simp,by simp [dv],by simp⟩) ⟨rfl,rfl,rfl,rfl,rfl,trivial⟩ (fun _=>Wd.pick [0,1] [] rfl rfl rfl) ?_
  rintro ⟨k,v,acc,S⟩ ⟨hk,HA,HS⟩
  dsimp only at *
  have hal:acc.length≤k:=by rw [HA];exact Nat.le_trans (uZ _ _) (List.length_take_le _ _)
  refine R.reg rfl<|?_
  by_cases h1:k<l.length
  ·
    refine R.q (q.lss rfl rfl (decide_eq_true (by omega))) rfl<|R.nil ?_
    refine R.aE rfl rfl ?_
    refine R.reg rfl<|?_
    obtain ⟨x1,hx1⟩:∃z,l[k]? = some z:=⟨_,List.getElem?_eq_getElem (by omega)⟩
    refine R.q (q.idx (i:=k) (fun _=>Wd.old dx) rfl rfl ct rfl hx1) rfl<|R.q (q.dY (ds:=[.int .i64 x1.ID,.int .i64 x1.ai,.int .i64 x1.Rights,.int .i64 x1.ar,.int .i64 x1.From]) (fun _=>Wd.old dx) hx1 rfl aN rfl) rfl<|?_
    refine R.s rfl (s.alloc (cs:=[.int .i64 0,.int .i64 0,.int .i64 0,.int .i64 0,.int .i64 0]) br rfl rfl) fun b2=>?_
    refine R.s rfl (s.st (us:=[.int .i64 x1.ID,.int .i64 x1.ai,.int .i64 x1.Rights,.int .i64 x1.ar,.int .i64 x1.From]) (cs':=[.int .i64 x1.ID,.int .i64 x1.ai,.int .i64 x1.Rights,.int .i64 x1.ar,.int .i64 x1.From]) 0 _ rfl rfl rfl rfl (.inl aN) rfl rfl rfl rfl) fun _=>?_
    refine R.nil ?_
    refine R.reg rfl<|R.u 1 rfl<|R.q (q.aX (off':=4) rfl dP rfl) rfl<|R.q (q.ld 0 rfl rfl aA rfl) rfl<|?_
    by_cases h2:x1.From∈S
    ·
      refine R.q (q.xB 2 rfl rfl rfl kY (decide_eq_true h2)) rfl<|R.u 1 rfl<|R.qg rfl (q.aX (off':=4) rfl dP rfl) rfl<|R.qg rfl (q.ld 0 rfl rfl aA rfl) rfl<|?_
      by_cases h3:0<x1.From
      ·
        refine R.qg rfl (q.gtr rfl rfl (decide_eq_true (by omega))) rfl<|R.u 1 rfl<|R.nil ?_
        refine R.aE rfl rfl ?_
        refine R.reg rfl<|R.u 1 rfl<|R.q (q.aX (off':=0) rfl bu rfl) rfl<|R.q (q.ld 0 rfl rfl aA rfl) rfl<|?_
        refine R.s rfl (s.Cl 2 _ rfl rfl rfl rfl kY rfl) fun _=>?_
        refine R.nil ?_
        refine R.reg rfl<|R.u 1 rfl<|R.q (q.aX (off':=0) rfl bu rfl) rfl<|R.q (q.ld 0 rfl rfl aA rfl) rfl<|?_
        refine R.s rfl (s.bs (l:=([x1.ID]:List Int)) cG iR rfl rfl rfl rfl rfl rfl rfl) fun b3=>?_
        refine R.s rfl (s.app (l2:=[x1.ID]) 2 _ rfl rfl rfl (fun _=>Wd.row 0 rfl) jT (by simp;omega) (by simp;omega) (fun _=>rfl) rfl) fun v1=>?_
        refine R.u 1 rfl<|R.nil ?_
        refine R.reg rfl<|R.q (q.add (r:=((k+1:Nat):Int)) rfl rfl (wr (by omega))) rfl<|R.u 1 rfl<|R.nil ?_
        refine R.back (k+1,v1,(acc++([x1.ID])),(x1.ID::S)) rfl (by (exact ⟨by omega,by rw [HA,pY hx1 (HA▸HS) (by assumption) (by assumption)],by intro z;rw [List.mem_cons,HS,List.mem_append,List.mem_singleton];constructor <;> (intro h;rcases h with h|h|h <;> simp [h])⟩)) (by dsimp only;omega) ⟨rfl,rfl,rfl,rfl,rfl,trivial⟩ (fun _=>Wd.pick [2,3] [] rfl rfl rfl)
      ·
        refine R.qg rfl (q.gtr rfl rfl (decide_eq_false (by omega))) rfl<|R.u 1 rfl<|R.nil ?_
        refine R.aH rfl rfl ?_
        refine R.reg rfl<|R.q (q.add (r:=((k+1:Nat):Int)) rfl rfl (wr (by omega))) rfl<|R.u 1 rfl<|R.nil ?_
        refine R.back (k+1,v,acc,S) rfl (by (exact ⟨by omega,by rw [HA,lF hx1 (HA▸HS) (by first|(intro hh;exact absurd hh.1 (by assumption))|(intro hh;exact absurd hh.2 (by assumption)))],HS⟩)) (by dsimp only;omega) ⟨rfl,rfl,rfl,rfl,rfl,trivial⟩ (fun _=>Wd.pick [1,2] [] rfl rfl rfl)
    ·
      refine R.q (q.xB 2 rfl rfl rfl kY (decide_eq_false h2)) rfl<|R.u 5 rfl<|R.nil ?_
      refine R.aH rfl rfl ?_
      refine R.reg rfl<|R.q (q.add (r:=((k+1:Nat):Int)) rfl rfl (wr (by omega))) rfl<|R.u 1 rfl<|R.nil ?_
      refine R.back (k+1,v,acc,S) rfl (by (exact ⟨by omega,by rw [HA,lF hx1 (HA▸HS) (by first|(intro hh;exact absurd hh.1 (by assumption))|(intro hh;exact absurd hh.2 (by assumption)))],HS⟩)) (by dsimp only;omega) ⟨rfl,rfl,rfl,rfl,rfl,trivial⟩ (fun _=>Wd.pick [1,2] [] rfl rfl rfl)
  ·
    refine R.q (q.lss rfl rfl (decide_eq_false (by omega))) rfl<|R.nil ?_
    refine R.aH rfl rfl ?_
    refine R.reg rfl<|R.u 2 rfl<|R.nil ?_
    exact R.ro 0 rfl Tryz.results75 rfl rfl (by (rw [HA,List.take_of_length_le (by omega)]))
end Go.Proofs.YtbkfhjaibhnkmaaGreatDoor
end
section
namespace Go.Proofs.YtbkfhjaibhnkmaaGreatDoor
open Go.RowKit
set_option linter.unusedVariables false
structure Made (y x:ak):Prop where
  thing:y.ai=x.ai
  has:eY y.Rights x.Rights=true
  aT:y.ar=0∨x.ar=y.ar
  vd:y.ID=x.From
theorem wQ {y x:ak}(h1:(derived y x.ID x.Rights x.ar).2=0)(h2:(derived y x.ID x.Rights x.ar).1=x):Made y x:=by
  unfold derived at h1 h2
  split at h1;· simp at h1
  split at h1;· simp at h1
  split at h1;· simp at h1
  split at h1;· simp at h1
  split at h1;· simp at h1
  rename_i a b c d e
  rw [if_neg a,if_neg b,if_neg c,if_neg d,if_neg e] at h2
  have ht:=congrArg ak.ai h2
  have hb:=congrArg ak.ar h2
  have hf:=congrArg ak.From h2
  simp only [] at ht hb hf
  refine ⟨ht,by simpa using d,?_,hf⟩
  by_cases h0:x.ar=0
  · rw [if_pos h0] at hb;exact .inl (by omega)
  ·
    by_cases hy:y.ar=0
    · exact .inl hy
    ·
      right
      by_cases he:x.ar=y.ar
      · exact he
      · exact absurd ⟨h0,hy,he⟩ e
theorem qU {y x:ak}(w:zt x)(h:Made y x):derived y x.ID x.Rights x.ar=(x,0):=by
  have:=w.uX;have:=w.uY;have:=w.yJ;have:=w.yK
  unfold derived
  rw [if_neg (by rw [dz w.uX w.uY];omega),if_neg (by omega),if_neg (by omega),if_neg (by rw [h.has];simp),if_neg (by rintro ⟨h1,h2,h3⟩;rcases h.aT with h4|h4 <;> omega)]
  have hb:(if x.ar=0 then y.ar else x.ar)=x.ar:=by
    split
    · rcases h.aT with h4|h4 <;> omega
    · rfl
  rw [hb,h.thing,h.vd]
theorem ve:∀a b c:Fin 8,eY ((a:Nat):Int) ((b:Nat):Int)=true→eY ((b:Nat):Int) ((c:Nat):Int)=true→eY ((a:Nat):Int) ((c:Nat):Int)=true:=by decide
theorem BF {a b c:Int}(a0:0≤a)(a7:a≤7)(b0:0≤b)(b7:b≤7)(c0:0≤c)(c7:c≤7)(h:eY a b=true)(k:eY b c=true):eY a c=true:=by
  obtain ⟨x,rfl⟩:=qQ a0 a7;obtain ⟨y,rfl⟩:=qQ b0 b7;obtain ⟨z,rfl⟩:=qQ c0 c7;exact ve x y z h k
structure lG (l:List ak):Prop where
  ok:∀x∈l,bB x=0
  rise:l.Pairwise (fun x y=>x.ID<y.ID)
  made:∀x∈l,x.From≠0 → ∃y∈l,Made y x
theorem bQ.fault {l:List ak}(h:bQ l){x:ak}(hx:x∈l):bB x=0:=by
  obtain ⟨j,hj⟩:=List.mem_iff_getElem?.1 hx
  rcases fK x with h1|h1
  · exact h1
  · have:=eZ hj (by omega);rw [h.steps j (List.getElem?_eq_some_iff.1 hj).1] at this;omega
theorem bQ.is {l:List ak}(h:bQ l):lG l:=by
  refine ⟨fun x hx=>h.fault hx,?_,fun x hx h0=>?_⟩
  ·
    rw [List.pairwise_iff_getElem]
    intro i j hi hj hij
    exact h.rise j i hij (List.getElem?_eq_getElem hj) (List.getElem?_eq_getElem hi)
  ·
    obtain ⟨k,hk⟩:=List.mem_iff_getElem?.1 hx
    obtain ⟨j,y,hj,hy,_,h1,h2⟩:=nt hk (h.steps k (List.getElem?_eq_some_iff.1 hk).1) h0
    exact ⟨y,List.mem_of_getElem? hy,wQ h1 h2⟩
theorem jF {l:List ak}(h:l.Pairwise (fun x y=>x.ID<y.ID)){i j:Nat}{x y:ak}(hi:l[i]? = some x)(hj:l[j]? = some y)(hij:i<j):x.ID<y.ID:=by
  rw [List.pairwise_iff_getElem] at h
  obtain ⟨h1,rfl⟩:=List.getElem?_eq_some_iff.1 hi
  obtain ⟨h2,rfl⟩:=List.getElem?_eq_some_iff.1 hj
  exact h i j h1 h2 hij
theorem lG.ok' {l:List ak}(h:lG l):bQ l:=by
  refine jD fun k hk=>?_
  have hx:l[k]? = some l[k]:=List.getElem?_eq_getElem hk
  have hm:l[k]∈l:=List.getElem_mem hk
  have h0:=h.ok _ hm
  have w:=o9 h0
  have hsh:¬ 0<k ∨ ∃y,l[k-1]? = some y∧y.ID<(l[k]).ID:=by
    by_cases h1:0<k
    ·
      have hy:l[k-1]? = some (l[k-1]'(by omega)):=List.getElem?_eq_getElem (by omega)
      exact .inr ⟨_,hy,jF h.rise hy hx (by omega)⟩
    · exact .inl h1
  by_cases hf:(l[k]).From=0
  · exact np hx h0 hsh hf
  ·
    obtain ⟨y,hy,hmd⟩:=h.made _ hm hf
    obtain ⟨j,hj⟩:=List.mem_iff_getElem?.1 hy
    have hjl:j<l.length:=(List.getElem?_eq_some_iff.1 hj).1
    have hjk:j<k:=by
      rcases Nat.lt_trichotomy j k with h1|h1|h1
      · exact h1
      ·
        subst h1;rw [hj] at hx;injection hx with hx
        have:=hmd.vd;have:=w.yL;rw [hx] at *;omega
      · have:=jF h.rise hx hj h1;have:=hmd.vd;have:=w.yL;omega
    have hfw:bC (l.take k) (l[k]).From=(j:Int):=by
      have hl:j<(l.take k).length:=by rw [List.length_take];omega
      have hge:(l.take k)[j]=y:=by
        rw [List.getElem_take];exact (List.getElem?_eq_some_iff.1 hj).2
      refine uV hl (by rw [hge];exact hmd.vd) (fun i z hi hz=>?_)
      have hz':l[i]? = some z:=by rw [List.getElem?_take,if_pos (by omega)] at hz;exact hz
      have:=jF h.rise hz' hj hi
      have:=hmd.vd;omega
    rw [e5 hx h0 hsh hf hfw hjk hj]
    have:=qU w hmd
    rw [this];simp
theorem oD {l:List ak}(h:bQ l){a b:Int}(ha:0≤bC l a)(hb:0≤bC l b):b∈dv a l↔a∈above l b:=by
  rw [wP h]
  have ha0:=h.l7 ha
  have hb0:=h.l7 hb
  unfold beneath my above
  rw [← pZ h ha _ hb0.2.2.1]
  simp only [List.mem_map,List.mem_filter,zv,Bool.and_eq_true,decide_eq_true_eq]
  obtain ⟨y,_,hy2,hy3,hy4⟩:=iA hb
  constructor
  ·
    rintro ⟨x,⟨hx,hu,_⟩,hid⟩
    have:x=y:=h.inj hx hy3 (by omega)
    subst this;rw [hy4];exact hu
  ·
    intro hu
    exact ⟨y,⟨hy3,by rw [← hy4];exact hu,ha0.1⟩,hy2⟩
theorem ei {l:List ak}{id:Int}{x:ak}:x∈without l id ↔ ∃y∈l,y.ID≠id∧x=gW id (dj l id) y:=by
  unfold without qR
  simp only [List.mem_map,List.mem_filter,decide_eq_true_eq]
  constructor
  · rintro ⟨y,⟨h1,h2⟩,rfl⟩;exact ⟨y,h1,h2,rfl⟩
  · rintro ⟨y,h1,h2,rfl⟩;exact ⟨y,⟨h1,h2⟩,rfl⟩
theorem fL {id f:Int}(x:ak):(gW id f x).ID=x.ID∧(gW id f x).ai=x.ai∧(gW id f x).Rights=x.Rights∧(gW id f x).ar=x.ar:=by unfold gW;split <;> exact ⟨rfl,rfl,rfl,rfl⟩
theorem lH {id f:Int}(x:ak):(gW id f x).From=if x.From=id then f else x.From:=by unfold gW;split <;> rfl
theorem wR {x:ak}(h:bB x=0){f:Int}(h0:0≤f)(h1:f<x.ID):bB { x with From:=f }=0:=by
  have w:=o9 h
  rcases ea { x with From:=f } with ⟨h2,h3⟩ | ⟨h2,_⟩
  ·
    have:=w.id1;have:=w.xU;have:=w.yH;have:=w.yI;have:=w.yJ;have:=w.yK;have:=w.uX;have:=w.uY
    simp only [] at h3;omega
  · exact h2
theorem wS {id f:Int}{y x:ak}(h:Made y x)(hf:x.From≠id):Made (gW id f y) (gW id f x):=by
  have hy:=fL (id:=id) (f:=f) y
  have hx:=fL (id:=id) (f:=f) x
  refine ⟨by rw [hy.2.1,hx.2.1];exact h.thing,by rw [hy.2.2.1,hx.2.2.1];exact h.has,by rw [hy.2.2.2,hx.2.2.2];exact h.aT,?_⟩
  rw [hy.1,lH,if_neg hf];exact h.vd
theorem bQ.wo {l:List ak}(h:bQ l)(id:Int):bQ (without l id):=by
  have hi:=h.is
  refine lG.ok' ⟨fun x hx=>?_,?_,fun x hx h0=>?_⟩
  ·
    obtain ⟨y,hy,hne,rfl⟩:=ei.1 hx
    have BG:=hi.ok y hy
    unfold gW
    split
    ·
      rename_i he
      have w:=o9 BG
      have:=w.zu;have:=w.yL
      have hid:0≤dj l id∧(0<dj l id→dj l id<id):=by
        rcases Int.lt_or_le (bC l id) 0 with h1|h1
        · rw [nu h1];omega
        · have:=h.l7 h1;omega
      exact wR BG hid.1 (by omega)
    · exact BG
  ·
    unfold without qR
    rw [List.pairwise_map]
    refine (hi.rise.filter _).imp ?_
    intro a b hab
    rw [(fL a).1,(fL b).1];exact hab
  ·
    obtain ⟨y,hy,hne,rfl⟩:=ei.1 hx
    rw [lH] at h0
    by_cases he:y.From=id
    ·
      rw [if_pos he] at h0
      have hid:0≤bC l id:=by
        rcases Int.lt_or_le (bC l id) 0 with h1|h1
        · rw [nu h1] at h0;exact absurd rfl h0
        · exact h1
      obtain ⟨p,_,hp2,hp3,BH⟩:=iA hid
      have CF:=h.l7 hid
      obtain ⟨z,hz,AE⟩:=hi.made p hp3 (by rw [← BH];exact h0)
      have hy0:y.From≠0:=by rw [he];omega
      obtain ⟨p',hp',hpy⟩:=hi.made y hy hy0
      have:p'=p:=h.inj hp' hp3 (by rw [hpy.vd,he,hp2])
      subst this
      have BJ:z.ID≠id:=by have:=AE.vd;rw [← BH] at this;omega
      refine ⟨gW id (dj l id) z,ei.2 ⟨z,hz,BJ,rfl⟩,?_⟩
      have wz:=h.mem hz;have wp:=h.mem hp3;have wy:=h.mem hy
      have hz':=fL (id:=id) (f:=dj l id) z
      have hy':=fL (id:=id) (f:=dj l id) y
      refine ⟨by rw [hz'.2.1,hy'.2.1,AE.thing,hpy.thing],by rw [hz'.2.2.1,hy'.2.2.1];exact BF wz.uX wz.uY wp.uX wp.uY wy.uX wy.uY AE.has hpy.has,?_,?_⟩
      ·
        rw [hz'.2.2.2,hy'.2.2.2]
        rcases AE.aT with h1|h1
        · exact .inl h1
        ·
          rcases hpy.aT with h2|h2
          · exact .inl (by omega)
          · exact .inr (by omega)
      · rw [hz'.1,lH,if_pos he,AE.vd,BH]
    ·
      rw [if_neg he] at h0
      obtain ⟨p,hp,hpy⟩:=hi.made y hy h0
      exact ⟨gW id (dj l id) p,ei.2 ⟨p,hp,by rw [hpy.vd];exact he,rfl⟩,wS hpy he⟩
end Go.Proofs.YtbkfhjaibhnkmaaGreatDoor
end
