import Derived.Test.YtpipachmngdegaaGreatRSP22
section
namespace Go.Proofs.YtpipachmngdegaaGreat
open Go.RowKit
set_option linter.unusedVariables false
structure Made (y x:ao):Prop where
  thing:y.ai=x.ai
  has:cT y.Rights x.Rights=true
  aC:y.ar=0∨x.ar=y.ar
  sk:y.ID=x.From
theorem uc {y x:ao}(h1:(derived y x.ID x.Rights x.ar).2=0)(h2:(derived y x.ID x.Rights x.ar).1=x):Made y x:=by
  unfold derived at h1 h2
  split at h1;· simp at h1
  split at h1;· simp at h1
  split at h1;· simp at h1
  split at h1;· simp at h1
  split at h1;· simp at h1
  rename_i a b c d e
  rw [if_neg a,if_neg b,if_neg c,if_neg d,if_neg e] at h2
  have ht:=congrArg ao.ai h2
  have hb:=congrArg ao.ar h2
  have hf:=congrArg ao.From h2
  simp only [] at ht hb hf
  refine ⟨ht,by simpa using d,?_,hf⟩
  by_cases h0:x.ar=0
  · rw [if_pos h0] at hb;exact .inl (by omega)
  ·
    by_cases hy:y.ar=0
    · exact .inl hy
    ·
      right
      by_cases he:x.ar=y.ar
      · exact he
      · exact absurd ⟨h0,hy,he⟩ e
theorem pZ {y x:ao}(w:xY x)(h:Made y x):derived y x.ID x.Rights x.ar=(x,0):=by
  have:=w.vq;have:=w.vr;have:=w.x7;have:=w.x8
  unfold derived
  rw [if_neg (by rw [dG w.vq w.vr];omega),if_neg (by omega),if_neg (by omega),if_neg (by rw [h.has];simp),if_neg (by rintro ⟨h1,h2,h3⟩;rcases h.aC with h4|h4 <;> omega)]
  have hb:(if x.ar=0 then y.ar else x.ar)=x.ar:=by
    split
    · rcases h.aC with h4|h4 <;> omega
    · rfl
  rw [hb,h.thing,h.sk]
theorem s9:∀a b c:Fin 8,cT ((a:Nat):Int) ((b:Nat):Int)=true→cT ((b:Nat):Int) ((c:Nat):Int)=true→cT ((a:Nat):Int) ((c:Nat):Int)=true:=by decide
theorem yx {a b c:Int}(a0:0≤a)(a7:a≤7)(b0:0≤b)(b7:b≤7)(c0:0≤c)(c7:c≤7)(h:cT a b=true)(k:cT b c=true):cT a c=true:=by
  obtain ⟨x,rfl⟩:=ml a0 a7;obtain ⟨y,rfl⟩:=ml b0 b7;obtain ⟨z,rfl⟩:=ml c0 c7;exact s9 x y z h k
structure k0 (l:List ao):Prop where
  ok:∀x∈l,cK x=0
  rise:l.Pairwise (fun x y=>x.ID<y.ID)
  made:∀x∈l,x.From≠0 → ∃y∈l,Made y x
theorem ct.fault {l:List ao}(h:ct l){x:ao}(hx:x∈l):cK x=0:=by
  obtain ⟨j,hj⟩:=List.mem_iff_getElem?.1 hx
  rcases iZ x with h1|h1
  · exact h1
  · have:=hO hj (by omega);rw [h.steps j (List.getElem?_eq_some_iff.1 hj).1] at this;omega
theorem ct.is {l:List ao}(h:ct l):k0 l:=by
  refine ⟨fun x hx=>h.fault hx,?_,fun x hx h0=>?_⟩
  ·
    rw [List.pairwise_iff_getElem]
    intro i j hi hj hij
    exact h.rise j i hij (List.getElem?_eq_getElem hj) (List.getElem?_eq_getElem hi)
  ·
    obtain ⟨k,hk⟩:=List.mem_iff_getElem?.1 hx
    obtain ⟨j,y,hj,hy,_,h1,h2⟩:=mH hk (h.steps k (List.getElem?_eq_some_iff.1 hk).1) h0
    exact ⟨y,List.mem_of_getElem? hy,uc h1 h2⟩
theorem jx {l:List ao}(h:l.Pairwise (fun x y=>x.ID<y.ID)){i j:Nat}{x y:ao}(hi:l[i]? = some x)(hj:l[j]? = some y)(hij:i<j):x.ID<y.ID:=by
  rw [List.pairwise_iff_getElem] at h
  obtain ⟨h1,rfl⟩:=List.getElem?_eq_some_iff.1 hi
  obtain ⟨h2,rfl⟩:=List.getElem?_eq_some_iff.1 hj
  exact h i j h1 h2 hij
theorem k0.ok' {l:List ao}(h:k0 l):ct l:=by
  refine my fun k hk=>?_
  have hx:l[k]? = some l[k]:=List.getElem?_eq_getElem hk
  have hm:l[k]∈l:=List.getElem_mem hk
  have h0:=h.ok _ hm
  have w:=ob h0
  have hsh:¬ 0<k ∨ ∃y,l[k-1]? = some y∧y.ID<(l[k]).ID:=by
    by_cases h1:0<k
    ·
      have hy:l[k-1]? = some (l[k-1]'(by omega)):=List.getElem?_eq_getElem (by omega)
      exact .inr ⟨_,hy,jx h.rise hy hx (by omega)⟩
    · exact .inl h1
  by_cases hf:(l[k]).From=0
  · exact pV hx h0 hsh hf
  ·
    obtain ⟨y,hy,hmd⟩:=h.made _ hm hf
    obtain ⟨j,hj⟩:=List.mem_iff_getElem?.1 hy
    have hjl:j<l.length:=(List.getElem?_eq_some_iff.1 hj).1
    have hjk:j<k:=by
      rcases Nat.lt_trichotomy j k with h1|h1|h1
      · exact h1
      ·
        subst h1;rw [hj] at hx;injection hx with hx
        have:=hmd.sk;have:=w.xG;rw [hx] at *;omega
      · have:=jx h.rise hx hj h1;have:=hmd.sk;have:=w.xG;omega
    have hfw:cb (l.take k) (l[k]).From=(j:Int):=by
      have hl:j<(l.take k).length:=by rw [List.length_take];omega
      have hge:(l.take k)[j]=y:=by
        rw [List.getElem_take];exact (List.getElem?_eq_some_iff.1 hj).2
      refine s3 hl (by rw [hge];exact hmd.sk) (fun i z hi hz=>?_)
      have hz':l[i]? = some z:=by rw [List.getElem?_take,if_pos (by omega)] at hz;exact hz
      have:=jx h.rise hz' hj hi
      have:=hmd.sk;omega
    rw [mA hx h0 hsh hf hfw hjk hj]
    have:=pZ w hmd
    rw [this];simp
theorem nB {l:List ao}(h:ct l){a b:Int}(ha:0≤cb l a)(hb:0≤cb l b):b∈cZ a l↔a∈above l b:=by
  rw [qZ h]
  have ha0:=h.lv ha
  have hb0:=h.lv hb
  unfold beneath jY above
  rw [← o6 h ha _ hb0.2.2.1]
  simp only [List.mem_map,List.mem_filter,vW,Bool.and_eq_true,decide_eq_true_eq]
  obtain ⟨y,_,hy2,hy3,hy4⟩:=iN hb
  constructor
  ·
    rintro ⟨x,⟨hx,hu,_⟩,hid⟩
    have:x=y:=h.inj hx hy3 (by omega)
    subst this;rw [hy4];exact hu
  ·
    intro hu
    exact ⟨y,⟨hy3,by rw [← hy4];exact hu,ha0.1⟩,hy2⟩
theorem ey {l:List ao}{id:Int}{x:ao}:x∈without l id ↔ ∃y∈l,y.ID≠id∧x=gR id (dB l id) y:=by
  unfold without oX
  simp only [List.mem_map,List.mem_filter,decide_eq_true_eq]
  constructor
  · rintro ⟨y,⟨h1,h2⟩,rfl⟩;exact ⟨y,h1,h2,rfl⟩
  · rintro ⟨y,h1,h2,rfl⟩;exact ⟨y,⟨h1,h2⟩,rfl⟩
theorem f8 {id f:Int}(x:ao):(gR id f x).ID=x.ID∧(gR id f x).ai=x.ai∧(gR id f x).Rights=x.Rights∧(gR id f x).ar=x.ar:=by unfold gR;split <;> exact ⟨rfl,rfl,rfl,rfl⟩
theorem k2 {id f:Int}(x:ao):(gR id f x).From=if x.From=id then f else x.From:=by unfold gR;split <;> rfl
theorem ud {x:ao}(h:cK x=0){f:Int}(h0:0≤f)(h1:f<x.ID):cK { x with From:=f }=0:=by
  have w:=ob h
  rcases eC { x with From:=f } with ⟨h2,h3⟩ | ⟨h2,_⟩
  ·
    have:=w.id1;have:=w.yw;have:=w.xZ;have:=w.x6;have:=w.x7;have:=w.x8;have:=w.vq;have:=w.vr
    simp only [] at h3;omega
  · exact h2
theorem uf {id f:Int}{y x:ao}(h:Made y x)(hf:x.From≠id):Made (gR id f y) (gR id f x):=by
  have hy:=f8 (id:=id) (f:=f) y
  have hx:=f8 (id:=id) (f:=f) x
  refine ⟨by rw [hy.2.1,hx.2.1];exact h.thing,by rw [hy.2.2.1,hx.2.2.1];exact h.has,by rw [hy.2.2.2,hx.2.2.2];exact h.aC,?_⟩
  rw [hy.1,k2,if_neg hf];exact h.sk
theorem ct.wo {l:List ao}(h:ct l)(id:Int):ct (without l id):=by
  have hi:=h.is
  refine k0.ok' ⟨fun x hx=>?_,?_,fun x hx h0=>?_⟩
  ·
    obtain ⟨y,hy,hne,rfl⟩:=ey.1 hx
    have yy:=hi.ok y hy
    unfold gR
    split
    ·
      rename_i he
      have w:=ob yy
      have:=w.xF;have:=w.xG
      have hid:0≤dB l id∧(0<dB l id→dB l id<id):=by
        rcases Int.lt_or_le (cb l id) 0 with h1|h1
        · rw [j7 h1];omega
        · have:=h.lv h1;omega
      exact ud yy hid.1 (by omega)
    · exact yy
  ·
    unfold without oX
    rw [List.pairwise_map]
    refine (hi.rise.filter _).imp ?_
    intro a b hab
    rw [(f8 a).1,(f8 b).1];exact hab
  ·
    obtain ⟨y,hy,hne,rfl⟩:=ey.1 hx
    rw [k2] at h0
    by_cases he:y.From=id
    ·
      rw [if_pos he] at h0
      have hid:0≤cb l id:=by
        rcases Int.lt_or_le (cb l id) 0 with h1|h1
        · rw [j7 h1] at h0;exact absurd rfl h0
        · exact h1
      obtain ⟨p,_,hp2,hp3,yz⟩:=iN hid
      have zu:=h.lv hid
      obtain ⟨z,hz,xH⟩:=hi.made p hp3 (by rw [← yz];exact h0)
      have hy0:y.From≠0:=by rw [he];omega
      obtain ⟨p',hp',hpy⟩:=hi.made y hy hy0
      have:p'=p:=h.inj hp' hp3 (by rw [hpy.sk,he,hp2])
      subst this
      have yA:z.ID≠id:=by have:=xH.sk;rw [← yz] at this;omega
      refine ⟨gR id (dB l id) z,ey.2 ⟨z,hz,yA,rfl⟩,?_⟩
      have wz:=h.mem hz;have wp:=h.mem hp3;have wy:=h.mem hy
      have hz':=f8 (id:=id) (f:=dB l id) z
      have hy':=f8 (id:=id) (f:=dB l id) y
      refine ⟨by rw [hz'.2.1,hy'.2.1,xH.thing,hpy.thing],by rw [hz'.2.2.1,hy'.2.2.1];exact yx wz.vq wz.vr wp.vq wp.vr wy.vq wy.vr xH.has hpy.has,?_,?_⟩
      ·
        rw [hz'.2.2.2,hy'.2.2.2]
        rcases xH.aC with h1|h1
        · exact .inl h1
        ·
          rcases hpy.aC with h2|h2
          · exact .inl (by omega)
          · exact .inr (by omega)
      · rw [hz'.1,k2,if_pos he,xH.sk,yz]
    ·
      rw [if_neg he] at h0
      obtain ⟨p,hp,hpy⟩:=hi.made y hy h0
      exact ⟨gR id (dB l id) p,ey.2 ⟨p,hp,by rw [hpy.sk];exact he,rfl⟩,uf hpy he⟩
theorem ta {l:List ao}(h:ct l)(id:Int):oY l id=without l id:=by
  unfold oY
  split
  ·
    rename_i h1
    unfold without oX
    rw [j7 h1]
    have:∀x∈l.filter (fun x=>decide (x.ID≠id)),gR id 0 x=x:=by
      intro x hx
      have hxl:=(List.mem_filter.1 hx).1
      unfold gR;split
      ·
        rename_i he
        by_cases h0:x.From=0
        · cases x;simp only [] at h0;subst h0;rfl
        ·
          obtain ⟨y,hy,hm⟩:=h.is.made x hxl h0
          have:=gL hy;rw [hm.sk,he] at this;omega
      · rfl
    exact (List.map_congr_left this).trans (List.map_id' _) |>.symm
  · rfl
end Go.Proofs.YtpipachmngdegaaGreat
end
