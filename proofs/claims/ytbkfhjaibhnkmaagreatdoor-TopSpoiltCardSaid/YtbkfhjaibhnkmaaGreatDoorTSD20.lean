import Derived.Test.YtbkfhjaibhnkmaaGreatDoorTSD18
import Derived.Test.YtbkfhjaibhnkmaaGreatDoorTSD19
section
namespace Go.Proofs.YtbkfhjaibhnkmaaGreatDoor
open Go Go.RowKit
set_option linter.unusedVariables false
set_option maxRecDepth 100000
theorem qu (bm:Value)(l:List aj)(id:Int)(w:World)(cp:Sl w bm l)(hl:l.length≤1000000):Calls Tryz.prog 75 #[bm,iV id] w fun e w' => ∃u,e = .returned u∧Own w.heap.size 3 w' u (dG id l)∧Ext w w':=by
 have ql:=cp.dH
 refine R.enter (n:=37) (vs:=[bm,iV id]) [] [(0,bm),(1,iV id)] Tryz.func75 rfl rfl rfl rfl ?_
 refine R.reg rfl<|R.u 1 rfl<|R.nil ?_
 refine R.reg rfl<|R.s rfl (s.mk rfl) fun b1=>R.u 1 rfl<|R.s rfl (s.Dc 0 _ rfl rfl rfl rfl lO rfl) fun _=>R.u 2 rfl<|R.nil ?_
 refine R.reg rfl<|R.u 1 rfl<|R.nil ?_
 refine R.reg rfl<|R.u 1 rfl<|R.q (q.len' (fun _=>Wd.old cp) rfl Tryz.underlying27) rfl<|R.u 1 rfl<|R.nil ?_
 refine R.row0 (α:=Int) 3 ?_
 refine R.loop (fun g_:Nat×Value×(List Int)×(List Int)=>[(5,.map (some b1)),(6,g_.2.1),(12,bm),(13,iV (l.length:Int)),(14,iV (g_.1:Int))]) (fun g_:Nat×Value×(List Int)×(List Int)=>[ag.row 3 g_.2.1 (g_.2.2.1:List Int),ag.jx b1 g_.2.2.2]) (fun g_:Nat×Value×(List Int)×(List Int)=>[]) (fun g_:Nat×Value×(List Int)×(List Int)=>g_.1≤l.length∧g_.2.2.1=dG id (l.take g_.1) ∧ ∀z,z∈g_.2.2.2↔z=id∨z∈g_.2.2.1) (fun g_:Nat×Value×(List Int)×(List Int)=>l.length-g_.1) (0,(nS),[],[id]) rfl (by exact ⟨by simp,by simp [dG],by simp⟩) ⟨rfl,rfl,rfl,rfl,rfl,trivial⟩ (fun _=>Wd.pick [0,1] [] rfl rfl rfl) ?_
 rintro ⟨k,v,acc,S⟩ ⟨hk,HA,HS⟩
 dsimp only at *
 have hal:acc.length≤k:=by rw [HA];exact Nat.le_trans (wv _ _) (List.length_take_le _ _)
 refine R.reg rfl<|?_
 by_cases h1:k<l.length
 ·
  refine R.q (q.lss rfl rfl (decide_eq_true (by omega))) rfl<|R.nil ?_
  refine R.aD rfl rfl ?_
  refine R.reg rfl<|?_
  obtain ⟨x1,hx1⟩:∃z,l[k]? = some z:=⟨_,List.getElem?_eq_getElem (by omega)⟩
  refine R.q (q.idx (i:=k) (fun _=>Wd.old cp) rfl rfl cK rfl hx1) rfl<|R.q (q.dD (ds:=aA x1) (fun _=>Wd.old cp) hx1 rfl aQ rfl) rfl<|R.s rfl (s.alloc (cs:=dw) bE rfl rfl) fun b2=>R.s rfl (s.st (us:=aA x1) (cs':=aA x1) 0 _ rfl rfl rfl rfl (.inl aQ) rfl rfl rfl rfl) fun _=>R.nil ?_
  refine R.reg rfl<|R.u 1 rfl<|R.q (q.a8 (off':=4) rfl eh rfl) rfl<|R.q (q.ld 0 rfl rfl av rfl) rfl<|?_
  by_cases h2:x1.From∈S
  ·
   refine R.q (q.yY 2 rfl rfl rfl lO (decide_eq_true h2)) rfl<|R.u 1 rfl<|R.qg rfl (q.a8 (off':=4) rfl eh rfl) rfl<|R.qg rfl (q.ld 0 rfl rfl av rfl) rfl<|?_
   by_cases h3:0<x1.From
   ·
    refine R.qg rfl (q.gtr rfl rfl (decide_eq_true (by omega))) rfl<|R.u 1 rfl<|R.nil ?_
    refine R.aD rfl rfl ?_
    refine R.reg rfl<|R.u 1 rfl<|R.q (q.a8 (off':=0) rfl bH rfl) rfl<|R.q (q.ld 0 rfl rfl av rfl) rfl<|R.s rfl (s.Ed 2 _ rfl rfl rfl rfl lO rfl) fun _=>R.nil ?_
    refine R.reg rfl<|R.u 1 rfl<|R.q (q.a8 (off':=0) rfl bH rfl) rfl<|R.q (q.ld 0 rfl rfl av rfl) rfl<|R.s rfl (s.bs (l:=([x1.ID]:List Int)) ct iH rfl rfl rfl rfl rfl rfl rfl) fun b3=>R.s rfl (s.app (l2:=[x1.ID]) 2 _ rfl rfl rfl (fun _=>Wd.row 0 rfl) jz (by simp;omega) (by simp;omega) (fun _=>rfl) rfl) fun v1=>R.u 1 rfl<|R.nil ?_
    refine R.reg rfl<|R.q (q.add (r:=((k+1:Nat):Int)) rfl rfl (wr (by omega))) rfl<|R.u 1 rfl<|R.nil ?_
    refine R.back (k+1,v1,(acc++([x1.ID])),(x1.ID::S)) rfl (by (exact ⟨by omega,by rw [HA,rj hx1 (HA▸HS) ‹_› ‹_›],by intro z;rw [List.mem_cons,HS,List.mem_append,List.mem_singleton];constructor <;> (intro h;rcases h with h|h|h <;> simp [h])⟩)) (by dsimp only;omega) ⟨rfl,rfl,rfl,rfl,rfl,trivial⟩ (fun _=>Wd.pick [2,3] [] rfl rfl rfl)
   ·
    refine R.qg rfl (q.gtr rfl rfl (decide_eq_false (by omega))) rfl<|R.u 1 rfl<|R.nil ?_
    refine R.aI rfl rfl ?_
    refine R.reg rfl<|R.q (q.add (r:=((k+1:Nat):Int)) rfl rfl (wr (by omega))) rfl<|R.u 1 rfl<|R.nil ?_
    refine R.back (k+1,v,acc,S) rfl (by (exact ⟨by omega,by rw [HA,mD hx1 (HA▸HS) (by first|(intro hh;exact absurd hh.1 ‹_›)|(intro hh;exact absurd hh.2 ‹_›))],HS⟩)) (by dsimp only;omega) ⟨rfl,rfl,rfl,rfl,rfl,trivial⟩ (fun _=>Wd.pick [1,2] [] rfl rfl rfl)
  ·
   refine R.q (q.yY 2 rfl rfl rfl lO (decide_eq_false h2)) rfl<|R.u 5 rfl<|R.nil ?_
   refine R.aI rfl rfl ?_
   refine R.reg rfl<|R.q (q.add (r:=((k+1:Nat):Int)) rfl rfl (wr (by omega))) rfl<|R.u 1 rfl<|R.nil ?_
   refine R.back (k+1,v,acc,S) rfl (by (exact ⟨by omega,by rw [HA,mD hx1 (HA▸HS) (by first|(intro hh;exact absurd hh.1 ‹_›)|(intro hh;exact absurd hh.2 ‹_›))],HS⟩)) (by dsimp only;omega) ⟨rfl,rfl,rfl,rfl,rfl,trivial⟩ (fun _=>Wd.pick [1,2] [] rfl rfl rfl)
 ·
  refine R.q (q.lss rfl rfl (decide_eq_false (by omega))) rfl<|R.nil ?_
  refine R.aI rfl rfl ?_
  refine R.reg rfl<|R.u 2 rfl<|R.nil ?_
  exact R.ro 0 rfl Tryz.results75 rfl rfl (by (rw [HA,List.take_of_length_le (by omega)]))
end Go.Proofs.YtbkfhjaibhnkmaaGreatDoor
end
section
namespace Go.Proofs.YtbkfhjaibhnkmaaGreatDoor
open Go.RowKit
set_option linter.unusedVariables false
structure Made (y x:aj):Prop where
  thing:y.ah=x.ah
  has:fB y.Rights x.Rights=true
  bB:y.aG=0∨x.aG=y.aG
  wC:y.ID=x.From
theorem yh {y x:aj}(h1:(derived y x.ID x.Rights x.aG).2=0)(h2:(derived y x.ID x.Rights x.aG).1=x):Made y x:=by
 unfold derived at h1 h2
 split at h1;· simp at h1
 split at h1;· simp at h1
 split at h1;· simp at h1
 split at h1;· simp at h1
 split at h1;· simp at h1
 rename_i a b c d e
 rw [if_neg a,if_neg b,if_neg c,if_neg d,if_neg e] at h2
 have ht:=congrArg aj.ah h2
 have hb:=congrArg aj.aG h2
 have hf:=congrArg aj.From h2
 simp only [] at ht hb hf
 refine ⟨ht,by simpa using d,?_,hf⟩
 by_cases h0:x.aG=0
 ·rw [if_pos h0] at hb;exact .inl (by omega)
 ·
  by_cases hy:y.aG=0
  ·exact .inl hy
  ·
   right
   by_cases he:x.aG=y.aG
   ·exact he
   ·exact absurd ⟨h0,hy,he⟩ e
theorem sF {y x:aj}(w:C6 x)(h:Made y x):derived y x.ID x.Rights x.aG=(x,0):=by
 have:=w.xD;have:=w.xE;have:=w.Ba;have:=w.Bb
 unfold derived
 rw [if_neg (by rw [dK w.xD w.xE];omega),if_neg (by omega),if_neg (by omega),if_neg (by rw [h.has];simp),if_neg (by rintro ⟨h1,h2,h3⟩;rcases h.bB with h4|h4 <;> omega)]
 have hb:(if x.aG=0 then y.aG else x.aG)=x.aG:=by
  split
  ·rcases h.bB with h4|h4 <;> omega
  ·rfl
 rw [hb,h.thing,h.wC]
theorem wD:∀a b c:Fin 8,fB ((a:Nat):Int) ((b:Nat):Int)=true→fB ((b:Nat):Int) ((c:Nat):Int)=true→fB ((a:Nat):Int) ((c:Nat):Int)=true:=by decide
theorem Dp {a b c:Int}(a0:0≤a)(a7:a≤7)(b0:0≤b)(b7:b≤7)(c0:0≤c)(c7:c≤7)(h:fB a b=true)(k:fB b c=true):fB a c=true:=by
 obtain ⟨x,rfl⟩:=sB a0 a7;obtain ⟨y,rfl⟩:=sB b0 b7;obtain ⟨z,rfl⟩:=sB c0 c7;exact wD x y z h k
structure mE (l:List aj):Prop where
  ok:∀x∈l,bK x=0
  rise:l.Pairwise (fun x y=>x.ID<y.ID)
  made:∀x∈l,x.From≠0 → ∃y∈l,Made y x
theorem cj.fault {l:List aj}(h:cj l){x:aj}(hx:x∈l):bK x=0:=by
 obtain ⟨j,hj⟩:=List.mem_iff_getElem?.1 hx
 rcases gq x with h1|h1
 ·exact h1
 ·have:=fC hj (by omega);rw [h.steps j (List.getElem?_eq_some_iff.1 hj).1] at this;omega
theorem cj.is {l:List aj}(h:cj l):mE l:=by
 refine ⟨fun x hx=>h.fault hx,?_,fun x hx h0=>?_⟩
 ·
  rw [List.pairwise_iff_getElem]
  intro i j hi hj hij
  exact h.rise j i hij (List.getElem?_eq_getElem hj) (List.getElem?_eq_getElem hi)
 ·
  obtain ⟨k,hk⟩:=List.mem_iff_getElem?.1 hx
  obtain ⟨j,y,hj,hy,_,h1,h2⟩:=oB hk (h.steps k (List.getElem?_eq_some_iff.1 hk).1) h0
  exact ⟨y,List.mem_of_getElem? hy,yh h1 h2⟩
theorem kf {l:List aj}(h:l.Pairwise (fun x y=>x.ID<y.ID)){i j:Nat}{x y:aj}(hi:l[i]? = some x)(hj:l[j]? = some y)(hij:i<j):x.ID<y.ID:=by
 rw [List.pairwise_iff_getElem] at h
 obtain ⟨h1,rfl⟩:=List.getElem?_eq_some_iff.1 hi
 obtain ⟨h2,rfl⟩:=List.getElem?_eq_some_iff.1 hj
 exact h i j h1 h2 hij
theorem mE.ok' {l:List aj}(h:mE l):cj l:=by
 refine kc fun k hk=>?_
 have hx:l[k]? = some l[k]:=List.getElem?_eq_getElem hk
 have hm:l[k]∈l:=List.getElem_mem hk
 have h0:=h.ok _ hm
 have w:=qp h0
 have hsh:¬ 0<k ∨ ∃y,l[k-1]? = some y∧y.ID<(l[k]).ID:=by
  by_cases h1:0<k
  ·
   have hy:l[k-1]? = some (l[k-1]'(by omega)):=List.getElem?_eq_getElem (by omega)
   exact .inr ⟨_,hy,kf h.rise hy hx (by omega)⟩
  ·exact .inl h1
 by_cases hf:(l[k]).From=0
 ·exact oy hx h0 hsh hf
 ·
  obtain ⟨y,hy,hmd⟩:=h.made _ hm hf
  obtain ⟨j,hj⟩:=List.mem_iff_getElem?.1 hy
  have hjl:j<l.length:=(List.getElem?_eq_some_iff.1 hj).1
  have hjk:j<k:=by
   rcases Nat.lt_trichotomy j k with h1|h1|h1
   ·exact h1
   ·
    subst h1;rw [hj] at hx;injection hx with hx
    have:=hmd.wC;have:=w.Bc;rw [hx] at *;omega
   ·have:=kf h.rise hx hj h1;have:=hmd.wC;have:=w.Bc;omega
  have hfw:bL (l.take k) (l[k]).From=(j:Int):=by
   have hl:j<(l.take k).length:=by rw [List.length_take];omega
   have hge:(l.take k)[j]=y:=by
    rw [List.getElem_take];exact (List.getElem?_eq_some_iff.1 hj).2
   refine wt hl (by rw [hge];exact hmd.wC) (fun i z hi hz=>?_)
   have hz':l[i]? = some z:=by rw [List.getElem?_take,if_pos (by omega)] at hz;exact hz
   have:=kf h.rise hz' hj hi
   have:=hmd.wC;omega
  rw [fD hx h0 hsh hf hfw hjk hj]
  have:=sF w hmd
  rw [this];simp
theorem pP {l:List aj}(h:cj l){a b:Int}(ha:0≤bL l a)(hb:0≤bL l b):b∈dG a l↔a∈above l b:=by
 rw [yg h]
 have ha0:=h.m7 ha
 have hb0:=h.m7 hb
 unfold beneath ny above
 rw [← rk h ha _ hb0.2.2.1]
 simp only [List.mem_map,List.mem_filter,Bd,Bool.and_eq_true,decide_eq_true_eq]
 obtain ⟨y,_,hy2,hy3,hy4⟩:=jd hb
 constructor
 ·
  rintro ⟨x,⟨hx,hu,_⟩,hid⟩
  have:x=y:=h.inj hx hy3 (by omega)
  subst this;rw [hy4];exact hu
 ·
  intro hu
  exact ⟨y,⟨hy3,by rw [← hy4];exact hu,ha0.1⟩,hy2⟩
theorem eJ {l:List aj}{id:Int}{x:aj}:x∈without l id ↔ ∃y∈l,y.ID≠id∧x=iD id (dy l id) y:=by
 unfold without sC
 simp only [List.mem_map,List.mem_filter,decide_eq_true_eq]
 constructor
 ·rintro ⟨y,⟨h1,h2⟩,rfl⟩;exact ⟨y,h1,h2,rfl⟩
 ·rintro ⟨y,h1,h2,rfl⟩;exact ⟨y,⟨h1,h2⟩,rfl⟩
theorem gu {id f:Int}(x:aj):(iD id f x).ID=x.ID∧(iD id f x).ah=x.ah∧(iD id f x).Rights=x.Rights∧(iD id f x).aG=x.aG:=by unfold iD;split <;> exact ⟨rfl,rfl,rfl,rfl⟩
theorem mF {id f:Int}(x:aj):(iD id f x).From=if x.From=id then f else x.From:=by unfold iD;split <;> rfl
theorem yi {x:aj}(h:bK x=0){f:Int}(h0:0≤f)(h1:f<x.ID):bK { x with From:=f }=0:=by
 have w:=qp h
 rcases eE { x with From:=f } with ⟨h2,h3⟩ | ⟨h2,_⟩
 ·
  have:=w.id1;have:=w.Ah;have:=w.Ai;have:=w.A9;have:=w.Ba;have:=w.Bb;have:=w.xD;have:=w.xE
  simp only [] at h3;omega
 ·exact h2
theorem yj {id f:Int}{y x:aj}(h:Made y x)(hf:x.From≠id):Made (iD id f y) (iD id f x):=by
 have hy:=gu (id:=id) (f:=f) y
 have hx:=gu (id:=id) (f:=f) x
 refine ⟨by rw [hy.2.1,hx.2.1];exact h.thing,by rw [hy.2.2.1,hx.2.2.1];exact h.has,by rw [hy.2.2.2,hx.2.2.2];exact h.bB,?_⟩
 rw [hy.1,mF,if_neg hf];exact h.wC
theorem cj.wo {l:List aj}(h:cj l)(id:Int):cj (without l id):=by
 have hi:=h.is
 refine mE.ok' ⟨fun x hx=>?_,?_,fun x hx h0=>?_⟩
 ·
  obtain ⟨y,hy,hne,rfl⟩:=eJ.1 hx
  have Dq:=hi.ok y hy
  unfold iD
  split
  ·
   rename_i he
   have w:=qp Dq
   have:=w.Ct;have:=w.Bc
   have hid:0≤dy l id∧(0<dy l id→dy l id<id):=by
    rcases Int.lt_or_le (bL l id) 0 with h1|h1
    ·rw [oC h1];omega
    ·have:=h.m7 h1;omega
   exact yi Dq hid.1 (by omega)
  ·exact Dq
 ·
  unfold without sC
  rw [List.pairwise_map]
  refine (hi.rise.filter _).imp ?_
  intro a b hab
  rw [(gu a).1,(gu b).1];exact hab
 ·
  obtain ⟨y,hy,hne,rfl⟩:=eJ.1 hx
  rw [mF] at h0
  by_cases he:y.From=id
  ·
   rw [if_pos he] at h0
   have hid:0≤bL l id:=by
    rcases Int.lt_or_le (bL l id) 0 with h1|h1
    ·rw [oC h1] at h0;exact absurd rfl h0
    ·exact h1
   obtain ⟨p,_,hp2,hp3,Dr⟩:=jd hid
   have Er:=h.m7 hid
   obtain ⟨z,hz,Cx⟩:=hi.made p hp3 (by rw [← Dr];exact h0)
   have hy0:y.From≠0:=by rw [he];omega
   obtain ⟨p',hp',hpy⟩:=hi.made y hy hy0
   have:p'=p:=h.inj hp' hp3 (by rw [hpy.wC,he,hp2])
   subst this
   have Ds:z.ID≠id:=by have:=Cx.wC;rw [← Dr] at this;omega
   refine ⟨iD id (dy l id) z,eJ.2 ⟨z,hz,Ds,rfl⟩,?_⟩
   have wz:=h.mem hz;have wp:=h.mem hp3;have wy:=h.mem hy
   have hz':=gu (id:=id) (f:=dy l id) z
   have hy':=gu (id:=id) (f:=dy l id) y
   refine ⟨by rw [hz'.2.1,hy'.2.1,Cx.thing,hpy.thing],by rw [hz'.2.2.1,hy'.2.2.1];exact Dp wz.xD wz.xE wp.xD wp.xE wy.xD wy.xE Cx.has hpy.has,?_,?_⟩
   ·
    rw [hz'.2.2.2,hy'.2.2.2]
    rcases Cx.bB with h1|h1
    ·exact .inl h1
    ·
     rcases hpy.bB with h2|h2
     ·exact .inl (by omega)
     ·exact .inr (by omega)
   ·rw [hz'.1,mF,if_pos he,Cx.wC,Dr]
  ·
   rw [if_neg he] at h0
   obtain ⟨p,hp,hpy⟩:=hi.made y hy h0
   exact ⟨iD id (dy l id) p,eJ.2 ⟨p,hp,by rw [hpy.wC];exact he,rfl⟩,yj hpy he⟩
end Go.Proofs.YtbkfhjaibhnkmaaGreatDoor
end
