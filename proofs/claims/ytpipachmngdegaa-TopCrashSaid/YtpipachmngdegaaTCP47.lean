import Derived.Test.YtpipachmngdegaaTCP46
section
namespace Go.Proofs.Ytpipachmngdegaa
open Go Go.RowKit
set_option linter.unusedVariables false
section
variable {n u t:Nat} {sc:gV} {lg:Lg} {d:bp} {l:List Change} {m:uc}
theorem ki (s:iQ):mkS s.c s.L=s:=rfl
theorem SV.ok (h:SV n d (mkS sc lg) u t):cz d.Now.length 60000 d∧d.Now.length≤200∧166≤d.Now.length:=by
  have h1:=h.sn.len;have h2:=h.sn.nb
  exact ⟨h1.symm▸h.rest.ok.up (by omega),by omega,by omega⟩
theorem SV.bnd (h:SV n d (mkS sc lg) u t)(ht:t≤10000):0≤sc.Epoch∧sc.Epoch≤1000000000∧0≤sc.Side∧sc.Side≤1∧0≤lg.Many∧lg.Many≤1000∧1≤lg.First∧lg.First≤1000000000∧0≤lg.From∧lg.From≤1000∧0≤lg.Next∧lg.Next≤1000:=by
  have e1:1≤sc.Epoch∧sc.Epoch≤1+(t:Int):=h.sn.eb
  have e2:1≤sc.First∧sc.First≤1+100*(t:Int):=h.sn.fb
  have e3:sc.Side=0∨sc.Side=1:=h.sn.sd
  have e4:lg=⟨102,(n:Int)-102,sc.First,(u:Int)⟩:=h.sn.lg
  have e5:=h.sn.nb;have e6:=h.sn.len
  obtain ⟨b,W,_,_,_,hl,_⟩:=h.sn.base
  have e7:=hl.ule
  rw [List.length_drop] at e7
  rw [e4];dsimp only
  refine ⟨?_,?_,?_,?_,?_,?_,?_,?_,?_,?_,?_,?_⟩ <;> omega
theorem SV.good (h:SV n d (mkS sc lg) u t):sc.Rows.length≤60∧(∀c∈sc.Rows,ea c=0)∧fD sc.Rows:=⟨h.sn.rows.len,h.sn.rows.ok,h.sn.rows.rise⟩
theorem SV.room (h:SV n d (mkS sc lg) u t):lg.Many=(n:Int)-102∧lg.Next=(u:Int)∧d.Down=false∧d.Now.length=n∧166≤n∧n≤200:=by
  have e4:lg=⟨102,(n:Int)-102,sc.First,(u:Int)⟩:=h.sn.lg
  exact ⟨by rw [e4],by rw [e4],h.rest.down,h.sn.len,h.sn.nb.1,h.sn.nb.2⟩
theorem SV.opened (h:SV n d (mkS sc lg) u t)(ht:t≤10000):jB d=0∧(af d).c=sc∧(af d).L=lg:=by
  obtain ⟨h1,h2⟩:=mo h.rest.ok h.rest.down h.sn ht
  exact ⟨h1,by rw [h2];rfl,by rw [h2];rfl⟩
theorem vh (h:SV n d (mkS sc lg) u t)(ht:t≤9999)(hf:d.Fuse = -1) :
    (ay (mkS sc lg) d).2.2=0∧(ay (mkS sc lg) d).1.c.Rows=sc.Rows∧(ay (mkS sc lg) d).2.1.Fuse = -1∧SV n (ay (mkS sc lg) d).2.1 (mkS (ay (mkS sc lg) d).1.c (ay (mkS sc lg) d).1.L) 0 (t+1):=by
  rcases mq h ht with ⟨e1,s1,a1,a2,a3,a4⟩ | ⟨e1,a1,a2,_⟩
  · rw [a1];exact ⟨rfl,a3,a4 hf,a2⟩
  · exact absurd hf a2
theorem mr {k:Nat}(h1:166≤k)(h2:k≤200):(av (dNew k)).2=0∧(av (dNew k)).1.Fuse = -1∧jB (av (dNew k)).1=0∧SV k (av (dNew k)).1 (mkS (af (av (dNew k)).1).c (af (av (dNew k)).1).L) 0 0∧(af (av (dNew k)).1).c.Rows=[]:=by
  obtain ⟨e,q1,q2,q3⟩:=vg h1 h2
  have q4:=mo q2.rest.ok q2.rest.down q2.sn (by omega)
  rw [q1];dsimp only
  rw [q4.2,ki]
  exact ⟨rfl,q3,q4.1,q2,rfl⟩
end
end Go.Proofs.Ytpipachmngdegaa
end
section
namespace Go.Proofs.Ytpipachmngdegaa
open Go Go.RowKit
set_option linter.unusedVariables false
theorem pA:∀l:List Change,dR l=0∨dR l=2∨dR l=3
  | [] => .inl rfl
  | x::r=>by
    unfold dR;split
    · exact pA r
    · exact aQ x
section
variable {n u t:Nat} {st:iQ} {sc:gV} {lg:Lg} {d:bp} {l:List Change}
theorem SV.reopen (h:SV n d st u t)(ht:t≤10000):jB d=0∧SV n d (mkS (af d).c (af d).L) u t∧(af d).c.Rows=st.Rows:=by
  obtain ⟨h1,h2⟩:=mo h.rest.ok h.rest.down h.sn ht
  rw [h2,ki];exact ⟨h1,h,rfl⟩
theorem SV.again (h:SV n d st u t)(z:Int):SV n (ae d z) st u t:=by
  refine ⟨gF h.rest.ok z,?_⟩
  show SN n (fA z d.Wait d.Kept) st u t
  rw [h.rest.wait,t6,h.rest.kn];exact h.sn
theorem ov (h:SV n d (mkS sc lg) u t)(ht:t≤9999) :
    ((ai (mkS sc lg) d l).2.2=0∧(ai (mkS sc lg) d l).1.c.Rows=bz sc.Rows l ∧ ∃u',SV n (ai (mkS sc lg) d l).2.1 (mkS (ai (mkS sc lg) d l).1.c (ai (mkS sc lg) d l).1.L) u' (t+1)) ∨
    ((ai (mkS sc lg) d l).2.2≠0∧(ai (mkS sc lg) d l).2.2≠10∧0≤(ai (mkS sc lg) d l).2.2∧(ai (mkS sc lg) d l).1.c.Rows=sc.Rows∧SV n (ai (mkS sc lg) d l).2.1 (mkS (ai (mkS sc lg) d l).1.c (ai (mkS sc lg) d l).1.L) u (t+1)) ∨
    ((ai (mkS sc lg) d l).2.2=10∧cz n 4000 (ai (mkS sc lg) d l).2.1 ∧ ∀z,∃st' u',SV n (ae (ai (mkS sc lg) d l).2.1 z) st' u' (t+1)∧(st'.Rows=sc.Rows∨st'.Rows=bz sc.Rows l)):=by
  have e:a7 sc.Rows l=bz sc.Rows l:=oV l h.good.2.2
  by_cases hc:fJ (mkS sc lg) d.Now.length l=0
  ·
    rcases jQ h ht hc with ⟨e1,s1,u1,a1,a2,a3,a4,a5⟩ | ⟨e1,s1,a1,a2,a3,a4⟩
    ·
      left
      rw [a1];dsimp only;rw [ki]
      exact ⟨rfl,a3.trans e,u1,a2⟩
    ·
      right;right
      rw [a1];dsimp only
      exact ⟨rfl,a3,fun z=>by
        obtain ⟨st',u',b1,b2⟩:=a4 z
        exact ⟨st',u',b1,b2.imp id fun hh=>hh.trans e⟩⟩
  ·
    right;left
    have hs:ai (mkS sc lg) d l=(mkS sc lg,d,fJ (mkS sc lg) d.Now.length l):=by unfold ai;rw [if_pos hc]
    have h9:=pA l
    have hr:fJ (mkS sc lg) d.Now.length l≠10∧0≤fJ (mkS sc lg) d.Now.length l:=by
      unfold fJ;(repeat' split) <;> omega
    rw [hs]
    exact ⟨hc,hr.1,hr.2,rfl,h.up (Nat.le_succ t)⟩
theorem ud (h:SV n d (mkS sc lg) u t)(ht:t≤9999) :
    ((ay (mkS sc lg) d).2.2=0∧(ay (mkS sc lg) d).1.c.Rows=sc.Rows∧SV n (ay (mkS sc lg) d).2.1 (mkS (ay (mkS sc lg) d).1.c (ay (mkS sc lg) d).1.L) 0 (t+1)) ∨
    ((ay (mkS sc lg) d).2.2=10∧cz n 4000 (ay (mkS sc lg) d).2.1 ∧ ∀z,∃st' u',SV n (ae (ay (mkS sc lg) d).2.1 z) st' u' (t+1)∧st'.Rows=sc.Rows):=by
  rcases mq h ht with ⟨e1,s1,a1,a2,a3,a4⟩ | ⟨e1,a1,a2,a3,a4⟩
  · left;rw [a1];exact ⟨rfl,a3,a2⟩
  · right;rw [a1];exact ⟨rfl,a3.up (by omega),a4⟩
theorem jC (h:SV n d (mkS sc lg) u t)(ht:t≤9999)(l:List Change):0≤(ai (mkS sc lg) d l).2.2 ∧ ∃u2,
    ((ai (mkS sc lg) d l).2.2=0→(ai (mkS sc lg) d l).1.c.Rows=bz sc.Rows l∧SV n (ai (mkS sc lg) d l).2.1 (mkS (ai (mkS sc lg) d l).1.c (ai (mkS sc lg) d l).1.L) u2 (t+1)) ∧
    (¬ (ai (mkS sc lg) d l).2.2=0→¬ (ai (mkS sc lg) d l).2.2=10→(ai (mkS sc lg) d l).1.c.Rows=sc.Rows∧SV n (ai (mkS sc lg) d l).2.1 (mkS (ai (mkS sc lg) d l).1.c (ai (mkS sc lg) d l).1.L) u2 (t+1)) ∧
    ((ai (mkS sc lg) d l).2.2=10→cz n 4000 (ai (mkS sc lg) d l).2.1 ∧ ∀z,∃st' u',SV n (ae (ai (mkS sc lg) d l).2.1 z) st' u' (t+1)∧(st'.Rows=sc.Rows∨st'.Rows=bz sc.Rows l)):=by
  rcases ov (l:=l) h ht with ⟨a1,a2,u2,a3⟩ | ⟨a1,a2,a3,a4,a5⟩ | ⟨a1,a2⟩
  · exact ⟨by omega,u2,fun _=>⟨a2,a3⟩,fun q=>absurd a1 q,fun q=>absurd (a1.symm.trans q) (by decide)⟩
  · exact ⟨a3,u,fun q=>absurd q a1,fun _ _=>⟨a4,a5⟩,fun q=>absurd q a2⟩
  · exact ⟨by omega,0,fun q=>absurd (a1.symm.trans q) (by decide),fun _ q=>absurd a1 q,fun _=>a2⟩
theorem sq (h:SV n d (mkS sc lg) u t)(ht:t≤9999):0≤(ay (mkS sc lg) d).2.2 ∧
    (¬ (ay (mkS sc lg) d).2.2=10→(ay (mkS sc lg) d).1.c.Rows=sc.Rows∧SV n (ay (mkS sc lg) d).2.1 (mkS (ay (mkS sc lg) d).1.c (ay (mkS sc lg) d).1.L) 0 (t+1)) ∧
    ((ay (mkS sc lg) d).2.2=10→cz n 4000 (ay (mkS sc lg) d).2.1 ∧ ∀z,∃st' u',SV n (ae (ay (mkS sc lg) d).2.1 z) st' u' (t+1)∧st'.Rows=sc.Rows):=by
  rcases ud h ht with ⟨a1,a2,a3⟩ | ⟨a1,a2⟩
  · exact ⟨by omega,fun _=>⟨a2,a3⟩,fun q=>absurd (a1.symm.trans q) (by decide)⟩
  · exact ⟨by omega,fun q=>absurd a1 q,fun _=>a2⟩
theorem rk {α:Type}[DecidableEq α]{a b:α}(h:decide (a=b)=false)(e:a=b):False:=of_decide_eq_false h e
theorem uf (h:SV n d (mkS sc lg) u t)(ht:t≤9999)(hf:d.Fuse = -1) :
    (ai (mkS sc lg) d []).2.2=0∧(ai (mkS sc lg) d []).1.c.Rows=sc.Rows∧(ai (mkS sc lg) d []).2.1.Fuse = -1 ∧ ∃u',SV n (ai (mkS sc lg) d []).2.1 (mkS (ai (mkS sc lg) d []).1.c (ai (mkS sc lg) d []).1.L) u' (t+1):=by
  have h1:=h.room
  have hc:fJ (mkS sc lg) d.Now.length []=0:=by
    unfold fJ
    rw [if_neg (by decide),if_neg (by decide),if_neg ?_]
    intro hh
    rcases hh with hh|hh
    ·
      have:(a7 sc.Rows []).length≤60:=h.good.1
      have hh':60<(a7 sc.Rows []).length:=hh
      omega
    ·
      rw [h1.2.2.2.1] at hh
      have:(([]:List Change).length:Int)=0:=rfl
      omega
  rcases jQ h ht hc with ⟨e1,s1,u1,a1,a2,a3,a4,a5⟩ | ⟨e1,s1,a1,a2,_⟩
  ·
    rw [a1];dsimp only;rw [ki]
    exact ⟨rfl,a3,a4 hf,u1,a2⟩
  · exact absurd hf a2
theorem SV.arm (h:SV n d st u t){k:Int}(h1 : -1≤k)(h2:k≤400):SV n (gG d k) st u t:=by
  have hO:=h.rest.ok.arm (k:=k) (by omega)
  exact ⟨⟨hO,h.rest.down,hO.f0,h.rest.kn,h.rest.wait⟩,h.sn⟩
end
end Go.Proofs.Ytpipachmngdegaa
end
