import Derived.Test.YtpipachmngdegaaGreatRSP43
section
namespace Go.Proofs.YtpipachmngdegaaGreat
set_option linter.unusedVariables false
section
variable {r:ay}
theorem jF:∀ (ns:List Note) (l:List ao),ct l→ct (eW ns l)
  | [],l,h=>h
  | n::ns,l,h=>by
    show ct (eW ns (if 0<n.ao then without l n.ao else l))
    refine jF ns _ ?_
    split
    · exact h.wo _
    · exact h
theorem mW:∀ (ns:List Note) (l:List ao) (w:ao),w∈eW ns l→(∃y∈l,Like w y) ∧ ∀n∈ns,0<n.ao→w.ID≠n.ao
  | [],l,w,h=>⟨⟨w,h,Like.refl w⟩,fun n hn=>by cases hn⟩
  | n::ns,l,w,h=>by
    obtain ⟨⟨y,hy,hl⟩,hn⟩:=mW ns (if 0<n.ao then without l n.ao else l) w h
    by_cases h0:0<n.ao
    ·
      rw [if_pos h0] at hy
      obtain ⟨z,hz,hne,rfl⟩:=ey.1 hy
      refine ⟨⟨z,hz,hl.trans (oz _ _ z)⟩,fun m hm hm0=>?_⟩
      rcases List.mem_cons.1 hm with e|hm
      · rw [e,hl.id,(f8 z).1];exact hne
      · exact hn m hm hm0
    ·
      rw [if_neg h0] at hy
      refine ⟨⟨y,hy,hl⟩,fun m hm hm0=>?_⟩
      rcases List.mem_cons.1 hm with e|hm
      · rw [e] at hm0;exact absurd hm0 h0
      · exact hn m hm hm0
theorem Inv.r6 (h:Inv r):Pre ⟨eW r.Notes r.ap,r.Things,r.Held,[],r.ae,r.af⟩:=by
  have hs:=fun w hw=>mW r.Notes r.ap w hw
  refine { tree:=jF _ _ h.tree,good:=h.good,kh:=?_,mX:=h.mX,oD:=h.oD,m8:=h.m8,nK:=h.nK,fb:=h.fb,mY:=h.mY,fc:=h.fc,fe:=h.fe,iu:=h.iu,thing:=?_,port:=fun n hn=>(by cases hn),fO:=fun n hn=>(by cases hn),wait:=fun q=>by simp [dN],ff:=fun n hn=>(by cases hn),once:=?_ }
  · intro w hw;obtain ⟨⟨y,hy,k⟩,_⟩:=hs w hw;rw [k.id];exact h.kh y hy
  · intro w hw;obtain ⟨⟨y,hy,k⟩,_⟩:=hs w hw;rw [k.th];exact h.thing y hy
  ·
    intro w hw
    obtain ⟨⟨y,hy,k⟩,hn⟩:=hs w hw
    have h1:=h.once y hy
    have h2:cN r.Notes w.ID=0:=List.countP_eq_zero.2 fun n hnn e=>by
      have e:n.ao=w.ID:=by simpa using e
      have:=(h.tree.mem hy).id1
      exact hn n hnn (by rw [e,k.id];omega) e.symm
    show cH r.Held w.ID+cN [] w.ID=1
    rw [← k.id] at h1;simp only [cN,List.countP_nil] at h2 ⊢;unfold cN at h1;omega
end
end Go.Proofs.YtpipachmngdegaaGreat
end
