import Derived.Test.YtbkfhjaibhnkmaaGreatDoorTRP34
section
namespace Go.Proofs.YtbkfhjaibhnkmaaGreatDoor
set_option linter.unusedVariables false
theorem qp {l:List df}(h:(aF l).2=true):Inv (aF l).1∧Sz 80 (aF l).1:=by
  obtain ⟨h1,h2,_⟩:=q9 h
  rw [h2];exact ⟨vC l,(sH l).up h1⟩
section
variable {r:au}
end
end Go.Proofs.YtbkfhjaibhnkmaaGreatDoor
end
section
namespace Go.Proofs.YtbkfhjaibhnkmaaGreatDoor
set_option linter.unusedVariables false
section
variable {r:au}
theorem oN {ws:List ak}{ts:List Int}:∀ {ns:List Note},(∀n∈ns,n.Port∈ts∧fh ws n=n)→eI ws ts ns=ns
  | [],_=>rfl
  | n::ns,h=>by
    obtain ⟨h1,h2⟩:=h n (List.mem_cons_self ..)
    rw [lM,if_pos h1,h2,oN (fun m hm=>h m (List.mem_cons_of_mem _ hm))]
theorem tO {ws:List ak}{ts:List Int}{ns:List Note}(h:∀n∈ns,n.Port∈ts):fS ws ts ns=[]:=by
  refine List.eq_nil_iff_forall_not_mem.2 fun j hj=>?_
  obtain ⟨m,hm,_,hp,_⟩:=qm.1 hj
  exact hp (h m hm)
theorem Inv.sP (h:Inv r):∀n∈r.Notes,n.Port∈aR r.aj:=fun n hn=>by
  obtain ⟨t,ht,e,_⟩:=h.port n hn
  obtain ⟨w,hw,e2⟩:=h.used t ht
  exact (fY h.tree).2 ⟨w,hw,by rw [e2,e]⟩
theorem Inv.fix (h:Inv r):∀n∈r.Notes,fh r.aj n=n:=fun n hn=>by
  unfold fh;split
  ·
    rename_i hf
    have h0:=h.ff n hn
    have:n.ak=0:=by
      by_cases hp:0<n.ak
      ·
        obtain ⟨w,hw,e⟩:=h.eK n hn hp
        have:=gG hw;rw [e] at this;omega
      · omega
    cases n;simp only [] at this ⊢;rw [this]
  · rfl
theorem rK (h:Inv r)(T:List ai)(H:List Held)(hT:∀t∈T,∀w∈r.aj,w.ai≠t.ID)(hH:H.filter (fun h => !decide (bC r.aj h.ak<0))=r.Held)(a b:Int):a8 ⟨r.aj,r.Things++T,H,r.Notes,a,b⟩=⟨r.aj,r.Things,r.Held,r.Notes,a,b⟩:=by
  have hl:jj ⟨r.aj,r.Things++T,H,r.Notes,a,b⟩=[]:=tO h.sP
  rw [jG (by rw [hl];rfl)]
  unfold dS
  dsimp only
  have h1:(r.Things++T).filter (fun t => !!decide (t.ID∈aR r.aj))=r.Things:=by
    have k1:r.Things.filter (fun t => !!decide (t.ID∈aR r.aj))=r.Things:=List.filter_eq_self.2 fun t ht=>by
      obtain ⟨w,hw,e⟩:=h.used t ht
      simp only [Bool.not_not,decide_eq_true_eq]
      exact (fY h.tree).2 ⟨w,hw,e⟩
    have k2:T.filter (fun t => !!decide (t.ID∈aR r.aj))=[]:=List.filter_eq_nil_iff.2 fun t ht=>by
      simp only [Bool.not_not,decide_eq_true_eq]
      intro hm
      obtain ⟨w,hw,e⟩:=(fY h.tree).1 hm
      exact hT t ht w hw e
    rw [List.filter_append,k1,k2,List.append_nil]
  rw [h1,hH,oN (fun n hn=>⟨h.sP n hn,h.fix n hn⟩)]
theorem Inv.tP (h:Inv r){H:List Held}(hs:∀x∈H,x∈r.Held):H.filter (fun h => !decide (bC r.aj h.ak<0))=H :=
  List.filter_eq_self.2 fun x hx=>by
    have:=fX.2 (h.dk x (hs x hx))
    simp only [Bool.not_eq_true',decide_eq_false_iff_not];omega
theorem rL (h:Inv r):a8 r=r:=by
  have:=rK h [] r.Held (fun t ht=>by cases ht) (h.tP (fun x hx=>hx)) r.ae r.af
  rw [List.append_nil] at this
  exact this
theorem zb {l:List Held}{x y:Held}(hx:x∈l)(hy:y∈l)(e:x.ak=y.ak)(h:cH l x.ak≤1):x=y:=by
  obtain ⟨A,B,rfl⟩:=List.append_of_mem hx
  unfold cH at h
  rw [List.countP_append,List.countP_cons,if_pos (by simp)] at h
  have key:∀ (C:List Held),y∈C→0<C.countP (fun h=>h.ak==x.ak):=fun C hC=>List.countP_pos_iff.2 ⟨y,hC,by simp [e]⟩
  rcases List.mem_append.1 hy with hy|hy
  · have:=key A hy;omega
  ·
    rcases List.mem_cons.1 hy with hy|hy
    · exact hy.symm
    · have:=key B hy;omega
theorem Inv.one (h:Inv r){x y:Held}(hx:x∈r.Held)(hy:y∈r.Held)(e:x.ak=y.ak):x=y:=by
  obtain ⟨w,hw,e2⟩:=h.dk x hx
  have:=h.once w hw
  exact zb hx hy e (by rw [← e2];omega)
end
end Go.Proofs.YtbkfhjaibhnkmaaGreatDoor
end
section
namespace Go.Proofs.YtbkfhjaibhnkmaaGreatDoor
set_option linter.unusedVariables false
section
variable {r:au}
theorem mh:∀ (ns:List Note) (l:List ak),bQ l→bQ (eF ns l)
  | [],l,h=>h
  | n::ns,l,h=>by
    show bQ (eF ns (if 0<n.ak then without l n.ak else l))
    refine mh ns _ ?_
    split
    · exact h.wo _
    · exact h
theorem nG:∀ (ns:List Note) (l:List ak) (w:ak),w∈eF ns l→(∃y∈l,Like w y) ∧ ∀n∈ns,0<n.ak→w.ID≠n.ak
  | [],l,w,h=>⟨⟨w,h,Like.refl w⟩,fun n hn=>by cases hn⟩
  | n::ns,l,w,h=>by
    obtain ⟨⟨y,hy,hl⟩,hn⟩:=nG ns (if 0<n.ak then without l n.ak else l) w h
    by_cases h0:0<n.ak
    ·
      rw [if_pos h0] at hy
      obtain ⟨z,hz,hne,rfl⟩:=ei.1 hy
      refine ⟨⟨z,hz,hl.trans (mK _ _ z)⟩,fun m hm hm0=>?_⟩
      rcases List.mem_cons.1 hm with e|hm
      · rw [e,hl.id,(fL z).1];exact hne
      · exact hn m hm hm0
    ·
      rw [if_neg h0] at hy
      refine ⟨⟨y,hy,hl⟩,fun m hm hm0=>?_⟩
      rcases List.mem_cons.1 hm with e|hm
      · rw [e] at hm0;exact absurd hm0 h0
      · exact hn m hm hm0
theorem kG:∀ (ns:List Note) (l:List ak) (y:ak),y∈l→(∀n∈ns,0<n.ak→y.ID≠n.ak) → ∃w∈eF ns l,Like w y
  | [],l,y,h,_=>⟨y,h,Like.refl y⟩
  | n::ns,l,y,h,hn=>by
    by_cases h0:0<n.ak
    ·
      obtain ⟨w,hw,k⟩:=kG ns (without l n.ak) (gW n.ak (dj l n.ak) y) (ei.2 ⟨y,h,hn n (List.mem_cons_self ..) h0,rfl⟩) (fun m hm hm0=>by rw [(fL y).1];exact hn m (List.mem_cons_of_mem _ hm) hm0)
      refine ⟨w,?_,k.trans (mK _ _ y)⟩
      show w∈eF ns (if 0<n.ak then without l n.ak else l)
      rw [if_pos h0];exact hw
    ·
      obtain ⟨w,hw,k⟩:=kG ns l y h (fun m hm hm0=>hn m (List.mem_cons_of_mem _ hm) hm0)
      refine ⟨w,?_,k⟩
      show w∈eF ns (if 0<n.ak then without l n.ak else l)
      rw [if_neg h0];exact hw
theorem vD {ns:List Note}{j:Int}(h:cN ns j=0):∀n∈ns,0<n.ak→j≠n.ak:=fun n hn _ e=>by
  have:=yZ hn;rw [← e] at this;omega
theorem Inv.tQ (h:Inv r):Pre ⟨eF r.Notes r.aj,r.Things,r.Held,[],r.ae,r.af⟩:=by
  have hs:=fun w hw=>nG r.Notes r.aj w hw
  refine { tree:=mh _ _ h.tree,good:=h.good,kF:=?_,jk:=h.jk,j4:=h.j4,jo:=h.jo,jq:=h.jq,e8:=h.e8,mJ:=h.mJ,fc:=h.fc,fe:=h.fe,fj:=h.fj,thing:=?_,port:=fun n hn=>(by cases hn),fP:=fun n hn=>(by cases hn),wait:=fun q=>by simp [dX],ff:=fun n hn=>(by cases hn),once:=?_ }
  · intro w hw;obtain ⟨⟨y,hy,k⟩,_⟩:=hs w hw;rw [k.id];exact h.kF y hy
  · intro w hw;obtain ⟨⟨y,hy,k⟩,_⟩:=hs w hw;rw [k.th];exact h.thing y hy
  ·
    intro w hw
    obtain ⟨⟨y,hy,k⟩,hn⟩:=hs w hw
    have h1:=h.once y hy
    have h2:cN r.Notes w.ID=0:=List.countP_eq_zero.2 fun n hnn e=>by
      have e:n.ak=w.ID:=by simpa using e
      have:=(h.tree.mem hy).id1
      exact hn n hnn (by rw [e,k.id];omega) e.symm
    show cH r.Held w.ID+cN [] w.ID=1
    rw [← k.id] at h1;simp only [cN,List.countP_nil] at h2 ⊢;unfold cN at h1;omega
theorem lP:∀ (a b:List Int),a.Nodup→(∀x∈a,x∈b)→a.length≤b.length
  | [],b,_,_=>Nat.zero_le _
  | x::a,b,hn,hs=>by
    obtain ⟨h1,h2⟩:=List.nodup_cons.1 hn
    obtain ⟨A,B,rfl⟩:=List.append_of_mem (hs x (List.mem_cons_self ..))
    have:=lP a (A++B) h2 fun y hy=>by
      have h3:=hs y (List.mem_cons_of_mem _ hy)
      rcases List.mem_append.1 h3 with h3|h3
      · exact List.mem_append.2 (.inl h3)
      ·
        rcases List.mem_cons.1 h3 with e|h3
        · exact absurd (e▸hy) h1
        · exact List.mem_append.2 (.inr h3)
    simp only [List.length_cons,List.length_append] at this ⊢;omega
theorem vE (h:Inv r)(hn:r.Notes=[]):r.Held.length=r.aj.length:=by
  have h1:(r.aj.map ak.ID).Nodup:=List.Pairwise.imp (fun h=>Int.ne_of_lt h) (List.pairwise_map.2 h.tree.is.rise)
  have h2:(r.Held.map Held.ak).Nodup:=by
    refine List.pairwise_iff_getElem.2 fun i j hi hj hij e=>?_
    rw [List.length_map] at hi hj
    rw [List.getElem_map,List.getElem_map] at e
    have:=h.one (List.getElem_mem hi) (List.getElem_mem hj) e
    have h3:=List.pairwise_iff_getElem.1 (ft h.good) i j hi hj hij
    rw [this] at h3
    exact lj h3
  have a:=lP (r.Held.map Held.ak) (r.aj.map ak.ID) h2 fun x hx=>by
    obtain ⟨y,hy,rfl⟩:=List.mem_map.1 hx
    obtain ⟨w,hw,e⟩:=h.dk y hy
    exact List.mem_map.2 ⟨w,hw,e⟩
  have b:=lP (r.aj.map ak.ID) (r.Held.map Held.ak) h1 fun x hx=>by
    obtain ⟨w,hw,rfl⟩:=List.mem_map.1 hx
    have h3:=h.once w hw
    rw [hn] at h3;simp only [cN,List.countP_nil] at h3
    obtain ⟨y,hy,e⟩:=List.countP_pos_iff.1 (show 0<cH r.Held w.ID by omega)
    exact List.mem_map.2 ⟨y,hy,by simpa using e⟩
  simp only [List.length_map] at a b;omega
theorem iG (h:Inv r):Inv (aI r)∧(aI r).Notes=[]∧(aI r).Held=r.Held∧(aI r).Held.length=(aI r).aj.length∧aI (aI r)=aI r:=by
  have hp:=h.tQ
  have hi:Inv (aI r):=lN hp
  have hl:jj ⟨eF r.Notes r.aj,r.Things,r.Held,[],r.ae,r.af⟩=[]:=rfl
  have hd:aI r=dS ⟨eF r.Notes r.aj,r.Things,r.Held,[],r.ae,r.af⟩:=jG (by rw [hl];rfl)
  have hn:(aI r).Notes=[]:=by rw [hd];rfl
  refine ⟨hi,hn,?_,vE hi hn,?_⟩
  ·
    rw [hd]
    show r.Held.filter _=r.Held
    refine List.filter_eq_self.2 fun x hx=>?_
    obtain ⟨w,hw,e⟩:=h.dk x hx
    have h1:=h.once w hw;have h2:=yY hx;rw [← e] at h2
    obtain ⟨v,hv,k⟩:=kG r.Notes r.aj w hw (vD (by omega))
    have h3:0≤bC (eF r.Notes r.aj) x.ak:=fX.2 ⟨v,hv,by rw [k.id,e]⟩
    simp only [Bool.not_eq_true',decide_eq_false_iff_not];omega
  ·
    have hs:=rL hi
    generalize aI r=x at hn hs
    cases x with
    | mk W T H N a b =>
      have hn':N=[]:=hn
      subst hn'
      exact hs
end
end Go.Proofs.YtbkfhjaibhnkmaaGreatDoor
end
