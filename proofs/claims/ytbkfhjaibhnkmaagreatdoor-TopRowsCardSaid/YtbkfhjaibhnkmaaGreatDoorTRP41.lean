import Derived.Test.YtbkfhjaibhnkmaaGreatDoorTRP37
namespace Go.Proofs.YtbkfhjaibhnkmaaGreatDoor
set_option linter.unusedVariables false
set_option linter.unusedSimpArgs false
def lv (r:au)(c:Change):au:=(rowP r c).1
theorem sW:∀ (l:List Change) (pv:Option ByteArray) (r:au),(∀c∈l,kJ pv c=true)→oP l→(∀c∈l,c.Gone=false ∧ ∀s,(rowP s c).2=true)→pgo l pv r=some (l.foldl lv r)
  | [],_,r,_,_,_=>rfl
  | c::l,pv,r,h1,h2,h3=>by
    obtain ⟨hc,hl⟩:=List.pairwise_cons.1 h2
    have g:=h3 c (List.mem_cons_self ..)
    simp only [pgo]
    rw [if_pos (by rw [h1 c (List.mem_cons_self ..),g.1,g.2 r];rfl)]
    exact sW l (some c.Key) _ (fun x hx=>hc x hx) hl (fun x hx=>h3 x (List.mem_cons_of_mem _ hx))
theorem vW:∀ (hs:List Held) (r:au),(∀h∈hs,aW h.Place=0∧0≤h.ak∧h.ak<10000)→(hs.map hrow).foldl lv r=⟨r.aj,r.Things,r.Held++hs,r.Notes,r.ae,r.af⟩
  | [],r,_=>by rw [List.map_nil,List.foldl_nil,List.append_nil]
  | h::hs,r,k=>by
    obtain ⟨k1,k2,k3⟩:=k h (List.mem_cons_self ..)
    rw [List.map_cons,List.foldl_cons,show lv r (hrow h)=tX r h by unfold lv;rw [vK r k1 k2 k3],vW hs _ (fun x hx=>k x (List.mem_cons_of_mem _ hx))]
    simp only [tX,List.append_assoc,List.cons_append,List.nil_append]
structure Ce (t:ai):Prop where
  i0:0≤t.ID
  i9:t.ID<10000
  kd:t.Kind=1∨t.Kind=2∧t.Data.size=0
  ds:t.Data.size≤8
theorem vX:∀ (ts:List ai) (r:au),(∀t∈ts,Ce t)→(ts.map gx).foldl lv r=⟨r.aj,r.Things++ts,r.Held,r.Notes,r.ae,r.af⟩
  | [],r,_=>by rw [List.map_nil,List.foldl_nil,List.append_nil]
  | t::ts,r,k=>by
    obtain ⟨k1,k2,k3,k4⟩:=k t (List.mem_cons_self ..)
    rw [List.map_cons,List.foldl_cons,show lv r (gx t)=tY r t by unfold lv;rw [vL r k1 k2 k3 k4],vX ts _ (fun x hx=>k x (List.mem_cons_of_mem _ hx))]
    simp only [tY,List.append_assoc,List.cons_append,List.nil_append]
theorem vY:∀ (ws:List ak) (r:au),(∀w∈ws,zt w)→(ws.map iH).foldl lv r=⟨r.aj++ws,r.Things,r.Held,r.Notes,r.ae,r.af⟩
  | [],r,_=>by rw [List.map_nil,List.foldl_nil,List.append_nil]
  | w::ws,r,k=>by
    rw [List.map_cons,List.foldl_cons,show lv r (iH w)=qt r w by unfold lv;rw [vM r (k w (List.mem_cons_self ..))],vY ws _ (fun x hx=>k x (List.mem_cons_of_mem _ hx))]
    simp only [qt,List.append_assoc,List.cons_append,List.nil_append]
theorem t6 {l:List ak}(h:bQ l):l.Pairwise (fun a b=>a.ID<b.ID):=by
  have key:∀ (n i j:Nat) (x y:ak),j=i+n+1→l[i]? = some x→l[j]? = some y→x.ID<y.ID:=by
    intro n
    induction n with
    | zero =>
      intro i j x y e hx hy
      have hs:=h.steps j (List.getElem?_eq_some_iff.1 hy).1
      by_cases hlt:x.ID<y.ID
      · exact hlt
      ·
        by_cases hf:bB y=0
        · rw [hD hy hf (by omega) (by rw [show j-1=i by omega];exact hx) hlt] at hs;omega
        · rw [eZ hy hf] at hs;omega
    | succ n ih =>
      intro i j x y e hx hy
      have hj:j-1<l.length:=by have:=(List.getElem?_eq_some_iff.1 hy).1;omega
      have hz:=List.getElem?_eq_getElem hj
      exact Int.lt_trans (ih i (j-1) x l[j-1] (by omega) hx hz) (by
        have hs:=h.steps j (List.getElem?_eq_some_iff.1 hy).1
        by_cases hlt:l[j-1].ID<y.ID
        · exact hlt
        ·
          by_cases hf:bB y=0
          · rw [hD hy hf (by omega) hz hlt] at hs;omega
          · rw [eZ hy hf] at hs;omega)
  rw [List.pairwise_iff_getElem]
  intro i j hi hj hij
  exact key (j-i-1) i j _ _ (by omega) (List.getElem?_eq_getElem hi) (List.getElem?_eq_getElem hj)
theorem Inv.yd {r:au}(h:Inv r){t:ai}(ht:t∈r.Things):Ce t:=by
  have a:=h.mJ t ht;have b:=h.jq;have c:=h.fc t ht;have d:=h.fe t ht
  refine ⟨by omega,by omega,?_,d.1⟩
  rcases c with c|c
  · exact .inl c
  · exact .inr ⟨c,by rw [d.2 c];rfl⟩
theorem Inv.xo {r:au}(h:Inv r){x:Held}(hx:x∈r.Held):aW x.Place=0∧1≤x.ak∧x.ak<10000:=by
  obtain ⟨w,hw,e⟩:=h.dk x hx
  have k:=h.tree.mem hw
  have:=k.id1;have:=k.xU
  exact ⟨((qd.1 h.good).2 x hx).1,by omega,by omega⟩
theorem nN {α β:Type}{R:β→β→Prop}{S:α→α→Prop}(f:α→β):∀ {l:List α},l.Pairwise S→(∀x∈l,∀y∈l,S x y→R (f x) (f y))→(l.map f).Pairwise R
  | [],_,_=>List.Pairwise.nil
  | a::l,h,k=>by
    obtain ⟨h1,h2⟩:=List.pairwise_cons.1 h
    refine List.pairwise_cons.2 ⟨fun y hy=>?_,nN f h2 (fun x hx y hy=>k x (List.mem_cons_of_mem _ hx) y (List.mem_cons_of_mem _ hy))⟩
    obtain ⟨x,hx,rfl⟩:=List.mem_map.1 hy
    exact k a (List.mem_cons_self ..) x (List.mem_cons_of_mem _ hx) (h1 x hx)
theorem t7 {r:au}(h:Inv r):oP (rowsOf r):=by
  have hx:bl kX=[120]:=rfl
  have kh:∀x∈r.Held,bl (hrow x).Key=[104,d8 x.Place.ag.toNat,d8 x.Place.Slot.toNat]:=fun x hx=>hkey (h.xo hx).1
  have kt:∀t∈r.Things,bl (gx t).Key=116::rO t.ID.toNat:=fun t ht=>tkey (h.yd ht).i0 (h.yd ht).i9
  have kw:∀w∈r.aj,bl (iH w).Key=119::rO w.ID.toNat:=fun w hw=>by
    have:=(h.tree.mem hw).id1;have:=(h.tree.mem hw).xU;exact vJ (by omega) (by omega)
  unfold oP rowsOf
  refine List.pairwise_append.2 ⟨List.pairwise_append.2 ⟨List.pairwise_append.2 ⟨?_,?_,?_⟩,?_,?_⟩,List.pairwise_singleton _ _,?_⟩
  · exact nN hrow (qd.1 h.good).1 (fun x hx y hy hl=>xl (h.xo hx).1 (h.xo hy).1 hl)
  · exact nN gx h.e8 (fun x hx y hy hl=>xm (h.yd hx).i0 (h.yd hy).i9 hl)
  ·
    intro a ha b hb
    obtain ⟨x,hx,rfl⟩:=List.mem_map.1 ha;obtain ⟨y,hy,rfl⟩:=List.mem_map.1 hb
    exact j7 (kh x hx) (kt y hy) (by decide)
  · exact nN iH (t6 h.tree) (fun x hx y hy hl=>by
      have:=(h.tree.mem hx).id1;have:=(h.tree.mem hy).xU;exact xn (by omega) (by omega) hl)
  ·
    intro a ha b hb
    obtain ⟨y,hy,rfl⟩:=List.mem_map.1 hb
    rcases List.mem_append.1 ha with ha|ha
    ·
      obtain ⟨x,hx,rfl⟩:=List.mem_map.1 ha
      exact j7 (kh x hx) (kw y hy) (by decide)
    ·
      obtain ⟨x,hx,rfl⟩:=List.mem_map.1 ha
      exact j7 (kt x hx) (kw y hy) (by decide)
  ·
    intro a ha b hb
    rw [List.mem_singleton.1 hb]
    rcases List.mem_append.1 ha with ha|ha
    ·
      rcases List.mem_append.1 ha with ha|ha
      ·
        obtain ⟨x,hx',rfl⟩:=List.mem_map.1 ha
        exact j7 (kh x hx') hx (by decide)
      ·
        obtain ⟨x,hx',rfl⟩:=List.mem_map.1 ha
        exact j7 (kt x hx') hx (by decide)
    ·
      obtain ⟨x,hx',rfl⟩:=List.mem_map.1 ha
      exact j7 (kw x hx') hx (by decide)
theorem t8 {r:au}(h:Inv r):∀c∈rowsOf r,c.Gone=false ∧ ∀s,(rowP s c).2=true:=by
  have a1:=h.jk;have a2:=h.j4;have a3:=h.jo;have a4:=h.jq
  intro c hc
  unfold rowsOf at hc
  rcases List.mem_append.1 hc with hc|hc
  ·
    rcases List.mem_append.1 hc with hc|hc
    ·
      rcases List.mem_append.1 hc with hc|hc
      ·
        obtain ⟨x,hx,rfl⟩:=List.mem_map.1 hc
        have k:=h.xo hx
        exact ⟨rfl,fun s=>by rw [vK s k.1 (by omega) k.2.2]⟩
      ·
        obtain ⟨x,hx,rfl⟩:=List.mem_map.1 hc
        have k:=h.yd hx
        exact ⟨rfl,fun s=>by rw [vL s k.i0 k.i9 k.kd k.ds]⟩
    ·
      obtain ⟨x,hx,rfl⟩:=List.mem_map.1 hc
      exact ⟨rfl,fun s=>by rw [vM s (h.tree.mem hx)]⟩
  ·
    rw [List.mem_singleton.1 hc]
    exact ⟨rfl,fun s=>by rw [vN s r (by omega) (by omega)]⟩
theorem ua {r:au}(h:Inv r)(hn:r.Notes=[]):(rowsOf r).foldl lv r0=r:=by
  have a1:=h.jk;have a2:=h.j4;have a3:=h.jo;have a4:=h.jq
  unfold rowsOf
  rw [List.foldl_append,List.foldl_append,List.foldl_append,vW _ _ (fun x hx=>⟨(h.xo hx).1,by have:=(h.xo hx).2.1;omega,(h.xo hx).2.2⟩),vX _ _ (fun t ht=>h.yd ht),vY _ _ (fun w hw=>h.tree.mem hw)]
  rw [List.foldl_cons,List.foldl_nil]
  unfold lv
  rw [vN _ r (by omega) (by omega)]
  obtain ⟨a,b,c,d,e,f⟩:=r
  simp only at hn
  subst hn
  simp [xj,r0]
theorem oS:∀ (a b:List Int),a.Pairwise (· < ·)→b.Pairwise (· < ·)→(∀x,x∈a↔x∈b)→a=b
  | [],[],_,_,_=>rfl
  | [],y::b,_,_,h=>by have:=(h y).2 (List.mem_cons_self ..);cases this
  | x::a,[],_,_,h=>by have:=(h x).1 (List.mem_cons_self ..);cases this
  | x::a,y::b,ha,hb,h=>by
    obtain ⟨a1,a2⟩:=List.pairwise_cons.1 ha
    obtain ⟨b1,b2⟩:=List.pairwise_cons.1 hb
    have e:x=y:=by
      rcases List.mem_cons.1 ((h x).1 (List.mem_cons_self ..)) with e|h1
      · exact e
      ·
        rcases List.mem_cons.1 ((h y).2 (List.mem_cons_self ..)) with e|h2
        · exact e.symm
        · have:=b1 x h1;have:=a1 y h2;omega
    subst e
    congr 1
    refine oS a b a2 b2 (fun z=>?_)
    have hz:=h z
    simp only [List.mem_cons] at hz
    constructor
    ·
      intro h1
      rcases hz.1 (.inr h1) with e|h2
      · have:=a1 z h1;omega
      · exact h2
    ·
      intro h1
      rcases hz.2 (.inr h1) with e|h2
      · have:=b1 z h1;omega
      · exact h2
theorem qA {l:List ak}(h:bQ l):(aR l).Pairwise (· < ·):=by
  unfold aR;rw [oE h];exact (hG l 999).1
theorem qB {α:Type}{l:List α}{y:α}(hy:l.getLast? = some y):y∈l:=by
  obtain ⟨a,rfl⟩:=List.getLast?_eq_some_iff.1 hy;simp
theorem Inv.ids {r:au}(h:Inv r):r.Things.map ai.ID=aR r.aj :=
  oS _ _ (nN ai.ID h.e8 (fun _ _ _ _ h=>h)) (qA h.tree) fun x=>by
    rw [fY h.tree,List.mem_map]
    constructor
    · rintro ⟨t,ht,rfl⟩;exact h.used t ht
    · rintro ⟨w,hw,rfl⟩;exact h.thing w hw
theorem Inv.nodup {r:au}(h:Inv r):(r.Held.map Held.ak).Nodup:=by
  rw [List.nodup_iff_count]
  intro a
  by_cases ha:∃w∈r.aj,w.ID=a
  ·
    obtain ⟨w,hw,rfl⟩:=ha
    have:=h.once w hw
    have e:(r.Held.map Held.ak).count w.ID=cH r.Held w.ID:=by
      unfold cH;rw [List.count,List.countP_map];rfl
    omega
  ·
    rw [List.count_eq_zero.2 (fun hm=>?_)]
    · omega
    ·
      obtain ⟨x,hx,rfl⟩:=List.mem_map.1 hm
      exact ha (h.dk x hx)
theorem Inv.whole {r:au}(h:Inv r)(hl:r.Held.length=r.aj.length):Whole r where
  tree:=h.tree
  fj:=h.fj
  jk:=h.jk
  j4:=h.j4
  jo:=h.jo
  jq:=h.jq
  hlen:=hl
  dk:=fun x hx=>by
    obtain ⟨w,hw,e⟩:=h.dk x hx
    exact fX.2 ⟨w,hw,e⟩
  once:=h.nodup
  things:=h.ids
  xZ:=fun w hw=>h.kF w (qB hw)
  ya:=fun t ht=>(h.mJ t (qB ht)).2
theorem rU {r:au}(h:Inv r)(hn:r.Notes=[])(hl:r.Held.length=r.aj.length):bj (rowsOf r)=(r,0):=by
  have h1:=sW (rowsOf r) none r0 (fun _ _=>rfl) (t7 h) (t8 h)
  unfold bj
  rw [h1,ua h hn]
  dsimp only
  rw [if_pos (nJ (h.whole hl))]
theorem qC {r:au}(h:Inv r):bj (bP r)=(aI r,0):=by
  obtain ⟨h1,h2,h3,h4,h5⟩:=iG h
  exact rU h1 h2 h4
theorem ub {r:au}(h:Inv r):(bP r).length≤60:=by
  obtain ⟨h1,h2,h3,h4,h5⟩:=iG h
  have a:=qo h1;have b:=h1.fj
  unfold bP rowsOf
  simp only [List.length_append,List.length_map,List.length_cons,List.length_nil]
  omega
end Go.Proofs.YtbkfhjaibhnkmaaGreatDoor
