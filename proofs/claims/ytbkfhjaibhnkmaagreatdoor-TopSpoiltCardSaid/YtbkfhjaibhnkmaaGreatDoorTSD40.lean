import Derived.Test.YtbkfhjaibhnkmaaGreatDoorTSD26
import Derived.Test.YtbkfhjaibhnkmaaGreatDoorTSD39
import Derived.Test.YtbkfhjaibhnkmaaGreatDoorTSD36
section
namespace Go.Proofs.YtbkfhjaibhnkmaaGreatDoor
open Go Go.RowKit
set_option linter.unusedVariables false
set_option linter.unusedSimpArgs false
set_option maxRecDepth 100000
theorem tt (aF az aC aB:Value)(r:ap)(w:World)(own:List Nat)(H:Wd w (blks []++own) ([]++[ag.held w own]) [ag.ls aF (r.ai:List aj),ag.ls az (r.Things:List ah),ag.ls aC (r.Held:List Held),ag.ls aB (r.Notes:List Note)] w)(hk:Ok r):Calls Tryz.prog 24 #[.agg #[aF,az,aC,aB,iV r.ae,iV r.af]] w fun e w' => ∃z:Value×Value×Value×Value,e = .returned (.agg #[z.1,z.2.1,z.2.2.1,z.2.2.2,iV (((aR r)).ae),iV (((aR r)).af)])∧Wd w (blks []++own) ([]++[ag.held w own]) [ag.ls z.1 (((aR r)).ai:List aj),ag.ls z.2.1 (((aR r)).Things:List ah),ag.ls z.2.2.1 (((aR r)).Held:List Held),ag.ls z.2.2.2 (((aR r)).Notes:List Note)] w':=by
 have dR:=H.cX 0 rfl
 have dq:=H.cX 1 rfl
 have eK:=H.cX 2 rfl
 have dS:=H.cX 3 rfl
 have bw:=hk.wl;have bt:=hk.tl;have bh:=hk.hl;have bn:=hk.nl;have xF:=hk.w0;have xG:=hk.w1;have xH:=hk.t0;have xI:=hk.t1
 refine R.dc (n:=25) (vs:=[.agg #[aF,az,aC,aB,iV r.ae,iV r.af]]) (B:=[ag.held w own]) [(0,.agg #[aF,az,aC,aB,iV r.ae,iV r.af])] Tryz.func24 rfl rfl rfl rfl H ?_
 refine R.reg rfl<|R.s rfl (s.box (cs:=[aF,az,aC,aB,iV r.ae,iV r.af]) rfl rfl rfl) fun b1=>R.s rfl (s.alloc (cs:=aJ) cD rfl rfl) fun b2=>R.nil ?_
 refine R.reg rfl<|R.q (q.a8 (off':=3) rfl bR rfl) rfl<|R.q (q.ld 1 rfl rfl cy rfl) rfl<|R.q (q.len' (fun _=>Wd.aT 3 rfl) rfl Tryz.underlying30) rfl<|R.u 1 rfl<|R.nil ?_
 refine R.loop (fun g_:Nat×Value×(List aj)=>[(1,.pointer (some ⟨b1,0,none⟩)),(2,.pointer (some ⟨b2,0,none⟩)),(6,aB),(7,iV (r.Notes.length:Int)),(8,iV (g_.1:Int))]) (fun g_:Nat×Value×(List aj)=>[ag.box b2 aJ 32,ag.box b1 [g_.2.1,az,aC,aB,iV r.ae,iV r.af] 32,ag.held w own]) (fun g_:Nat×Value×(List aj)=>[ag.ls g_.2.1 (g_.2.2:List aj),ag.ls aF (r.ai:List aj),ag.ls az (r.Things:List ah),ag.ls aC (r.Held:List Held),ag.ls aB (r.Notes:List Note)]) (fun g_:Nat×Value×(List aj)=>g_.1≤r.Notes.length∧g_.2.2=eY (r.Notes.take g_.1) r.ai) (fun g_:Nat×Value×(List aj)=>r.Notes.length-g_.1) (0,aF,r.ai) rfl (by exact ⟨by omega,rfl⟩) ⟨rfl,rfl,rfl,rfl,rfl,trivial⟩ (fun _=>Wd.pick [0,1,2] [0,0,1,2,3] rfl rfl rfl) ?_
 rintro ⟨j,vw,ws⟩ ⟨hj1,HW⟩
 dsimp only at *
 have hws:ws.length≤2000:=by rw [HW];exact Nat.le_trans (sI _ _) hk.wl
 have hwr:∀w∈ws,0≤w.Rights∧w.Rights≤7:=by rw [HW];exact uU _ _ hk.ri
 have hok:Ok (⟨ws,r.Things,r.Held,[],r.ae,r.af⟩:ap):=⟨hws,hk.tl,hk.hl,Nat.zero_le _,hwr,hk.w0,hk.w1,hk.t0,hk.t1⟩
 refine R.reg rfl<|?_
 by_cases h1:j<r.Notes.length
 ·
  refine R.q (q.lss rfl rfl (decide_eq_true (by omega))) rfl<|R.nil ?_
  refine R.aD rfl rfl ?_
  refine R.reg rfl<|?_
  obtain ⟨x1,hx1⟩:∃z,r.Notes[j]? = some z:=⟨_,List.getElem?_eq_getElem (by omega)⟩
  refine R.q (q.idx (i:=j) (fun _=>Wd.aT 4 rfl) rfl rfl dW rfl hx1) rfl<|R.q (q.dD (ds:=cb x1) (fun _=>Wd.aT 4 rfl) hx1 rfl cm rfl) rfl<|R.s rfl (s.alloc (cs:=[iV 0,.string (⟨#[]⟩),iV 0,iV 0]) dC rfl rfl) fun b3=>R.s rfl (s.st (us:=cb x1) (cs':=cb x1) 0 _ rfl rfl rfl rfl (.inl cm) rfl rfl rfl rfl) fun _=>R.nil ?_
  refine R.reg rfl<|R.q (q.a8 (off':=3) rfl fm rfl) rfl<|R.q (q.ld 0 rfl rfl av rfl) rfl<|?_
  by_cases h2:0<x1.aj
  ·
   refine R.q (q.gtr rfl rfl (decide_eq_true (by omega))) rfl<|R.nil ?_
   refine R.aD rfl rfl ?_
   refine R.reg rfl<|R.q (q.a8 (off':=0) rfl bj rfl) rfl<|R.q (q.ld 2 rfl rfl bA rfl) rfl<|R.q (q.a8 (off':=3) rfl fm rfl) rfl<|R.q (q.ld 0 rfl rfl av rfl) rfl<|R.s rfl (s.nT vT rfl rfl (fun w hw=>ke _ (ws) (x1.aj) w (hw.aT 0 rfl) (by first|omega|assumption)) rfl) fun v1=>R.q (q.a8 (off':=0) rfl bj rfl) rfl<|R.s rfl (s.e8 (us:=[v1]) (cs':=[v1,az,aC,aB,iV r.ae,iV r.af]) 3 _ rfl rfl rfl (fun w hw=>Sl.cJ (hw.row 0 rfl)) (.inr ⟨bA,rfl⟩) (fun w hw=>(ak (Sl.one (hw.row 0 rfl)) aS)) rfl rfl rfl) fun _=>R.nil ?_
   refine R.reg rfl<|R.q (q.add (r:=((j+1:Nat):Int)) rfl rfl (wr (by omega))) rfl<|R.u 1 rfl<|R.nil ?_
   refine R.mp (B':=[ag.box b3 (cb x1) 72,ag.box b2 aJ 32,ag.box b1 [v1,az,aC,aB,iV r.ae,iV r.af] 32,ag.held w own]) (fun _ hw=>hw.di 0 _ rfl rfl) ?_
   refine R.back (j+1,v1,(without ws x1.aj)) rfl (by (first|exact ⟨by omega,by rw [jG hx1,if_pos (by omega),HW]⟩ | exact ⟨by omega,by rw [jG hx1,if_neg (by omega),HW]⟩)) (by dsimp only;omega) ⟨rfl,rfl,rfl,rfl,rfl,trivial⟩ (fun _=>Wd.aM [1,2,3] [0,2,3,4,5] rfl rfl rfl)
  ·
   refine R.q (q.gtr rfl rfl (decide_eq_false (by omega))) rfl<|R.nil ?_
   refine R.aI rfl rfl ?_
   refine R.reg rfl<|R.q (q.add (r:=((j+1:Nat):Int)) rfl rfl (wr (by omega))) rfl<|R.u 1 rfl<|R.nil ?_
   refine R.back (j+1,vw,ws) rfl (by (first|exact ⟨by omega,by rw [jG hx1,if_pos (by omega),HW]⟩ | exact ⟨by omega,by rw [jG hx1,if_neg (by omega),HW]⟩)) (by dsimp only;omega) ⟨rfl,rfl,rfl,rfl,rfl,trivial⟩ (fun _=>Wd.aM [1,2,3] [0,1,2,3,4] rfl rfl rfl)
 ·
  refine R.q (q.lss rfl rfl (decide_eq_false (by omega))) rfl<|R.nil ?_
  refine R.aI rfl rfl ?_
  refine R.reg rfl<|R.q (q.a8 (off':=3) rfl bR rfl) rfl<|R.s rfl (s.st (us:=[nS]) (cs':=[vw,az,aC,nS,iV r.ae,iV r.af]) 1 _ rfl rfl rfl rfl (.inr ⟨cy,rfl⟩) rfl rfl rfl rfl) fun _=>R.nil ?_
  refine R.reg rfl<|R.q (q.cT 1 rfl rfl ar) rfl<|R.s (B':=(fun g_:Value×Value×Value×Value=>[ag.box b2 aJ 32,ag.box b1 [vw,az,aC,nS,iV r.ae,iV r.af] 32,ag.held w own])) (F':=(fun g_:Value×Value×Value×Value=>[ag.ls g_.1 (((bq (⟨ws,r.Things,r.Held,[],r.ae,r.af⟩:ap))).ai:List aj),ag.ls g_.2.1 (((bq (⟨ws,r.Things,r.Held,[],r.ae,r.af⟩:ap))).Things:List ah),ag.ls g_.2.2.1 (((bq (⟨ws,r.Things,r.Held,[],r.ae,r.af⟩:ap))).Held:List Held),ag.ls g_.2.2.2 (((bq (⟨ws,r.Things,r.Held,[],r.ae,r.af⟩:ap))).Notes:List Note),ag.ls (nS) ([]:List Note),ag.ls vw (ws:List aj),ag.ls aF (r.ai:List aj),ag.ls az (r.Things:List ah),ag.ls aC (r.Held:List Held),ag.ls aB (r.Notes:List Note)])) rfl (s.pre (B2:=[ag.box b2 aJ 32,ag.box b1 [vw,az,aC,nS,iV r.ae,iV r.af] 32,ag.held w own]) (F2:=[ag.ls (nS) ([]:List Note),ag.ls vw (ws:List aj),ag.ls aF (r.ai:List aj),ag.ls az (r.Things:List ah),ag.ls aC (r.Held:List Held),ag.ls aB (r.Notes:List Note)]) (fun _ hw=>hw.bg (α:=Note)) (s.bJ (B0:=[]) (Br:=[ag.box b2 aJ 32,ag.box b1 [vw,az,aC,nS,iV r.ae,iV r.af] 32,ag.held w own]) (F0:=[ag.ls vw (ws:List aj),ag.ls az (r.Things:List ah),ag.ls aC (r.Held:List Held),ag.ls (nS) ([]:List Note)]) [0,1,2] [1,3,4,0] (fun g_:Value×Value×Value×Value => .agg #[g_.1,g_.2.1,g_.2.2.1,g_.2.2.2,iV (((bq (⟨ws,r.Things,r.Held,[],r.ae,r.af⟩:ap))).ae),iV (((bq (⟨ws,r.Things,r.Held,[],r.ae,r.af⟩:ap))).af)]) (fun g_:Value×Value×Value×Value=>[]) (fun g_:Value×Value×Value×Value=>[ag.ls g_.1 (((bq (⟨ws,r.Things,r.Held,[],r.ae,r.af⟩:ap))).ai:List aj),ag.ls g_.2.1 (((bq (⟨ws,r.Things,r.Held,[],r.ae,r.af⟩:ap))).Things:List ah),ag.ls g_.2.2.1 (((bq (⟨ws,r.Things,r.Held,[],r.ae,r.af⟩:ap))).Held:List Held),ag.ls g_.2.2.2 (((bq (⟨ws,r.Things,r.Held,[],r.ae,r.af⟩:ap))).Notes:List Note)]) rfl rfl rfl vU rfl rfl (fun w own hw H=>lr vw az aC (nS) ((⟨ws,r.Things,r.Held,[],r.ae,r.af⟩:ap)) w own H ‹_›) rfl)) ?_
  rintro ⟨z1,z2,z3,z4⟩
  dsimp only
  refine R.s rfl (s.e8 (us:=[z1,z2,z3,z4,iV ((bq (⟨ws,r.Things,r.Held,[],r.ae,r.af⟩:ap)).ae),iV ((bq (⟨ws,r.Things,r.Held,[],r.ae,r.af⟩:ap)).af)]) (cs':=[z1,z2,z3,z4,iV ((bq (⟨ws,r.Things,r.Held,[],r.ae,r.af⟩:ap)).ae),iV ((bq (⟨ws,r.Things,r.Held,[],r.ae,r.af⟩:ap)).af)]) 0 _ rfl rfl rfl (fun _ _=>rfl) (.inl ar) (fun w hw=>(ak (Sl.one (hw.aT 0 rfl)) (ak (Sl.one (hw.aT 1 rfl)) (ak (Sl.one (hw.aT 2 rfl)) (ak (Sl.one (hw.aT 3 rfl)) (ak rfl (ak rfl aS))))))) rfl rfl rfl) fun _=>R.nil ?_
  have hz:aR r=(bq (⟨ws,r.Things,r.Held,[],r.ae,r.af⟩:ap)):=by (unfold aR;rw [HW,List.take_of_length_le (by omega)])
  rw [hz]
  exact R.w1 (z1,z2,z3,z4) [2] [0,1,2,3] rfl Tryz.results24 (RV.cell 0 rfl rfl ar) rfl rfl rfl rfl
end Go.Proofs.YtbkfhjaibhnkmaaGreatDoor
end
section
namespace Go.Proofs.YtbkfhjaibhnkmaaGreatDoor
set_option linter.unusedVariables false
set_option linter.unusedSimpArgs false
def oY (r:ap)(c:Change):ap:=(rowP r c).1
theorem xo (r s:ap)(c:Change):(rowP r c).2=(rowP s c).2:=by
 unfold rowP
 (repeat' split) <;> (try rfl) <;> dsimp only <;> (repeat' split) <;> rfl
theorem xp:∀ (l:List Change) (pv:Option ByteArray) (r z:ap),pgo l pv r=some z→(∀c∈l,lC pv c=true)∧gR l∧(∀c∈l,c.Gone=false ∧ ∀s,(rowP s c).2=true)∧z=l.foldl oY r
 | [],_,r,z,h=>by simp only [pgo] at h;injection h with h;exact ⟨(by intro c hc;cases hc),List.Pairwise.nil,(by intro c hc;cases hc),h.symm⟩
 | c::l,pv,r,z,h=>by
  simp only [pgo] at h
  split at h
  ·
   rename_i hb
   simp only [Bool.and_eq_true,Bool.not_eq_true'] at hb
   obtain ⟨⟨b1,b2⟩,b3⟩:=hb
   obtain ⟨g1,g2,g3,g4⟩:=xp l (some c.Key) _ z h
   refine ⟨fun x hx=>?_,List.pairwise_cons.2 ⟨fun x hx=>g1 x hx,g2⟩,fun x hx=>?_,g4⟩
   ·
    rcases List.mem_cons.1 hx with e|hx
    ·rw [e];exact b1
    ·
     have k:=g1 x hx
     cases pv with
     | none=>rfl
     | some p=>exact mO b1 k
   ·
    rcases List.mem_cons.1 hx with e|hx
    ·rw [e];exact ⟨b2,fun s=>(xo s r c).trans b3⟩
    ·exact g3 x hx
  ·cases h
structure EA (t:ah):Prop where
  i0:0≤t.ID
  i9:t.ID<10000
  kd:t.Kind=1∨t.Kind=2∧t.Data.size=0
  ds:t.Data.size≤8
theorem p8 {l:List aj}(h:cj l):l.Pairwise (fun a b=>a.ID<b.ID):=by
 have key:∀ (n i j:Nat) (x y:aj),j=i+n+1→l[i]? = some x→l[j]? = some y→x.ID<y.ID:=by
  intro n
  induction n with
  | zero =>
   intro i j x y e hx hy
   have hs:=h.steps j (List.getElem?_eq_some_iff.1 hy).1
   by_cases hlt:x.ID<y.ID
   ·exact hlt
   ·
    by_cases hf:bK y=0
    ·rw [iK hy hf (by omega) (by rw [show j-1=i by omega];exact hx) hlt] at hs;omega
    ·rw [fC hy hf] at hs;omega
  | succ n ih =>
   intro i j x y e hx hy
   have hj:j-1<l.length:=by have:=(List.getElem?_eq_some_iff.1 hy).1;omega
   have hz:=List.getElem?_eq_getElem hj
   exact Int.lt_trans (ih i (j-1) x l[j-1] (by omega) hx hz) (by
    have hs:=h.steps j (List.getElem?_eq_some_iff.1 hy).1
    by_cases hlt:l[j-1].ID<y.ID
    ·exact hlt
    ·
     by_cases hf:bK y=0
     ·rw [iK hy hf (by omega) hz hlt] at hs;omega
     ·rw [fC hy hf] at hs;omega)
 rw [List.pairwise_iff_getElem]
 intro i j hi hj hij
 exact key (j-i-1) i j _ _ (by omega) (List.getElem?_eq_getElem hi) (List.getElem?_eq_getElem hj)
theorem Inv.Bf {r:ap}(h:Inv r){t:ah}(ht:t∈r.Things):EA t:=by
 have a:=h.nG t ht;have b:=h.jZ;have c:=h.fH t ht;have d:=h.fI t ht
 refine ⟨by omega,by omega,?_,d.1⟩
 rcases c with c|c
 ·exact .inl c
 ·exact .inr ⟨c,by rw [d.2 c];rfl⟩
theorem Inv.CQ {r:ap}(h:Inv r){x:Held}(hx:x∈r.Held):aX x.Place=0∧1≤x.aj∧x.aj<10000:=by
 obtain ⟨w,hw,e⟩:=h.dz x hx
 have k:=h.tree.mem hw
 have:=k.id1;have:=k.Ah
 exact ⟨((rD.1 h.good).2 x hx).1,by omega,by omega⟩
theorem oZ {α β:Type}{R:β→β→Prop}{S:α→α→Prop}(f:α→β):∀ {l:List α},l.Pairwise S→(∀x∈l,∀y∈l,S x y→R (f x) (f y))→(l.map f).Pairwise R
 | [],_,_=>List.Pairwise.nil
 | a::l,h,k=>by
  obtain ⟨h1,h2⟩:=List.pairwise_cons.1 h
  refine List.pairwise_cons.2 ⟨fun y hy=>?_,oZ f h2 (fun x hx y hy=>k x (List.mem_cons_of_mem _ hx) y (List.mem_cons_of_mem _ hy))⟩
  obtain ⟨x,hx,rfl⟩:=List.mem_map.1 hy
  exact k a (List.mem_cons_self ..) x (List.mem_cons_of_mem _ hx) (h1 x hx)
theorem vp {r:ap}(h:Inv r):gR (rowsOf r):=by
 have hx:bl kX=[120]:=rfl
 have kh:∀x∈r.Held,bl (hrow x).Key=[104,d8 x.Place.ao.toNat,d8 x.Place.Slot.toNat]:=fun x hx=>hkey (h.CQ hx).1
 have kt:∀t∈r.Things,bl (kQ t).Key=116::vD t.ID.toNat:=fun t ht=>tkey (h.Bf ht).i0 (h.Bf ht).i9
 have kw:∀w∈r.ai,bl (me w).Key=119::vD w.ID.toNat:=fun w hw=>by
  have:=(h.tree.mem hw).id1;have:=(h.tree.mem hw).Ah;exact yJ (by omega) (by omega)
 unfold gR rowsOf
 refine List.pairwise_append.2 ⟨List.pairwise_append.2 ⟨List.pairwise_append.2 ⟨?_,?_,?_⟩,?_,?_⟩,List.pairwise_singleton _ _,?_⟩
 ·exact oZ hrow (rD.1 h.good).1 (fun x hx y hy hl=>uv (h.CQ hx).1 (h.CQ hy).1 hl)
 ·exact oZ kQ h.eZ (fun x hx y hy hl=>yK (h.Bf hx).i0 (h.Bf hy).i9 hl)
 ·
  intro a ha b hb
  obtain ⟨x,hx,rfl⟩:=List.mem_map.1 ha;obtain ⟨y,hy,rfl⟩:=List.mem_map.1 hb
  exact jM (kh x hx) (kt y hy) (by decide)
 ·exact oZ me (p8 h.tree) (fun x hx y hy hl=>by
   have:=(h.tree.mem hx).id1;have:=(h.tree.mem hy).Ah;exact yL (by omega) (by omega) hl)
 ·
  intro a ha b hb
  obtain ⟨y,hy,rfl⟩:=List.mem_map.1 hb
  rcases List.mem_append.1 ha with ha|ha
  ·
   obtain ⟨x,hx,rfl⟩:=List.mem_map.1 ha
   exact jM (kh x hx) (kw y hy) (by decide)
  ·
   obtain ⟨x,hx,rfl⟩:=List.mem_map.1 ha
   exact jM (kt x hx) (kw y hy) (by decide)
 ·
  intro a ha b hb
  rw [List.mem_singleton.1 hb]
  rcases List.mem_append.1 ha with ha|ha
  ·
   rcases List.mem_append.1 ha with ha|ha
   ·
    obtain ⟨x,hx',rfl⟩:=List.mem_map.1 ha
    exact jM (kh x hx') hx (by decide)
   ·
    obtain ⟨x,hx',rfl⟩:=List.mem_map.1 ha
    exact jM (kt x hx') hx (by decide)
  ·
   obtain ⟨x,hx',rfl⟩:=List.mem_map.1 ha
   exact jM (kw x hx') hx (by decide)
theorem p9:∀ (a b:List Int),a.Pairwise (· < ·)→b.Pairwise (· < ·)→(∀x,x∈a↔x∈b)→a=b
 | [],[],_,_,_=>rfl
 | [],y::b,_,_,h=>by have:=(h y).2 (List.mem_cons_self ..);cases this
 | x::a,[],_,_,h=>by have:=(h x).1 (List.mem_cons_self ..);cases this
 | x::a,y::b,ha,hb,h=>by
  obtain ⟨a1,a2⟩:=List.pairwise_cons.1 ha
  obtain ⟨b1,b2⟩:=List.pairwise_cons.1 hb
  have e:x=y:=by
   rcases List.mem_cons.1 ((h x).1 (List.mem_cons_self ..)) with e|h1
   ·exact e
   ·
    rcases List.mem_cons.1 ((h y).2 (List.mem_cons_self ..)) with e|h2
    ·exact e.symm
    ·have:=b1 x h1;have:=a1 y h2;omega
  subst e
  congr 1
  refine p9 a b a2 b2 (fun z=>?_)
  have hz:=h z
  simp only [List.mem_cons] at hz
  constructor
  ·
   intro h1
   rcases hz.1 (.inr h1) with e|h2
   ·have:=a1 z h1;omega
   ·exact h2
  ·
   intro h1
   rcases hz.2 (.inr h1) with e|h2
   ·have:=b1 z h1;omega
   ·exact h2
theorem nn {l:List aj}(h:cj l):(aY l).Pairwise (· < ·):=by
 unfold aY;rw [pQ h];exact (iL l 999).1
theorem uz {α:Type}{R:α→α→Prop}{l:List α}(h:l.Pairwise R){x y:α}(hy:l.getLast? = some y)(hx:x∈l):x=y∨R x y:=by
 obtain ⟨a,rfl⟩:∃a,l=a++[y]:=by
  have:=List.getLast?_eq_some_iff.1 hy;exact this
 rcases List.mem_append.1 hx with hx|hx
 ·exact .inr ((List.pairwise_append.1 h).2.2 x hx y (by simp))
 ·exact .inl (List.mem_singleton.1 hx)
theorem Inv.ids {r:ap}(h:Inv r):r.Things.map ah.ID=aY r.ai :=
 p9 _ _ (oZ ah.ID h.eZ (fun _ _ _ _ h=>h)) (nn h.tree) fun x=>by
  rw [fG h.tree,List.mem_map]
  constructor
  ·rintro ⟨t,ht,rfl⟩;exact h.used t ht
  ·rintro ⟨w,hw,rfl⟩;exact h.thing w hw
theorem Inv.nodup {r:ap}(h:Inv r):(r.Held.map Held.aj).Nodup:=by
 rw [List.nodup_iff_count]
 intro a
 by_cases ha:∃w∈r.ai,w.ID=a
 ·
  obtain ⟨w,hw,rfl⟩:=ha
  have:=h.once w hw
  have e:(r.Held.map Held.aj).count w.ID=cH r.Held w.ID:=by
   unfold cH;rw [List.count,List.countP_map];rfl
  omega
 ·
  rw [List.count_eq_zero.2 (fun hm=>?_)]
  ·omega
  ·
   obtain ⟨x,hx,rfl⟩:=List.mem_map.1 hm
   exact ha (h.dz x hx)
theorem vq {r:ap}(h:Inv r):(bk r).length≤60:=by
 obtain ⟨h1,h2,h3,h4,h5⟩:=ji h
 have a:=oN h1;have b:=h1.fN
 unfold bk rowsOf
 simp only [List.length_append,List.length_map,List.length_cons,List.length_nil]
 omega
end Go.Proofs.YtbkfhjaibhnkmaaGreatDoor
end
