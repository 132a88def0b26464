import Derived.Test.YtbkfhjaibhnkmaaGreatDoorIMS24
import Derived.Test.YtbkfhjaibhnkmaaGreatDoorIMS33
import Derived.Test.YtbkfhjaibhnkmaaGreatDoorIMS32
section
namespace Go.Proofs.YtbkfhjaibhnkmaaGreatDoor
open Go Go.RowKit
set_option linter.unusedVariables false
set_option linter.unusedSimpArgs false
set_option maxRecDepth 100000
theorem xL (aD az aB aC:Value)(r:ar)(w:World)(own:List Nat)(H:Wd w (blks []++own) ([]++[ag.held w own]) [ag.ls aD (r.ai:List ak),ag.ls az (r.Things:List ao),ag.ls aB (r.Held:List Held),ag.ls aC (r.Notes:List Note)] w)(hk:Ok r):Calls Tryz.prog 24 #[.agg #[aD,az,aB,aC,iV r.ae,iV r.af]] w fun e w' => ∃z:Value×Value×Value×Value,e = .returned (.agg #[z.1,z.2.1,z.2.2.1,z.2.2.2,iV (((aH r)).ae),iV (((aH r)).af)])∧Wd w (blks []++own) ([]++[ag.held w own]) [ag.ls z.1 (((aH r)).ai:List ak),ag.ls z.2.1 (((aH r)).Things:List ao),ag.ls z.2.2.1 (((aH r)).Held:List Held),ag.ls z.2.2.2 (((aH r)).Notes:List Note)] w':=by
 have cS:=H.ct 0 rfl
 have cy:=H.ct 1 rfl
 have dq:=H.ct 2 rfl
 have cT:=H.ct 3 rfl
 have bw:=hk.wl;have bt:=hk.tl;have bh:=hk.hl;have bn:=hk.nl;have rL:=hk.w0;have rM:=hk.w1;have rN:=hk.t0;have rO:=hk.t1
 refine R.da (n:=25) (vs:=[.agg #[aD,az,aB,aC,iV r.ae,iV r.af]]) (B:=[ag.held w own]) [(0,.agg #[aD,az,aB,aC,iV r.ae,iV r.af])] Tryz.func24 O O O O H ?_
 refine R.reg O<|R.s O (s.box (cs:=[aD,az,aB,aC,iV r.ae,iV r.af]) O O O) fun b1=>R.s O (s.alloc (cs:=aG) cp O O) fun b2=>R.nil ?_
 refine R.reg O<|R.q (q.aT (off':=3) O br O) O<|R.q (q.ld 1 O O bN O) O<|R.q (q.len' (bJ 3 O) O Tryz.underlying30) O<|R.u 1 O<|R.nil ?_
 refine R.loop (fun g_:Nat×Value×(List ak)=>[(1,.pointer (some ⟨b1,0,none⟩)),(2,.pointer (some ⟨b2,0,none⟩)),(6,aC),(7,iV (r.Notes.length:Int)),(8,iV (g_.1:Int))]) (fun g_=>[ag.box b2 aG 32,ag.box b1 [g_.2.1,az,aB,aC,iV r.ae,iV r.af] 32,ag.held w own]) (fun g_=>[ag.ls g_.2.1 g_.2.2,ag.ls aD r.ai,ag.ls az r.Things,ag.ls aB r.Held,ag.ls aC r.Notes]) (fun g_=>g_.1≤r.Notes.length∧g_.2.2=fe (r.Notes.take g_.1) r.ai) (fun g_=>r.Notes.length-g_.1) (0,aD,r.ai) O (by exact ⟨by omega,rfl⟩) ⟨rfl,rfl,rfl,rfl,rfl,trivial⟩ (fun _=>Wd.pick [0,1,2] [0,0,1,2,3] O O O) ?_
 rintro ⟨j,vw,ws⟩ ⟨hj1,HW⟩
 dsimp only at *
 have hws:ws.length≤2000:=by rw [HW];exact Nat.le_trans (rH _ _) hk.wl
 have hwr:∀w∈ws,0≤w.Rights∧w.Rights≤7:=by rw [HW];exact td _ _ hk.ri
 have hok:Ok (⟨ws,r.Things,r.Held,[],r.ae,r.af⟩:ar):=⟨hws,hk.tl,hk.hl,Nat.zero_le _,hwr,hk.w0,hk.w1,hk.t0,hk.t1⟩
 refine R.reg O<|?_
 by_cases h1:j<r.Notes.length
 ·
  refine R.q (q.lss O O (decide_eq_true (by omega))) O<|R.nil ?_
  refine R.aE O O ?_
  refine R.reg O<|?_
  obtain ⟨x1,hx1⟩:∃z,r.Notes[j]? = some z:=⟨_,List.getElem?_eq_getElem (by omega)⟩
  refine R.q (q.idx (i:=j) (bJ 4 O) O O du O hx1) O<|R.q (q.cY (ds:=bg x1) (bJ 4 O) hx1 O bO O) O<|R.s O (s.alloc (cs:=[iV 0,.string (⟨#[]⟩),iV 0,iV 0]) dv O O) fun b3=>R.s O (s.st (us:=bg x1) (cs':=bg x1) 0 _ O O O O (.inl bO) O O O O) fun _=>R.nil ?_
  refine R.reg O<|R.q (q.aT (off':=3) O dE O) O<|R.q (q.ld 0 O O aA O) O<|?_
  by_cases h2:0<x1.ak
  ·
   refine R.q (q.gtr O O (decide_eq_true (by omega))) O<|R.nil ?_
   refine R.aE O O ?_
   refine R.reg O<|R.q (q.aT (off':=0) O bf O) O<|R.q (q.ld 2 O O bE O) O<|R.q (q.aT (off':=3) O dE O) O<|R.q (q.ld 0 O O aA O) O<|R.s O (s.lR AF O O (fun w hw=>mj _ (ws) (x1.ak) w (hw.bq 0 O) (by omega)) O) fun v1=>R.q (q.aT (off':=0) O bf O) O<|R.s O (s.dy (us:=[v1]) (cs':=[v1,az,aB,aC,iV r.ae,iV r.af]) 3 _ O O O (fun w hw=>Sl.cm (hw.row 0 O)) (.inr ⟨bE,rfl⟩) (fun w hw=>(ah (Sl.one (hw.row 0 O)) aL)) O O O) fun _=>R.nil ?_
   refine R.reg O<|R.q (q.add (r:=((j+1:Nat):Int)) O O (wr (by omega))) O<|R.u 1 O<|R.nil ?_
   refine R.mp (B':=[ag.box b3 (bg x1) 72,ag.box b2 aG 32,ag.box b1 [v1,az,aB,aC,iV r.ae,iV r.af] 32,ag.held w own]) (fun _ hw=>hw.bH 0 _ O O) ?_
   refine R.back (j+1,v1,(without ws x1.ak)) O (by (exact ⟨by omega,by rw [jO hx1,if_pos (by omega),HW]⟩)) (by dsimp only;omega) ⟨rfl,rfl,rfl,rfl,rfl,trivial⟩ (aK [1,2,3] [0,2,3,4,5] O O O)
  ·
   refine R.q (q.gtr O O (decide_eq_false (by omega))) O<|R.nil ?_
   refine R.aF O O ?_
   refine R.reg O<|R.q (q.add (r:=((j+1:Nat):Int)) O O (wr (by omega))) O<|R.u 1 O<|R.nil ?_
   refine R.back (j+1,vw,ws) O (by (exact ⟨by omega,by rw [jO hx1,if_neg (by omega),HW]⟩)) (by dsimp only;omega) ⟨rfl,rfl,rfl,rfl,rfl,trivial⟩ (aK [1,2,3] cZ O O O)
 ·
  refine R.q (q.lss O O (decide_eq_false (by omega))) O<|R.nil ?_
  refine R.aF O O ?_
  refine R.reg O<|R.q (q.aT (off':=3) O br O) O<|R.s O (s.st (us:=[nS]) (cs':=[vw,az,aB,nS,iV r.ae,iV r.af]) 1 _ O O O O (.inr ⟨bN,rfl⟩) O O O O) fun _=>R.nil ?_
  refine R.reg O<|R.q (q.cj 1 O O ap) O<|R.s (B':=(fun g_:Value×Value×Value×Value=>[ag.box b2 aG 32,ag.box b1 [vw,az,aB,nS,iV r.ae,iV r.af] 32,ag.held w own])) (F':=(fun g_=>[ag.ls g_.1 (((aY (⟨ws,r.Things,r.Held,[],r.ae,r.af⟩:ar))).ai:List ak),ag.ls g_.2.1 (((aY (⟨ws,r.Things,r.Held,[],r.ae,r.af⟩:ar))).Things:List ao),ag.ls g_.2.2.1 (((aY (⟨ws,r.Things,r.Held,[],r.ae,r.af⟩:ar))).Held:List Held),ag.ls g_.2.2.2 (((aY (⟨ws,r.Things,r.Held,[],r.ae,r.af⟩:ar))).Notes:List Note),ag.ls (nS) ([]:List Note),ag.ls vw ws,ag.ls aD r.ai,ag.ls az r.Things,ag.ls aB r.Held,ag.ls aC r.Notes])) O (s.pre (B2:=[ag.box b2 aG 32,ag.box b1 [vw,az,aB,nS,iV r.ae,iV r.af] 32,ag.held w own]) (F2:=[ag.ls (nS) ([]:List Note),ag.ls vw ws,ag.ls aD r.ai,ag.ls az r.Things,ag.ls aB r.Held,ag.ls aC r.Notes]) (fun _ hw=>hw.aR (α:=Note)) (s.bP (B0:=[]) (Br:=[ag.box b2 aG 32,ag.box b1 [vw,az,aB,nS,iV r.ae,iV r.af] 32,ag.held w own]) (F0:=[ag.ls vw ws,ag.ls az r.Things,ag.ls aB r.Held,ag.ls (nS) ([]:List Note)]) [0,1,2] [1,3,4,0] (fun g_:Value×Value×Value×Value => .agg #[g_.1,g_.2.1,g_.2.2.1,g_.2.2.2,iV (((aY (⟨ws,r.Things,r.Held,[],r.ae,r.af⟩:ar))).ae),iV (((aY (⟨ws,r.Things,r.Held,[],r.ae,r.af⟩:ar))).af)]) (fun g_=>[]) (fun g_=>[ag.ls g_.1 (((aY (⟨ws,r.Things,r.Held,[],r.ae,r.af⟩:ar))).ai:List ak),ag.ls g_.2.1 (((aY (⟨ws,r.Things,r.Held,[],r.ae,r.af⟩:ar))).Things:List ao),ag.ls g_.2.2.1 (((aY (⟨ws,r.Things,r.Held,[],r.ae,r.af⟩:ar))).Held:List Held),ag.ls g_.2.2.2 (((aY (⟨ws,r.Things,r.Held,[],r.ae,r.af⟩:ar))).Notes:List Note)]) O O O AG O O (fun w own hw H=>nP vw az aB (nS) ((⟨ws,r.Things,r.Held,[],r.ae,r.af⟩:ar)) w own H ‹_›) O)) ?_
  rintro ⟨z1,z2,z3,z4⟩
  dsimp only
  refine R.s O (s.dy (us:=[z1,z2,z3,z4,iV ((aY (⟨ws,r.Things,r.Held,[],r.ae,r.af⟩:ar)).ae),iV ((aY (⟨ws,r.Things,r.Held,[],r.ae,r.af⟩:ar)).af)]) (cs':=[z1,z2,z3,z4,iV ((aY (⟨ws,r.Things,r.Held,[],r.ae,r.af⟩:ar)).ae),iV ((aY (⟨ws,r.Things,r.Held,[],r.ae,r.af⟩:ar)).af)]) 0 _ O O O (fun _ _=>rfl) (.inl ap) (fun w hw=>(ah (Sl.one (hw.bq 0 O)) (ah (Sl.one (hw.bq 1 O)) (ah (Sl.one (hw.bq 2 O)) (ah (Sl.one (hw.bq 3 O)) (ah O (ah O aL))))))) O O O) fun _=>R.nil ?_
  have hz:aH r=(aY (⟨ws,r.Things,r.Held,[],r.ae,r.af⟩:ar)):=by (unfold aH;rw [HW,List.take_of_length_le (by omega)])
  rw [hz]
  exact R.w1 (z1,z2,z3,z4) [2] bm O Tryz.results24 (RV.cell 0 O O ap) O O O O
end Go.Proofs.YtbkfhjaibhnkmaaGreatDoor
end
section
namespace Go.Proofs.YtbkfhjaibhnkmaaGreatDoor
set_option linter.unusedVariables false
set_option linter.unusedSimpArgs false
def jT (r:ar)(c:Change):ar:=(rowP r c).1
theorem Cn (r s:ar)(c:Change):(rowP r c).2=(rowP s c).2:=by
 unfold rowP
 (repeat' split) <;> (try rfl) <;> dsimp only <;> (repeat' split) <;> rfl
theorem yS:∀ (l:List Change) (pv:Option ByteArray) (r:ar),(∀c∈l,mF pv c=true)→dY l→(∀c∈l,c.Gone=false ∧ ∀s,(rowP s c).2=true)→pgo l pv r=some (l.foldl jT r)
 | [],_,r,_,_,_=>rfl
 | c::l,pv,r,h1,h2,h3=>by
  obtain ⟨hc,hl⟩:=List.pairwise_cons.1 h2
  have g:=h3 c (List.mem_cons_self ..)
  simp only [pgo]
  rw [if_pos (by rw [h1 c (List.mem_cons_self ..),g.1,g.2 r];rfl)]
  exact yS l (some c.Key) _ (fun x hx=>hc x hx) hl (fun x hx=>h3 x (List.mem_cons_of_mem _ hx))
theorem Co:∀ (l:List Change) (pv:Option ByteArray) (r z:ar),pgo l pv r=some z→(∀c∈l,mF pv c=true)∧dY l∧(∀c∈l,c.Gone=false ∧ ∀s,(rowP s c).2=true)∧z=l.foldl jT r
 | [],_,r,z,h=>by simp only [pgo] at h;injection h with h;exact ⟨(by intro c hc;cases hc),List.Pairwise.nil,(by intro c hc;cases hc),h.symm⟩
 | c::l,pv,r,z,h=>by
  simp only [pgo] at h
  split at h
  ·
   rename_i hb
   simp only [Bool.and_eq_true,Bool.not_eq_true'] at hb
   obtain ⟨⟨b1,b2⟩,b3⟩:=hb
   obtain ⟨g1,g2,g3,g4⟩:=Co l (some c.Key) _ z h
   refine ⟨fun x hx=>?_,List.pairwise_cons.2 ⟨fun x hx=>g1 x hx,g2⟩,fun x hx=>?_,g4⟩
   ·
    rcases List.mem_cons.1 hx with e|hx
    ·rw [e];exact b1
    ·
     have k:=g1 x hx
     cases pv with
     | none=>rfl
     | some p=>exact hN b1 k
   ·
    rcases List.mem_cons.1 hx with e|hx
    ·rw [e];exact ⟨b2,fun s=>(Cn s r c).trans b3⟩
    ·exact g3 x hx
  ·cases h
theorem Cp:∀ (hs:List Held) (r:ar),(∀h∈hs,bu h.Place=0∧0≤h.ak∧h.ak<10000)→(hs.map hrow).foldl jT r=⟨r.ai,r.Things,r.Held++hs,r.Notes,r.ae,r.af⟩
 | [],r,_=>by rw [List.map_nil,List.foldl_nil,List.append_nil]
 | h::hs,r,k=>by
  obtain ⟨k1,k2,k3⟩:=k h (List.mem_cons_self ..)
  rw [List.map_cons,List.foldl_cons,show jT r (hrow h)=sD r h by unfold jT;rw [B6 r k1 k2 k3],Cp hs _ (fun x hx=>k x (List.mem_cons_of_mem _ hx))]
  simp only [sD,List.append_assoc,List.cons_append,List.nil_append]
structure Jm (t:ao):Prop where
  i0:0≤t.ID
  i9:t.ID<10000
  kd:t.Kind=1∨t.Kind=2∧t.Data.size=0
  ds:t.Data.size≤8
theorem Cq:∀ (ts:List ao) (r:ar),(∀t∈ts,Jm t)→(ts.map gV).foldl jT r=⟨r.ai,r.Things++ts,r.Held,r.Notes,r.ae,r.af⟩
 | [],r,_=>by rw [List.map_nil,List.foldl_nil,List.append_nil]
 | t::ts,r,k=>by
  obtain ⟨k1,k2,k3,k4⟩:=k t (List.mem_cons_self ..)
  rw [List.map_cons,List.foldl_cons,show jT r (gV t)=sE r t by unfold jT;rw [Ca r k1 k2 k3 k4],Cq ts _ (fun x hx=>k x (List.mem_cons_of_mem _ hx))]
  simp only [sE,List.append_assoc,List.cons_append,List.nil_append]
theorem Cr:∀ (ws:List ak) (r:ar),(∀w∈ws,Gi w)→(ws.map jo).foldl jT r=⟨r.ai++ws,r.Things,r.Held,r.Notes,r.ae,r.af⟩
 | [],r,_=>by rw [List.map_nil,List.foldl_nil,List.append_nil]
 | w::ws,r,k=>by
  rw [List.map_cons,List.foldl_cons,show jT r (jo w)=oL r w by unfold jT;rw [Cb r (k w (List.mem_cons_self ..))],Cr ws _ (fun x hx=>k x (List.mem_cons_of_mem _ hx))]
  simp only [oL,List.append_assoc,List.cons_append,List.nil_append]
theorem tD {l:List ak}(h:cR l):l.Pairwise (fun a b=>a.ID<b.ID):=by
 have key:∀ (n i j:Nat) (x y:ak),j=i+n+1→l[i]? = some x→l[j]? = some y→x.ID<y.ID:=by
  intro n
  induction n with
  | zero =>
   intro i j x y e hx hy
   have hs:=h.steps j (List.getElem?_eq_some_iff.1 hy).1
   by_cases hlt:x.ID<y.ID
   ·exact hlt
   ·
    by_cases hf:cM y=0
    ·rw [j7 hy hf (by omega) (by rw [show j-1=i by omega];exact hx) hlt] at hs;omega
    ·rw [gv hy hf] at hs;omega
  | succ n ih =>
   intro i j x y e hx hy
   have hj:j-1<l.length:=by have:=(List.getElem?_eq_some_iff.1 hy).1;omega
   have hz:=List.getElem?_eq_getElem hj
   exact Int.lt_trans (ih i (j-1) x l[j-1] (by omega) hx hz) (by
    have hs:=h.steps j (List.getElem?_eq_some_iff.1 hy).1
    by_cases hlt:l[j-1].ID<y.ID
    ·exact hlt
    ·
     by_cases hf:cM y=0
     ·rw [j7 hy hf (by omega) hz hlt] at hs;omega
     ·rw [gv hy hf] at hs;omega)
 rw [List.pairwise_iff_getElem]
 intro i j hi hj hij
 exact key (j-i-1) i j _ _ (by omega) (List.getElem?_eq_getElem hi) (List.getElem?_eq_getElem hj)
theorem Inv.ET {r:ar}(h:Inv r){t:ao}(ht:t∈r.Things):Jm t:=by
 have a:=h.qn t ht;have b:=h.ky;have c:=h.gD t ht;have d:=h.gE t ht
 refine ⟨by omega,by omega,?_,d.1⟩
 rcases c with c|c
 ·exact .inl c
 ·exact .inr ⟨c,by rw [d.2 c];rfl⟩
theorem Inv.CX {r:ar}(h:Inv r){x:Held}(hx:x∈r.Held):bu x.Place=0∧1≤x.ak∧x.ak<10000:=by
 obtain ⟨w,hw,e⟩:=h.eo x hx
 have k:=h.tree.mem hw
 have:=k.id1;have:=k.Dl
 exact ⟨((vM.1 h.good).2 x hx).1,by omega,by omega⟩
theorem r9 {α β:Type}{R:β→β→Prop}{S:α→α→Prop}(f:α→β):∀ {l:List α},l.Pairwise S→(∀x∈l,∀y∈l,S x y→R (f x) (f y))→(l.map f).Pairwise R
 | [],_,_=>List.Pairwise.nil
 | a::l,h,k=>by
  obtain ⟨h1,h2⟩:=List.pairwise_cons.1 h
  refine List.pairwise_cons.2 ⟨fun y hy=>?_,r9 f h2 (fun x hx y hy=>k x (List.mem_cons_of_mem _ hx) y (List.mem_cons_of_mem _ hy))⟩
  obtain ⟨x,hx,rfl⟩:=List.mem_map.1 hy
  exact k a (List.mem_cons_self ..) x (List.mem_cons_of_mem _ hx) (h1 x hx)
theorem zJ {r:ar}(h:Inv r):dY (rowsOf r):=by
 have hx:bl kX=[120]:=rfl
 have kh:∀x∈r.Held,bl (hrow x).Key=[104,d8 x.Place.aj.toNat,d8 x.Place.Slot.toNat]:=fun x hx=>hkey (h.CX hx).1
 have kt:∀t∈r.Things,bl (gV t).Key=116::xG t.ID.toNat:=fun t ht=>tkey (h.ET ht).i0 (h.ET ht).i9
 have kw:∀w∈r.ai,bl (jo w).Key=119::xG w.ID.toNat:=fun w hw=>by
  have:=(h.tree.mem hw).id1;have:=(h.tree.mem hw).Dl;exact B5 (by omega) (by omega)
 unfold dY rowsOf
 refine List.pairwise_append.2 ⟨List.pairwise_append.2 ⟨List.pairwise_append.2 ⟨?_,?_,?_⟩,?_,?_⟩,List.pairwise_singleton _ _,?_⟩
 ·exact r9 hrow (vM.1 h.good).1 (fun x hx y hy hl=>yO (h.CX hx).1 (h.CX hy).1 hl)
 ·exact r9 gV h.fP (fun x hx y hy hl=>DN (h.ET hx).i0 (h.ET hy).i9 hl)
 ·
  intro a ha b hb
  obtain ⟨x,hx,rfl⟩:=List.mem_map.1 ha;obtain ⟨y,hy,rfl⟩:=List.mem_map.1 hb
  exact lE (kh x hx) (kt y hy) (by decide)
 ·exact r9 jo (tD h.tree) (fun x hx y hy hl=>by
   have:=(h.tree.mem hx).id1;have:=(h.tree.mem hy).Dl;exact DR (by omega) (by omega) hl)
 ·
  intro a ha b hb
  obtain ⟨y,hy,rfl⟩:=List.mem_map.1 hb
  rcases List.mem_append.1 ha with ha|ha
  ·
   obtain ⟨x,hx,rfl⟩:=List.mem_map.1 ha
   exact lE (kh x hx) (kw y hy) (by decide)
  ·
   obtain ⟨x,hx,rfl⟩:=List.mem_map.1 ha
   exact lE (kt x hx) (kw y hy) (by decide)
 ·
  intro a ha b hb
  rw [List.mem_singleton.1 hb]
  rcases List.mem_append.1 ha with ha|ha
  ·
   rcases List.mem_append.1 ha with ha|ha
   ·
    obtain ⟨x,hx',rfl⟩:=List.mem_map.1 ha
    exact lE (kh x hx') hx (by decide)
   ·
    obtain ⟨x,hx',rfl⟩:=List.mem_map.1 ha
    exact lE (kt x hx') hx (by decide)
  ·
   obtain ⟨x,hx',rfl⟩:=List.mem_map.1 ha
   exact lE (kw x hx') hx (by decide)
theorem zK {r:ar}(h:Inv r):∀c∈rowsOf r,c.Gone=false ∧ ∀s,(rowP s c).2=true:=by
 have a1:=h.ki;have a2:=h.lC;have a3:=h.kv;have a4:=h.ky
 intro c hc
 unfold rowsOf at hc
 rcases List.mem_append.1 hc with hc|hc
 ·
  rcases List.mem_append.1 hc with hc|hc
  ·
   rcases List.mem_append.1 hc with hc|hc
   ·
    obtain ⟨x,hx,rfl⟩:=List.mem_map.1 hc
    have k:=h.CX hx
    exact ⟨rfl,fun s=>by rw [B6 s k.1 (by omega) k.2.2]⟩
   ·
    obtain ⟨x,hx,rfl⟩:=List.mem_map.1 hc
    have k:=h.ET hx
    exact ⟨rfl,fun s=>by rw [Ca s k.i0 k.i9 k.kd k.ds]⟩
  ·
   obtain ⟨x,hx,rfl⟩:=List.mem_map.1 hc
   exact ⟨rfl,fun s=>by rw [Cb s (h.tree.mem hx)]⟩
 ·
  rw [List.mem_singleton.1 hc]
  exact ⟨rfl,fun s=>by rw [Cc s r (by omega) (by omega)]⟩
theorem zM {r:ar}(h:Inv r)(hn:r.Notes=[]):(rowsOf r).foldl jT r0=r:=by
 have a1:=h.ki;have a2:=h.lC;have a3:=h.kv;have a4:=h.ky
 unfold rowsOf
 rw [List.foldl_append,List.foldl_append,List.foldl_append,Cp _ _ (fun x hx=>⟨(h.CX hx).1,by have:=(h.CX hx).2.1;omega,(h.CX hx).2.2⟩),Cq _ _ (fun t ht=>h.ET ht),Cr _ _ (fun w hw=>h.tree.mem hw)]
 rw [List.foldl_cons,List.foldl_nil]
 unfold jT
 rw [Cc _ r (by omega) (by omega)]
 obtain ⟨a,b,c,d,e,f⟩:=r
 simp only at hn
 subst hn
 simp [xF,r0]
theorem tE:∀ (a b:List Int),a.Pairwise (· < ·)→b.Pairwise (· < ·)→(∀x,x∈a↔x∈b)→a=b
 | [],[],_,_,_=>rfl
 | [],y::b,_,_,h=>by have:=(h y).2 (List.mem_cons_self ..);cases this
 | x::a,[],_,_,h=>by have:=(h x).1 (List.mem_cons_self ..);cases this
 | x::a,y::b,ha,hb,h=>by
  obtain ⟨a1,a2⟩:=List.pairwise_cons.1 ha
  obtain ⟨b1,b2⟩:=List.pairwise_cons.1 hb
  have e:x=y:=by
   rcases List.mem_cons.1 ((h x).1 (List.mem_cons_self ..)) with e|h1
   ·exact e
   ·
    rcases List.mem_cons.1 ((h y).2 (List.mem_cons_self ..)) with e|h2
    ·exact e.symm
    ·have:=b1 x h1;have:=a1 y h2;omega
  subst e
  congr 1
  refine tE a b a2 b2 (fun z=>?_)
  have hz:=h z
  simp only [List.mem_cons] at hz
  constructor
  ·
   intro h1
   rcases hz.1 (.inr h1) with e|h2
   ·have:=a1 z h1;omega
   ·exact h2
  ·
   intro h1
   rcases hz.2 (.inr h1) with e|h2
   ·have:=b1 z h1;omega
   ·exact h2
theorem qa {l:List ak}(h:cR l):(aX l).Pairwise (· < ·):=by
 unfold aX;rw [pg h];exact (j9 l 999).1
theorem yU {α:Type}{R:α→α→Prop}{l:List α}(h:l.Pairwise R){x y:α}(hy:l.getLast? = some y)(hx:x∈l):x=y∨R x y:=by
 obtain ⟨a,rfl⟩:∃a,l=a++[y]:=by
  have:=List.getLast?_eq_some_iff.1 hy;exact this
 rcases List.mem_append.1 hx with hx|hx
 ·exact .inr ((List.pairwise_append.1 h).2.2 x hx y (by simp))
 ·exact .inl (List.mem_singleton.1 hx)
theorem wn {α:Type}{l:List α}{y:α}(hy:l.getLast? = some y):y∈l:=by
 obtain ⟨a,rfl⟩:=List.getLast?_eq_some_iff.1 hy;simp
theorem Inv.ids {r:ar}(h:Inv r):r.Things.map ao.ID=aX r.ai :=
 tE _ _ (r9 ao.ID h.fP (fun _ _ _ _ h=>h)) (qa h.tree) fun x=>by
  rw [gC h.tree,List.mem_map]
  constructor
  ·rintro ⟨t,ht,rfl⟩;exact h.used t ht
  ·rintro ⟨w,hw,rfl⟩;exact h.thing w hw
theorem Inv.nodup {r:ar}(h:Inv r):(r.Held.map Held.ak).Nodup:=by
 rw [List.nodup_iff_count]
 intro a
 by_cases ha:∃w∈r.ai,w.ID=a
 ·
  obtain ⟨w,hw,rfl⟩:=ha
  have:=h.once w hw
  have e:(r.Held.map Held.ak).count w.ID=cH r.Held w.ID:=by
   unfold cH;rw [List.count,List.countP_map];rfl
  omega
 ·
  rw [List.count_eq_zero.2 (fun hm=>?_)]
  ·omega
  ·
   obtain ⟨x,hx,rfl⟩:=List.mem_map.1 hm
   exact ha (h.eo x hx)
theorem Inv.whole {r:ar}(h:Inv r)(hl:r.Held.length=r.ai.length):Whole r where
 tree:=h.tree
 gh:=h.gh
 ki:=h.ki
 lC:=h.lC
 kv:=h.kv
 ky:=h.ky
 hlen:=hl
 eo:=fun x hx=>by
  obtain ⟨w,hw,e⟩:=h.eo x hx
  exact gB.2 ⟨w,hw,e⟩
 once:=h.nodup
 things:=h.ids
 BV:=fun w hw=>h.nD w (wn hw)
 BW:=fun t ht=>(h.qn t (wn ht)).2
theorem xM {r:ar}(h:Inv r)(hn:r.Notes=[])(hl:r.Held.length=r.ai.length):aO (rowsOf r)=(r,0):=by
 have h1:=yS (rowsOf r) none r0 (fun _ _=>rfl) (zJ h) (zK h)
 unfold aO
 rw [h1,zM h hn]
 dsimp only
 rw [if_pos (nV (h.whole hl))]
theorem mH {r:ar}(h:Inv r):aO (aU r)=(aH r,0):=by
 obtain ⟨h1,h2,h3,h4,h5⟩:=iM h
 exact xM h1 h2 h4
theorem tF {r:ar}(h:Inv r):(aU r).length≤60:=by
 obtain ⟨h1,h2,h3,h4,h5⟩:=iM h
 have a:=oK h1;have b:=h1.gh
 unfold aU rowsOf
 simp only [List.length_append,List.length_map,List.length_cons,List.length_nil]
 omega
end Go.Proofs.YtbkfhjaibhnkmaaGreatDoor
end
