import Derived.Test.YtbkfhjaibhnkmaaGreatDoorIMS16
import Derived.Test.YtbkfhjaibhnkmaaGreatDoorIMS17
section
namespace Go.Proofs.YtbkfhjaibhnkmaaGreatDoor
open Go.RowKit
set_option linter.unusedVariables false
theorem rz {l:List ak}{k:Nat}{x y:ak}(hx:l[k]? = some x)(h:fO l k=0)(hk:0<k)(hy:l[k-1]? = some y):y.ID<x.ID:=by
 have hw:=oy hx h
 have h0:cM x=0:=by rcases ig x with h1|h1;exact h1;rw [gv hx (by omega)] at h;omega
 rcases Int.lt_or_le y.ID x.ID with h1|h1
 ·exact h1
 ·rw [j7 hx h0 hk hy (by omega)] at h;omega
theorem cR.rise {l:List ak}(h:cR l):∀ (j i:Nat) {x y:ak},i<j→l[j]? = some x→l[i]? = some y→y.ID<x.ID
 | 0,i,x,y,hij,hx,hy=>by omega
 | j+1,i,x,y,hij,hx,hy=>by
  have hlt:j+1<l.length:=(List.getElem?_eq_some_iff.1 hx).1
  have hz:l[j]? = some l[j]:=List.getElem?_eq_getElem (by omega)
  have h1:=rz hx (h.steps _ hlt) (by omega) hz
  by_cases hj:i=j
  ·subst hj;rw [hz] at hy;injection hy with hy;subst hy;exact h1
  ·have:=h.rise j i (by omega) hz hy;omega
theorem cR.inj {l:List ak}(h:cR l){x y:ak}(hx:x∈l)(hy:y∈l)(he:x.ID=y.ID):x=y:=by
 obtain ⟨i,hi⟩:=List.mem_iff_getElem?.1 hx
 obtain ⟨j,hj⟩:=List.mem_iff_getElem?.1 hy
 rcases Nat.lt_trichotomy i j with h1|h1|h1
 ·have:=h.rise j i h1 hj hi;omega
 ·subst h1;rw [hi] at hj;injection hj
 ·have:=h.rise i j h1 hi hj;omega
theorem rA {l:List ak}{k:Nat}{x:ak}(hx:l[k]? = some x)(h:fO l k=0)(h0:x.From≠0) :
 ∃j y,j<k∧l[j]? = some y∧y.ID=x.From∧(derived y x.ID x.Rights x.aI).2=0∧(derived y x.ID x.Rights x.aI).1=x:=by
 have hw:cM x=0:=by rcases ig x with h1|h1;exact h1;rw [gv hx (by omega)] at h;omega
 have hsh:¬ 0<k ∨ ∃y,l[k-1]? = some y∧y.ID<x.ID:=by
  by_cases hk:0<k
  ·
   have hlt:k<l.length:=(List.getElem?_eq_some_iff.1 hx).1
   exact .inr ⟨_,List.getElem?_eq_getElem (by omega),rz hx h hk (List.getElem?_eq_getElem (by omega))⟩
  ·exact .inl hk
 rcases dR (l.take k) x.From with ⟨h1,h2⟩ | ⟨j,hj,h1,h2,h3⟩
 ·rw [rq hx hw hsh h0 h1] at h;omega
 ·
  have hjk:j<k:=by rw [List.length_take] at hj;omega
  have hlt:k<l.length:=(List.getElem?_eq_some_iff.1 hx).1
  have hy:l[j]? = some l[j]:=List.getElem?_eq_getElem (by omega)
  rw [gw hx hw hsh h0 h1 hjk hy] at h
  have hid:(l[j]'(by omega)).ID=x.From:=by simpa [List.getElem_take] using h2
  by_cases hd:(derived l[j] x.ID x.Rights x.aI).2≠0
  ·rw [if_pos hd] at h;exact absurd h hd
  ·
   rw [if_neg hd] at h
   by_cases he:(derived l[j] x.ID x.Rights x.aI).1≠x
   ·rw [if_pos he] at h;omega
   ·exact ⟨j,_,hjk,hy,hid,by simpa using hd,by simpa using he⟩
theorem iG {l:List ak}{x:ak}(hx:x∈l):0≤cB l x.ID:=by
 rcases dR l x.ID with ⟨h1,h2⟩ | ⟨k,hk,h1,h2,_⟩
 ·exact absurd rfl (h2 x hx)
 ·omega
theorem kL {l:List ak}{f:Int}(h:0≤cB l f):∃y,l[(cB l f).toNat]? = some y∧y.ID=f∧y∈l∧ey l f=y.From:=by
 obtain ⟨y,h1,h2,h3⟩:=rr l f h
 exact ⟨y,h1,h2,h3,j8 (j:=(cB l f).toNat) (by omega) h1⟩
theorem nN {l:List ak}{f:Int}(h:cB l f<0):ey l f=0:=by
 rcases dR l f with ⟨h1,_⟩ | ⟨k,hk,h1,_⟩
 ·exact pW h1
 ·omega
theorem cR.pX {l:List ak}(h:cR l){f:Int}(hf:0≤cB l f):0<f∧f≤999∧0≤ey l f∧ey l f<f:=by
 obtain ⟨y,h1,h2,h3,h4⟩:=kL hf
 have w:=h.mem h3
 have:=w.id1;have:=w.EI;have:=w.EJ;have:=w.Dl
 omega
def chain (l:List ak)(f:Int):List Int :=
  if h:0≤cB l f∧0<f∧ey l f<f then f::chain l (ey l f) else []
termination_by f.toNat
decreasing_by omega
def above (l:List ak)(id:Int):List Int:=chain l (ey l id)
theorem nO {l:List ak}(h:cR l){f:Int}(hf:0≤cB l f):chain l f=f::chain l (ey l f):=by
 have:=h.pX hf
 rw [chain,dif_pos ⟨hf,by omega,by omega⟩]
theorem w8 {l:List ak}{f:Int}(hf:cB l f<0):chain l f=[]:=by
 rw [chain,dif_neg (by omega)]
def w9 (id:Int)(acc:List Int)(x:ak):List Int:=if (x.From=id∨x.From∈acc)∧0<x.From then acc++[x.ID] else acc
def eb (id:Int)(l:List ak):List Int:=l.foldl (w9 id) []
theorem vB {id:Int}{l:List ak}{k:Nat}{x:ak}{S:List Int}(hx:l[k]? = some x)(hS:∀z,z∈S↔z=id∨z∈eb id (l.take k))(h:x.From∈S)(h0:0<x.From):eb id (l.take (k+1))=eb id (l.take k)++[x.ID]:=by
 unfold eb at *
 rw [List.take_add_one,hx,List.foldl_append]
 simp only [Option.toList,List.foldl_cons,List.foldl_nil]
 unfold w9 at *
 rw [if_pos ⟨(hS _).1 h,h0⟩]
theorem o9 {id:Int}{l:List ak}{k:Nat}{x:ak}{S:List Int}(hx:l[k]? = some x)(hS:∀z,z∈S↔z=id∨z∈eb id (l.take k))(h:¬ (x.From∈S∧0<x.From)):eb id (l.take (k+1))=eb id (l.take k):=by
 unfold eb at *
 rw [List.take_add_one,hx,List.foldl_append]
 simp only [Option.toList,List.foldl_cons,List.foldl_nil]
 unfold w9 at *
 rw [if_neg (fun hc=>h ⟨(hS _).2 hc.1,hc.2⟩)]
theorem Bp (id:Int)(l:List ak):(eb id l).length≤l.length:=by
 have:∀ (l:List ak) (acc:List Int),(l.foldl (w9 id) acc).length≤acc.length+l.length:=by
  intro l
  induction l with
  | nil=>intro acc;simp
  | cons x l ih =>
   intro acc
   have:=ih (w9 id acc x)
   have h2:(w9 id acc x).length≤acc.length+1:=by unfold w9;split <;> simp
   simp only [List.foldl_cons,List.length_cons];omega
 simpa [eb] using this l []
def up (l:List ak)(id f:Int):Int :=
  if h:0<f∧f≠id∧0≤cB l f∧ey l f<f then up l id (ey l f) else f
termination_by f.toNat
decreasing_by omega
theorem uh {l:List ak}(h:cR l){id f:Int}(h1:f≠id)(h2:0≤cB l f):up l id f=up l id (ey l f):=by
 have:=h.pX h2
 rw [up,dif_pos ⟨by omega,h1,h2,by omega⟩]
theorem kr {l:List ak}{id f:Int}(h:¬ 0<f∨f=id∨cB l f<0):up l id f=f:=by
 rw [up,dif_neg (by omega)]
def Gk (l:List ak)(id:Int)(x:ak):Bool:=decide (up l id x.From=id)&&decide (0<id)
def nj (l:List ak)(id:Int)(m:List ak):List Int:=(m.filter (Gk l id)).map ak.ID
theorem rC {l0:List ak}{id:Int}{l:List ak}{k:Nat}{x:ak}(hx:l[k]? = some x)(h:up l0 id x.From=id)(h0:0<id):nj l0 id (l.take (k+1))=nj l0 id (l.take k)++[x.ID]:=by
 unfold nj
 rw [List.take_add_one,hx,List.filter_append];simp [Gk,h,h0]
theorem kM {l0:List ak}{id:Int}{l:List ak}{k:Nat}{x:ak}(hx:l[k]? = some x)(h:¬ (up l0 id x.From=id∧0<id)):nj l0 id (l.take (k+1))=nj l0 id (l.take k):=by
 unfold nj
 rw [List.take_add_one,hx,List.filter_append]
 have:Gk l0 id x=false:=by unfold Gk;rw [Bool.and_eq_false_iff];by_cases h1:up l0 id x.From=id;right;simpa using (fun h2=>h ⟨h1,h2⟩);left;simpa using h1
 simp [this]
theorem Bq (l0:List ak)(id:Int)(l:List ak):(nj l0 id l).length≤l.length:=by unfold nj;simp;exact List.length_filter_le _ _
def beneath (l:List ak)(id:Int):List Int:=nj l id l
theorem Bs {l:List ak}(h:cR l)(id:Int):∀k,k≤l.length→eb id (l.take k)=nj l id (l.take k)
 | 0,_=>by simp [eb,nj]
 | k+1,hk=>by
  have ih:=Bs h id k (by omega)
  have hx:l[k]? = some l[k]:=List.getElem?_eq_getElem (by omega)
  have hS:∀z,z∈id::eb id (l.take k)↔z=id∨z∈eb id (l.take k):=fun z=>by simp
  have w:=oy hx (h.steps k (by omega))
  have key:((l[k]).From∈id::eb id (l.take k)∧0<(l[k]).From)↔(up l id (l[k]).From=id∧0<id):=by
   by_cases h0:(l[k]).From=0
   ·
    rw [h0,kr (.inl (by omega))]
    constructor
    ·intro h;omega
    ·intro h;omega
   ·
    have hpos:0<(l[k]).From:=by have:=w.EI;omega
    by_cases he:(l[k]).From=id
    ·
     rw [kr (.inr (.inl he))]
     constructor
     ·intro _;exact ⟨he,by omega⟩
     ·intro _;exact ⟨by rw [he];simp,hpos⟩
    ·
     obtain ⟨j,y,hj,hy,hid,_,_⟩:=rA hx (h.steps k (by omega)) h0
     have hym:y∈l:=List.mem_of_getElem? hy
     have hfi:0≤cB l (l[k]).From:=by rw [← hid];exact iG hym
     rw [uh h he hfi]
     obtain ⟨y',_,hy2,hy3,hy4⟩:=kL hfi
     have:y'=y:=h.inj hy3 hym (by rw [hy2,hid])
     subst this
     rw [hy4,ih]
     have hmem:(l[k]).From∈nj l id (l.take k)↔(up l id y'.From=id∧0<id):=by
      unfold nj
      simp only [List.mem_map,List.mem_filter,Gk,Bool.and_eq_true,decide_eq_true_eq]
      constructor
      ·
       rintro ⟨z,⟨hz,hz2⟩,hz3⟩
       have:z=y':=h.inj (List.mem_of_mem_take hz) hy3 (by rw [hz3,hid])
       subst this;exact hz2
      ·
       intro hh
       exact ⟨y',⟨List.mem_of_getElem? (i:=j) (by rw [List.getElem?_take,if_pos hj];exact hy),hh⟩,hid⟩
     constructor
     ·
      rintro ⟨h1,_⟩
      rcases List.mem_cons.1 h1 with h1|h1
      ·exact absurd h1 he
      ·exact hmem.1 h1
     ·intro h1;exact ⟨List.mem_cons.2 (.inr (hmem.2 h1)),hpos⟩
  by_cases hc:up l id (l[k]).From=id∧0<id
  ·
   have:=key.2 hc
   rw [vB hx hS this.1 this.2,rC hx hc.1 hc.2,ih]
  ·rw [o9 hx hS (fun hh=>hc (key.1 hh)),kM hx hc,ih]
theorem yB {l:List ak}(h:cR l)(id:Int):eb id l=beneath l id:=by
 have:=Bs h id l.length (Nat.le_refl _)
 simpa [beneath,List.take_length] using this
theorem vC {l:List ak}(h:cR l){a:Int}(ha:0≤cB l a)(f:Int)(hf0:0≤f):up l a f=a↔a∈chain l f:=by
 have ha0:=h.pX ha
 by_cases he:f=a
 ·subst he;rw [kr (.inr (.inl rfl)),nO h ha];simp
 ·
  rcases Int.lt_or_le (cB l f) 0 with h1|h1
  ·rw [kr (.inr (.inr h1)),w8 h1];simp [he]
  ·
   have hf:=h.pX h1
   rw [uh h he h1,nO h h1,vC h ha (ey l f) hf.2.2.1]
   simp [Ne.symm he]
termination_by f.toNat
decreasing_by omega
end Go.Proofs.YtbkfhjaibhnkmaaGreatDoor
end
section
namespace Go.Proofs.YtbkfhjaibhnkmaaGreatDoor
open Go Go.RowKit
set_option linter.unusedVariables false
set_option maxRecDepth 100000
theorem ui (bG:Value)(l:List ak)(id:Int)(w:World)(df:Sl w bG l)(hl:l.length≤1000000):Calls Tryz.prog 75 #[bG,iV id] w fun e w' => ∃u,e = .returned u∧Own w.heap.size 3 w' u (eb id l)∧Ext w w':=by
 have pV:=df.ec
 refine R.enter (n:=37) (vs:=[bG,iV id]) [] [(0,bG),(1,iV id)] Tryz.func75 O O O O ?_
 refine R.reg O<|R.u 1 O<|R.nil ?_
 refine R.reg O<|R.s O (s.mk O) fun b1=>R.u 1 O<|R.s O (s.Iu 0 _ O O O O ov O) fun _=>R.u 2 O<|R.nil ?_
 refine R.reg O<|R.u 1 O<|R.nil ?_
 refine R.reg O<|R.u 1 O<|R.q (q.len' (fun _=>Wd.old df) O Tryz.underlying27) O<|R.u 1 O<|R.nil ?_
 refine R.row0 (α:=Int) 3 ?_
 refine R.loop (fun g_:Nat×Value×(List Int)×(List Int)=>[(5,.map (some b1)),(6,g_.2.1),(12,bG),(13,iV (l.length:Int)),(14,iV (g_.1:Int))]) (fun g_=>[ag.row 3 g_.2.1 g_.2.2.1,ag.lj b1 g_.2.2.2]) (fun g_=>[]) (fun g_=>g_.1≤l.length∧g_.2.2.1=eb id (l.take g_.1) ∧ ∀z,z∈g_.2.2.2↔z=id∨z∈g_.2.2.1) (fun g_=>l.length-g_.1) (0,(nS),[],[id]) O (by exact ⟨by simp,by simp [eb],by simp⟩) ⟨rfl,rfl,rfl,rfl,rfl,trivial⟩ (fun _=>Wd.pick [0,1] [] O O O) ?_
 rintro ⟨k,v,acc,S⟩ ⟨hk,HA,HS⟩
 dsimp only at *
 have hal:acc.length≤k:=by rw [HA];exact Nat.le_trans (Bp _ _) (List.length_take_le _ _)
 refine R.reg O<|?_
 by_cases h1:k<l.length
 ·
  refine R.q (q.lss O O (decide_eq_true (by omega))) O<|R.nil ?_
  refine R.aE O O ?_
  refine R.reg O<|?_
  obtain ⟨x1,hx1⟩:∃z,l[k]? = some z:=⟨_,List.getElem?_eq_getElem (by omega)⟩
  refine R.q (q.idx (i:=k) (fun _=>Wd.old df) O O cK O hx1) O<|R.q (q.cY (ds:=ay x1) (fun _=>Wd.old df) hx1 O aP O) O<|R.s O (s.alloc (cs:=cC) bF O O) fun b2=>R.s O (s.st (us:=ay x1) (cs':=ay x1) 0 _ O O O O (.inl aP) O O O O) fun _=>R.nil ?_
  refine R.reg O<|R.u 1 O<|R.q (q.aT (off':=4) O dX O) O<|R.q (q.ld 0 O O aA O) O<|?_
  by_cases h2:x1.From∈S
  ·
   refine R.q (q.Ep 2 O O O ov (decide_eq_true h2)) O<|R.u 1 O<|R.qg O (q.aT (off':=4) O dX O) O<|R.qg O (q.ld 0 O O aA O) O<|?_
   by_cases h3:0<x1.From
   ·
    refine R.qg O (q.gtr O O (decide_eq_true (by omega))) O<|R.u 1 O<|R.nil ?_
    refine R.aE O O ?_
    refine R.reg O<|R.u 1 O<|R.q (q.aT (off':=0) O bI O) O<|R.q (q.ld 0 O O aA O) O<|R.s O (s.Jw 2 _ O O O O ov O) fun _=>R.nil ?_
    refine R.reg O<|R.u 1 O<|R.q (q.aT (off':=0) O bI O) O<|R.q (q.ld 0 O O aA O) O<|R.s O (s.bs (l:=([x1.ID]:List Int)) dK iO O O O O O O O) fun b3=>R.s O (s.app (l2:=[x1.ID]) 2 _ O O O (cJ 0 O) jq (by simp;omega) (by simp;omega) (fun _=>rfl) O) fun v1=>R.u 1 O<|R.nil ?_
    refine R.reg O<|R.q (q.add (r:=((k+1:Nat):Int)) O O (wr (by omega))) O<|R.u 1 O<|R.nil ?_
    refine R.back (k+1,v1,(acc++([x1.ID])),(x1.ID::S)) O (by (exact ⟨by omega,by rw [HA,vB hx1 (HA▸HS) ‹_› ‹_›],by intro z;rw [List.mem_cons,HS,List.mem_append,List.mem_singleton];constructor <;> (intro h;rcases h with h|h|h <;> simp [h])⟩)) (by dsimp only;omega) ⟨rfl,rfl,rfl,rfl,rfl,trivial⟩ (fun _=>Wd.pick [2,3] [] O O O)
   ·
    refine R.qg O (q.gtr O O (decide_eq_false (by omega))) O<|R.u 1 O<|R.nil ?_
    refine R.aF O O ?_
    refine R.reg O<|R.q (q.add (r:=((k+1:Nat):Int)) O O (wr (by omega))) O<|R.u 1 O<|R.nil ?_
    refine R.back (k+1,v,acc,S) O (by (exact ⟨by omega,by rw [HA,o9 hx1 (HA▸HS) (by (intro hh;exact absurd hh.2 ‹_›))],HS⟩)) (by dsimp only;omega) ⟨rfl,rfl,rfl,rfl,rfl,trivial⟩ (fun _=>Wd.pick [1,2] [] O O O)
  ·
   refine R.q (q.Ep 2 O O O ov (decide_eq_false h2)) O<|R.u 5 O<|R.nil ?_
   refine R.aF O O ?_
   refine R.reg O<|R.q (q.add (r:=((k+1:Nat):Int)) O O (wr (by omega))) O<|R.u 1 O<|R.nil ?_
   refine R.back (k+1,v,acc,S) O (by (exact ⟨by omega,by rw [HA,o9 hx1 (HA▸HS) (by (intro hh;exact absurd hh.1 ‹_›))],HS⟩)) (by dsimp only;omega) ⟨rfl,rfl,rfl,rfl,rfl,trivial⟩ (fun _=>Wd.pick [1,2] [] O O O)
 ·
  refine R.q (q.lss O O (decide_eq_false (by omega))) O<|R.nil ?_
  refine R.aF O O ?_
  refine R.reg O<|R.u 2 O<|R.nil ?_
  exact R.ro 0 O Tryz.results75 O O (by (rw [HA,List.take_of_length_le (by omega)]))
theorem rD (bG:Value)(l:List ak)(id:Int)(w:World)(df:Sl w bG l)(hT:cR l)(hl:l.length≤1000000):Calls Tryz.prog 92 #[bG,iV id] w fun e w' => ∃u,e = .returned u∧Own w.heap.size 3 w' u (beneath l id)∧Ext w w':=by
 have pV:=df.ec
 refine R.enter (n:=53) (vs:=[bG,iV id]) [] [(0,bG),(1,iV id)] Tryz.func92 O O O O ?_
 refine R.reg O<|R.u 1 O<|R.nil ?_
 refine R.reg O<|R.u 1 O<|R.nil ?_
 refine R.reg O<|R.u 1 O<|R.nil ?_
 refine R.row0 (α:=Int) 3 ?_
 refine R.loop (fun g_:Nat×Value×(List Int)=>[(0,bG),(1,iV id),(5,g_.2.1),(6,iV (g_.1:Int))]) (fun g_=>[ag.row 3 g_.2.1 g_.2.2]) (fun g_=>[]) (fun g_=>g_.1≤l.length∧g_.2.2=nj l id (l.take g_.1)) (fun g_=>l.length-g_.1) (0,(nS),[]) O (by exact ⟨by simp,by simp [nj]⟩) ⟨rfl,rfl,rfl,rfl,trivial⟩ (fun _=>Wd.pick [0] [] O O O) ?_
 rintro ⟨k,v,acc⟩ ⟨hk,HA⟩
 dsimp only at *
 have hal:acc.length≤k:=by rw [HA];exact Nat.le_trans (Bq _ _ _) (List.length_take_le _ _)
 refine R.reg O<|R.u 2 O<|R.q (q.len' (fun _=>Wd.old df) O Tryz.underlying27) O<|?_
 by_cases h1:k<l.length
 ·
  refine R.q (q.lss O O (decide_eq_true (by omega))) O<|R.nil ?_
  refine R.aE O O ?_
  refine R.reg O<|R.u 2 O<|?_
  obtain ⟨x1,hx1⟩:∃z,l[k]? = some z:=⟨_,List.getElem?_eq_getElem (by omega)⟩
  have IP:=hT.mem (List.mem_of_getElem? hx1)
  have JJ:=IP.EI
  refine R.q (q.idx (i:=k) (fun _=>Wd.old df) O O cK O hx1) O<|R.q (q.dF (j':=4) (fun _=>Wd.old df) hx1 O dX O) O<|R.q (q.fb (fun _=>Wd.old df) hx1 O aA O) O<|R.u 1 O<|R.nil ?_
  refine R.loop (fun f:Int=>[(0,bG),(1,iV id),(5,v),(6,iV (k:Int)),(7,iV f)]) (fun f:Int=>[ag.row 3 v acc]) (fun f:Int=>[]) (fun f:Int=>0≤f∧up l id f=up l id x1.From) (fun f:Int=>f.toNat) x1.From O (by exact ⟨by omega,rfl⟩) ⟨rfl,rfl,rfl,rfl,rfl,trivial⟩ (fun _=>Wd.pick [0] [] O O O) ?_
  rintro f ⟨hf0,HU⟩
  refine R.reg O<|R.u 1 O<|?_
  by_cases h2:0<f
  ·
   refine R.q (q.gtr O O (decide_eq_true (by omega))) O<|R.u 3 O<|?_
   by_cases h3:f=id
   ·
    refine R.qg O (q.neq O O (bne_eq_false_iff_eq.2 (by omega))) O<|R.u 1 O<|R.nil ?_
    refine R.aF O O ?_
    refine R.reg O<|R.u 2 O<|R.q (q.eql O O (beq_iff_eq.2 (by omega))) O<|R.u 2 O<|?_
    by_cases h4:0<id
    ·
     refine R.qg O (q.gtr O O (decide_eq_true (by omega))) O<|R.u 1 O<|R.nil ?_
     refine R.aE O O ?_
     refine R.reg O<|R.u 3 O<|R.q (q.idx (i:=k) (fun _=>Wd.old df) O O cK O hx1) O<|R.q (q.dF (j':=0) (fun _=>Wd.old df) hx1 O bI O) O<|R.q (q.fb (fun _=>Wd.old df) hx1 O aA O) O<|R.s O (s.bs (l:=([x1.ID]:List Int)) dK iO O O O O O O O) fun b1=>R.s O (s.app (l2:=[x1.ID]) 1 _ O O O (cJ 0 O) jq (by simp;omega) (by simp;omega) (fun _=>rfl) O) fun v1=>R.u 1 O<|R.nil ?_
     refine R.reg O<|R.u 1 O<|R.q (q.add (r:=((k+1:Nat):Int)) O O (wr (by omega))) O<|R.u 1 O<|R.nil ?_
     refine R.back (k+1,v1,(acc++([x1.ID]))) O (by (exact ⟨by omega,by rw [HA,rC hx1 (by rw [← HU,kr (by omega)];omega) (by omega)]⟩)) (by dsimp only;omega) ⟨rfl,rfl,rfl,rfl,trivial⟩ (fun _=>Wd.pick [1] [] O O O)
    ·
     refine R.qg O (q.gtr O O (decide_eq_false (by omega))) O<|R.u 1 O<|R.nil ?_
     refine R.aF O O ?_
     refine R.reg O<|R.u 1 O<|R.q (q.add (r:=((k+1:Nat):Int)) O O (wr (by omega))) O<|R.u 1 O<|R.nil ?_
     refine R.back (k+1,v,acc) O (by (exact ⟨by omega,by rw [HA,kM hx1 (by rw [← HU,kr (by omega)];omega)]⟩)) (by dsimp only;omega) ⟨rfl,rfl,rfl,rfl,trivial⟩ (fun _=>Wd.pick [0] [] O O O)
   ·
    refine R.qg O (q.neq O O (bne_iff_ne.2 (by omega))) O<|R.u 1 O<|R.nil ?_
    refine R.aE O O ?_
    refine R.reg O<|R.u 2 O<|R.c (q.call lp O O (fun w hw=>(fB _ (l) (f) w ((fun _=>Wd.old df) w hw) ))) O<|R.u 1 O<|R.nil ?_
    refine R.reg O<|R.u 1 O<|?_
    by_cases h5:cB l f<0
    ·
     refine R.q (q.lss O O (decide_eq_true (by omega))) O<|R.nil ?_
     refine R.aE O O ?_
     refine R.reg O<|R.u 2 O<|R.q (q.eql O O (beq_eq_false_iff_ne.2 (by omega))) O<|R.u 4 O<|R.nil ?_
     refine R.aF O O ?_
     refine R.reg O<|R.u 1 O<|R.q (q.add (r:=((k+1:Nat):Int)) O O (wr (by omega))) O<|R.u 1 O<|R.nil ?_
     refine R.back (k+1,v,acc) O (by (exact ⟨by omega,by rw [HA,kM hx1 (by rw [← HU,kr (by omega)];omega)]⟩)) (by dsimp only;omega) ⟨rfl,rfl,rfl,rfl,trivial⟩ (fun _=>Wd.pick [0] [] O O O)
    ·
     refine R.q (q.lss O O (decide_eq_false (by omega))) O<|R.nil ?_
     refine R.aF O O ?_
     refine R.reg O<|R.u 2 O<|?_
     obtain ⟨x2,hx2,Kf,JK⟩:=rr l f (by omega)
     have Gj:=hT.mem JK
     have JL:=Gj.id1;have JM:=Gj.EI;have JN:=Gj.EJ;have JO:=Gj.Dl
     have Im:ey l f=x2.From:=j8 (j:=(cB l f).toNat) (by omega) hx2
     refine R.q (q.idx (i:=(cB l f).toNat) (fun _=>Wd.old df) O O cK (by omega) hx2) O<|R.q (q.dF (j':=4) (fun _=>Wd.old df) hx2 O dX O) O<|R.q (q.fb (fun _=>Wd.old df) hx2 O aA O) O<|R.u 1 O<|R.nil ?_
     refine R.back x2.From O (by (exact ⟨by omega,by rw [← HU,uh hT (f:=f) (by omega) (by omega),Im]⟩)) (by omega) ⟨rfl,rfl,rfl,rfl,rfl,trivial⟩ (fun _=>Wd.pick [0] [] O O O)
  ·
   refine R.q (q.gtr O O (decide_eq_false (by omega))) O<|R.u 5 O<|R.nil ?_
   refine R.aF O O ?_
   refine R.reg O<|R.u 2 O<|?_
   by_cases h6:f=id
   ·
    refine R.q (q.eql O O (beq_iff_eq.2 (by omega))) O<|R.u 2 O<|?_
    by_cases h7:0<id
    ·
     refine R.qg O (q.gtr O O (decide_eq_true (by omega))) O<|R.u 1 O<|R.nil ?_
     refine R.aE O O ?_
     refine R.reg O<|R.u 3 O<|R.q (q.idx (i:=k) (fun _=>Wd.old df) O O cK O hx1) O<|R.q (q.dF (j':=0) (fun _=>Wd.old df) hx1 O bI O) O<|R.q (q.fb (fun _=>Wd.old df) hx1 O aA O) O<|R.s O (s.bs (l:=([x1.ID]:List Int)) dK iO O O O O O O O) fun b2=>R.s O (s.app (l2:=[x1.ID]) 1 _ O O O (cJ 0 O) jq (by simp;omega) (by simp;omega) (fun _=>rfl) O) fun v2=>R.u 1 O<|R.nil ?_
     refine R.reg O<|R.u 1 O<|R.q (q.add (r:=((k+1:Nat):Int)) O O (wr (by omega))) O<|R.u 1 O<|R.nil ?_
     refine R.back (k+1,v2,(acc++([x1.ID]))) O (by (exact ⟨by omega,by rw [HA,rC hx1 (by rw [← HU,kr (by omega)];omega) (by omega)]⟩)) (by dsimp only;omega) ⟨rfl,rfl,rfl,rfl,trivial⟩ (fun _=>Wd.pick [1] [] O O O)
    ·
     refine R.qg O (q.gtr O O (decide_eq_false (by omega))) O<|R.u 1 O<|R.nil ?_
     refine R.aF O O ?_
     refine R.reg O<|R.u 1 O<|R.q (q.add (r:=((k+1:Nat):Int)) O O (wr (by omega))) O<|R.u 1 O<|R.nil ?_
     refine R.back (k+1,v,acc) O (by (exact ⟨by omega,by rw [HA,kM hx1 (by rw [← HU,kr (by omega)];omega)]⟩)) (by dsimp only;omega) ⟨rfl,rfl,rfl,rfl,trivial⟩ (fun _=>Wd.pick [0] [] O O O)
   ·
    refine R.q (q.eql O O (beq_eq_false_iff_ne.2 (by omega))) O<|R.u 4 O<|R.nil ?_
    refine R.aF O O ?_
    refine R.reg O<|R.u 1 O<|R.q (q.add (r:=((k+1:Nat):Int)) O O (wr (by omega))) O<|R.u 1 O<|R.nil ?_
    refine R.back (k+1,v,acc) O (by (exact ⟨by omega,by rw [HA,kM hx1 (by rw [← HU,kr (by omega)];omega)]⟩)) (by dsimp only;omega) ⟨rfl,rfl,rfl,rfl,trivial⟩ (fun _=>Wd.pick [0] [] O O O)
 ·
  refine R.q (q.lss O O (decide_eq_false (by omega))) O<|R.nil ?_
  refine R.aF O O ?_
  refine R.reg O<|R.u 2 O<|R.nil ?_
  exact R.ro 0 O Tryz.results92 O O (by (rw [HA,List.take_of_length_le (by omega)];rfl))
end Go.Proofs.YtbkfhjaibhnkmaaGreatDoor
end
