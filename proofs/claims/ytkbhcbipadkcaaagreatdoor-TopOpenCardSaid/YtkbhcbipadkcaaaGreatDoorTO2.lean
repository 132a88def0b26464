import Derived.Test.YtkbhcbipadkcaaaGreatDoorTO1
import Derived.Orders
namespace Go.Proofs.YtkbhcbipadkcaaaGreatDoor
set_option linter.unusedVariables false
set_option linter.unusedSimpArgs false
open Go Go.RowKit
abbrev Fm:=List (Nat×Value)
def lk:Fm->Nat->Option Value
  | [],_=>none
  | p::L,i=>bif Nat.beq p.1 i then some p.2 else lk L i
def ev (L:Fm):Operand->Option Value
  | .tmp t=>lk L t
  | .const v=>some v
  | .global g=>some (.pointer (some ⟨g,0,none⟩))
  | .func f=>some (.func (.func f) #[] #[])
def evs (L:Fm):List Operand->Option (List Value)
  | []=>some []
  | x::xs=>match ev L x,evs L xs with
    | some v,some vs=>some (v::vs)
    | _,_=>none
def Al:Fm->Fm->Prop
  | [],_=>True
  | p::L',L=>lk L p.1=some p.2/\Al L' L
def UA (L:Fm):Fm->List (Option Value)
  | []=>[]
  | p::r=>lk L p.1::UA L r
def UB:Fm->List (Option Value)
  | []=>[]
  | p::r=>some p.2::UB r
theorem sF:∀ {L' L:Fm},UA L L'=UB L'->Al L' L
 | [],_,_=>trivial
 | p::r,L,h=>by
  injection h with h1 h2
  exact ⟨h1,sF h2⟩
structure Fr (n:Nat)(L:Fm)(a:Act):Prop where
  size:a.tmps.size=n
  defers:a.defers=[]
  get:∀i v,lk L i=some v->a.tmps[i]? = some v
theorem Fr.ev {n:Nat}{L:Fm}{a:Act}(h:Fr n L a){x:Operand}{v:Value}(hx:ev L x=some v):a.eval x=v:=by
 cases x with
 | tmp t=>have:=h.get t v hx;simp [Act.eval,this]
 | const u=>simpa [YtkbhcbipadkcaaaGreatDoor.ev,Act.eval] using hx
 | global g=>simpa [YtkbhcbipadkcaaaGreatDoor.ev,Act.eval] using hx
 | func f=>simpa [YtkbhcbipadkcaaaGreatDoor.ev,Act.eval] using hx
theorem Fr.evs {n:Nat}{L:Fm}{a:Act}(h:Fr n L a):∀ {xs:List Operand} {vs:List Value},evs L xs=some vs->xs.map a.eval=vs
 | [],vs,hx=>by simp [YtkbhcbipadkcaaaGreatDoor.evs] at hx;subst hx;rfl
 | x::xs,vs,hx=>by
  simp only [YtkbhcbipadkcaaaGreatDoor.evs] at hx
  split at hx
  .
   rename_i v vs' h1 h2
   injection hx with hx;subst hx
   simp [h.ev h1,h.evs h2]
  .cases hx
theorem Fr.put {n:Nat}{L:Fm}{a:Act}(h:Fr n L a)(d:Nat)(v:Value)(hd:Nat.blt d n=true):Fr n ((d,v)::L) (a.put (some d) v):=by
 have hd':d<a.tmps.size:=by rw [h.size];simpa using hd
 refine ⟨by simp [Act.put,h.size],by simp [Act.put,h.defers],fun i u hu=>?_⟩
 simp only [lk] at hu
 by_cases e:d=i
 .
  subst e
  simp at hu;subst hu
  simp [Act.put,hd']
 .
  have e':Nat.beq d i=false:=Bool.eq_false_iff.2 (fun h=>e (Nat.eq_of_beq_eq_true h))
  rw [e'] at hu
  simp only [cond_false] at hu
  have:=h.get i u hu
  simp [Act.put,e,this]
theorem Fr.sub {n:Nat}{L:Fm}{a:Act}(h:Fr n L a):∀ {L':Fm},Al L' L->Fr n L' a
 | [],_=>⟨h.size,h.defers,fun i v hv=>by cases hv⟩
 | p::L',hs=>by
  have ih:=h.sub (L':=L') hs.2
  refine ⟨h.size,h.defers,fun i v hv=>?_⟩
  simp only [lk] at hv
  by_cases e:p.1=i
  .
   subst e
   simp at hv;subst hv
   exact h.get _ _ hs.1
  .
   have e':Nat.beq p.1 i=false:=Bool.eq_false_iff.2 (fun h=>e (Nat.eq_of_beq_eq_true h))
   rw [e'] at hv
   exact ih.get i v hv
structure lS (X:List Nat)(w w':World):Prop where
  os:w'.os=w.os
  tape:w'.tape=w.tape
  output:w'.output=w.output
  size:w.heap.size<=w'.heap.size
  block:∀k,k<w.heap.size->k∉X->w'.heap[k]? = w.heap[k]?
theorem lS.refl (X:List Nat)(w:World):lS X w w:=⟨rfl,rfl,rfl,Nat.le_refl _,fun _ _ _=>rfl⟩
theorem lS.trans {X:List Nat}{a b c:World}(h:lS X a b)(k:lS X b c):lS X a c :=
 ⟨k.os.trans h.os,k.tape.trans h.tape,k.output.trans h.output,Nat.le_trans h.size k.size,fun i hi hx=>(k.block i (Nat.lt_of_lt_of_le hi h.size) hx).trans (h.block i hi hx)⟩
theorem lS.ext {w w':World}(h:lS [] w w'):Ext w w':=Ext.mk ⟨h.os,h.tape,h.output,h.size,fun k hk=>h.block k hk (by simp)⟩
theorem Ext.upd {w w':World}(h:Ext w w'):lS [] w w':=⟨h.below.os,h.below.tape,h.below.output,h.size,fun k hk _=>h.heap hk⟩
theorem lS.mono {X Y:List Nat}{w w':World}(h:lS X w w')(hs:∀k∈X,k<w.heap.size->k∈Y):lS Y w w' :=
 ⟨h.os,h.tape,h.output,h.size,fun k hk hy=>h.block k hk (fun hx=>hy (hs k hx hk))⟩
structure ag where
  blk:List Nat
  ok:World->Prop
  loc:∀w w':World,(∀k∈blk,w'.heap[k]? = w.heap[k]?)->ok w->ok w'
def blks:List ag->List Nat
  | []=>[]
  | r::B=>r.blk++blks B
theorem bu {k:Nat}:∀ {B:List ag},k∈blks B ↔ ∃r∈B,k∈r.blk
 | []=>by simp [blks]
 | r::B=>by simp [blks,bu]
structure Wd (we:World)(X:List Nat)(B F:List ag)(w:World):Prop where
  upd:lS X we w
  okB:∀r∈B,r.ok w
  okF:∀r∈F,r.ok w
  sep:(blks B).Nodup
  own:∀k∈blks B,k<w.heap.size/\(k<we.heap.size->k∈X)
  mj:∀k∈blks F,k<w.heap.size/\k∉blks B
section
variable {we w w':World} {X:List Nat} {B F:List ag}
theorem Wd.start (we:World)(X:List Nat):Wd we X [] [] we:=⟨lS.refl _ _,by simp,by simp,by simp [blks],by simp [blks],by simp [blks]⟩
theorem Wd.grow (h:Wd we X B F w)(e:lS [] w w'):Wd we X B F w' :=
 ⟨h.upd.trans (e.mono (by simp)),
  fun r hr=>r.loc w w' (fun k hk=>e.block k (h.own k (bu.2 ⟨r,hr,hk⟩)).1 (by simp)) (h.okB r hr),
  fun r hr=>r.loc w w' (fun k hk=>e.block k (h.mj k (bu.2 ⟨r,hr,hk⟩)).1 (by simp)) (h.okF r hr),
  h.sep,fun k hk=>⟨Nat.lt_of_lt_of_le (h.own k hk).1 e.size,(h.own k hk).2⟩,fun k hk=>⟨Nat.lt_of_lt_of_le (h.mj k hk).1 e.size,(h.mj k hk).2⟩⟩
theorem Wd.fact (h:Wd we X B F w){r:ag}(hr:r.ok w)(hd:∀k∈r.blk,k<w.heap.size/\k∉blks B):Wd we X B (r::F) w :=
 ⟨h.upd,h.okB,fun q hq=>(List.mem_cons.1 hq).elim (fun e=>e▸hr) (h.okF q),h.sep,h.own,
  fun k hk=>(List.mem_append.1 hk).elim (hd k) (h.mj k)⟩
theorem Wd.new (h:Wd we X B F w){r:ag}(hr:r.ok w)(hn:r.blk.Nodup)(hd:∀k∈r.blk,k<w.heap.size/\we.heap.size<=k/\k∉blks B/\k∉blks F):Wd we X (r::B) F w :=
 ⟨h.upd,fun q hq=>(List.mem_cons.1 hq).elim (fun e=>e▸hr) (h.okB q),h.okF,
  List.nodup_append.2 ⟨hn,h.sep,fun a ha b hb e=>(hd a ha).2.2.1 (e▸hb)⟩,
  fun k hk=>(List.mem_append.1 hk).elim (fun hk=>⟨(hd k hk).1,fun hlt=>absurd (hd k hk).2.1 (by omega)⟩) (h.own k),
  fun k hk=>⟨(h.mj k hk).1,fun hb=>(List.mem_append.1 hb).elim (fun hb=>(hd k hb).2.2.2 hk) (h.mj k hk).2⟩⟩
theorem sG:∀ {B:List ag} {i:Nat} {r r':ag},B[i]? = some r -> ∀k,k∈blks (B.set i r')->k∈r'.blk∨k∈blks B
 | [],i,r,r',h,k,hk=>by simp at h
 | q::B,0,r,r',h,k,hk=>by
  simp only [List.set_cons_zero,blks,List.mem_append] at hk ⊢
  rcases hk with hk|hk
  .exact .inl hk
  .exact .inr (.inr hk)
 | q::B,i+1,r,r',h,k,hk=>by
  simp only [List.set_cons_succ,blks,List.mem_append] at hk ⊢
  rcases hk with hk|hk
  .exact .inr (.inl hk)
  .
   rcases sG (by simpa using h) k hk with h1|h1
   .exact .inl h1
   .exact .inr (.inr h1)
theorem yY:∀ {B:List ag} {i:Nat} {r r':ag},B[i]? = some r->(blks B).Nodup->r'.blk.Nodup->(∀k∈r'.blk,k∈r.blk∨k∉blks B)->(blks (B.set i r')).Nodup
 | [],i,r,r',h,hn,hn',hd=>by simp at h
 | q::B,0,r,r',h,hn,hn',hd=>by
  simp at h;subst h
  simp only [List.set_cons_zero,blks] at hn hd ⊢
  obtain ⟨h1,h2,h3⟩:=List.nodup_append.1 hn
  refine List.nodup_append.2 ⟨hn',h2,fun a ha b hb e=>?_⟩
  subst e
  rcases hd a ha with h4|h4
  .exact h3 a h4 a hb rfl
  .exact h4 (List.mem_append.2 (.inr hb))
 | q::B,i+1,r,r',h,hn,hn',hd=>by
  simp only [List.set_cons_succ,blks] at hn hd ⊢
  obtain ⟨h1,h2,h3⟩:=List.nodup_append.1 hn
  have h':B[i]? = some r:=by simpa using h
  have QV:∀k∈r.blk,k∈blks B:=fun k hk=>bu.2 ⟨r,List.mem_of_getElem? h',hk⟩
  refine List.nodup_append.2 ⟨h1,yY h' h2 hn' (fun k hk=>?_),fun a ha b hb e=>?_⟩
  .
   rcases hd k hk with h4|h4
   .exact .inl h4
   .exact .inr (fun hb=>h4 (List.mem_append.2 (.inr hb)))
  .
   subst e
   rcases sG h' a hb with h4|h4
   .
    rcases hd a h4 with h5|h5
    .exact h3 a ha a (QV a h5) rfl
    .exact h5 (List.mem_append.2 (.inl ha))
   .exact h3 a ha a h4 rfl
theorem iU:∀ {B:List ag} {i j:Nat} {r q:ag},B[i]? = some r->B[j]? = some q->i≠j->(blks B).Nodup -> ∀k∈r.blk,k∉q.blk
 | [],i,j,r,q,hi,hj,hne,hn,k,hk,hk'=>by simp at hi
 | p::B,0,0,r,q,hi,hj,hne,hn,k,hk,hk'=>hne rfl
 | p::B,0,j+1,r,q,hi,hj,hne,hn,k,hk,hk'=>by
  simp at hi;subst hi
  exact (List.nodup_append.1 hn).2.2 k hk k (bu.2 ⟨q,List.mem_of_getElem? (by simpa using hj),hk'⟩) rfl
 | p::B,i+1,0,r,q,hi,hj,hne,hn,k,hk,hk'=>by
  simp at hj;subst hj
  exact (List.nodup_append.1 hn).2.2 k hk' k (bu.2 ⟨r,List.mem_of_getElem? (by simpa using hi),hk⟩) rfl
 | p::B,i+1,j+1,r,q,hi,hj,hne,hn,k,hk,hk' =>
  iU (B:=B) (by simpa using hi) (by simpa using hj) (by omega) (List.nodup_append.1 hn).2.1 k hk hk'
theorem Wd.turn (h:Wd we X B F w){i:Nat}{r r':ag}(hi:B[i]? = some r)(e:lS r.blk w w')(hr:r'.ok w')(hn:r'.blk.Nodup)
 (hb:∀k∈r'.blk,k<w'.heap.size/\(k∈r.blk∨w.heap.size<=k)):Wd we X (B.set i r') F w':=by
 have hrm:r∈B:=List.mem_of_getElem? hi
 have QV:∀k∈r.blk,k∈blks B:=fun k hk=>bu.2 ⟨r,hrm,hk⟩
 have hsz:we.heap.size<=w.heap.size:=h.upd.size
 have hnew:∀k∈r'.blk,k∈r.blk∨(k∉blks B/\k∉blks F/\¬ k<we.heap.size):=fun k hk=>(hb k hk).2.elim .inl fun hge =>
  .inr ⟨fun hB=>by have:=(h.own k hB).1;omega,fun hF=>by have:=(h.mj k hF).1;omega,by omega⟩
 refine ⟨⟨e.os.trans h.upd.os,e.tape.trans h.upd.tape,e.output.trans h.upd.output,Nat.le_trans h.upd.size e.size,fun k hk hx=>?_⟩,?_,?_,yY hi h.sep hn (fun k hk=>(hnew k hk).imp id (·.1)),fun k hk=>?_,fun k hk=>⟨Nat.lt_of_lt_of_le (h.mj k hk).1 e.size,fun hb'=>?_⟩⟩
 .rw [e.block k (by omega) (fun hr=>hx ((h.own k (QV k hr)).2 hk)),h.upd.block k hk hx]
 .
  intro q hq
  obtain ⟨j,hj⟩:=List.mem_iff_getElem?.1 hq
  rw [List.getElem?_set] at hj
  split at hj
  .
   split at hj
   .injection hj with hj;exact hj▸hr
   .cases hj
  .
   rename_i hne
   exact q.loc w w' (fun k hk=>e.block k (h.own k (bu.2 ⟨q,List.mem_of_getElem? hj,hk⟩)).1 (fun hkr=>iU hi hj hne h.sep k hkr hk)) (h.okB q (List.mem_of_getElem? hj))
 .
  intro q hq
  exact q.loc w w' (fun k hk=>e.block k (h.mj k (bu.2 ⟨q,hq,hk⟩)).1 (fun hkr=>(h.mj k (bu.2 ⟨q,hq,hk⟩)).2 (QV k hkr))) (h.okF q hq)
 .
  rcases sG hi k hk with h1|h1
  .
   rcases hnew k h1 with h2|h2
   .exact ⟨(hb k h1).1,(h.own k (QV k h2)).2⟩
   .exact ⟨(hb k h1).1,fun hlt=>absurd hlt h2.2.2⟩
  .exact ⟨Nat.lt_of_lt_of_le (h.own k h1).1 e.size,(h.own k h1).2⟩
 .
  rcases sG hi k hb' with h1|h1
  .
   rcases hnew k h1 with h2|h2
   .exact (h.mj k hk).2 (QV k h2)
   .exact h2.2.1 hk
  .exact (h.mj k hk).2 h1
end
inductive It where
  | c (c:Code)
  | b (id:Nat)
  | back (I:Act->World->Prop)
def pq (P:Program)(Q:Exit->Act->World->Prop):List It->Exit->Act->World->Prop
  | [],e,a,w=>Q e a w
  | .c x::k,.normal,a,w=>x.wp P (pq P Q k) a w
  | .c _::k,e,a,w=>pq P Q k e a w
  | .b id::k,.exit id',a,w=>bif Nat.beq id' id then pq P Q k .normal a w else pq P Q k (.exit id') a w
  | .b _::k,e,a,w=>pq P Q k e a w
  | .back I::k,.normal,a,w=>I a w
  | .back _::k,e,a,w=>pq P Q k e a w
def kK (id:Nat):List It->Option (List It)
  | .b id'::k=>bif Nat.beq id id' then some k else kK id k
  | _::k=>kK id k
  | []=>none
def norm:Nat->List It->List It
  | 0,k=>k
  | f+1,k=>match k with
    | .c (.seq x y)::k=>norm f (.c x :: .c y::k)
    | .c .skip::k=>norm f k
    | .c (.label _)::k=>norm f k
    | .c (.block id x)::k=>norm f (.c x :: .b id::k)
    | .b _::k=>norm f k
    | .c (.exit id)::k=>match kK id k with
      | some k'=>norm f k'
      | none => .c (.exit id)::k
    | k=>k
section
variable {P:Program} {Q:Exit->Act->World->Prop}
theorem LU {x y:Code}{k:List It}{a:Act}{w:World}(h:pq P Q (.c x :: .c y::k) .normal a w):pq P Q (.c (.seq x y)::k) .normal a w :=
 wp_seq (wp_mono h (fun e a w q=>by cases e <;> exact q))
theorem GZ {id:Nat}{x:Code}{k:List It}{a:Act}{w:World}(h:pq P Q (.c x :: .b id::k) .normal a w):pq P Q (.c (.block id x)::k) .normal a w :=
 wp_block (wp_mono h (fun e a w q=>by
  cases e with
  | exit id' =>
   simp only [pq] at q
   by_cases hid:id'=id
   .subst hid;simpa [Exit.inBlock] using q
   .
    have e':Nat.beq id' id=false:=Bool.eq_false_iff.2 (fun h=>hid (Nat.eq_of_beq_eq_true h))
    rw [e'] at q
    simpa [Exit.inBlock,hid] using q
  | _=>exact q))
theorem sH {id:Nat}:∀ {k k':List It} {a:Act} {w:World},kK id k=some k'->pq P Q k' .normal a w->pq P Q k (.exit id) a w
 | [],k',a,w,h,hq=>by simp [kK] at h
 | .c _::k,k',a,w,h,hq=>sH (k:=k) (by simpa [kK] using h) hq
 | .back _::k,k',a,w,h,hq=>sH (k:=k) (by simpa [kK] using h) hq
 | .b id'::k,k',a,w,h,hq=>by
  simp only [kK] at h
  simp only [pq]
  cases hb:Nat.beq id id' with
  | true=>rw [hb] at h;simp at h;subst h;exact hq
  | false=>rw [hb] at h;simp at h;exact sH h hq
theorem cT:∀ (f:Nat) {k:List It} {a:Act} {w:World},pq P Q (norm f k) .normal a w->pq P Q k .normal a w
 | 0,k,a,w,h=>h
 | f+1,k,a,w,h=>by
  unfold norm at h
  split at h
  .exact LU (cT f h)
  .exact wp_skip (cT f h)
  .exact wp_label (cT f h)
  .exact GZ (cT f h)
  .
   have:=cT f h
   exact this
  .
   split at h
   .rename_i hx;exact wp_exit (sH hx (cT f h))
   .exact h
  .exact h
end
def Run (P:Program)(n:Nat)(we:World)(X:List Nat)(Q:Exit->Act->World->Prop)(k:List It)(L:Fm)(B F:List ag):Prop :=
  ∀a w,Fr n L a->Wd we X B F w->pq P Q k .normal a w
def Rg (P:Program)(n:Nat)(we:World)(X:List Nat)(Q:Exit->Act->World->Prop)(ops rest:List Oper)(k:List It)(L:Fm)(B F:List ag):Prop :=
  ∀a w,Fr n L a->Wd we X B F w->wpList P ops.toArray (pq P Q k) rest a w
section
variable {P:Program} {n:Nat} {we:World} {X:List Nat} {Q:Exit->Act->World->Prop} {k k':List It} {L:Fm} {B F:List ag} {ops rest:List Oper}
def OJ (i:Nat):List Value->Fm
  | []=>[]
  | v::vs=>(i,v)::OJ (i+1) vs
theorem vP:∀ (vs:List Value) (i j:Nat) (v:Value),lk (OJ i vs) j=some v->i<=j/\vs[j-i]? = some v
 | [],i,j,v,h=>by cases h
 | u::vs,i,j,v,h=>by
  simp only [OJ,lk] at h
  by_cases e:i=j
  .
   subst e
   simp at h
   exact ⟨Nat.le_refl _,by simp [h]⟩
  .
   have e':Nat.beq i j=false:=Bool.eq_false_iff.2 (fun h=>e (Nat.eq_of_beq_eq_true h))
   rw [e'] at h
   obtain ⟨h1,h2⟩:=vP vs (i+1) j v h
   have:j-i=(j-(i+1))+1:=by omega
   exact ⟨by omega,by rw [this];simpa using h2⟩
theorem R.enter {f:FuncId}{fn:Func}{c:Code}{vs:List Value}{w:World}{R:Ending->World->Prop}(X:List Nat)(L:Fm)(hf:P.funcs[f]? = some fn)(hb:fn.body=some c)(hn:fn.ntmps=n)
 (hle:Nat.ble vs.length n=true) (hL:OJ 0 vs=L) (h:Run P n w X (bodyPost P fn R) [.c c] L [] []):Calls P f vs.toArray w R:=by
 have hle':vs.length<=n:=Nat.le_of_ble_eq_true hle
 refine calls_of_wp hf hb<|wp_mono (h _ w ⟨?_,rfl,fun i v hv=>?_⟩ (Wd.start w X)) (fun e a w q=>by cases e <;> exact q)
 .simp [hn];omega
 rw [<- hL] at hv
 obtain ⟨h1,h2⟩:=vP vs 0 i v hv
 simp only [Nat.sub_zero] at h2
 have hi:i<vs.length:=(List.getElem?_eq_some_iff.1 h2).1
 show (vs.toArray++Array.replicate (fn.ntmps-vs.toArray.size) undef)[i]? = some v
 rw [Array.getElem?_append_left (by simpa using hi)]
 simpa using h2
theorem kf:∀ {k:List It} {a:Act} {w:World},Q .ret a w->pq P Q k .ret a w
 | [],a,w,h=>h
 | .c _::k,a,w,h=>kf (k:=k) h
 | .b _::k,a,w,h=>kf (k:=k) h
 | .back _::k,a,w,h=>kf (k:=k) h
theorem R.reg {id:Nat}(h:norm 200 k = .c (.region id ops.toArray false)::k')(hr:Rg P n we X Q ops ops k' L B F):Run P n we X Q k L B F :=
 fun a w ha hw=>cT 200 (h▸wp_region_lit (hr a w ha hw))
theorem R.nil (h:Run P n we X Q k L B F):Rg P n we X Q ops [] k L B F:=fun a w ha hw=>wpList_nil (h a w ha hw)
theorem R.av {c:Operand}{x y:Code}(h:norm 200 k = .c (.cond c x y)::k')(hc:ev L c=some (.bool true))(hr:Run P n we X Q (.c x::k') L B F):Run P n we X Q k L B F :=
 fun a w ha hw=>cT 200 (h▸wp_cond_true (ha.ev hc) (hr a w ha hw))
theorem R.aA {c:Operand}{x y:Code}(h:norm 200 k = .c (.cond c x y)::k')(hc:ev L c=some (.bool false))(hr:Run P n we X Q (.c y::k') L B F):Run P n we X Q k L B F :=
 fun a w ha hw=>cT 200 (h▸wp_cond_false (ha.ev hc) (hr a w ha hw))
theorem R.cond {c:Operand}{x y:Code}{b:Bool}(h:norm 200 k = .c (.cond c x y)::k')(hc:ev L c=some (.bool b))(ht:b=true->Run P n we X Q (.c x::k') L B F)(hf:b=false->Run P n we X Q (.c y::k') L B F):Run P n we X Q k L B F:=by
 cases b
 .exact R.aA h hc (hf rfl)
 .exact R.av h hc (ht rfl)
section
variable {fn:Func} {R:Ending->World->Prop}
theorem R.Rf {t:Nat}{v:Value}(h:norm 200 k = .c .ret::k')(hr:fn.results = #[.tmp t])(hv:lk L t=some v)(hR:∀w,Wd we X B F w->R (.returned v) w):Run P n we X (bodyPost P fn R) k L B F :=
 fun a w ha hw=>cT 200 (h▸wp_ret (kf (bodyPost_ret (by rw [results_tmp hr,Array.getD_eq_getD_getElem?,ha.get _ _ hv];rfl) ha.defers (hR w hw))))
theorem R.TI {t u:Nat}{v v':Value}(h:norm 200 k = .c .ret::k')(hr:fn.results = #[.tmp t,.tmp u])(hv:lk L t=some v)(hv':lk L u=some v')(hR:∀w,Wd we X B F w->R (.returned (.tuple #[v,v'])) w):Run P n we X (bodyPost P fn R) k L B F :=
 fun a w ha hw=>cT 200 (h▸wp_ret (kf (bodyPost_ret (by rw [results_tmp2 hr,Array.getD_eq_getD_getElem?,Array.getD_eq_getD_getElem?,ha.get _ _ hv,ha.get _ _ hv'];rfl) ha.defers (hR w hw))))
theorem results_tmp3 {fn:Func}{t u x:Nat}(h:fn.results = #[.tmp t,.tmp u,.tmp x])(tmps:Array Value)(P:Program)(w:World) :
 (results fn tmps).run P w = .ok (.tuple #[tmps.getD t undef,tmps.getD u undef,tmps.getD x undef]) w:=by
 simp [results,h]
theorem R.TJ {t u x:Nat}{v v' v'':Value}(h:norm 200 k = .c .ret::k')(hr:fn.results = #[.tmp t,.tmp u,.tmp x])(hv:lk L t=some v)(hv':lk L u=some v')(OL:lk L x=some v'')(hR:∀w,Wd we X B F w->R (.returned (.tuple #[v,v',v''])) w):Run P n we X (bodyPost P fn R) k L B F :=
 fun a w ha hw=>cT 200 (h▸wp_ret (kf (bodyPost_ret (by rw [results_tmp3 hr,Array.getD_eq_getD_getElem?,Array.getD_eq_getD_getElem?,Array.getD_eq_getD_getElem?,ha.get _ _ hv,ha.get _ _ hv',ha.get _ _ OL];rfl) ha.defers (hR w hw))))
theorem R.TK (h:norm 200 k=[])(hr:fn.results = #[])(hR:∀w,Wd we X B F w->R (.returned (.tuple #[])) w):Run P n we X (bodyPost P fn R) k L B F :=
 fun a w ha hw=>cT 200 (h▸bodyPost_end (results_none hr _ _ _) ha.defers (hR w hw))
theorem R.TM (h:norm 200 k = .c .ret::k')(hr:fn.results = #[])(hR:∀w,Wd we X B F w->R (.returned (.tuple #[])) w):Run P n we X (bodyPost P fn R) k L B F :=
 fun a w ha hw=>cT 200 (h▸wp_ret (kf (bodyPost_ret (results_none hr _ _ _) ha.defers (hR w hw))))
end
def Hd {ι:Type}(n:Nat)(we:World)(X:List Nat)(LI:ι->Fm)(BI FI:ι->List ag)(PI:ι->Prop)(μ:ι->Nat)(m:Nat)(a:Act)(w:World):Prop :=
  ∃i,PI i/\μ i<m/\Fr n (LI i) a/\Wd we X (BI i) (FI i) w
theorem R.back {ι:Type}{LI:ι->Fm}{BI FI:ι->List ag}{PI:ι->Prop}{μ:ι->Nat}{m:Nat}(i:ι)(h:norm 200 k = .back (Hd n we X LI BI FI PI μ m)::k')(hP:PI i)(hm:μ i<m)(hL:Al (LI i) L)(hB:∀w,Wd we X B F w->Wd we X (BI i) (FI i) w):Run P n we X Q k L B F :=
 fun a w ha hw=>cT 200 (by rw [h];exact ⟨i,hP,hm,ha.sub hL,hB w hw⟩)
theorem Cg {c:Code}{Q:Exit->Act->World->Prop}{a:Act}{w:World}(I:Nat->Act->World->Prop)(m:Nat)(h₀:I m a w)
 (round:∀m a w,I m a w->c.wp P (Exit.then (fun a' w' => ∃m',m'<m/\I m' a' w') Q) a w):(Code.loop c).wp P Q a w:=by
 intro b k cs
 have key:∀m a w,I m a w ->
  ∃e a' w',Q e a' w'/\Arrives P (lone (b.at a (.code c :: .inLoop c::k)) cs w) b k cs e a' w':=by
  intro m
  induction m using Nat.strongRecOn with
  | _ m ih =>
   intro a w hI
   obtain ⟨e,a₁,w₁,hq,harr⟩:=round m a w hI b (.inLoop c::k) cs
   cases e with
   | normal =>
    obtain ⟨m',hlt,hI₁⟩:=hq
    obtain ⟨e₂,a₂,w₂,hq₂,harr₂⟩:=ih m' hlt a₁ w₁ hI₁
    exact ⟨e₂,a₂,w₂,hq₂,.of_steps (Steps.trans harr (.one step_inLoop)) harr₂⟩
   | exit id=>exact ⟨_,a₁,w₁,hq,.pass (x:= .inLoop c) rfl (fun _ _ => .inl (by simp)) harr⟩
   | goto l=>exact ⟨_,a₁,w₁,hq,.pass (x:= .inLoop c) rfl (fun _ _ => .inl (by simp)) harr⟩
   | ret=>exact ⟨_,a₁,w₁,hq,.pass (x:= .inLoop c) rfl (fun _ _ => .inl (by simp)) harr⟩
   | panic ch=>exact ⟨_,a₁,w₁,hq,.pass (x:= .inLoop c) rfl (fun _ _ => .inl (by simp)) harr⟩
   | outgrown=>exact ⟨_,a₁,w₁,hq,.pass (x:= .inLoop c) rfl (fun _ _ => .inl (by simp)) harr⟩
 obtain ⟨e,a',w',hq,harr⟩:=key m a w h₀
 exact ⟨e,a',w',hq,.of_steps (.one step_loop) harr⟩
theorem R.loop {ι:Type}(LI:ι->Fm)(BI FI:ι->List ag)(PI:ι->Prop)(μ:ι->Nat)(i:ι){c:Code}(h:norm 200 k = .c (.loop c)::k')(hP:PI i)(hL:Al (LI i) L)(hB:∀w,Wd we X B F w->Wd we X (BI i) (FI i) w)
 (round:∀i,PI i->Run P n we X Q (.c c :: .back (Hd n we X LI BI FI PI μ (μ i))::k') (LI i) (BI i) (FI i)):Run P n we X Q k L B F:=by
 intro a w ha hw
 refine cT 200 (h ▸ ?_)
 refine Cg (fun m a w => ∃i,PI i/\μ i=m/\Fr n (LI i) a/\Wd we X (BI i) (FI i) w) (μ i) ⟨i,hP,rfl,ha.sub hL,hB w hw⟩ ?_
 rintro m a w ⟨i,hP,rfl,ha,hw⟩
 refine wp_mono (round i hP a w ha hw) (fun e a w q=>?_)
 cases e with
 | normal =>
  obtain ⟨j,h1,h2,h3,h4⟩:=q
  exact ⟨μ j,h2,j,h1,rfl,h3,h4⟩
 | _=>exact q
def Qt (P:Program)(n:Nat)(we:World)(X:List Nat)(L:Fm)(B F:List ag)(op:Op)(ty:TypeId)(v:Value):Prop :=
  ∀dst pos ea g a w,Fr n L a->Wd we X B F w->(execOp a.eval ⟨dst,op,ty,pos,ea,g⟩).run P w = .ok (.value v) w
def gd (ops:List Oper)(L:Fm):Option (Nat×Bool)->Option Bool
  | none=>some true
  | some (j,want)=>match ops[j]? with
    | some o=>match o.dst with
      | some d=>match lk L d with
        | some (.bool b)=>some (b==want)
        | some _=>some false
        | none=>none
      | none=>some false
    | none=>some false
theorem dX {o:Oper}{a:Act}{b:Bool}(ha:Fr n L a)(h:gd ops L o.guard=some b):Region.wanted o (yielded ops.toArray a.tmps)=b:=by
 unfold Region.wanted
 cases hg:o.guard with
 | none=>rw [hg] at h;simp [gd] at h;simp [h]
 | some p =>
  obtain ⟨j,want⟩:=p
  rw [hg] at h
  simp only [gd] at h
  simp only [yielded,List.getElem?_toArray]
  cases ho:ops[j]? with
  | none=>rw [ho] at h;simp at h;subst h;simp
  | some o =>
   rw [ho] at h
   cases hd:o.dst with
   | none=>simp [hd] at h;subst h;simp [hd]
   | some d =>
    simp only [hd] at h
    cases hl:lk L d with
    | none=>simp [hl] at h
    | some v =>
     rw [hl] at h
     have:=ha.get d v hl
     simp only [Option.bind_some,hd,this]
     cases v <;> simp_all
variable {dst:Option Nat} {d:Nat} {op:Op} {ty:TypeId} {pos:String} {ea:Array Edge} {g:Option (Nat×Bool)} {g':Nat×Bool} {v:Value}
theorem R.q (hq:Qt P n we X L B F op ty v)(hd:Nat.blt d n=true)(h:Rg P n we X Q ops rest k ((d,v)::L) B F):Rg P n we X Q ops (⟨some d,op,ty,pos,ea,none⟩::rest) k L B F:=by
 intro a w ha hw
 refine wpList_plain rfl fun K hK=>?_
 unfold Oper.wp
 rw [hq _ _ _ _ a w ha hw,Oper.upon_value]
 exact hK _ _ (h _ w (ha.put d v hd) hw)
theorem R.qg (hg:gd ops L (some g')=some true)(hq:Qt P n we X L B F op ty v)(hd:Nat.blt d n=true)(h:Rg P n we X Q ops rest k ((d,v)::L) B F):Rg P n we X Q ops (⟨some d,op,ty,pos,ea,some g'⟩::rest) k L B F:=by
 intro a w ha hw
 refine wpList_step fun K hK=>?_
 rw [if_pos (dX (o:=⟨some d,op,ty,pos,ea,some g'⟩) ha hg)]
 unfold Oper.wp
 rw [hq _ _ _ _ a w ha hw,Oper.upon_value]
 exact hK _ _ (h _ w (ha.put d v hd) hw)
theorem R.skip (hg:gd ops L (some g')=some false)(hd:Nat.blt d n=true)(h:Rg P n we X Q ops rest k ((d,undef)::L) B F):Rg P n we X Q ops (⟨some d,op,ty,pos,ea,some g'⟩::rest) k L B F:=by
 intro a w ha hw
 refine wpList_step fun K hK=>?_
 rw [if_neg (by rw [dX (o:=⟨some d,op,ty,pos,ea,some g'⟩) ha hg];simp)]
 exact hK _ _ (h _ w (ha.put d undef hd) hw)
theorem addr_add (b o m:Nat):(⟨b,o,none⟩:Addr).add m=⟨b,o+m,none⟩:=Addr.add_lit b o m
section
variable {x y:Operand} {xT yT:TypeId} {m l:Int} {kd:IntKind}
theorem q.mv (hx:ev L x=some v):Qt P n we X L B F (.move x) ty v:=fun _ _ _ _ a w ha hw=>by simp [execOp,ha.ev hx]
theorem q.as (hx:ev L x=some v):Qt P n we X L B F (.assign x) ty v:=fun _ _ _ _ a w ha hw=>by simp [execOp,ha.ev hx]
theorem q.ND {c:Operand}(hc:ev L c=some (.bool true))(hx:ev L x=some v):Qt P n we X L B F (.pick c x y) ty v:=fun _ _ _ _ a w ha hw=>by simp [execOp,ha.ev hx,ha.ev hc,asBool]
theorem q.rD {c:Operand}(hc:ev L c=some (.bool false))(hy:ev L y=some v):Qt P n we X L B F (.pick c x y) ty v:=fun _ _ _ _ a w ha hw=>by simp [execOp,ha.ev hy,ha.ev hc,asBool]
theorem q.pick {c:Operand}{b b1 b2:Bool}(hc:ev L c=some (.bool b))(hx:ev L x=some (.bool b1))(hy:ev L y=some (.bool b2)):Qt P n we X L B F (.pick c x y) ty (.bool (bif b then b1 else b2)):=fun _ _ _ _ a w ha hw=>by cases b <;> simp [execOp,ha.ev hx,ha.ev hy,ha.ev hc,asBool]
theorem q.add {r:Int}(hx:ev L x=some (.int kd m))(hy:ev L y=some (.int kd l))(hr:kd.wrap (m+l)=r):Qt P n we X L B F (.binOp .add xT x y yT) ty (.int kd r):=fun _ _ _ _ a w ha hw=>by
 simp [execOp,ha.ev hx,ha.ev hy,binOp,Op.intArith,eqGuard,hr]
theorem q.sub {r:Int}(hx:ev L x=some (.int kd m))(hy:ev L y=some (.int kd l))(hr:kd.wrap (m-l)=r):Qt P n we X L B F (.binOp .sub xT x y yT) ty (.int kd r):=fun _ _ _ _ a w ha hw=>by
 simp [execOp,ha.ev hx,ha.ev hy,binOp,Op.intArith,eqGuard,hr]
theorem q.mul {r:Int}(hx:ev L x=some (.int kd m))(hy:ev L y=some (.int kd l))(hr:kd.wrap (m*l)=r):Qt P n we X L B F (.binOp .mul xT x y yT) ty (.int kd r):=fun _ _ _ _ a w ha hw=>by
 simp [execOp,ha.ev hx,ha.ev hy,binOp,Op.intArith,eqGuard,hr]
theorem q.eql {b:Bool}(hx:ev L x=some (.int kd m))(hy:ev L y=some (.int kd l))(hb:(m==l)=b):Qt P n we X L B F (.binOp .eql xT x y yT) ty (.bool b):=fun _ _ _ _ a w ha hw=>by
 simp only [execOp,ha.ev hx,ha.ev hy,eqGuard_at_int,binOp_eql,hb];rfl
theorem q.neq {b:Bool}(hx:ev L x=some (.int kd m))(hy:ev L y=some (.int kd l))(hb:(m != l)=b):Qt P n we X L B F (.binOp .neq xT x y yT) ty (.bool b):=fun _ _ _ _ a w ha hw=>by
 simp only [execOp,ha.ev hx,ha.ev hy,eqGuard_at_int,binOp_neq,hb];rfl
theorem q.lss {b:Bool}(hx:ev L x=some (.int kd m))(hy:ev L y=some (.int kd l))(hb:decide (m<l)=b):Qt P n we X L B F (.binOp .lss xT x y yT) ty (.bool b):=fun _ _ _ _ a w ha hw=>by
 simp only [execOp,ha.ev hx,ha.ev hy,eqGuard_at_int,binOp_lss,hb];rfl
theorem q.leq {b:Bool}(hx:ev L x=some (.int kd m))(hy:ev L y=some (.int kd l))(hb:decide (m<=l)=b):Qt P n we X L B F (.binOp .leq xT x y yT) ty (.bool b):=fun _ _ _ _ a w ha hw=>by
 simp only [execOp,ha.ev hx,ha.ev hy,eqGuard_at_int,binOp_leq,hb];rfl
theorem q.gtr {b:Bool}(hx:ev L x=some (.int kd m))(hy:ev L y=some (.int kd l))(hb:decide (m>l)=b):Qt P n we X L B F (.binOp .gtr xT x y yT) ty (.bool b):=fun _ _ _ _ a w ha hw=>by
 simp only [execOp,ha.ev hx,ha.ev hy,eqGuard_at_int,binOp_gtr,hb];rfl
theorem q.geq {b:Bool}(hx:ev L x=some (.int kd m))(hy:ev L y=some (.int kd l))(hb:decide (m>=l)=b):Qt P n we X L B F (.binOp .geq xT x y yT) ty (.bool b):=fun _ _ _ _ a w ha hw=>by
 simp only [execOp,ha.ev hx,ha.ev hy,eqGuard_at_int,binOp_geq,hb];rfl
theorem q.dx (hx:ev L x=some (.int kd m))(hy:ev L y=some (.int kd l))(h:m<l:=by omega):Qt P n we X L B F (.binOp .lss xT x y yT) ty (.bool true):=q.lss hx hy (decide_eq_true h)
theorem q.cU (hx:ev L x=some (.int kd m))(hy:ev L y=some (.int kd l))(h:¬ m<l:=by omega):Qt P n we X L B F (.binOp .lss xT x y yT) ty (.bool false):=q.lss hx hy (decide_eq_false h)
theorem q.TN (hx:ev L x=some (.int kd m))(hy:ev L y=some (.int kd l))(h:m<=l:=by omega):Qt P n we X L B F (.binOp .leq xT x y yT) ty (.bool true):=q.leq hx hy (decide_eq_true h)
theorem q.TP (hx:ev L x=some (.int kd m))(hy:ev L y=some (.int kd l))(h:¬ m<=l:=by omega):Qt P n we X L B F (.binOp .leq xT x y yT) ty (.bool false):=q.leq hx hy (decide_eq_false h)
theorem q.eL (hx:ev L x=some (.int kd m))(hy:ev L y=some (.int kd l))(h:m>l:=by omega):Qt P n we X L B F (.binOp .gtr xT x y yT) ty (.bool true):=q.gtr hx hy (decide_eq_true h)
theorem q.eo (hx:ev L x=some (.int kd m))(hy:ev L y=some (.int kd l))(h:¬ m>l:=by omega):Qt P n we X L B F (.binOp .gtr xT x y yT) ty (.bool false):=q.gtr hx hy (decide_eq_false h)
theorem q.G0 (hx:ev L x=some (.int kd m))(hy:ev L y=some (.int kd l))(h:m>=l:=by omega):Qt P n we X L B F (.binOp .geq xT x y yT) ty (.bool true):=q.geq hx hy (decide_eq_true h)
theorem q.IP (hx:ev L x=some (.int kd m))(hy:ev L y=some (.int kd l))(h:¬ m>=l:=by omega):Qt P n we X L B F (.binOp .geq xT x y yT) ty (.bool false):=q.geq hx hy (decide_eq_false h)
theorem q.fN (hx:ev L x=some (.int kd m))(hy:ev L y=some (.int kd l))(h:m=l:=by omega):Qt P n we X L B F (.binOp .eql xT x y yT) ty (.bool true):=q.eql hx hy (beq_iff_eq.2 h)
theorem q.e8 (hx:ev L x=some (.int kd m))(hy:ev L y=some (.int kd l))(h:¬ m=l:=by omega):Qt P n we X L B F (.binOp .eql xT x y yT) ty (.bool false):=q.eql hx hy (beq_eq_false_iff_ne.2 h)
theorem q.lJ (hx:ev L x=some (.int kd m))(hy:ev L y=some (.int kd l))(h:¬ m=l:=by omega):Qt P n we X L B F (.binOp .neq xT x y yT) ty (.bool true):=q.neq hx hy (bne_iff_ne.2 h)
theorem q.lK (hx:ev L x=some (.int kd m))(hy:ev L y=some (.int kd l))(h:m=l:=by omega):Qt P n we X L B F (.binOp .neq xT x y yT) ty (.bool false):=q.neq hx hy (bne_eq_false_iff_eq.2 h)
theorem q.not {b:Bool}(hx:ev L x=some (.bool b)):Qt P n we X L B F (.unOp .not xT x) ty (.bool !b):=fun _ _ _ _ a w ha hw=>by
 simp [execOp,ha.ev hx,Op.unary]
theorem q.len {A:Option Addr}{s c:Nat}{e:TypeId}(hx:ev L x=some (.slice A s c))(ht:P.underlying xT=some (.slice e)):Qt P n we X L B F (.call { callee:= .builtin .len,args:= #[x],argTypes:= #[xT] }) ty (.int .i64 s):=fun _ _ _ _ a w ha hw=>by
 simp [execOp,resolve,invoke,builtin,ha.ev hx,Builtin.len_,run_underlying ht,goInt]
theorem q.iA {s:ByteArray}(hx:ev L x=some (.string s))(ht:P.underlying xT=some .string):Qt P n we X L B F (.call { callee:= .builtin .len,args:= #[x],argTypes:= #[xT] }) ty (.int .i64 s.size):=fun _ _ _ _ a w ha hw=>by
 simp [execOp,resolve,invoke,builtin,ha.ev hx,Builtin.len_,run_underlying ht,goInt]
theorem q.iface (hx:ev L x=some v)(ht:P.concrete xT=true):Qt P n we X L B F (.makeInterface xT x) ty (.iface xT v):=fun _ _ _ _ a w ha hw=>by
 simp [execOp,ha.ev hx,run_makeInterface (P:=P) (w:=w) xT v ht]
theorem q.ext {vs:Array Value}{i:Nat}(hx:ev L x=some (.tuple vs))(hv:vs[i]? = some v):Qt P n we X L B F (.extract x i) ty v:=fun _ _ _ _ a w ha hw=>by
 simp [execOp,ha.ev hx,Instr.extract,hv]
end
end
end Go.Proofs.YtkbhcbipadkcaaaGreatDoor
