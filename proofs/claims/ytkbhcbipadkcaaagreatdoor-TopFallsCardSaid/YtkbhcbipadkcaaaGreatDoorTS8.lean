import Derived.Test.YtkbhcbipadkcaaaGreatDoorTS7
import Derived.Lib.Bytealg
import Derived.Sort.Walk0
namespace Go.Proofs.YtkbhcbipadkcaaaGreatDoor
set_option linter.unusedVariables false
set_option linter.unusedSimpArgs false
set_option maxRecDepth 100000
set_option maxHeartbeats 90000000
section
theorem qy {α:Type}{l u:List α}{i:Nat}(h:i=l.length):l.take i++u++l.drop i=l++u:=by
 subst h;simp
theorem nJ {α:Type}{l u:List α}{i m:Nat}{z:α}(hu:u.length=1)(hi:i<l.length)(hm:m=l.length+u.length-i) :
 l.take i++u++l.drop i=((l.take i++List.replicate m z).take i++u++(l.take i++List.replicate m z).drop (i+u.length)).take (i+u.length)++l.drop i++((l.take i++List.replicate m z).take i++u++(l.take i++List.replicate m z).drop (i+u.length)).drop (i+u.length+(l.drop i).length):=by
 have h1:(l.take i).length=i:=by rw [List.length_take];omega
 have h2:((l.take i++List.replicate m z).take i)=l.take i:=by rw [List.take_append_of_le_length (by omega),List.take_of_length_le (by omega)]
 have h3:(l.take i++u).length=i+u.length:=by rw [List.length_append,h1]
 rw [h2,List.take_append_of_le_length (by omega),List.take_of_length_le (l:=l.take i++u) (by omega)]
 have h4:(l.take i++u++(l.take i++List.replicate m z).drop (i+u.length)).length<=i+u.length+(l.drop i).length:=by
  simp only [List.length_append,List.length_drop,h1,List.length_replicate];omega
 rw [List.drop_of_length_le h4,List.append_nil]
theorem rN {α:Type}{l u:List α}{i:Nat}(hu:u.length=1)(hi:i<l.length) :
 l.take i++u++l.drop i=(l.take (i+1)++l.drop i).take i++u++(l.take (i+1)++l.drop i).drop (i+u.length):=by
 have h1:(l.take (i+1)).length=i+1:=by rw [List.length_take];omega
 rw [hu,List.take_append_of_le_length (by omega),List.take_take,Nat.min_eq_left (by omega),List.drop_append_of_le_length (by omega),List.drop_of_length_le (l:=l.take (i+1)) (by omega),List.nil_append]
theorem pQ {α:Type}{l:List α}{i j:Nat}(h:i=j):l.take i++l.drop j=l:=by subst h;simp
section
variable {α:Type}
def bsGo (f:α->Int)(l:List α)(lo hi:Nat):Nat :=
  if h:lo<hi then
    match l[(lo+hi) / 2]? with
    | some x=>if f x<0 then bsGo f l ((lo+hi) / 2+1) hi else bsGo f l lo ((lo+hi) / 2)
    | none=>lo
  else lo
termination_by hi-lo
decreasing_by all_goals omega
def jD (f:α->Int)(l:List α):Nat:=bsGo f l 0 l.length
def lI (f:α->Int)(l:List α):Bool:=match l[jD f l]? with|some x=>decide (f x=0)|none=>false
variable {f:α->Int} {l:List α} {lo hi:Nat} {x:α}
theorem AL (h:lo<hi)(hx:l[(lo+hi) / 2]? = some x)(hf:f x<0):bsGo f l lo hi=bsGo f l ((lo+hi) / 2+1) hi:=by
 rw [bsGo,dif_pos h,hx];simp [hf]
theorem AO (h:lo<hi)(hx:l[(lo+hi) / 2]? = some x)(hf:¬ f x<0):bsGo f l lo hi=bsGo f l lo ((lo+hi) / 2):=by
 rw [bsGo,dif_pos h,hx];simp [hf]
theorem gY (h:¬ lo<hi):bsGo f l lo hi=lo:=by rw [bsGo,dif_neg h]
theorem L8:∀ (n lo hi:Nat),hi-lo=n->lo<=hi->bsGo f l lo hi<=hi:=by
 intro n
 induction n using Nat.strongRecOn with
 | _ n ih =>
  intro lo hi hn hle
  rw [bsGo]
  split
  .
   split
   .
    split
    .exact ih (hi-((lo+hi) / 2+1)) (by omega) _ _ rfl (by omega)
    .exact Nat.le_trans (ih ((lo+hi) / 2-lo) (by omega) _ _ rfl (by omega)) (by omega)
   .exact hle
  .exact hle
theorem pR:jD f l<=l.length:=L8 _ 0 l.length rfl (Nat.zero_le _)
theorem CN (h:lI f l=true):∃x,l[jD f l]? = some x/\f x=0:=by
 unfold lI at h
 split at h
 .rename_i x hx;exact ⟨x,hx,of_decide_eq_true h⟩
 .cases h
theorem Ho (hm:∀ (i j:Nat) x y,i<=j->l[i]? = some x->l[j]? = some y->f y<0->f x<0):∀ (n lo hi:Nat),hi-lo=n->lo<=hi->hi<=l.length ->
 (∀ (i:Nat) x,i<lo->l[i]? = some x->f x<0)->(∀ (i:Nat) x,hi<=i->l[i]? = some x->¬ f x<0) ->
 (∀ (i:Nat) x,i<bsGo f l lo hi->l[i]? = some x->f x<0)/\(∀ (i:Nat) x,bsGo f l lo hi<=i->l[i]? = some x->¬ f x<0):=by
 intro n
 induction n using Nat.strongRecOn with
 | _ n ih =>
  intro lo hi hn hle hl h1 h2
  by_cases hlt:lo<hi
  .
   obtain ⟨x,hx⟩:∃x,l[(lo+hi) / 2]? = some x:=⟨_,List.getElem?_eq_getElem (by omega)⟩
   by_cases hf:f x<0
   .
    rw [AL hlt hx hf]
    exact ih (hi-((lo+hi) / 2+1)) (by omega) _ _ rfl (by omega) hl (fun i y hi' hy=>hm i ((lo+hi) / 2) y x (by omega) hy hx hf) h2
   .
    rw [AO hlt hx hf]
    exact ih ((lo+hi) / 2-lo) (by omega) _ _ rfl (by omega) (by omega) h1 (fun i y hi' hy hc=>hf (hm ((lo+hi) / 2) i x y hi' hx hy hc))
  .
   rw [gY hlt]
   have:lo=hi:=by omega
   subst this
   exact ⟨h1,h2⟩
theorem CO (hm:∀ (i j:Nat) x y,i<=j->l[i]? = some x->l[j]? = some y->f y<0->f x<0) :
 (∀ (i:Nat) x,i<jD f l->l[i]? = some x->f x<0)/\(∀ (i:Nat) x,jD f l<=i->l[i]? = some x->¬ f x<0) :=
 Ho hm _ 0 l.length rfl (Nat.zero_le _) (Nat.le_refl _) (fun i x hi=>absurd hi (Nat.not_lt_zero _)) (fun i x hi hx=>by
  have:=(List.getElem?_eq_some_iff.1 hx).1;omega)
end
def qZ (a b:Int):Int:=if a<b then -1 else if b<a then 1 else 0
def JG:List Int->Int
  | []=>0
  | x::l=>if x=0 then JG l else x
theorem JH {l:List Int}{k:Nat}{x:Int}(h:l[k]? = some x)(h0:x=0):JG (l.drop k)=JG (l.drop (k+1)):=by
 have hk:=(List.getElem?_eq_some_iff.1 h).1
 have he:=(List.getElem?_eq_some_iff.1 h).2
 rw [List.drop_eq_getElem_cons hk,he];simp [JG,h0]
theorem L9 {l:List Int}{k:Nat}{x:Int}(h:l[k]? = some x)(h0:¬ x=0):JG (l.drop k)=x:=by
 have hk:=(List.getElem?_eq_some_iff.1 h).1
 have he:=(List.getElem?_eq_some_iff.1 h).2
 rw [List.drop_eq_getElem_cons hk,he];simp [JG,h0]
end
def aZ (p:Place):Int:=if p.aC<1∨4<p.aC∨p.Slot<0∨5<p.Slot then 1 else 0
def ra (p q:Place):Int:=if qZ p.aC q.aC=0 then qZ p.Slot q.Slot else qZ p.aC q.aC
theorem Ma (p q:Place):JG [qZ p.aC q.aC,qZ p.Slot q.Slot]=ra p q:=by
 simp only [JG,ra]
 split
 .
  split
  .rename_i h;exact h.symm
  .rfl
 .rfl
theorem Hq {p q:Place}(h:ra p q=0):p=q:=by
 cases p;cases q
 simp only [ra,qZ] at h
 simp only [Place.mk.injEq]
 split at h <;> (try split at h) <;> (try split at h) <;> (try split at h) <;> omega
theorem Hr (p:Place):ra p p=0:=by simp [ra,qZ]
def fW (l:List Held)(p:Place):Nat:=jD (fun h=>ra h.Place p) l
def Hs (l:List Held)(p:Place):Bool:=lI (fun h=>ra h.Place p) l
theorem vz (l:List Held)(p:Place):fW l p<=l.length:=pR
theorem tM (l:List Held)(p:Place):Hs l p=false ∨ ∃x,l[fW l p]? = some x/\Hs l p=true/\x.Place=p/\fW l p<l.length:=by
 cases h:Hs l p with
 | false=>exact .inl rfl
 | true =>
  obtain ⟨x,h1,h2⟩:=CN h
  exact .inr ⟨x,h1,rfl,Hq h2,(List.getElem?_eq_some_iff.1 h1).1⟩
def mM (l:List Held)(p:Place):Int:=if Hs l p then (match l[fW l p]? with|some x=>x.ak|none=>0) else 0
theorem JI {l:List Held}{p:Place}(h:Hs l p=false):mM l p=0:=by simp [mM,h]
theorem Ga {l:List Held}{p:Place}{x:Held}(h:Hs l p=true)(hx:l[fW l p]? = some x):mM l p=x.ak:=by simp [mM,h,hx]
def fT (l:List Held)(p:Place)(id:Int):List Held :=
  if Hs l p then (if id=0 then l.take (fW l p)++l.drop (fW l p+1) else l.set (fW l p) ⟨p,id⟩)
  else if id=0 then l else l.take (fW l p)++[⟨p,id⟩]++l.drop (fW l p)
theorem nK (l:List Held)(p:Place)(id:Int):(fT l p id).length<=l.length+1:=by
 have:=vz l p
 unfold fT;split <;> split <;> simp <;> omega
def ml (l:List Held)(h:Int):Nat->Nat->Int
  | 0,_ => -1
  | n+1,s=>if mM l ⟨h,s⟩=0 then s else ml l h n (s+1)
def i6 (l:List Held)(h:Int):Int:=ml l h 6 0
theorem EM {l:List Held}{h:Int}{n s:Nat}(e:mM l ⟨h,s⟩=0)(hn:0<n):ml l h n s=s:=by
 cases n with
 | zero=>omega
 | succ n=>simp [ml,e]
theorem CP {l:List Held}{h:Int}{s:Nat}(e:¬ mM l ⟨h,s⟩=0)(hs:s<6):ml l h (6-s) s=ml l h (6-(s+1)) (s+1):=by
 have:6-s=(6-(s+1))+1:=by omega
 rw [this];simp only [ml];rw [if_neg e]
def uC (l:List Held)(p:Place):Int:=match l.find? (fun h=>h.Place==p) with|some h=>h.ak|none=>0
def oy (p:Place)(id:Int)(s:List Held×Bool)(h:Held):List Held×Bool :=
  let s1:=if s.2=false/\(p.aC<h.Place.aC∨(p.aC=h.Place.aC/\p.Slot<=h.Place.Slot)) then (s.1++[⟨p,id⟩],true) else s
  (if h.Place=p then s1.1 else s1.1++[h],s1.2)
theorem wL {p:Place}{id:Int}{acc:List Held}{h:Held}(ho:p.aC<h.Place.aC∨(p.aC=h.Place.aC/\p.Slot<=h.Place.Slot)):oy p id (acc,false) h=(if h.Place=p then acc++[⟨p,id⟩] else acc++[⟨p,id⟩]++[h],true):=by
 unfold oy;rw [if_pos ⟨rfl,ho⟩]
theorem pS {p:Place}{id:Int}{acc:List Held}{b:Bool}{h:Held}(ho:b=true∨¬ (p.aC<h.Place.aC∨(p.aC=h.Place.aC/\p.Slot<=h.Place.Slot))):oy p id (acc,b) h=(if h.Place=p then acc else acc++[h],b):=by
 unfold oy;rw [if_neg (fun hh=>by
  rcases ho with ho|ho;· rw [ho] at hh;cases hh.1
  .exact ho hh.2)]
def CQ (l:List Held)(p:Place)(id:Int):List Held×Bool:=l.foldl (oy p id) ([],id==0)
def EN (l:List Held)(p:Place)(id:Int):List Held:=if (CQ l p id).2 then (CQ l p id).1 else (CQ l p id).1++[⟨p,id⟩]
theorem ry (p:Place):aZ p=0∨aZ p=1:=by unfold aZ;split <;> simp
theorem km {p:Place}(h:p.aC<1∨4<p.aC∨p.Slot<0∨5<p.Slot):aZ p=1:=if_pos h
theorem yw {p:Place}(h:1<=p.aC/\p.aC<=4/\0<=p.Slot/\p.Slot<=5):aZ p=0:=if_neg (by omega)
theorem cx {p:Place}(h:aZ p=0):1<=p.aC/\p.aC<=4/\0<=p.Slot/\p.Slot<=5:=by
 unfold aZ at h;split at h <;> omega
def ka (p q:Place):Prop:=p.aC<q.aC∨(p.aC=q.aC/\p.Slot<q.Slot)
def GoodAt (l:List Held)(k:Nat):Prop:= ∀h,l[k]? = some h->aZ h.Place=0/\h.ak≠0 /\ ∀g,0<k->l[k-1]? = some g->ka g.Place h.Place
def Good (l:List Held):Prop:= ∀k,k<l.length->GoodAt l k
section
open Go Go.RowKit
theorem ni (bT:Value)(l:List Held)(w:World)(own:List Nat)(H:HN w own [] [ag.ls bT l])(hl:l.length<=1000000):RC Tryz.prog 107 #[bT] H (fun z:Value=>z) (fun z=>[ag.row 124 z l]) (fun _=>[]):=by
 have AJ:=H.cq 0 rfl
 refine R.bF [(0,bT)] Tryz.func107 O O O O H<|R.reg O<|R.u 1 O<|R.nil<|R.reg O<|R.u 1 O<|?_
 rcases Bool.eq_false_or_eq_true (pb bT) with h1|h1
 .
  refine R.q (q.G7 (congrArg Value.bool h1) (q.oY (dh 0 O) O O Tryz.underlying45)) O<|R.nil<|R.az O O<|R.reg O<|R.u 1 O<|R.nil<|R.row0 (α:=Held) 124 ?_
  have hz:l=[]:=by (exact Sl.pb (H.bO 0 rfl) ‹_›)
  rw [hz]
  exact R.w1 (nS) [0,1] [] O Tryz.results107 (RV.tmp O) O O O O
 refine R.q (q.G7 (congrArg Value.bool h1) (q.oY (dh 0 O) O O Tryz.underlying45)) O<|R.nil<|R.aD O O<|R.reg O<|R.s O (s.bs (l:=([]:List Held)) cK gX O O O O O O O) fun b1=>?_
 refine R.u 1 O<|R.s O (s.app 0 _ O O O (dh 0 O) ow (by simp;omega) (by simp;omega) (fun _=>rfl) O) fun v1=>?_
 refine R.u 1 O<|R.nil ?_
 have hz:l=(([])++l):=by (rfl)
 rw [hz]
 exact R.w1 v1 [0,1] [] O Tryz.results107 (RV.tmp O) O O O O
theorem wM (bT:Value)(l:List Held)(i:Nat)(j:Nat)(w:World)(own:List Nat)(H:HN w own [ag.row 124 bT l] [])(hij:i<=j/\j<=l.length):RC Tryz.prog 172 #[bT,iV (i:Int),iV (j:Int)] H (fun z:Value=>z) (fun z=>[ag.row 124 z (l.take i++l.drop j)]) (fun _=>[]):=by
 have Ht:=H.cap 0 rfl;have AJ:=H.cE 0 rfl
 refine R.bF [(0,bT),(1,iV (i:Int)),(2,iV (j:Int))] Tryz.func172 O O O O H<|R.reg O<|R.u 1 O<|R.nil<|R.reg O<|R.u 4 O<|R.q (q.len' (bD 0 O) O Tryz.underlying45) O<|R.q (q.Er (i:=i) (j:=j) (q':=l.length) (bD 0 O) O O O O cK O O O (by omega) (by omega) (by omega)) O<|R.nil<|R.reg O<|R.u 2 O<|?_
 by_cases h1:i=j
 .
  refine R.q (q.fI O O) O<|R.nil<|R.az O O<|R.reg O<|R.u 2 O<|R.nil ?_
  have hz:l.take i++l.drop j=l:=by (exact pQ (by omega))
  rw [hz]
  exact R.w1 bT [0,1] [] O Tryz.results172 (RV.tmp O) O O O O
 refine R.q (q.eU O O) O<|R.nil<|R.aD O O<|R.reg O<|R.u 1 O<|R.q (q.len' (bD 0 O) O Tryz.underlying45) O<|R.u 1 O<|R.nil<|R.fJ (fuel:=8) [1] O O mixed O<|D.q (i:=0) O (aA [1] [] O) O (q.mv O) O<|D.q (i:=1) O (aA [1] [] O) O (q.mv O) O<|D.q (i:=3) O (aA [1] [] O) O (q.mv O) O<|D.q (i:=4) O (aA [1] [] O) O (q.mv O) O<|D.two (i:=2) (j:=5) O O ?_ ?_
 .
  refine Do.s (s.c (Qt.a (q.kG (i:=i) (bD 0 O) O O Tryz.underlying45 vy O (by omega))) O) (fun _=>(aA [1] [] O)) O fun _=>?_
  refine D.one (i:=5) O<|Do.s (s.c (Qt.a (q.dA (i:=j) (bD 0 O) O O cK O (by omega))) O) (fun _=>(aA [1] [] O)) O fun _=>?_
  refine D.one (i:=6) O<|Do.s (s.tE (a:=i) 0 _ O O O (fun w hw=>Sl.from (hw.row 0 O) (by omega)) ow (by omega) (by simp;omega) O O) (fun _=>(aA [1] [] O)) O fun _=>?_
  refine D.q (i:=7) O (aA [1] [] O) O (q.as O) O<|D.done<|R.reg O<|R.u 2 O<|R.q (q.len' (bD 0 O) O Tryz.underlying45) O<|R.u 1 O<|R.q (q.sl2 (i:=(l.take i++(l.drop j)).length) (j:=l.length) (bD 0 O) O O O cK O O (by (simp;omega)) (by (simp [fe];omega))) O<|R.s O (s.yY (lo:=(l.take i++(l.drop j)).length) (hi:=l.length) (z0:=(⟨(⟨0,0⟩:Place),0⟩:Held)) 0 O O cK gX O (by omega) (by (simp;omega)) (by (simp [fe];omega))) fun _=>?_
  refine R.nil<|R.reg O<|R.u 2 O<|R.nil ?_
  have hz:l.take i++l.drop j=(l.take i++(l.drop j)):=by (rfl)
  rw [hz]
  exact R.w1 (kG bT (i+(l.drop j).length)) [0,1] [] O Tryz.results172 (RV.tmp O) O O O O
 refine Do.s (s.c (Qt.a (q.dA (i:=j) (bD 0 O) O O cK O (by omega))) O) (fun _=>(aA [1] [] O)) O fun _=>?_
 refine D.one (i:=2) O<|Do.s (s.c (Qt.a (q.kG (i:=i) (bD 0 O) O O Tryz.underlying45 vy O (by omega))) O) (fun _=>(aA [1] [] O)) O fun _=>?_
 refine D.one (i:=6) O<|Do.s (s.tE (a:=i) 0 _ O O O (fun w hw=>Sl.from (hw.row 0 O) (by omega)) ow (by omega) (by simp;omega) O O) (fun _=>(aA [1] [] O)) O fun _=>?_
 refine D.q (i:=7) O (aA [1] [] O) O (q.as O) O<|D.done<|R.reg O<|R.u 2 O<|R.q (q.len' (bD 0 O) O Tryz.underlying45) O<|R.u 1 O<|R.q (q.sl2 (i:=(l.take i++(l.drop j)).length) (j:=l.length) (bD 0 O) O O O cK O O (by (simp;omega)) (by (simp [fe];omega))) O<|R.s O (s.yY (lo:=(l.take i++(l.drop j)).length) (hi:=l.length) (z0:=(⟨(⟨0,0⟩:Place),0⟩:Held)) 0 O O cK gX O (by omega) (by (simp;omega)) (by (simp [fe];omega))) fun _=>?_
 refine R.nil<|R.reg O<|R.u 2 O<|R.nil ?_
 have hz:l.take i++l.drop j=(l.take i++(l.drop j)):=by (rfl)
 rw [hz]
 exact R.w1 (kG bT (i+(l.drop j).length)) [0,1] [] O Tryz.results172 (RV.tmp O) O O O O
theorem wN (bT:Value)(l:List Held)(i:Nat)(PD:Value)(u:List Held)(w:World)(own:List Nat)(H:HN w own [ag.row 124 bT l,ag.row 124 PD u] [])(hi:i<=l.length)(hu:u.length=1)(hl:l.length<=1000000):RC Tryz.prog 173 #[bT,iV (i:Int),PD] H (fun z:Value=>z) (fun z=>[ag.row 124 z (l.take i++u++l.drop i)]) (fun _=>[]):=by
 have Ht:=H.cap 0 rfl;have AJ:=H.cE 0 rfl
 have VE:=H.cap 1 rfl;have VF:=H.cE 1 rfl
 refine R.bF [(0,bT),(1,iV (i:Int)),(2,PD)] Tryz.func173 O O O O H<|R.reg O<|R.u 1 O<|R.nil<|R.reg O<|R.u 2 O<|R.q (q.dA (i:=i) (bD 0 O) O O cK O (by omega)) O<|R.nil<|R.reg O<|R.u 1 O<|R.q (q.len' (bD 1 O) O Tryz.underlying45) O<|R.u 1 O<|R.nil<|R.reg O<|R.u 1 O<|?_
 by_cases h1:u.length=0
 .
  refine R.q (q.fI O O) O<|R.nil<|R.az O O<|R.reg O<|R.u 2 O<|R.nil ?_
  have hz:l.take i++u++l.drop i=l:=by (exfalso;omega)
  rw [hz]
  exact R.w1 bT [0,2] [] O Tryz.results173 (RV.tmp O) O O O O
 refine R.q (q.eU O O) O<|R.nil<|R.aD O O<|R.reg O<|R.u 1 O<|R.q (q.len' (bD 0 O) O Tryz.underlying45) O<|R.u 1 O<|R.nil<|R.reg O<|R.u 2 O<|?_
 by_cases h2:i=l.length
 .
  refine R.q (q.fI O O) O<|R.nil<|R.az O O<|R.reg O<|R.u 2 O<|R.s O (s.app 0 _ O O O (bD 1 O) ow (by omega) (by omega) (fun _=>rfl) O) fun v1=>?_
  refine R.u 1 O<|R.nil ?_
  have hz:l.take i++u++l.drop i=(l++u):=by (exact qy (by omega))
  rw [hz]
  exact R.w1 v1 [0,2] [] O Tryz.results173 (RV.tmp O) O O O O
 refine R.q (q.eU O O) O<|R.nil<|R.aD O O<|R.reg O<|R.u 2 O<|R.q (q.bA (r:=((l.length+u.length:Nat):Int)) O O) O<|R.u 1 O<|R.q (q.cap (bD 0 O) O Tryz.underlying45) O<|?_
 by_cases h3:(lz bT)<(l.length+u.length)
 .
  refine R.q (q.eM O O) O<|R.nil<|R.az O O<|R.reg O<|R.u 2 O<|R.q (q.kG (i:=i) (bD 0 O) O O Tryz.underlying45 vy O (by omega)) O<|R.u 2 O<|R.q (q.bA (r:=((l.length+u.length:Nat):Int)) O O) O<|R.u 1 O<|R.q (q.lS (r:=(((l.length+u.length)-i:Nat):Int)) O O) O<|R.s O (s.FY (o:=i) (m:=((l.length+u.length)-i)) (z0:=(⟨(⟨0,0⟩:Place),0⟩:Held)) 0 O O O O ow Tryz.underlying3 gX O (by omega) (by omega) (by omega) (by omega) (by omega) O) fun v2=>?_
  refine R.u 1 O<|R.nil<|R.reg O<|R.u 2 O<|R.q (q.dA (i:=i) (bD 0 O) O O cK O (by (simp;omega))) O<|R.u 1 O<|R.s O (s.uz (o:=i) 0 _ O (bD 2 O) O O cK (by (simp;omega)) O O) fun _=>?_
  refine R.nil<|R.fJ (fuel:=9) [1,2,3] O O mixed O<|D.q (i:=0) O (aA [1,2,3] [] O) O (q.mv O) O<|D.q (i:=1) O (aA [1,2,3] [] O) O (q.mv O) O<|D.q (i:=2) O (aA [1,2,3] [] O) O (q.mv O) O<|D.q (i:=3) O (aA [1,2,3] [] O) O (q.bA (r:=((i+u.length:Nat):Int)) O O) O<|D.q (i:=5) O (aA [1,2,3] [] O) O (q.mv O) O<|D.q (i:=6) O (aA [1,2,3] [] O) O (q.mv O) O<|D.q (i:=7) O (aA [1,2,3] [] O) O (q.dA (i:=i) (bD 0 O) O O cK O (by omega)) O<|D.one (i:=4) O<|Do.s (s.c (Qt.a (q.dA (i:=(i+u.length)) (bD 0 O) O O cK O (by (simp;omega)))) O) (fun _=>(aA [1,2,3] [] O)) O fun _=>?_
  refine D.one (i:=8) O<|Do.s (s.uz (o:=(i+u.length)) 0 _ O (fun w hw=>Sl.from (hw.row 1 O) (by omega)) O O cK (by (simp;omega)) O O) (fun _=>(aA [1,2,3] [] O)) O fun _=>?_
  refine D.done<|R.reg O<|R.u 2 O<|R.nil ?_
  have hz:l.take i++u++l.drop i=(((l.take i++List.replicate ((l.length+u.length)-i) (⟨(⟨0,0⟩:Place),0⟩:Held)).take i++u++(l.take i++List.replicate ((l.length+u.length)-i) (⟨(⟨0,0⟩:Place),0⟩:Held)).drop (i+u.length)).take (i+u.length)++(l.drop i)++((l.take i++List.replicate ((l.length+u.length)-i) (⟨(⟨0,0⟩:Place),0⟩:Held)).take i++u++(l.take i++List.replicate ((l.length+u.length)-i) (⟨(⟨0,0⟩:Place),0⟩:Held)).drop (i+u.length)).drop ((i+u.length)+(l.drop i).length)):=by (exact nJ hu (by omega) rfl)
  rw [hz]
  exact R.w1 v2 [0,3] [] O Tryz.results173 (RV.tmp O) O O O O
 refine R.q (q.ey O O) O<|R.nil<|R.aD O O<|R.reg O<|R.u 3 O<|R.q (q.bA (r:=((l.length+u.length:Nat):Int)) O O) O<|R.q (q.Rs (i:=(l.length+u.length)) (bD 0 O) O O cK O (by omega)) O<|R.u 1 O<|R.nil<|R.reg O<|R.u 4 O<|R.q (q.bA (r:=((i+u.length:Nat):Int)) O O) O<|R.q (q.nh (i:=(i+u.length)) (bD 0 O) O O cK O (by omega) (by omega)) O<|R.q (q.UQ (i:=1) (j:=0) (tR:=4) Tryz.func195 O O (by kernel_rfl) (by kernel_rfl) cK O O (by decide) (by omega) (by omega) O O O O) O<|R.u 1 O<|R.nil<|R.az O O<|R.fJ (fuel:=9) [1,2] O O mixed O<|D.q (i:=0) O (aA [1,2] [] O) O (q.mv O) O<|D.q (i:=1) O (aA [1,2] [] O) O (q.mv O) O<|D.q (i:=2) O (aA [1,2] [] O) O (q.mv O) O<|D.q (i:=3) O (aA [1,2] [] O) O (q.bA (r:=((i+u.length:Nat):Int)) O O) O<|D.q (i:=5) O (aA [1,2] [] O) O (q.mv O) O<|D.q (i:=6) O (aA [1,2] [] O) O (q.mv O) O<|D.two (i:=4) (j:=7) O O ?_ ?_
 .
  refine Do.s (s.c (Qt.a (q.nh (i:=(i+u.length)) (bD 0 O) O O cK O (by omega) (by omega))) O) (fun _=>(aA [1,2] [] O)) O fun _=>?_
  refine D.one (i:=7) O<|Do.s (s.c (Qt.a (q.nh (i:=i) (bD 0 O) O O cK O (by omega) (by omega))) O) (fun _=>(aA [1,2] [] O)) O fun _=>?_
  refine D.one (i:=8) O<|Do.s (s.Ak (o:=i) 0 _ O (by omega) (by omega) (by omega) (by omega) O O cK O O) (fun _=>(aA [1,2] [] O)) O fun _=>?_
  refine D.done<|R.reg O<|R.u 2 O<|R.q (q.dA (i:=i) (bD 0 O) O O cK O (by (simp;omega))) O<|R.u 1 O<|R.s O (s.uz (o:=i) 0 _ O (bD 1 O) O O cK (by (simp;omega)) O O) fun _=>?_
  refine R.nil<|R.reg O<|R.u 2 O<|R.nil ?_
  have hz:l.take i++u++l.drop i=((l.take (i+1)++l.drop i).take i++u++(l.take (i+1)++l.drop i).drop (i+u.length)):=by (exact rN hu (by omega))
  rw [hz]
  exact R.w1 (kG bT (l.length+u.length)) [0,2] [] O Tryz.results173 (RV.tmp O) O O O O
 refine Do.s (s.c (Qt.a (q.nh (i:=i) (bD 0 O) O O cK O (by omega) (by omega))) O) (fun _=>(aA [1,2] [] O)) O fun _=>?_
 refine D.one (i:=4) O<|Do.s (s.c (Qt.a (q.nh (i:=(i+u.length)) (bD 0 O) O O cK O (by omega) (by omega))) O) (fun _=>(aA [1,2] [] O)) O fun _=>?_
 refine D.one (i:=8) O<|Do.s (s.Ak (o:=i) 0 _ O (by omega) (by omega) (by omega) (by omega) O O cK O O) (fun _=>(aA [1,2] [] O)) O fun _=>?_
 refine D.done<|R.reg O<|R.u 2 O<|R.q (q.dA (i:=i) (bD 0 O) O O cK O (by (simp;omega))) O<|R.u 1 O<|R.s O (s.uz (o:=i) 0 _ O (bD 1 O) O O cK (by (simp;omega)) O O) fun _=>?_
 refine R.nil<|R.reg O<|R.u 2 O<|R.nil ?_
 have hz:l.take i++u++l.drop i=((l.take (i+1)++l.drop i).take i++u++(l.take (i+1)++l.drop i).drop (i+u.length)):=by (exact rN hu (by omega))
 rw [hz]
 exact R.w1 (kG bT (l.length+u.length)) [0,2] [] O Tryz.results173 (RV.tmp O) O O O O
theorem zk (x:Int)(w:World):Calls Tryz.prog 249 #[iV x] w fun e w'=>e = .returned (.bool false)/\Ext w w':=by
 exact R.enter [] [(0,iV x)] Tryz.func249 rfl rfl rfl rfl<|R.reg rfl<|R.u 1 rfl<|R.nil<|R.reg rfl<|R.u 2 rfl<|R.q (q.ny rfl rfl) rfl<|R.u 1 rfl<|R.nil<|R.rv rfl Tryz.results249 rfl (rB (by rfl))
theorem uD (x:Int)(y:Int)(w:World):Calls Tryz.prog 227 #[iV x,iV y] w fun e w'=>e = .returned (iV (qZ x y))/\Ext w w':=by
 refine R.enter [] [(0,iV x),(1,iV y)] Tryz.func227 O O O O<|R.reg O<|R.u 1 O<|R.nil<|R.reg O<|R.u 1 O<|R.c (q.call Jy O O (fun w hw=>(zk x w ))) O<|R.u 1 O<|R.nil ?_
 refine R.reg O<|R.u 1 O<|R.c (q.call Jy O O (fun w hw=>(zk y w ))) O<|R.u 1 O<|R.nil ?_
 refine R.reg O<|R.u 1 O<|R.nil<|R.aD O O<|R.reg O<|R.u 1 O<|R.nil<|R.aD O O<|R.reg O<|R.u 2 O<|?_
 by_cases h1:x<y
 .
  exact R.q (q.dC O O) O<|R.nil<|R.az O O<|R.reg O<|R.u 1 O<|R.nil<|R.rv O Tryz.results227 O (rI (by (unfold qZ;rw [if_pos (by omega)])))
 refine R.q (q.cS O O) O<|R.nil<|R.aD O O<|R.reg O<|R.u 2 O<|?_
 by_cases h2:y<x
 .
  exact R.q (q.eM O O) O<|R.nil<|R.az O O<|R.reg O<|R.u 1 O<|R.nil<|R.rv O Tryz.results227 O (rI (by (unfold qZ;rw [if_neg (by omega),if_pos (by omega)])))
 exact R.q (q.ey O O) O<|R.nil<|R.aD O O<|R.reg O<|R.u 1 O<|R.nil<|R.rv O Tryz.results227 O (rI (by (unfold qZ;rw [if_neg (by omega),if_neg (by omega)])))
theorem Hu (bT:Value)(l:List Int)(w:World)(eA:Sl w bT l):Calls Tryz.prog 226 #[bT] w fun e w'=>e = .returned (iV (JG l))/\Ext w w':=by
 have zm:=eA.gW
 refine R.enter [] [(0,bT)] Tryz.func226 O O O O<|R.reg O<|R.u 1 O<|R.nil<|R.reg O<|R.u 1 O<|R.nil<|R.reg O<|R.u 1 O<|R.q (q.len' (fun _=>Wd.old eA) O Tryz.underlying159) O<|R.u 1 O<|R.nil<|R.loop (fun k:Nat=>[(3,iV 0),(6,bT),(7,iV (l.length:Int)),(8,iV (k:Int))]) (fun k:Nat=>[]) (fun k:Nat=>[]) (fun k:Nat=>JG l=JG (l.drop k)) (fun k:Nat=>l.length-k) 0 O (by rfl) (sF O) (iz [] [] O) ?_
 rintro k HA
 refine R.reg O<|?_
 by_cases h1:k<l.length
 .
  refine R.q (q.dC O O) O<|R.nil<|R.az O O<|R.reg O<|?_
  obtain ⟨x1,hx1⟩:∃z,l[k]? = some z:=⟨_,List.getElem?_eq_getElem (by omega)⟩
  refine R.q (q.idx (i:=k) (fun _=>Wd.old eA) O O da O hx1) O<|R.q (q.ln (fun _=>Wd.old eA) hx1 O ap O) O<|R.u 1 O<|R.nil<|R.reg O<|R.u 2 O<|?_
  by_cases h2:x1=0
  .
   refine R.q (q.ny O O) O<|R.nil<|R.aD O O<|R.reg O<|R.q (q.bA (r:=((k+1:Nat):Int)) O O) O<|R.u 1 O<|R.nil<|R.back (k+1) O (by (rw [HA];exact JH hx1 (by omega))) (by omega) (sF O) (iz [] [] O)
  exact R.q (q.nu O O) O<|R.nil<|R.az O O<|R.reg O<|R.u 2 O<|R.nil<|R.rv O Tryz.results226 O (rI (by (rw [HA];exact (L9 hx1 (by omega)).symm)))
 exact R.q (q.cS O O) O<|R.nil<|R.aD O O<|R.reg O<|R.u 2 O<|R.nil<|R.rv O Tryz.results226 O (rI (by (rw [HA,List.drop_of_length_le (by omega)];rfl)))
theorem AP (a:Place)(b:Place)(w:World):Calls Tryz.prog 194 #[.agg #[iV a.aC,iV a.Slot],.agg #[iV b.aC,iV b.Slot]] w fun e w'=>e = .returned (iV (ra a b))/\Ext w w':=by
 refine R.enter [] [(0,.agg #[iV a.aC,iV a.Slot]),(1,.agg #[iV b.aC,iV b.Slot])] Tryz.func194 O O O O<|R.reg O<|R.s O (s.box O O O) fun b1=>?_
 refine R.s O (s.box O O O) fun b2=>?_
 refine R.u 1 O<|R.nil<|R.fJ (fuel:=13) [0,1] O O mixed O<|D.q (i:=0) O (aA [0,1] [] O) O (q.aP O fu O) O<|D.q (i:=1) O (aA [0,1] [] O) O (q.ld 1 O O ap O) O<|D.q (i:=2) O (aA [0,1] [] O) O (q.aP O fu O) O<|D.q (i:=3) O (aA [0,1] [] O) O (q.ld 0 O O ap O) O<|D.q (i:=5) O (aA [0,1] [] O) O (q.aP O nD O) O<|D.q (i:=6) O (aA [0,1] [] O) O (q.ld 1 O O ap O) O<|D.q (i:=7) O (aA [0,1] [] O) O (q.aP O nD O) O<|D.q (i:=8) O (aA [0,1] [] O) O (q.ld 0 O O ap O) O<|D.one (i:=4) O<|Do.s (s.c (q.call Jx O O (fun w hw=>(uD a.aC b.aC w ))) O) (fun _=>(aA [0,1] [] O)) O fun _=>?_
 refine D.one (i:=9) O<|Do.s (s.c (q.call Jx O O (fun w hw=>(uD a.Slot b.Slot w ))) O) (fun _=>(aA [0,1] [] O)) O fun _=>?_
 refine D.one (i:=10) O<|Do.s (s.bs (l:=([qZ a.aC b.aC,qZ a.Slot b.Slot]:List Int)) da lT O O O O O O O) (fun _=>(aA [1,2] [] O)) O fun b3=>?_
 refine D.one (i:=11) O<|Do.s (s.c (q.call Pz O O (fun w hw=>(Hu _ ([qZ a.aC b.aC,qZ a.Slot b.Slot]) w (hw.row 0 O) ))) O) (fun _=>(aA [1,2] [] O)) O fun _=>?_
 exact D.q (i:=12) rfl (fun _=>Wd.pk [1,2] [] rfl) rfl (q.as rfl) rfl<|D.done<|R.rv rfl Tryz.results194 rfl (rI (by (exact Ma a b)))
theorem AQ (h:Held)(pl:Place)(w:World):Calls Tryz.prog 193 #[.agg #[iV h.Place.aC,iV h.Place.Slot,iV h.ak],.agg #[iV pl.aC,iV pl.Slot]] w fun e w'=>e = .returned (iV (ra h.Place pl))/\Ext w w':=by
 refine R.enter [] [(0,.agg #[iV h.Place.aC,iV h.Place.Slot,iV h.ak]),(1,.agg #[iV pl.aC,iV pl.Slot])] Tryz.func193 O O O O<|R.reg O<|R.s O (s.box O O O) fun b1=>?_
 refine R.s O (s.box O O O) fun b2=>?_
 refine R.u 1 O<|R.nil<|R.reg O<|R.q (q.aP O rK O) O<|R.q (q.G4 (ds:=jN h.Place) 1 O O bP O) O<|R.q (q.cT 0 O O bP) O<|R.c (q.call Px O O (fun w hw=>(AP h.Place pl w ))) O<|R.u 1 O<|R.nil ?_
 exact R.rv O Tryz.results193 O (rI (by rfl))
theorem vd (bT:Value)(l:List Held)(t:Place)(c:Held->Place->Int)(Hw:Nat)(Mb:List Value)(EO:∀args w,(callFunc Hw args).run Tryz.prog w = .ok (.enter Hw args) w)(w:World)(eA:Sl w bT l)(PE:∀W (x1:Held) (x2:Place),Ext w W->Calls Tryz.prog Hw ([x1.val,x2.val]++Mb).toArray W fun e w'=>e = .returned (iV (c x1 x2))/\Ext W w')(hl:l.length<=1000000):Calls Tryz.prog 192 #[bT,.agg #[iV t.aC,iV t.Slot],.func (.func Hw) #[] Mb.toArray] w fun e w'=>e = .returned (.tuple #[iV (jD (fun x=>c x t) l:Int),.bool (lI (fun x=>c x t) l)])/\Ext w w':=by
 have zm:=eA.gW
 refine R.enter [] [(0,bT),(1,.agg #[iV t.aC,iV t.Slot]),(2,.func (.func Hw) #[] Mb.toArray)] Tryz.func192 O O O O<|R.reg O<|R.s O (s.box O O O) fun b1=>?_
 refine R.u 2 O<|R.nil<|R.reg O<|R.u 1 O<|R.q (q.len' (fun _=>Wd.old eA) O Tryz.underlying45) O<|R.u 1 O<|R.nil<|R.reg O<|R.u 3 O<|R.nil<|R.loop (fun g_:Nat×Nat=>[(0,bT),(2,.func (.func Hw) #[] Mb.toArray),(4,.pointer (some ⟨b1,0,none⟩)),(8,iV (l.length:Int)),(9,iV (g_.1:Int)),(10,iV (g_.2:Int))]) (fun g_=>[ag.box b1 (jN t) 32]) (fun g_=>[]) (fun g_=>g_.1<=g_.2/\g_.2<=l.length/\bsGo (fun x=>c x t) l g_.1 g_.2=jD (fun x=>c x t) l) (fun g_=>g_.2-g_.1) (0,l.length) O (by exact ⟨Nat.zero_le _,Nat.le_refl _,rfl⟩) (sF O) (iz [0] [] O) ?_
 rintro ⟨lo,hi⟩ ⟨PF,VG,HA⟩
 dsimp only at *
 refine R.reg O<|R.u 2 O<|?_
 by_cases h1:lo<hi
 .
  refine R.q (q.dC O O) O<|R.nil<|R.az O O<|R.reg O<|R.u 2 O<|R.q (q.bA (r:=((lo+hi:Nat):Int)) O O) O<|R.q (q.nf (r:=(((lo+hi):Nat):Int)) O (by rw [Tryz.underlying3];rfl) Tryz.underlying188 (Al (by omega))) O<|R.q (q.shr (r:=((((lo+hi) / 2):Nat):Int)) O O (by decide) (LX (by decide))) O<|R.q (q.nf (r:=((((lo+hi) / 2):Nat):Int)) O (by rw [Tryz.underlying188];rfl) Tryz.underlying3 (wr (by omega))) O<|R.u 1 O<|R.nil ?_
  obtain ⟨x1,hx1⟩:∃z,l[((lo+hi) / 2)]? = some z:=⟨_,List.getElem?_eq_getElem (by omega)⟩
  by_cases h2:(c x1 t)<0
  .
   refine R.eZ O mixed (by kernel_rfl)<|Q.u 3 O<|Q.q (q.idx (i:=((lo+hi) / 2)) (fun _=>Wd.old eA) O O cK O hx1) O<|Q.q (q.gh (ds:=pE x1) (fun _=>Wd.old eA) hx1 O gy O) O<|Q.q (q.cT 0 O O bP) O<|Q.c (q.call EO O O (fun w hw=>PE w x1 t hw.ext)) O<|Q.q (q.dC O O) O<|Q.nil<|R.az O O<|R.reg O<|R.u 1 O<|R.q (q.bA (r:=((((lo+hi) / 2)+1:Nat):Int)) O O) O<|R.u 1 O<|R.nil<|R.back ((((lo+hi) / 2)+1),hi) O (by (exact ⟨by omega,by omega,(AL (by omega) hx1 (by omega)).symm.trans HA⟩)) (by dsimp only;omega) (sF O) (iz [0] [] O)
  refine R.eZ O mixed (by kernel_rfl)<|Q.u 3 O<|Q.q (q.idx (i:=((lo+hi) / 2)) (fun _=>Wd.old eA) O O cK O hx1) O<|Q.q (q.gh (ds:=pE x1) (fun _=>Wd.old eA) hx1 O gy O) O<|Q.q (q.cT 0 O O bP) O<|Q.c (q.call EO O O (fun w hw=>PE w x1 t hw.ext)) O<|Q.q (q.cS O O) O<|Q.nil<|R.aD O O<|R.reg O<|R.u 2 O<|R.nil<|R.back (lo,((lo+hi) / 2)) O (by (exact ⟨by omega,by omega,(AO (by omega) hx1 (by omega)).symm.trans HA⟩)) (by dsimp only;omega) (sF O) (iz [0] [] O)
 refine R.q (q.cS O O) O<|R.nil<|R.aD O O ?_
 by_cases h3:lo<l.length
 .
  obtain ⟨x2,hx2⟩:∃z,l[lo]? = some z:=⟨_,List.getElem?_eq_getElem (by omega)⟩
  by_cases h4:(c x2 t)=0
  .
   exact R.eZ O mixed (by kernel_rfl)<|Q.u 3 O<|Q.q (q.dC O O) O<|Q.u 4 O<|Q.qg O (q.idx (i:=lo) (fun _=>Wd.old eA) O O cK O hx2) O<|Q.qg O (q.gh (ds:=pE x2) (fun _=>Wd.old eA) hx2 O gy O) O<|Q.qg O (q.cT 0 O O bP) O<|Q.cg O (q.call EO O O (fun w hw=>PE w x2 t hw.ext)) O<|Q.qg O (q.fI O O) O<|Q.u 3 O<|Q.nil<|R.FV O Tryz.results192 O O (rI (by (exact congrArg (fun n:Nat=>(n:Int)) ((gY (by omega)).symm.trans HA)))) (rB (by (have e:=(gY (by omega)).symm.trans HA;unfold lI;rw [<- e];(rw [hx2];exact (decide_eq_true ‹_›).symm))))
  exact R.eZ O mixed (by kernel_rfl)<|Q.u 3 O<|Q.q (q.dC O O) O<|Q.u 4 O<|Q.qg O (q.idx (i:=lo) (fun _=>Wd.old eA) O O cK O hx2) O<|Q.qg O (q.gh (ds:=pE x2) (fun _=>Wd.old eA) hx2 O gy O) O<|Q.qg O (q.cT 0 O O bP) O<|Q.cg O (q.call EO O O (fun w hw=>PE w x2 t hw.ext)) O<|Q.qg O (q.eU O O) O<|Q.u 3 O<|Q.nil<|R.FV O Tryz.results192 O O (rI (by (exact congrArg (fun n:Nat=>(n:Int)) ((gY (by omega)).symm.trans HA)))) (rB (by (have e:=(gY (by omega)).symm.trans HA;unfold lI;rw [<- e];(rw [hx2];exact (decide_eq_false ‹_›).symm))))
 exact R.eZ O mixed (by kernel_rfl)<|Q.u 3 O<|Q.q (q.cS O O) O<|Q.u 12 O<|Q.nil<|R.FV O Tryz.results192 O O (rI (by (exact congrArg (fun n:Nat=>(n:Int)) ((gY (by omega)).symm.trans HA)))) (rB (by (have e:=(gY (by omega)).symm.trans HA;unfold lI;rw [<- e];(rw [List.getElem?_eq_none (by omega)]))))
theorem lr (bT:Value)(l:List Held)(pl:Place)(w:World)(eA:Sl w bT l)(hl:l.length<=1000000):Calls Tryz.prog 171 #[bT,.agg #[iV pl.aC,iV pl.Slot]] w fun e w'=>e = .returned (.tuple #[iV (fW l pl:Int),.bool (Hs l pl)])/\Ext w w':=by
 have zm:=eA.gW
 refine R.enter [] [(0,bT),(1,.agg #[iV pl.aC,iV pl.Slot])] Tryz.func171 O O O O<|R.reg O<|R.s O (s.box O O O) fun b1=>?_
 refine R.u 2 O<|R.nil<|R.reg O<|R.u 1 O<|R.q (q.cT 0 O O bP) O<|R.c (q.call Pv O O (fun w hw=>(vd _ l pl (fun (h:Held) (pl:Place)=>ra h.Place pl) _ _ Pw w ((fun _=>Wd.old eA) w hw) (fun W h pl hW=>AQ h pl W ) (by omega)))) O<|R.u 4 O<|R.nil ?_
 exact R.FV O Tryz.results171 O O (rI (by rfl)) (rB (by rfl))
theorem ko (p:Place)(w:World):Calls Tryz.prog 151 #[.agg #[iV p.aC,iV p.Slot]] w fun e w'=>e = .returned (df (aZ p))/\Ext w w':=by
 refine R.enter [] [(0,.agg #[iV p.aC,iV p.Slot])] Tryz.func151 O O O O<|R.reg O<|R.s O (s.box O O O) fun b1=>?_
 refine R.u 1 O<|R.nil<|R.reg O<|R.q (q.aP O fu O) O<|R.q (q.ld 0 O O ap O) O<|?_
 by_cases h1:p.aC<1
 .
  exact R.q (q.dC O O) O<|R.u 15 O<|R.nil<|R.az O O<|R.reg O<|R.q (q.iface O br) O<|R.u 1 O<|R.nil<|R.rv O Tryz.results151 O (dj (by decide) (by (exact km (by omega))))
 refine R.q (q.cS O O) O<|R.u 1 O<|R.qg O (q.aP O fu O) O<|R.qg O (q.ld 0 O O ap O) O<|?_
 by_cases h2:4<p.aC
 .
  exact R.qg O (q.eM O O) O<|R.u 11 O<|R.nil<|R.az O O<|R.reg O<|R.q (q.iface O br) O<|R.u 1 O<|R.nil<|R.rv O Tryz.results151 O (dj (by decide) (by (exact km (by omega))))
 refine R.qg O (q.ey O O) O<|R.u 2 O<|R.qg O (q.aP O nD O) O<|R.qg O (q.ld 0 O O ap O) O<|?_
 by_cases h3:p.Slot<0
 .
  exact R.qg O (q.dC O O) O<|R.u 6 O<|R.nil<|R.az O O<|R.reg O<|R.q (q.iface O br) O<|R.u 1 O<|R.nil<|R.rv O Tryz.results151 O (dj (by decide) (by (exact km (by omega))))
 refine R.qg O (q.cS O O) O<|R.u 2 O<|R.qg O (q.aP O nD O) O<|R.qg O (q.ld 0 O O ap O) O<|?_
 by_cases h4:5<p.Slot
 .
  exact R.qg O (q.eM O O) O<|R.u 1 O<|R.nil<|R.az O O<|R.reg O<|R.q (q.iface O br) O<|R.u 1 O<|R.nil<|R.rv O Tryz.results151 O (dj (by decide) (by (exact km (by omega))))
 exact R.qg O (q.ey O O) O<|R.u 1 O<|R.nil<|R.aD O O<|R.reg O<|R.u 1 O<|R.nil<|R.rv O Tryz.results151 O (iJ (by (exact yw (by omega))))
theorem mR (bT:Value)(l:List Held)(p:Place)(w:World)(eA:Sl w bT l)(hl:l.length<=1000000):Calls Tryz.prog 169 #[bT,.agg #[iV p.aC,iV p.Slot]] w fun e w'=>e = .returned (iV (mM l p))/\Ext w w':=by
 have zm:=eA.gW
 refine R.enter [] [(0,bT),(1,.agg #[iV p.aC,iV p.Slot])] Tryz.func169 O O O O<|R.reg O<|R.s O (s.box O O O) fun b1=>?_
 refine R.u 1 O<|R.nil<|R.reg O<|R.u 1 O<|R.q (q.cT 0 O O bP) O<|?_
 have VH:=vz l p
 rcases tM l p with gS|⟨Es,lU,gS,ve,AR⟩
 .
  refine R.c (q.call AE O O (fun w hw=>(cv (congrArg (fun b=>Value.tuple #[iV ((fW l p:Nat):Int),.bool b]) gS) (lr _ l p w ((fun _=>Wd.old eA) w hw) (by omega))))) O<|R.u 5 O<|R.nil ?_
  exact R.reg O<|R.u 2 O<|R.nil<|R.az O O<|R.reg O<|R.u 1 O<|R.nil<|R.rv O Tryz.results169 O (rI (by (exact (JI gS).symm)))
 refine R.c (q.call AE O O (fun w hw=>(cv (congrArg (fun b=>Value.tuple #[iV ((fW l p:Nat):Int),.bool b]) gS) (lr _ l p w ((fun _=>Wd.old eA) w hw) (by omega))))) O<|R.u 5 O<|R.nil ?_
 exact R.reg O<|R.u 2 O<|R.nil<|R.aD O O<|R.reg O<|R.u 2 O<|R.q (q.idx (i:=(fW l p)) (fun _=>Wd.old eA) O O cK O lU) O<|R.q (q.m9 (j':=2) (fun _=>Wd.old eA) lU O jS O) O<|R.q (q.ln (fun _=>Wd.old eA) lU O ap O) O<|R.u 1 O<|R.nil<|R.rv O Tryz.results169 O (rI (by (exact (Ga gS lU).symm)))
theorem qz (bT:Value)(l:List Held)(p:Place)(id:Int)(w:World)(own:List Nat)(H:HN w own [] [ag.ls bT l])(hl:l.length<=100000):RC Tryz.prog 121 #[bT,.agg #[iV p.aC,iV p.Slot],iV id] H (fun z:Value=>z) (fun z=>[ag.row 124 z (fT l p id)]) (fun _=>[]):=by
 have AJ:=H.cq 0 rfl
 refine R.bF [(0,bT),(1,.agg #[iV p.aC,iV p.Slot]),(2,iV id)] Tryz.func121 O O O O H<|R.reg O<|R.s O (s.box O O O) fun b1=>?_
 refine R.u 1 O<|R.nil<|R.reg O<|R.u 1 O<|R.s O (s.aT [0,1] [0] _ _ _ O O O EB O O (fun w own hw H=>ni bT l w own H (by omega)) O) fun z1=>?_
 refine R.u 1 O<|R.nil<|R.reg O<|R.u 1 O<|R.q (q.cT 1 O O bP) O<|?_
 have VH:=vz l p
 rcases tM l p with gS|⟨Es,lU,gS,ve,AR⟩
 .
  refine R.c (q.call AE O O (fun w hw=>(cv (congrArg (fun b=>Value.tuple #[iV ((fW l p:Nat):Int),.bool b]) gS) (lr _ l p w (hw.row 0 O) (by omega))))) O<|R.u 5 O<|R.nil ?_
  refine R.reg O<|R.u 6 O<|R.nil<|R.aD O O<|R.reg O<|R.u 2 O<|R.nil<|R.aD O O<|R.reg O<|R.u 1 O<|?_
  by_cases h1:id=0
  .
   refine R.q (q.fI O O) O<|R.u 1 O<|R.nil<|R.az O O<|R.reg O<|R.u 2 O<|R.nil ?_
   have hz:fT l p id=l:=by (unfold fT;(rw [if_neg (by rw [gS];simp),if_pos ‹_›];done))
   rw [hz]
   exact R.w1 z1 [0,2] [] O Tryz.results121 (RV.tmp O) O O O O
  refine R.q (q.eU O O) O<|R.u 1 O<|R.nil<|R.aD O O<|R.reg O<|R.u 2 O<|R.q (q.cT 1 O O bP) O<|R.u 1 O<|R.q (q.build I8 O O) O<|R.s O (s.bs (l:=([(⟨p,id⟩:Held)]:List Held)) cK gX O O O O O O O) fun b2=>?_
  refine R.s O (s.aT [1,0,2,3] [] _ _ _ O O O Pp O O (fun w own hw H=>wN z1 l (fW l p) (.slice (some ⟨b2,0,none⟩) 1 1) ([(⟨p,id⟩:Held)]) w own H ‹_› rfl (by omega)) O) fun z2=>?_
  refine R.u 1 O<|R.nil ?_
  have hz:fT l p id=l.take (fW l p)++([(⟨p,id⟩:Held)])++l.drop (fW l p):=by (unfold fT;(rw [if_neg (by rw [gS];simp),if_neg ‹_›];done))
  rw [hz]
  exact R.w1 z2 [0,2] [] O Tryz.results121 (RV.tmp O) O O O O
 refine R.c (q.call AE O O (fun w hw=>(cv (congrArg (fun b=>Value.tuple #[iV ((fW l p:Nat):Int),.bool b]) gS) (lr _ l p w (hw.row 0 O) (by omega))))) O<|R.u 5 O<|R.nil ?_
 refine R.reg O<|R.u 3 O<|?_
 by_cases h2:id=0
 .
  refine R.qg O (q.fI O O) O<|R.u 2 O<|R.nil<|R.az O O<|R.reg O<|R.u 3 O<|R.q (q.bA (r:=(((fW l p)+1:Nat):Int)) O O) O<|R.s O (s.aT [0,1,2] [] _ _ _ O O O Po O O (fun w own hw H=>wM z1 l (fW l p) ((fW l p)+1) w own H (by omega)) O) fun z3=>?_
  refine R.u 1 O<|R.nil ?_
  have hz:fT l p id=l.take (fW l p)++l.drop ((fW l p)+1):=by (unfold fT;(rw [if_pos gS,if_pos ‹_›];done))
  rw [hz]
  exact R.w1 z3 [0,2] [] O Tryz.results121 (RV.tmp O) O O O O
 refine R.qg O (q.eU O O) O<|R.u 2 O<|R.nil<|R.aD O O<|R.reg O<|R.u 2 O<|R.nil<|R.az O O<|R.reg O<|R.u 3 O<|R.q (q.idx (i:=(fW l p)) (bD 0 O) O O cK O lU) O<|R.q (q.m9 (j':=2) (bD 0 O) lU O jS O) O<|R.s O (s.stP (o:=2) (z:=(⟨Es.Place,id⟩:Held)) 0 _ O lU O O O O O (by simp [Value.oneCell']) (.inr ⟨ap,rfl⟩) O) fun _=>?_
 refine R.nil<|R.reg O<|R.u 2 O<|R.nil ?_
 have hz:fT l p id=(l.set (fW l p) (⟨Es.Place,id⟩:Held)):=by (unfold fT;(rw [if_pos gS,if_neg ‹_›,ve];done))
 rw [hz]
 exact R.w1 z1 [0,2] [] O Tryz.results121 (RV.tmp O) O O O O
theorem JJ (bT:Value)(l:List Held)(h:Int)(w:World)(eA:Sl w bT l)(hl:l.length<=1000000):Calls Tryz.prog 128 #[bT,iV h] w fun e w'=>e = .returned (iV (i6 l h))/\Ext w w':=by
 have zm:=eA.gW
 refine R.enter [] [(0,bT),(1,iV h)] Tryz.func128 O O O O<|R.reg O<|R.u 1 O<|R.nil<|R.reg O<|R.u 1 O<|R.nil<|R.loop (fun i:Nat=>[(0,bT),(1,iV h),(6,iV (i:Int))]) (fun i:Nat=>[]) (fun i:Nat=>[]) (fun i:Nat=>i<=6/\ml l h (6-i) i=i6 l h) (fun i:Nat=>6-i) 0 O (by exact ⟨by omega,rfl⟩) (sF O) (iz [] [] O) ?_
 rintro i ⟨hs,HA⟩
 refine R.reg O<|?_
 by_cases h1:i<6
 .
  refine R.q (q.dC O O) O<|R.nil<|R.az O O<|R.reg O<|R.u 2 O<|R.nil<|R.reg O<|R.u 3 O<|R.q (q.build wk O O) O<|R.c (q.call AB O O (fun w hw=>(mR _ l (⟨h,(i:Int)⟩:Place) w ((fun _=>Wd.old eA) w hw) (by omega)))) O<|?_
  by_cases h2:mM l (⟨h,(i:Int)⟩:Place)=0
  .
   exact R.q (q.fI O O) O<|R.nil<|R.az O O<|R.reg O<|R.u 2 O<|R.nil<|R.rv O Tryz.results128 O (rI (by (rw [<- HA];exact (EM ‹_› (by omega)).symm)))
  refine R.q (q.eU O O) O<|R.nil<|R.aD O O<|R.reg O<|R.q (q.bA (r:=((i+1:Nat):Int)) O O) O<|R.u 1 O<|R.nil<|R.back (i+1) O (by (exact ⟨by omega,(CP ‹_› (by omega)).symm.trans HA⟩)) (by omega) (sF O) (iz [] [] O)
 exact R.q (q.cS O O) O<|R.nil<|R.aD O O<|R.reg O<|R.u 1 O<|R.nil<|R.rv O Tryz.results128 O (rI (by (rw [<- HA];have:i=6:=(by omega);subst this;rfl)))
end
section
open Go
theorem mS (a:ByteArray):a.toList=a.data.toList:=Lib.toList_data a
theorem gM {a b:ByteArray}(h:a.data.toList=b.data.toList):a=b:=by
 cases a with|mk x=>cases b with|mk y=>congr;exact Array.toList_inj.1 h
theorem lu (a b:ByteArray):jy a b=true↔a.data.toList<b.data.toList:=by
 unfold jy;rw [Proofs.bytesLess_eq,mS,mS];exact decide_eq_true_iff
theorem e8 (a:ByteArray):jy a a=false:=by
 rw [Bool.eq_false_iff];intro h;exact List.lt_irrefl _ ((lu a a).1 h)
theorem l4 {a b c:ByteArray}(h:jy a b=true)(k:jy b c=true):jy a c=true:=(lu _ _).2 (List.lt_trans ((lu _ _).1 h) ((lu _ _).1 k))
theorem tN {a b:ByteArray}(h:jy a b=true):jy b a=false:=by
 rw [Bool.eq_false_iff];intro k;have:=l4 h k;rw [e8] at this;cases this
theorem CR:∀ (x y:List UInt8),x<y∨x=y∨y<x
 | [],[] => .inr (.inl rfl)
 | [],_::_ => .inl (List.Lex.nil)
 | _::_,[] => .inr (.inr (List.Lex.nil))
 | a::x,b::y=>by
  rcases Nat.lt_trichotomy a.toNat b.toNat with h|h|h
  .exact .inl (List.Lex.rel (UInt8.lt_iff_toNat_lt.2 h))
  .
   have e:a=b:=UInt8.toNat_inj.1 h
   subst e
   rcases CR x y with h|h|h
   .exact .inl (List.Lex.cons h)
   .exact .inr (.inl (by rw [h]))
   .exact .inr (.inr (List.Lex.cons h))
  .exact .inr (.inr (List.Lex.rel (UInt8.lt_iff_toNat_lt.2 h)))
theorem sP (a b:ByteArray):jy a b=true∨a=b∨jy b a=true:=by
 rcases CR a.data.toList b.data.toList with h|h|h
 .exact .inl ((lu _ _).2 h)
 .exact .inr (.inl (gM h))
 .exact .inr (.inr ((lu _ _).2 h))
theorem PG {a b:ByteArray}(h:jy a b=false)(hn:a≠b):jy b a=true:=by
 rcases sP a b with k|k|k
 .rw [h] at k;cases k
 .exact absurd k hn
 .exact k
def AU (a b:ByteArray):Int:=if jy a b=true then -1 else if a=b then 0 else 1
theorem CS:∀ (x y:List UInt8),Lib.compareBytes x y=if x<y then -1 else if x=y then 0 else 1
 | [],[]=>rfl
 | [],b::y=>by rw [if_pos (show ([]:List UInt8)<b::y from List.Lex.nil)];rfl
 | a::x,[]=>by rw [if_neg (show ¬ (a::x)<[] from List.not_lt_nil _),if_neg (by simp)];rfl
 | a::x,b::y=>by
  unfold Lib.compareBytes
  rw [CS x y]
  by_cases h:a<b
  .rw [if_pos h,if_pos (show a::x<b::y from List.Lex.rel h)]
  .
   rw [if_neg h]
   by_cases k:b<a
   .
    have hne:¬ a=b:=fun e=>by subst e;exact UInt8.lt_irrefl _ k
    rw [if_pos k,if_neg (fun hh=>by
     cases hh with
     | rel hh=>exact h hh
     | cons _=>exact hne rfl),if_neg (by simp [hne])]
   .
    have e:a=b:=UInt8.toNat_inj.1 (by have h1:=(not_congr UInt8.lt_iff_toNat_lt).1 h;have h2:=(not_congr UInt8.lt_iff_toNat_lt).1 k;omega)
    subst e
    rw [if_neg k]
    have hc:(a::x<a::y)=(x<y):=propext ⟨fun hh=>by
     cases hh with
     | rel hh=>exact absurd hh h
     | cons hh=>exact hh,fun hh=>List.Lex.cons hh⟩
    simp only [hc,List.cons.injEq,true_and]
theorem Gb (a b:ByteArray):Lib.compareBytes a.toList b.toList=AU a b:=by
 rw [CS,mS,mS];unfold AU
 have e:(a.data.toList=b.data.toList)=(a=b):=propext ⟨gM,fun h=>by rw [h]⟩
 by_cases h:jy a b=true
 .rw [if_pos ((lu _ _).1 h),if_pos h]
 .rw [if_neg (fun k=>h ((lu _ _).2 k)),if_neg h];simp only [e]
theorem zn {a b:ByteArray}:AU a b=0↔a=b:=by
 unfold AU
 by_cases h:jy a b=true
 .
  rw [if_pos h];constructor
  .intro k;cases k
  .intro k;subst k;rw [e8] at h;cases h
 .
  rw [if_neg h];by_cases k:a=b
  .rw [if_pos k];simp [k]
  .rw [if_neg k];simp [k]
theorem wO {a b:ByteArray}:AU a b<0↔jy a b=true:=by
 unfold AU
 by_cases h:jy a b=true
 .rw [if_pos h];simp [h]
 .
  rw [if_neg h];by_cases k:a=b
  .rw [if_pos k];simp [h]
  .rw [if_neg k];simp [h]
end
section
open Go
def c0:Change:=⟨⟨#[]⟩,⟨#[]⟩,false⟩
def iL (c:Change):Int :=
  if c.Key=⟨#[]⟩∨(c.Gone=true/\¬ c.Val=⟨#[]⟩) then 3 else if 8<c.Key.size∨24<c.Val.size then 2 else 0
theorem bz (c:Change):iL c=0∨iL c=2∨iL c=3:=by unfold iL;(repeat' split) <;> simp
theorem gZ {c:Change}(h:iL c=0):c.Key≠⟨#[]⟩/\(c.Gone=true->c.Val=⟨#[]⟩)/\c.Key.size<=8/\c.Val.size<=24:=by
 unfold iL at h
 split at h
 .cases h
 .
  split at h
  .cases h
  .
   rename_i h1 h2
   exact ⟨fun e=>h1 (.inl e),fun g=>Classical.byContradiction fun e=>h1 (.inr ⟨g,e⟩),by omega,by omega⟩
theorem JK {c:Change}(h1:c.Key≠⟨#[]⟩)(h2:c.Gone=true->c.Val=⟨#[]⟩)(h3:c.Key.size<=8)(h4:c.Val.size<=24):iL c=0:=by
 unfold iL
 rw [if_neg (fun h=>h.elim h1 (fun h=>h.2 (h2 h.1))),if_neg (by omega)]
def zo (b:Bool):UInt8:=if b=true then 1 else 0
def kb (c:Change):ByteArray×Int :=
  if iL c=0 then (⟨#[zo c.Gone,UInt8.ofNat c.Key.size]⟩++c.Key++c.Val,0) else (⟨#[]⟩,iL c)
def bj (s:ByteArray)(i:Nat):Nat:=((s.data[i]?).getD 0).toNat
theorem aK {s:ByteArray}{i:Nat}{x:UInt8}(h:s.data[i]? = some x):bj s i=x.toNat:=by unfold bj;rw [h];rfl
theorem qB (s:ByteArray)(i:Nat):bj s i<256:=by unfold bj;exact UInt8.toNat_lt _
def JL (s:ByteArray):Change:=⟨s.extract 2 (2+bj s 1),s.extract (2+bj s 1) s.size,decide (bj s 0=1)⟩
def rO (s:ByteArray):Change×Int :=
  if s.size<2∨1<bj s 0∨s.size<2+bj s 1 then (c0,4) else if iL (JL s)=0 then (JL s,0) else (c0,4)
abbrev bl (s:ByteArray):List UInt8:=s.data.toList
theorem eE (s:ByteArray):(bl s).length=s.size:=Array.length_toList
theorem iM (a b:ByteArray):bl (a++b)=bl a++bl b:=by simp [bl,ByteArray.data_append]
theorem i7 (s:ByteArray)(i j:Nat):bl (s.extract i j)=((bl s).take j).drop i:=by
 simp only [bl,ByteArray.data_extract,Array.toList_extract,List.extract_eq_take_drop]
 rw [List.drop_take]
theorem g9 (s:ByteArray)(i:Nat):bj s i=(((bl s)[i]?).getD 0).toNat:=by simp [bj,bl]
theorem JM {s:ByteArray}(h:s.size=0):s=⟨#[]⟩:=gM (by rw [List.eq_nil_of_length_eq_zero (l:=s.data.toList) (by rw [Array.length_toList];exact h)])
theorem nL {n:Nat}(h:n<256):(UInt8.ofNat n).toNat=n:=by rw [UInt8.toNat_ofNat'];omega
theorem JN {c:Change}(h:iL c=0):bl (kb c).1=zo c.Gone::UInt8.ofNat c.Key.size::(bl c.Key++bl c.Val):=by
 unfold kb;rw [if_pos h];simp only [iM];simp [bl]
theorem lC {c:Change}(h:iL c=0):(kb c).1.size=2+c.Key.size+c.Val.size:=by
 rw [<- eE,JN h];simp only [List.length_cons,List.length_append,eE];omega
theorem Gc {c:Change}(h:iL c=0):rO (kb c).1=(c,0):=by
 obtain ⟨h1,h2,h3,h4⟩:=gZ h
 have hb:=JN h
 have hs:=lC h
 have b0:bj (kb c).1 0=(zo c.Gone).toNat:=by rw [g9,hb];rfl
 have b1:bj (kb c).1 1=c.Key.size:=by rw [g9,hb];exact nL (by omega)
 have g:(zo c.Gone).toNat=1/\c.Gone=true∨(zo c.Gone).toNat=0/\c.Gone=false:=by cases c.Gone <;> simp [zo]
 have hof:JL (kb c).1=c:=by
  unfold JL
  rw [b0,b1]
  have e1:(kb c).1.extract 2 (2+c.Key.size)=c.Key:=gM (by
   have:=i7 (kb c).1 2 (2+c.Key.size)
   rw [hb] at this
   refine this.trans ?_
   rw [show 2+c.Key.size=c.Key.size+1+1 by omega,List.take_succ_cons,List.take_succ_cons,List.drop_succ_cons,List.drop_succ_cons,List.drop_zero,<- eE c.Key,List.take_left])
  have e2:(kb c).1.extract (2+c.Key.size) (kb c).1.size=c.Val:=gM (by
   have:=i7 (kb c).1 (2+c.Key.size) (kb c).1.size
   rw [hb] at this
   refine this.trans ?_
   rw [List.take_of_length_le (by simp only [List.length_cons,List.length_append,eE];omega),show 2+c.Key.size=c.Key.size+1+1 by omega,List.drop_succ_cons,List.drop_succ_cons,<- eE c.Key,List.drop_left])
  rw [e1,e2]
  rcases g with ⟨g1,g2⟩ | ⟨g1,g2⟩ <;> (rw [g1];cases c;simp_all)
 unfold rO
 rw [if_neg (by omega),hof,if_pos h]
def fK (k:ByteArray)(x:Change):Int:=AU x.Key k
def zp (rows:List Change)(c:Change):List Change :=
  if lI (fK c.Key) rows=true then (if c.Gone=true then rows.take (jD (fK c.Key) rows)++rows.drop (jD (fK c.Key) rows+1) else rows.set (jD (fK c.Key) rows) c)
  else if c.Gone=true then rows else rows.take (jD (fK c.Key) rows)++[c]++rows.drop (jD (fK c.Key) rows)
def cb (rows l:List Change):List Change:=l.foldl zp rows
theorem oz {rows l:List Change}{k:Nat}{c:Change}(h:l[k]? = some c):cb rows (l.take (k+1))=zp (cb rows (l.take k)) c:=by
 unfold cb;rw [List.take_add_one,h];simp
theorem Mc (rows:List Change)(c:Change):(zp rows c).length<=rows.length+1:=by
 unfold zp;(repeat' split) <;> simp <;> omega
theorem kU:∀ (l rows:List Change),(cb rows l).length<=rows.length+l.length
 | [],rows=>by simp [cb]
 | c::l,rows=>by
  have h1:=kU l (zp rows c)
  have h2:=Mc rows c
  show (cb (zp rows c) l).length<=_
  rw [List.length_cons];omega
def dr (l:List Change):Prop:=l.Pairwise (fun a b=>jy a.Key b.Key=true)
inductive Cut (l:List Change)(k:ByteArray):Prop where
  | hit (A B:List Change) (x:Change) (e:l=A++x::B) (hx:x.Key=k) (ha:∀y∈A,jy y.Key k=true) (hb:∀y∈B,jy k y.Key=true)
  | miss (A B:List Change) (e:l=A++B) (ha:∀y∈A,jy y.Key k=true) (hb:∀y∈B,jy k y.Key=true)
theorem dr.cut:∀ {l:List Change} (h:dr l) (k:ByteArray),Cut l k
 | [],h,k => .miss [] [] rfl (fun y hy=>by cases hy) (fun y hy=>by cases hy)
 | x::l,h,k=>by
  obtain ⟨h1,h2⟩:=List.pairwise_cons.1 h
  rcases sP x.Key k with hl|hl|hl
  .
   rcases dr.cut h2 k with ⟨A,B,y,e,hy,ha,hb⟩ | ⟨A,B,e,ha,hb⟩
   .exact .hit (x::A) B y (by rw [e];rfl) hy (fun z hz=>by rcases List.mem_cons.1 hz with r|r;exact r▸hl;exact ha z r) hb
   .exact .miss (x::A) B (by rw [e];rfl) (fun z hz=>by rcases List.mem_cons.1 hz with r|r;exact r▸hl;exact ha z r) hb
  .subst hl;exact .hit [] l x rfl rfl (fun y hy=>by cases hy) h1
  .exact .miss [] (x::l) rfl (fun y hy=>by cases hy) (fun z hz=>by rcases List.mem_cons.1 hz with r|r;exact r▸hl;exact l4 hl (h1 z r))
theorem N0 {f:Change->Int}{A R:List Change}(ha:∀y∈A,f y<0)(hr:∀y∈R,¬ f y<0):jD f (A++R)=A.length:=by
 have hm:∀ (i j:Nat) x y,i<=j->(A++R)[i]? = some x->(A++R)[j]? = some y->f y<0->f x<0:=fun i j x y hij hx hy hf=>by
  by_cases hj:j<A.length
  .rw [List.getElem?_append_left (by omega)] at hx;exact ha x (List.mem_of_getElem? hx)
  .rw [List.getElem?_append_right (by omega)] at hy;exact absurd hf (hr y (List.mem_of_getElem? hy))
 obtain ⟨h1,h2⟩:=CO hm
 rcases Nat.lt_trichotomy (jD f (A++R)) A.length with h|h|h
 .
  have hg:=List.getElem?_eq_getElem h
  exact absurd (ha _ (List.mem_of_getElem? hg)) (h2 (jD f (A++R)) _ (Nat.le_refl _) (by rw [List.getElem?_append_left h];exact hg))
 .exact h
 .
  have hle:jD f (A++R)<=(A++R).length:=pR
  have hlt:A.length<(A++R).length:=by omega
  have hg:=List.getElem?_eq_getElem hlt
  have:=h1 A.length _ h hg
  rw [List.getElem?_append_right (Nat.le_refl _)] at hg
  exact absurd this (hr _ (List.mem_of_getElem? hg))
theorem AV {k:ByteArray}{x:Change}:fK k x<0↔jy x.Key k=true:=wO
theorem EP {k:ByteArray}{x:Change}(h:jy k x.Key=true):¬ fK k x<0/\fK k x≠0:=by
 refine ⟨fun hh=>?_,fun hh=>?_⟩
 .have:=tN (AV.1 hh);rw [h] at this;cases this
 .have e:=zn.1 hh;rw [e,e8] at h;cases h
def mid (c:Change):List Change:=if c.Gone=true then [] else [c]
theorem ER {A B:List Change}{x:Change}{k:ByteArray}(hx:x.Key=k)(ha:∀y∈A,jy y.Key k=true)(hb:∀y∈B,jy k y.Key=true):jD (fK k) (A++x::B)=A.length/\lI (fK k) (A++x::B)=true:=by
 have e:jD (fK k) (A++x::B)=A.length:=N0 (fun y hy=>AV.2 (ha y hy)) (fun y hy=>by
  rcases List.mem_cons.1 hy with r|r
  .subst r;intro hh;have:=AV.1 hh;rw [hx,e8] at this;cases this
  .exact (EP (hb y r)).1)
 refine ⟨e,?_⟩
 unfold lI;rw [e,List.getElem?_append_right (Nat.le_refl _),Nat.sub_self]
 exact decide_eq_true (zn.2 hx)
theorem Gd {A B:List Change}{k:ByteArray}(ha:∀y∈A,jy y.Key k=true)(hb:∀y∈B,jy k y.Key=true):jD (fK k) (A++B)=A.length/\lI (fK k) (A++B)=false:=by
 have e:jD (fK k) (A++B)=A.length:=N0 (fun y hy=>AV.2 (ha y hy)) (fun y hy=>(EP (hb y hy)).1)
 refine ⟨e,?_⟩
 unfold lI;rw [e,List.getElem?_append_right (Nat.le_refl _),Nat.sub_self]
 cases B with
 | nil=>rfl
 | cons y B=>exact decide_eq_false (EP (hb y (List.mem_cons_self ..))).2
theorem Md {A B:List Change}{x c:Change}(hx:x.Key=c.Key)(ha:∀y∈A,jy y.Key c.Key=true)(hb:∀y∈B,jy c.Key y.Key=true):zp (A++x::B) c=A++mid c++B:=by
 obtain ⟨e1,e2⟩:=ER hx ha hb
 unfold zp mid
 rw [if_pos e2,e1]
 split
 .rw [List.take_left,show A++x::B=(A++[x])++B by simp,show A.length+1=(A++[x]).length by simp,List.drop_left];simp
 .rw [List.set_append_right _ _ (Nat.le_refl _),Nat.sub_self];simp
theorem CU {A B:List Change}{c:Change}(ha:∀y∈A,jy y.Key c.Key=true)(hb:∀y∈B,jy c.Key y.Key=true):zp (A++B) c=A++mid c++B:=by
 obtain ⟨e1,e2⟩:=Gd ha hb
 unfold zp mid
 rw [if_neg (by rw [e2];simp),e1]
 split
 .simp
 .rw [List.take_left,List.drop_left]
theorem Ge {l:List Change}(h:dr l)(c:Change):∃A B,zp l c=A++mid c++B/\(∀y∈A,jy y.Key c.Key=true)/\(∀y∈B,jy c.Key y.Key=true)/\dr (A++B) /\ ∀y,y∈A++B↔y∈l/\y.Key≠c.Key:=by
 have hlt:∀ {y:Change},jy y.Key c.Key=true->y.Key≠c.Key:=fun h e=>by rw [e,e8] at h;cases h
 have hgt:∀ {y:Change},jy c.Key y.Key=true->y.Key≠c.Key:=fun h e=>by rw [e,e8] at h;cases h
 rcases h.cut c.Key with ⟨A,B,x,rfl,hx,ha,hb⟩ | ⟨A,B,rfl,ha,hb⟩
 .
  refine ⟨A,B,Md hx ha hb,ha,hb,?_,fun y=>?_⟩
  .
   obtain ⟨h1,h2,h3⟩:=List.pairwise_append.1 h
   exact List.pairwise_append.2 ⟨h1,(List.pairwise_cons.1 h2).2,fun a ha b hb=>h3 a ha b (List.mem_cons_of_mem _ hb)⟩
  .
   simp only [List.mem_append,List.mem_cons]
   constructor
   .
    rintro (h|h)
    .exact ⟨.inl h,hlt (ha y h)⟩
    .exact ⟨.inr (.inr h),hgt (hb y h)⟩
   .
    rintro ⟨h|h|h,k⟩
    .exact .inl h
    .subst h;exact absurd hx k
    .exact .inr h
 .
  refine ⟨A,B,CU ha hb,ha,hb,h,fun y=>⟨fun hy=>⟨hy,?_⟩,And.left⟩⟩
  rcases List.mem_append.1 hy with h|h
  .exact hlt (ha y h)
  .exact hgt (hb y h)
theorem wP {l:List Change}(h:dr l)(c:Change):dr (zp l c):=by
 obtain ⟨A,B,e,ha,hb,hr,_⟩:=Ge h c
 rw [e]
 obtain ⟨h1,h2,h3⟩:=List.pairwise_append.1 hr
 unfold mid
 split
 .rw [List.append_nil];exact hr
 .exact List.pairwise_append.2 ⟨List.pairwise_append.2 ⟨h1,List.pairwise_singleton _ _,fun a Uc b hbb=>by rw [List.mem_singleton.1 hbb];exact ha a Uc⟩,h2,fun a Uc b hbb=>by
   rcases List.mem_append.1 Uc with q|q
   .exact h3 a q b hbb
   .rw [List.mem_singleton.1 q];exact hb b hbb⟩
theorem Gf {l:List Change}(h:dr l){c y:Change}:y∈zp l c↔(y∈l/\y.Key≠c.Key)∨(c.Gone=false/\y=c):=by
 obtain ⟨A,B,e,ha,hb,hr,hm⟩:=Ge h c
 rw [e,<- hm y]
 simp only [List.mem_append,mid]
 cases c.Gone
 .
  rw [if_neg (by decide)]
  simp only [List.mem_singleton,true_and]
  constructor
  .
   rintro ((h|h)|h)
   .exact .inl (.inl h)
   .exact .inr h
   .exact .inl (.inr h)
  .
   rintro ((h|h)|h)
   .exact .inl (.inl h)
   .exact .inr h
   .exact .inl (.inr h)
 .
  rw [if_pos rfl]
  simp
theorem rP:∀ (l:List Change) {rows:List Change},dr rows->dr (cb rows l)
 | [],rows,h=>h
 | c::l,rows,h=>rP l (wP h c)
theorem tO:∀ (a b:List Change),dr a->dr b->(∀x,x∈a↔x∈b)->a=b
 | [],[],_,_,_=>rfl
 | [],y::b,_,_,h=>absurd ((h y).2 (List.mem_cons_self ..)) (by simp)
 | x::a,[],_,_,h=>absurd ((h x).1 (List.mem_cons_self ..)) (by simp)
 | x::a,y::b,ha,hb,h=>by
  obtain ⟨a1,a2⟩:=List.pairwise_cons.1 ha
  obtain ⟨b1,b2⟩:=List.pairwise_cons.1 hb
  have no:∀ {u v:Change},jy u.Key v.Key=true->jy v.Key u.Key=true->False:=fun h k=>by
   have:=tN h;rw [k] at this;cases this
  have hxy:x=y:=by
   rcases List.mem_cons.1 ((h x).1 (List.mem_cons_self ..)) with e|e
   .exact e
   .
    rcases List.mem_cons.1 ((h y).2 (List.mem_cons_self ..)) with e2|e2
    .exact e2.symm
    .exact (no (b1 x e) (a1 y e2)).elim
  subst hxy
  congr 1
  refine tO a b a2 b2 fun z=>⟨fun hz=>?_,fun hz=>?_⟩
  .
   rcases List.mem_cons.1 ((h z).1 (List.mem_cons_of_mem _ hz)) with e|e
   .subst e;have:=a1 z hz;rw [e8] at this;cases this
   .exact e
  .
   rcases List.mem_cons.1 ((h z).2 (List.mem_cons_of_mem _ hz)) with e|e
   .subst e;have:=b1 z hz;rw [e8] at this;cases this
   .exact e
end
end Go.Proofs.YtkbhcbipadkcaaaGreatDoor
