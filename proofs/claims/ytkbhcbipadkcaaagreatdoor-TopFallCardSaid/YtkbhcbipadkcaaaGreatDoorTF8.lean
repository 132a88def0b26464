import Derived.Test.YtkbhcbipadkcaaaGreatDoorTF7
import Derived.Lib.Bytealg
import Derived.Sort.Walk0
namespace Go.Proofs.YtkbhcbipadkcaaaGreatDoor
set_option linter.unusedVariables false
set_option linter.unusedSimpArgs false
set_option maxRecDepth 100000
set_option maxHeartbeats 90000000
section
theorem qD {α:Type}{l u:List α}{i:Nat}(h:i=l.length):l.take i++u++l.drop i=l++u:=by
 subst h;simp
theorem nO {α:Type}{l u:List α}{i m:Nat}{z:α}(hu:u.length=1)(hi:i<l.length)(hm:m=l.length+u.length-i) :
 l.take i++u++l.drop i=((l.take i++List.replicate m z).take i++u++(l.take i++List.replicate m z).drop (i+u.length)).take (i+u.length)++l.drop i++((l.take i++List.replicate m z).take i++u++(l.take i++List.replicate m z).drop (i+u.length)).drop (i+u.length+(l.drop i).length):=by
 have h1:(l.take i).length=i:=by rw [List.length_take];omega
 have h2:((l.take i++List.replicate m z).take i)=l.take i:=by rw [List.take_append_of_le_length (by omega),List.take_of_length_le (by omega)]
 have h3:(l.take i++u).length=i+u.length:=by rw [List.length_append,h1]
 rw [h2,List.take_append_of_le_length (by omega),List.take_of_length_le (l:=l.take i++u) (by omega)]
 have h4:(l.take i++u++(l.take i++List.replicate m z).drop (i+u.length)).length<=i+u.length+(l.drop i).length:=by
  simp only [List.length_append,List.length_drop,h1,List.length_replicate];omega
 rw [List.drop_of_length_le h4,List.append_nil]
theorem rR {α:Type}{l u:List α}{i:Nat}(hu:u.length=1)(hi:i<l.length) :
 l.take i++u++l.drop i=(l.take (i+1)++l.drop i).take i++u++(l.take (i+1)++l.drop i).drop (i+u.length):=by
 have h1:(l.take (i+1)).length=i+1:=by rw [List.length_take];omega
 rw [hu,List.take_append_of_le_length (by omega),List.take_take,Nat.min_eq_left (by omega),List.drop_append_of_le_length (by omega),List.drop_of_length_le (l:=l.take (i+1)) (by omega),List.nil_append]
theorem pS {α:Type}{l:List α}{i j:Nat}(h:i=j):l.take i++l.drop j=l:=by subst h;simp
section
variable {α:Type}
def bsGo (f:α->Int)(l:List α)(lo hi:Nat):Nat :=
  if h:lo<hi then
    match l[(lo+hi) / 2]? with
    | some x=>if f x<0 then bsGo f l ((lo+hi) / 2+1) hi else bsGo f l lo ((lo+hi) / 2)
    | none=>lo
  else lo
termination_by hi-lo
decreasing_by all_goals omega
def jC (f:α->Int)(l:List α):Nat:=bsGo f l 0 l.length
def lI (f:α->Int)(l:List α):Bool:=match l[jC f l]? with|some x=>decide (f x=0)|none=>false
variable {f:α->Int} {l:List α} {lo hi:Nat} {x:α}
theorem AP (h:lo<hi)(hx:l[(lo+hi) / 2]? = some x)(hf:f x<0):bsGo f l lo hi=bsGo f l ((lo+hi) / 2+1) hi:=by
 rw [bsGo,dif_pos h,hx];simp [hf]
theorem AQ (h:lo<hi)(hx:l[(lo+hi) / 2]? = some x)(hf:¬ f x<0):bsGo f l lo hi=bsGo f l lo ((lo+hi) / 2):=by
 rw [bsGo,dif_pos h,hx];simp [hf]
theorem gX (h:¬ lo<hi):bsGo f l lo hi=lo:=by rw [bsGo,dif_neg h]
theorem Mg:∀ (n lo hi:Nat),hi-lo=n->lo<=hi->bsGo f l lo hi<=hi:=by
 intro n
 induction n using Nat.strongRecOn with
 | _ n ih =>
  intro lo hi hn hle
  rw [bsGo]
  split
  .
   split
   .
    split
    .exact ih (hi-((lo+hi) / 2+1)) (by omega) _ _ rfl (by omega)
    .exact Nat.le_trans (ih ((lo+hi) / 2-lo) (by omega) _ _ rfl (by omega)) (by omega)
   .exact hle
  .exact hle
theorem pU:jC f l<=l.length:=Mg _ 0 l.length rfl (Nat.zero_le _)
theorem CN (h:lI f l=true):∃x,l[jC f l]? = some x/\f x=0:=by
 unfold lI at h
 split at h
 .rename_i x hx;exact ⟨x,hx,of_decide_eq_true h⟩
 .cases h
theorem Hu (hm:∀ (i j:Nat) x y,i<=j->l[i]? = some x->l[j]? = some y->f y<0->f x<0):∀ (n lo hi:Nat),hi-lo=n->lo<=hi->hi<=l.length ->
 (∀ (i:Nat) x,i<lo->l[i]? = some x->f x<0)->(∀ (i:Nat) x,hi<=i->l[i]? = some x->¬ f x<0) ->
 (∀ (i:Nat) x,i<bsGo f l lo hi->l[i]? = some x->f x<0)/\(∀ (i:Nat) x,bsGo f l lo hi<=i->l[i]? = some x->¬ f x<0):=by
 intro n
 induction n using Nat.strongRecOn with
 | _ n ih =>
  intro lo hi hn hle hl h1 h2
  by_cases hlt:lo<hi
  .
   obtain ⟨x,hx⟩:∃x,l[(lo+hi) / 2]? = some x:=⟨_,List.getElem?_eq_getElem (by omega)⟩
   by_cases hf:f x<0
   .
    rw [AP hlt hx hf]
    exact ih (hi-((lo+hi) / 2+1)) (by omega) _ _ rfl (by omega) hl (fun i y hi' hy=>hm i ((lo+hi) / 2) y x (by omega) hy hx hf) h2
   .
    rw [AQ hlt hx hf]
    exact ih ((lo+hi) / 2-lo) (by omega) _ _ rfl (by omega) (by omega) h1 (fun i y hi' hy hc=>hf (hm ((lo+hi) / 2) i x y hi' hx hy hc))
  .
   rw [gX hlt]
   have:lo=hi:=by omega
   subst this
   exact ⟨h1,h2⟩
theorem CO (hm:∀ (i j:Nat) x y,i<=j->l[i]? = some x->l[j]? = some y->f y<0->f x<0) :
 (∀ (i:Nat) x,i<jC f l->l[i]? = some x->f x<0)/\(∀ (i:Nat) x,jC f l<=i->l[i]? = some x->¬ f x<0) :=
 Hu hm _ 0 l.length rfl (Nat.zero_le _) (Nat.le_refl _) (fun i x hi=>absurd hi (Nat.not_lt_zero _)) (fun i x hi hx=>by
  have:=(List.getElem?_eq_some_iff.1 hx).1;omega)
end
def rm (a b:Int):Int:=if a<b then -1 else if b<a then 1 else 0
def JQ:List Int->Int
  | []=>0
  | x::l=>if x=0 then JQ l else x
theorem JR {l:List Int}{k:Nat}{x:Int}(h:l[k]? = some x)(h0:x=0):JQ (l.drop k)=JQ (l.drop (k+1)):=by
 have hk:=(List.getElem?_eq_some_iff.1 h).1
 have he:=(List.getElem?_eq_some_iff.1 h).2
 rw [List.drop_eq_getElem_cons hk,he];simp [JQ,h0]
theorem Mh {l:List Int}{k:Nat}{x:Int}(h:l[k]? = some x)(h0:¬ x=0):JQ (l.drop k)=x:=by
 have hk:=(List.getElem?_eq_some_iff.1 h).1
 have he:=(List.getElem?_eq_some_iff.1 h).2
 rw [List.drop_eq_getElem_cons hk,he];simp [JQ,h0]
end
def aY (p:Place):Int:=if p.aA<1∨4<p.aA∨p.Slot<0∨5<p.Slot then 1 else 0
def rq (p q:Place):Int:=if rm p.aA q.aA=0 then rm p.Slot q.Slot else rm p.aA q.aA
theorem Mi (p q:Place):JQ [rm p.aA q.aA,rm p.Slot q.Slot]=rq p q:=by
 simp only [JQ,rq]
 split
 .
  split
  .rename_i h;exact h.symm
  .rfl
 .rfl
theorem Hw {p q:Place}(h:rq p q=0):p=q:=by
 cases p;cases q
 simp only [rq,rm] at h
 simp only [Place.mk.injEq]
 split at h <;> (try split at h) <;> (try split at h) <;> (try split at h) <;> omega
theorem Hy (p:Place):rq p p=0:=by simp [rq,rm]
def fW (l:List Held)(p:Place):Nat:=jC (fun h=>rq h.Place p) l
def Hz (l:List Held)(p:Place):Bool:=lI (fun h=>rq h.Place p) l
theorem vB (l:List Held)(p:Place):fW l p<=l.length:=pU
theorem tU (l:List Held)(p:Place):Hz l p=false ∨ ∃x,l[fW l p]? = some x/\Hz l p=true/\x.Place=p/\fW l p<l.length:=by
 cases h:Hz l p with
 | false=>exact .inl rfl
 | true =>
  obtain ⟨x,h1,h2⟩:=CN h
  exact .inr ⟨x,h1,rfl,Hw h2,(List.getElem?_eq_some_iff.1 h1).1⟩
def mQ (l:List Held)(p:Place):Int:=if Hz l p then (match l[fW l p]? with|some x=>x.ak|none=>0) else 0
theorem JU {l:List Held}{p:Place}(h:Hz l p=false):mQ l p=0:=by simp [mQ,h]
theorem Gh {l:List Held}{p:Place}{x:Held}(h:Hz l p=true)(hx:l[fW l p]? = some x):mQ l p=x.ak:=by simp [mQ,h,hx]
def fS (l:List Held)(p:Place)(id:Int):List Held :=
  if Hz l p then (if id=0 then l.take (fW l p)++l.drop (fW l p+1) else l.set (fW l p) ⟨p,id⟩)
  else if id=0 then l else l.take (fW l p)++[⟨p,id⟩]++l.drop (fW l p)
theorem nP (l:List Held)(p:Place)(id:Int):(fS l p id).length<=l.length+1:=by
 have:=vB l p
 unfold fS;split <;> split <;> simp <;> omega
def mo (l:List Held)(h:Int):Nat->Nat->Int
  | 0,_ => -1
  | n+1,s=>if mQ l ⟨h,s⟩=0 then s else mo l h n (s+1)
def i6 (l:List Held)(h:Int):Int:=mo l h 6 0
theorem ET {l:List Held}{h:Int}{n s:Nat}(e:mQ l ⟨h,s⟩=0)(hn:0<n):mo l h n s=s:=by
 cases n with
 | zero=>omega
 | succ n=>simp [mo,e]
theorem CP {l:List Held}{h:Int}{s:Nat}(e:¬ mQ l ⟨h,s⟩=0)(hs:s<6):mo l h (6-s) s=mo l h (6-(s+1)) (s+1):=by
 have:6-s=(6-(s+1))+1:=by omega
 rw [this];simp only [mo];rw [if_neg e]
def uH (l:List Held)(p:Place):Int:=match l.find? (fun h=>h.Place==p) with|some h=>h.ak|none=>0
def oB (p:Place)(id:Int)(s:List Held×Bool)(h:Held):List Held×Bool :=
  let s1:=if s.2=false/\(p.aA<h.Place.aA∨(p.aA=h.Place.aA/\p.Slot<=h.Place.Slot)) then (s.1++[⟨p,id⟩],true) else s
  (if h.Place=p then s1.1 else s1.1++[h],s1.2)
theorem wN {p:Place}{id:Int}{acc:List Held}{h:Held}(ho:p.aA<h.Place.aA∨(p.aA=h.Place.aA/\p.Slot<=h.Place.Slot)):oB p id (acc,false) h=(if h.Place=p then acc++[⟨p,id⟩] else acc++[⟨p,id⟩]++[h],true):=by
 unfold oB;rw [if_pos ⟨rfl,ho⟩]
theorem pV {p:Place}{id:Int}{acc:List Held}{b:Bool}{h:Held}(ho:b=true∨¬ (p.aA<h.Place.aA∨(p.aA=h.Place.aA/\p.Slot<=h.Place.Slot))):oB p id (acc,b) h=(if h.Place=p then acc else acc++[h],b):=by
 unfold oB;rw [if_neg (fun hh=>by
  rcases ho with ho|ho;· rw [ho] at hh;cases hh.1
  .exact ho hh.2)]
def CQ (l:List Held)(p:Place)(id:Int):List Held×Bool:=l.foldl (oB p id) ([],id==0)
def EU (l:List Held)(p:Place)(id:Int):List Held:=if (CQ l p id).2 then (CQ l p id).1 else (CQ l p id).1++[⟨p,id⟩]
theorem rD (p:Place):aY p=0∨aY p=1:=by unfold aY;split <;> simp
theorem km {p:Place}(h:p.aA<1∨4<p.aA∨p.Slot<0∨5<p.Slot):aY p=1:=if_pos h
theorem yx {p:Place}(h:1<=p.aA/\p.aA<=4/\0<=p.Slot/\p.Slot<=5):aY p=0:=if_neg (by omega)
theorem cy {p:Place}(h:aY p=0):1<=p.aA/\p.aA<=4/\0<=p.Slot/\p.Slot<=5:=by
 unfold aY at h;split at h <;> omega
def j7 (p q:Place):Prop:=p.aA<q.aA∨(p.aA=q.aA/\p.Slot<q.Slot)
def GoodAt (l:List Held)(k:Nat):Prop:= ∀h,l[k]? = some h->aY h.Place=0/\h.ak≠0 /\ ∀g,0<k->l[k-1]? = some g->j7 g.Place h.Place
def Good (l:List Held):Prop:= ∀k,k<l.length->GoodAt l k
section
open Go Go.RowKit
theorem nn (bP:Value)(l:List Held)(w:World)(own:List Nat)(H:HN w own [] [ag.ls bP l])(hl:l.length<=1000000):RC Tryz.prog 107 #[bP] H (fun z:Value=>z) (fun z=>[ag.row 124 z l]) (fun _=>[]):=by
 have yw:=H.ck 0 rfl
 refine R.bD [(0,bP)] Tryz.func107 O O O O H<|R.reg O<|R.u 1 O<|R.nil<|R.reg O<|R.u 1 O<|?_
 rcases Bool.eq_false_or_eq_true (pq bP) with h1|h1
 .
  refine R.q (q.Hj (congrArg Value.bool h1) (q.o7 (dx 0 O) O O Tryz.underlying45)) O<|R.nil<|R.az O O<|R.reg O<|R.u 1 O<|R.nil<|R.row0 (α:=Held) 124 ?_
  have hz:l=[]:=by (exact Sl.pq (H.bN 0 rfl) ‹_›)
  rw [hz]
  exact R.w1 (nS) [0,1] [] O Tryz.results107 (RV.tmp O) O O O O
 refine R.q (q.Hj (congrArg Value.bool h1) (q.o7 (dx 0 O) O O Tryz.underlying45)) O<|R.nil<|R.aC O O<|R.reg O<|R.s O (s.bs (l:=([]:List Held)) cM gW O O O O O O O) fun b1=>?_
 refine R.u 1 O<|R.s O (s.app 0 _ O O O (dx 0 O) oz (by simp;omega) (by simp;omega) (fun _=>rfl) O) fun v1=>?_
 refine R.u 1 O<|R.nil ?_
 have hz:l=(([])++l):=by (rfl)
 rw [hz]
 exact R.w1 v1 [0,1] [] O Tryz.results107 (RV.tmp O) O O O O
theorem wO (bP:Value)(l:List Held)(i:Nat)(j:Nat)(w:World)(own:List Nat)(H:HN w own [ag.row 124 bP l] [])(hij:i<=j/\j<=l.length):RC Tryz.prog 172 #[bP,iV (i:Int),iV (j:Int)] H (fun z:Value=>z) (fun z=>[ag.row 124 z (l.take i++l.drop j)]) (fun _=>[]):=by
 have HD:=H.cap 0 rfl;have yw:=H.cC 0 rfl
 refine R.bD [(0,bP),(1,iV (i:Int)),(2,iV (j:Int))] Tryz.func172 O O O O H<|R.reg O<|R.u 1 O<|R.nil<|R.reg O<|R.u 4 O<|R.q (q.len' (bE 0 O) O Tryz.underlying45) O<|R.q (q.Ev (i:=i) (j:=j) (q':=l.length) (bE 0 O) O O O O cM O O O (by omega) (by omega) (by omega)) O<|R.nil<|R.reg O<|R.u 2 O<|?_
 by_cases h1:i=j
 .
  refine R.q (q.fJ O O) O<|R.nil<|R.az O O<|R.reg O<|R.u 2 O<|R.nil ?_
  have hz:l.take i++l.drop j=l:=by (exact pS (by omega))
  rw [hz]
  exact R.w1 bP [0,1] [] O Tryz.results172 (RV.tmp O) O O O O
 refine R.q (q.eX O O) O<|R.nil<|R.aC O O<|R.reg O<|R.u 1 O<|R.q (q.len' (bE 0 O) O Tryz.underlying45) O<|R.u 1 O<|R.nil<|R.fP (fuel:=8) [1] O O mixed O<|D.q (i:=0) O (aD [1] [] O) O (q.mv O) O<|D.q (i:=1) O (aD [1] [] O) O (q.mv O) O<|D.q (i:=3) O (aD [1] [] O) O (q.mv O) O<|D.q (i:=4) O (aD [1] [] O) O (q.mv O) O<|D.two (i:=2) (j:=5) O O ?_ ?_
 .
  refine Do.s (s.c (Qt.a (q.kG (i:=i) (bE 0 O) O O Tryz.underlying45 vA O (by omega))) O) (fun _=>(aD [1] [] O)) O fun _=>?_
  refine D.one (i:=5) O<|Do.s (s.c (Qt.a (q.dA (i:=j) (bE 0 O) O O cM O (by omega))) O) (fun _=>(aD [1] [] O)) O fun _=>?_
  refine D.one (i:=6) O<|Do.s (s.tL (a:=i) 0 _ O O O (fun w hw=>Sl.from (hw.row 0 O) (by omega)) oz (by omega) (by simp;omega) O O) (fun _=>(aD [1] [] O)) O fun _=>?_
  refine D.q (i:=7) O (aD [1] [] O) O (q.as O) O<|D.done<|R.reg O<|R.u 2 O<|R.q (q.len' (bE 0 O) O Tryz.underlying45) O<|R.u 1 O<|R.q (q.sl2 (i:=(l.take i++(l.drop j)).length) (j:=l.length) (bE 0 O) O O O cM O O (by (simp;omega)) (by (simp [fk];omega))) O<|R.s O (s.y9 (lo:=(l.take i++(l.drop j)).length) (hi:=l.length) (z0:=(⟨(⟨0,0⟩:Place),0⟩:Held)) 0 O O cM gW O (by omega) (by (simp;omega)) (by (simp [fk];omega))) fun _=>?_
  refine R.nil<|R.reg O<|R.u 2 O<|R.nil ?_
  have hz:l.take i++l.drop j=(l.take i++(l.drop j)):=by (rfl)
  rw [hz]
  exact R.w1 (kG bP (i+(l.drop j).length)) [0,1] [] O Tryz.results172 (RV.tmp O) O O O O
 refine Do.s (s.c (Qt.a (q.dA (i:=j) (bE 0 O) O O cM O (by omega))) O) (fun _=>(aD [1] [] O)) O fun _=>?_
 refine D.one (i:=2) O<|Do.s (s.c (Qt.a (q.kG (i:=i) (bE 0 O) O O Tryz.underlying45 vA O (by omega))) O) (fun _=>(aD [1] [] O)) O fun _=>?_
 refine D.one (i:=6) O<|Do.s (s.tL (a:=i) 0 _ O O O (fun w hw=>Sl.from (hw.row 0 O) (by omega)) oz (by omega) (by simp;omega) O O) (fun _=>(aD [1] [] O)) O fun _=>?_
 refine D.q (i:=7) O (aD [1] [] O) O (q.as O) O<|D.done<|R.reg O<|R.u 2 O<|R.q (q.len' (bE 0 O) O Tryz.underlying45) O<|R.u 1 O<|R.q (q.sl2 (i:=(l.take i++(l.drop j)).length) (j:=l.length) (bE 0 O) O O O cM O O (by (simp;omega)) (by (simp [fk];omega))) O<|R.s O (s.y9 (lo:=(l.take i++(l.drop j)).length) (hi:=l.length) (z0:=(⟨(⟨0,0⟩:Place),0⟩:Held)) 0 O O cM gW O (by omega) (by (simp;omega)) (by (simp [fk];omega))) fun _=>?_
 refine R.nil<|R.reg O<|R.u 2 O<|R.nil ?_
 have hz:l.take i++l.drop j=(l.take i++(l.drop j)):=by (rfl)
 rw [hz]
 exact R.w1 (kG bP (i+(l.drop j).length)) [0,1] [] O Tryz.results172 (RV.tmp O) O O O O
theorem wP (bP:Value)(l:List Held)(i:Nat)(PN:Value)(u:List Held)(w:World)(own:List Nat)(H:HN w own [ag.row 124 bP l,ag.row 124 PN u] [])(hi:i<=l.length)(hu:u.length=1)(hl:l.length<=1000000):RC Tryz.prog 173 #[bP,iV (i:Int),PN] H (fun z:Value=>z) (fun z=>[ag.row 124 z (l.take i++u++l.drop i)]) (fun _=>[]):=by
 have HD:=H.cap 0 rfl;have yw:=H.cC 0 rfl
 have VG:=H.cap 1 rfl;have VH:=H.cC 1 rfl
 refine R.bD [(0,bP),(1,iV (i:Int)),(2,PN)] Tryz.func173 O O O O H<|R.reg O<|R.u 1 O<|R.nil<|R.reg O<|R.u 2 O<|R.q (q.dA (i:=i) (bE 0 O) O O cM O (by omega)) O<|R.nil<|R.reg O<|R.u 1 O<|R.q (q.len' (bE 1 O) O Tryz.underlying45) O<|R.u 1 O<|R.nil<|R.reg O<|R.u 1 O<|?_
 by_cases h1:u.length=0
 .
  refine R.q (q.fJ O O) O<|R.nil<|R.az O O<|R.reg O<|R.u 2 O<|R.nil ?_
  have hz:l.take i++u++l.drop i=l:=by (exfalso;omega)
  rw [hz]
  exact R.w1 bP [0,2] [] O Tryz.results173 (RV.tmp O) O O O O
 refine R.q (q.eX O O) O<|R.nil<|R.aC O O<|R.reg O<|R.u 1 O<|R.q (q.len' (bE 0 O) O Tryz.underlying45) O<|R.u 1 O<|R.nil<|R.reg O<|R.u 2 O<|?_
 by_cases h2:i=l.length
 .
  refine R.q (q.fJ O O) O<|R.nil<|R.az O O<|R.reg O<|R.u 2 O<|R.s O (s.app 0 _ O O O (bE 1 O) oz (by omega) (by omega) (fun _=>rfl) O) fun v1=>?_
  refine R.u 1 O<|R.nil ?_
  have hz:l.take i++u++l.drop i=(l++u):=by (exact qD (by omega))
  rw [hz]
  exact R.w1 v1 [0,2] [] O Tryz.results173 (RV.tmp O) O O O O
 refine R.q (q.eX O O) O<|R.nil<|R.aC O O<|R.reg O<|R.u 2 O<|R.q (q.bC (r:=((l.length+u.length:Nat):Int)) O O) O<|R.u 1 O<|R.q (q.cap (bE 0 O) O Tryz.underlying45) O<|?_
 by_cases h3:(ly bP)<(l.length+u.length)
 .
  refine R.q (q.eM O O) O<|R.nil<|R.az O O<|R.reg O<|R.u 2 O<|R.q (q.kG (i:=i) (bE 0 O) O O Tryz.underlying45 vA O (by omega)) O<|R.u 2 O<|R.q (q.bC (r:=((l.length+u.length:Nat):Int)) O O) O<|R.u 1 O<|R.q (q.lU (r:=(((l.length+u.length)-i:Nat):Int)) O O) O<|R.s O (s.F7 (o:=i) (m:=((l.length+u.length)-i)) (z0:=(⟨(⟨0,0⟩:Place),0⟩:Held)) 0 O O O O oz Tryz.underlying3 gW O (by omega) (by omega) (by omega) (by omega) (by omega) O) fun v2=>?_
  refine R.u 1 O<|R.nil<|R.reg O<|R.u 2 O<|R.q (q.dA (i:=i) (bE 0 O) O O cM O (by (simp;omega))) O<|R.u 1 O<|R.s O (s.uE (o:=i) 0 _ O (bE 2 O) O O cM (by (simp;omega)) O O) fun _=>?_
  refine R.nil<|R.fP (fuel:=9) [1,2,3] O O mixed O<|D.q (i:=0) O (aD [1,2,3] [] O) O (q.mv O) O<|D.q (i:=1) O (aD [1,2,3] [] O) O (q.mv O) O<|D.q (i:=2) O (aD [1,2,3] [] O) O (q.mv O) O<|D.q (i:=3) O (aD [1,2,3] [] O) O (q.bC (r:=((i+u.length:Nat):Int)) O O) O<|D.q (i:=5) O (aD [1,2,3] [] O) O (q.mv O) O<|D.q (i:=6) O (aD [1,2,3] [] O) O (q.mv O) O<|D.q (i:=7) O (aD [1,2,3] [] O) O (q.dA (i:=i) (bE 0 O) O O cM O (by omega)) O<|D.one (i:=4) O<|Do.s (s.c (Qt.a (q.dA (i:=(i+u.length)) (bE 0 O) O O cM O (by (simp;omega)))) O) (fun _=>(aD [1,2,3] [] O)) O fun _=>?_
  refine D.one (i:=8) O<|Do.s (s.uE (o:=(i+u.length)) 0 _ O (fun w hw=>Sl.from (hw.row 1 O) (by omega)) O O cM (by (simp;omega)) O O) (fun _=>(aD [1,2,3] [] O)) O fun _=>?_
  refine D.done<|R.reg O<|R.u 2 O<|R.nil ?_
  have hz:l.take i++u++l.drop i=(((l.take i++List.replicate ((l.length+u.length)-i) (⟨(⟨0,0⟩:Place),0⟩:Held)).take i++u++(l.take i++List.replicate ((l.length+u.length)-i) (⟨(⟨0,0⟩:Place),0⟩:Held)).drop (i+u.length)).take (i+u.length)++(l.drop i)++((l.take i++List.replicate ((l.length+u.length)-i) (⟨(⟨0,0⟩:Place),0⟩:Held)).take i++u++(l.take i++List.replicate ((l.length+u.length)-i) (⟨(⟨0,0⟩:Place),0⟩:Held)).drop (i+u.length)).drop ((i+u.length)+(l.drop i).length)):=by (exact nO hu (by omega) rfl)
  rw [hz]
  exact R.w1 v2 [0,3] [] O Tryz.results173 (RV.tmp O) O O O O
 refine R.q (q.ey O O) O<|R.nil<|R.aC O O<|R.reg O<|R.u 3 O<|R.q (q.bC (r:=((l.length+u.length:Nat):Int)) O O) O<|R.q (q.RE (i:=(l.length+u.length)) (bE 0 O) O O cM O (by omega)) O<|R.u 1 O<|R.nil<|R.reg O<|R.u 4 O<|R.q (q.bC (r:=((i+u.length:Nat):Int)) O O) O<|R.q (q.nk (i:=(i+u.length)) (bE 0 O) O O cM O (by omega) (by omega)) O<|R.q (q.UT (i:=1) (j:=0) (tR:=4) Tryz.func195 O O (by kernel_rfl) (by kernel_rfl) cM O O (by decide) (by omega) (by omega) O O O O) O<|R.u 1 O<|R.nil<|R.az O O<|R.fP (fuel:=9) [1,2] O O mixed O<|D.q (i:=0) O (aD [1,2] [] O) O (q.mv O) O<|D.q (i:=1) O (aD [1,2] [] O) O (q.mv O) O<|D.q (i:=2) O (aD [1,2] [] O) O (q.mv O) O<|D.q (i:=3) O (aD [1,2] [] O) O (q.bC (r:=((i+u.length:Nat):Int)) O O) O<|D.q (i:=5) O (aD [1,2] [] O) O (q.mv O) O<|D.q (i:=6) O (aD [1,2] [] O) O (q.mv O) O<|D.two (i:=4) (j:=7) O O ?_ ?_
 .
  refine Do.s (s.c (Qt.a (q.nk (i:=(i+u.length)) (bE 0 O) O O cM O (by omega) (by omega))) O) (fun _=>(aD [1,2] [] O)) O fun _=>?_
  refine D.one (i:=7) O<|Do.s (s.c (Qt.a (q.nk (i:=i) (bE 0 O) O O cM O (by omega) (by omega))) O) (fun _=>(aD [1,2] [] O)) O fun _=>?_
  refine D.one (i:=8) O<|Do.s (s.Aq (o:=i) 0 _ O (by omega) (by omega) (by omega) (by omega) O O cM O O) (fun _=>(aD [1,2] [] O)) O fun _=>?_
  refine D.done<|R.reg O<|R.u 2 O<|R.q (q.dA (i:=i) (bE 0 O) O O cM O (by (simp;omega))) O<|R.u 1 O<|R.s O (s.uE (o:=i) 0 _ O (bE 1 O) O O cM (by (simp;omega)) O O) fun _=>?_
  refine R.nil<|R.reg O<|R.u 2 O<|R.nil ?_
  have hz:l.take i++u++l.drop i=((l.take (i+1)++l.drop i).take i++u++(l.take (i+1)++l.drop i).drop (i+u.length)):=by (exact rR hu (by omega))
  rw [hz]
  exact R.w1 (kG bP (l.length+u.length)) [0,2] [] O Tryz.results173 (RV.tmp O) O O O O
 refine Do.s (s.c (Qt.a (q.nk (i:=i) (bE 0 O) O O cM O (by omega) (by omega))) O) (fun _=>(aD [1,2] [] O)) O fun _=>?_
 refine D.one (i:=4) O<|Do.s (s.c (Qt.a (q.nk (i:=(i+u.length)) (bE 0 O) O O cM O (by omega) (by omega))) O) (fun _=>(aD [1,2] [] O)) O fun _=>?_
 refine D.one (i:=8) O<|Do.s (s.Aq (o:=i) 0 _ O (by omega) (by omega) (by omega) (by omega) O O cM O O) (fun _=>(aD [1,2] [] O)) O fun _=>?_
 refine D.done<|R.reg O<|R.u 2 O<|R.q (q.dA (i:=i) (bE 0 O) O O cM O (by (simp;omega))) O<|R.u 1 O<|R.s O (s.uE (o:=i) 0 _ O (bE 1 O) O O cM (by (simp;omega)) O O) fun _=>?_
 refine R.nil<|R.reg O<|R.u 2 O<|R.nil ?_
 have hz:l.take i++u++l.drop i=((l.take (i+1)++l.drop i).take i++u++(l.take (i+1)++l.drop i).drop (i+u.length)):=by (exact rR hu (by omega))
 rw [hz]
 exact R.w1 (kG bP (l.length+u.length)) [0,2] [] O Tryz.results173 (RV.tmp O) O O O O
theorem zp (x:Int)(w:World):Calls Tryz.prog 249 #[iV x] w fun e w'=>e = .returned (.bool false)/\Ext w w':=by
 exact R.enter [] [(0,iV x)] Tryz.func249 rfl rfl rfl rfl<|R.reg rfl<|R.u 1 rfl<|R.nil<|R.reg rfl<|R.u 2 rfl<|R.q (q.nB rfl rfl) rfl<|R.u 1 rfl<|R.nil<|R.rv rfl Tryz.results249 rfl (rB (by rfl))
theorem uI (x:Int)(y:Int)(w:World):Calls Tryz.prog 227 #[iV x,iV y] w fun e w'=>e = .returned (iV (rm x y))/\Ext w w':=by
 refine R.enter [] [(0,iV x),(1,iV y)] Tryz.func227 O O O O<|R.reg O<|R.u 1 O<|R.nil<|R.reg O<|R.u 1 O<|R.c (q.call JH O O (fun w hw=>(zp x w ))) O<|R.u 1 O<|R.nil ?_
 refine R.reg O<|R.u 1 O<|R.c (q.call JH O O (fun w hw=>(zp y w ))) O<|R.u 1 O<|R.nil ?_
 refine R.reg O<|R.u 1 O<|R.nil<|R.aC O O<|R.reg O<|R.u 1 O<|R.nil<|R.aC O O<|R.reg O<|R.u 2 O<|?_
 by_cases h1:x<y
 .
  exact R.q (q.dD O O) O<|R.nil<|R.az O O<|R.reg O<|R.u 1 O<|R.nil<|R.rv O Tryz.results227 O (rI (by (unfold rm;rw [if_pos (by omega)])))
 refine R.q (q.cU O O) O<|R.nil<|R.aC O O<|R.reg O<|R.u 2 O<|?_
 by_cases h2:y<x
 .
  exact R.q (q.eM O O) O<|R.nil<|R.az O O<|R.reg O<|R.u 1 O<|R.nil<|R.rv O Tryz.results227 O (rI (by (unfold rm;rw [if_neg (by omega),if_pos (by omega)])))
 exact R.q (q.ey O O) O<|R.nil<|R.aC O O<|R.reg O<|R.u 1 O<|R.nil<|R.rv O Tryz.results227 O (rI (by (unfold rm;rw [if_neg (by omega),if_neg (by omega)])))
theorem HE (bP:Value)(l:List Int)(w:World)(ez:Sl w bP l):Calls Tryz.prog 226 #[bP] w fun e w'=>e = .returned (iV (JQ l))/\Ext w w':=by
 have zq:=ez.gV
 refine R.enter [] [(0,bP)] Tryz.func226 O O O O<|R.reg O<|R.u 1 O<|R.nil<|R.reg O<|R.u 1 O<|R.nil<|R.reg O<|R.u 1 O<|R.q (q.len' (fun _=>Wd.old ez) O Tryz.underlying159) O<|R.u 1 O<|R.nil<|R.loop (fun k:Nat=>[(3,iV 0),(6,bP),(7,iV (l.length:Int)),(8,iV (k:Int))]) (fun k:Nat=>[]) (fun k:Nat=>[]) (fun k:Nat=>JQ l=JQ (l.drop k)) (fun k:Nat=>l.length-k) 0 O (by rfl) (sF O) (iz [] [] O) ?_
 rintro k HA
 refine R.reg O<|?_
 by_cases h1:k<l.length
 .
  refine R.q (q.dD O O) O<|R.nil<|R.az O O<|R.reg O<|?_
  obtain ⟨x1,hx1⟩:∃z,l[k]? = some z:=⟨_,List.getElem?_eq_getElem (by omega)⟩
  refine R.q (q.idx (i:=k) (fun _=>Wd.old ez) O O dc O hx1) O<|R.q (q.lw (fun _=>Wd.old ez) hx1 O au O) O<|R.u 1 O<|R.nil<|R.reg O<|R.u 2 O<|?_
  by_cases h2:x1=0
  .
   refine R.q (q.nB O O) O<|R.nil<|R.aC O O<|R.reg O<|R.q (q.bC (r:=((k+1:Nat):Int)) O O) O<|R.u 1 O<|R.nil<|R.back (k+1) O (by (rw [HA];exact JR hx1 (by omega))) (by omega) (sF O) (iz [] [] O)
  exact R.q (q.nA O O) O<|R.nil<|R.az O O<|R.reg O<|R.u 2 O<|R.nil<|R.rv O Tryz.results226 O (rI (by (rw [HA];exact (Mh hx1 (by omega)).symm)))
 exact R.q (q.cU O O) O<|R.nil<|R.aC O O<|R.reg O<|R.u 2 O<|R.nil<|R.rv O Tryz.results226 O (rI (by (rw [HA,List.drop_of_length_le (by omega)];rfl)))
theorem AR (a:Place)(b:Place)(w:World):Calls Tryz.prog 194 #[.agg #[iV a.aA,iV a.Slot],.agg #[iV b.aA,iV b.Slot]] w fun e w'=>e = .returned (iV (rq a b))/\Ext w w':=by
 refine R.enter [] [(0,.agg #[iV a.aA,iV a.Slot]),(1,.agg #[iV b.aA,iV b.Slot])] Tryz.func194 O O O O<|R.reg O<|R.s O (s.box O O O) fun b1=>?_
 refine R.s O (s.box O O O) fun b2=>?_
 refine R.u 1 O<|R.nil<|R.fP (fuel:=13) [0,1] O O mixed O<|D.q (i:=0) O (aD [0,1] [] O) O (q.aP O fw O) O<|D.q (i:=1) O (aD [0,1] [] O) O (q.ld 1 O O au O) O<|D.q (i:=2) O (aD [0,1] [] O) O (q.aP O fw O) O<|D.q (i:=3) O (aD [0,1] [] O) O (q.ld 0 O O au O) O<|D.q (i:=5) O (aD [0,1] [] O) O (q.aP O nH O) O<|D.q (i:=6) O (aD [0,1] [] O) O (q.ld 1 O O au O) O<|D.q (i:=7) O (aD [0,1] [] O) O (q.aP O nH O) O<|D.q (i:=8) O (aD [0,1] [] O) O (q.ld 0 O O au O) O<|D.one (i:=4) O<|Do.s (s.c (q.call JG O O (fun w hw=>(uI a.aA b.aA w ))) O) (fun _=>(aD [0,1] [] O)) O fun _=>?_
 refine D.one (i:=9) O<|Do.s (s.c (q.call JG O O (fun w hw=>(uI a.Slot b.Slot w ))) O) (fun _=>(aD [0,1] [] O)) O fun _=>?_
 refine D.one (i:=10) O<|Do.s (s.bs (l:=([rm a.aA b.aA,rm a.Slot b.Slot]:List Int)) dc lV O O O O O O O) (fun _=>(aD [1,2] [] O)) O fun b3=>?_
 refine D.one (i:=11) O<|Do.s (s.c (q.call PL O O (fun w hw=>(HE _ ([rm a.aA b.aA,rm a.Slot b.Slot]) w (hw.row 0 O) ))) O) (fun _=>(aD [1,2] [] O)) O fun _=>?_
 exact D.q (i:=12) rfl (fun _=>Wd.pk [1,2] [] rfl) rfl (q.as rfl) rfl<|D.done<|R.rv rfl Tryz.results194 rfl (rI (by (exact Mi a b)))
theorem AU (h:Held)(pl:Place)(w:World):Calls Tryz.prog 193 #[.agg #[iV h.Place.aA,iV h.Place.Slot,iV h.ak],.agg #[iV pl.aA,iV pl.Slot]] w fun e w'=>e = .returned (iV (rq h.Place pl))/\Ext w w':=by
 refine R.enter [] [(0,.agg #[iV h.Place.aA,iV h.Place.Slot,iV h.ak]),(1,.agg #[iV pl.aA,iV pl.Slot])] Tryz.func193 O O O O<|R.reg O<|R.s O (s.box O O O) fun b1=>?_
 refine R.s O (s.box O O O) fun b2=>?_
 refine R.u 1 O<|R.nil<|R.reg O<|R.q (q.aP O rO O) O<|R.q (q.Hf (ds:=jL h.Place) 1 O O bO O) O<|R.q (q.cW 0 O O bO) O<|R.c (q.call PH O O (fun w hw=>(AR h.Place pl w ))) O<|R.u 1 O<|R.nil ?_
 exact R.rv O Tryz.results193 O (rI (by rfl))
theorem vg (bP:Value)(l:List Held)(t:Place)(c:Held->Place->Int)(HG:Nat)(Mj:List Value)(EV:∀args w,(callFunc HG args).run Tryz.prog w = .ok (.enter HG args) w)(w:World)(ez:Sl w bP l)(PO:∀W (x1:Held) (x2:Place),Ext w W->Calls Tryz.prog HG ([x1.val,x2.val]++Mj).toArray W fun e w'=>e = .returned (iV (c x1 x2))/\Ext W w')(hl:l.length<=1000000):Calls Tryz.prog 192 #[bP,.agg #[iV t.aA,iV t.Slot],.func (.func HG) #[] Mj.toArray] w fun e w'=>e = .returned (.tuple #[iV (jC (fun x=>c x t) l:Int),.bool (lI (fun x=>c x t) l)])/\Ext w w':=by
 have zq:=ez.gV
 refine R.enter [] [(0,bP),(1,.agg #[iV t.aA,iV t.Slot]),(2,.func (.func HG) #[] Mj.toArray)] Tryz.func192 O O O O<|R.reg O<|R.s O (s.box O O O) fun b1=>?_
 refine R.u 2 O<|R.nil<|R.reg O<|R.u 1 O<|R.q (q.len' (fun _=>Wd.old ez) O Tryz.underlying45) O<|R.u 1 O<|R.nil<|R.reg O<|R.u 3 O<|R.nil<|R.loop (fun g_:Nat×Nat=>[(0,bP),(2,.func (.func HG) #[] Mj.toArray),(4,.pointer (some ⟨b1,0,none⟩)),(8,iV (l.length:Int)),(9,iV (g_.1:Int)),(10,iV (g_.2:Int))]) (fun g_=>[ag.box b1 (jL t) 32]) (fun g_=>[]) (fun g_=>g_.1<=g_.2/\g_.2<=l.length/\bsGo (fun x=>c x t) l g_.1 g_.2=jC (fun x=>c x t) l) (fun g_=>g_.2-g_.1) (0,l.length) O (by exact ⟨Nat.zero_le _,Nat.le_refl _,rfl⟩) (sF O) (iz [0] [] O) ?_
 rintro ⟨lo,hi⟩ ⟨PQ,VI,HA⟩
 dsimp only at *
 refine R.reg O<|R.u 2 O<|?_
 by_cases h1:lo<hi
 .
  refine R.q (q.dD O O) O<|R.nil<|R.az O O<|R.reg O<|R.u 2 O<|R.q (q.bC (r:=((lo+hi:Nat):Int)) O O) O<|R.q (q.ni (r:=(((lo+hi):Nat):Int)) O (by rw [Tryz.underlying3];rfl) Tryz.underlying188 (Ar (by omega))) O<|R.q (q.shr (r:=((((lo+hi) / 2):Nat):Int)) O O (by decide) (L9 (by decide))) O<|R.q (q.ni (r:=((((lo+hi) / 2):Nat):Int)) O (by rw [Tryz.underlying188];rfl) Tryz.underlying3 (wr (by omega))) O<|R.u 1 O<|R.nil ?_
  obtain ⟨x1,hx1⟩:∃z,l[((lo+hi) / 2)]? = some z:=⟨_,List.getElem?_eq_getElem (by omega)⟩
  by_cases h2:(c x1 t)<0
  .
   refine R.fa O mixed (by kernel_rfl)<|Q.u 3 O<|Q.q (q.idx (i:=((lo+hi) / 2)) (fun _=>Wd.old ez) O O cM O hx1) O<|Q.q (q.gk (ds:=pF x1) (fun _=>Wd.old ez) hx1 O gy O) O<|Q.q (q.cW 0 O O bO) O<|Q.c (q.call EV O O (fun w hw=>PO w x1 t hw.ext)) O<|Q.q (q.dD O O) O<|Q.nil<|R.az O O<|R.reg O<|R.u 1 O<|R.q (q.bC (r:=((((lo+hi) / 2)+1:Nat):Int)) O O) O<|R.u 1 O<|R.nil<|R.back ((((lo+hi) / 2)+1),hi) O (by (exact ⟨by omega,by omega,(AP (by omega) hx1 (by omega)).symm.trans HA⟩)) (by dsimp only;omega) (sF O) (iz [0] [] O)
  refine R.fa O mixed (by kernel_rfl)<|Q.u 3 O<|Q.q (q.idx (i:=((lo+hi) / 2)) (fun _=>Wd.old ez) O O cM O hx1) O<|Q.q (q.gk (ds:=pF x1) (fun _=>Wd.old ez) hx1 O gy O) O<|Q.q (q.cW 0 O O bO) O<|Q.c (q.call EV O O (fun w hw=>PO w x1 t hw.ext)) O<|Q.q (q.cU O O) O<|Q.nil<|R.aC O O<|R.reg O<|R.u 2 O<|R.nil<|R.back (lo,((lo+hi) / 2)) O (by (exact ⟨by omega,by omega,(AQ (by omega) hx1 (by omega)).symm.trans HA⟩)) (by dsimp only;omega) (sF O) (iz [0] [] O)
 refine R.q (q.cU O O) O<|R.nil<|R.aC O O ?_
 by_cases h3:lo<l.length
 .
  obtain ⟨x2,hx2⟩:∃z,l[lo]? = some z:=⟨_,List.getElem?_eq_getElem (by omega)⟩
  by_cases h4:(c x2 t)=0
  .
   exact R.fa O mixed (by kernel_rfl)<|Q.u 3 O<|Q.q (q.dD O O) O<|Q.u 4 O<|Q.qg O (q.idx (i:=lo) (fun _=>Wd.old ez) O O cM O hx2) O<|Q.qg O (q.gk (ds:=pF x2) (fun _=>Wd.old ez) hx2 O gy O) O<|Q.qg O (q.cW 0 O O bO) O<|Q.cg O (q.call EV O O (fun w hw=>PO w x2 t hw.ext)) O<|Q.qg O (q.fJ O O) O<|Q.u 3 O<|Q.nil<|R.F4 O Tryz.results192 O O (rI (by (exact congrArg (fun n:Nat=>(n:Int)) ((gX (by omega)).symm.trans HA)))) (rB (by (have e:=(gX (by omega)).symm.trans HA;unfold lI;rw [<- e];(rw [hx2];exact (decide_eq_true ‹_›).symm))))
  exact R.fa O mixed (by kernel_rfl)<|Q.u 3 O<|Q.q (q.dD O O) O<|Q.u 4 O<|Q.qg O (q.idx (i:=lo) (fun _=>Wd.old ez) O O cM O hx2) O<|Q.qg O (q.gk (ds:=pF x2) (fun _=>Wd.old ez) hx2 O gy O) O<|Q.qg O (q.cW 0 O O bO) O<|Q.cg O (q.call EV O O (fun w hw=>PO w x2 t hw.ext)) O<|Q.qg O (q.eX O O) O<|Q.u 3 O<|Q.nil<|R.F4 O Tryz.results192 O O (rI (by (exact congrArg (fun n:Nat=>(n:Int)) ((gX (by omega)).symm.trans HA)))) (rB (by (have e:=(gX (by omega)).symm.trans HA;unfold lI;rw [<- e];(rw [hx2];exact (decide_eq_false ‹_›).symm))))
 exact R.fa O mixed (by kernel_rfl)<|Q.u 3 O<|Q.q (q.cU O O) O<|Q.u 12 O<|Q.nil<|R.F4 O Tryz.results192 O O (rI (by (exact congrArg (fun n:Nat=>(n:Int)) ((gX (by omega)).symm.trans HA)))) (rB (by (have e:=(gX (by omega)).symm.trans HA;unfold lI;rw [<- e];(rw [List.getElem?_eq_none (by omega)]))))
theorem lp (bP:Value)(l:List Held)(pl:Place)(w:World)(ez:Sl w bP l)(hl:l.length<=1000000):Calls Tryz.prog 171 #[bP,.agg #[iV pl.aA,iV pl.Slot]] w fun e w'=>e = .returned (.tuple #[iV (fW l pl:Int),.bool (Hz l pl)])/\Ext w w':=by
 have zq:=ez.gV
 refine R.enter [] [(0,bP),(1,.agg #[iV pl.aA,iV pl.Slot])] Tryz.func171 O O O O<|R.reg O<|R.s O (s.box O O O) fun b1=>?_
 refine R.u 2 O<|R.nil<|R.reg O<|R.u 1 O<|R.q (q.cW 0 O O bO) O<|R.c (q.call PF O O (fun w hw=>(vg _ l pl (fun (h:Held) (pl:Place)=>rq h.Place pl) _ _ PG w ((fun _=>Wd.old ez) w hw) (fun W h pl hW=>AU h pl W ) (by omega)))) O<|R.u 4 O<|R.nil ?_
 exact R.F4 O Tryz.results171 O O (rI (by rfl)) (rB (by rfl))
theorem ko (p:Place)(w:World):Calls Tryz.prog 151 #[.agg #[iV p.aA,iV p.Slot]] w fun e w'=>e = .returned (dh (aY p))/\Ext w w':=by
 refine R.enter [] [(0,.agg #[iV p.aA,iV p.Slot])] Tryz.func151 O O O O<|R.reg O<|R.s O (s.box O O O) fun b1=>?_
 refine R.u 1 O<|R.nil<|R.reg O<|R.q (q.aP O fw O) O<|R.q (q.ld 0 O O au O) O<|?_
 by_cases h1:p.aA<1
 .
  exact R.q (q.dD O O) O<|R.u 15 O<|R.nil<|R.az O O<|R.reg O<|R.q (q.iface O br) O<|R.u 1 O<|R.nil<|R.rv O Tryz.results151 O (dj (by decide) (by (exact km (by omega))))
 refine R.q (q.cU O O) O<|R.u 1 O<|R.qg O (q.aP O fw O) O<|R.qg O (q.ld 0 O O au O) O<|?_
 by_cases h2:4<p.aA
 .
  exact R.qg O (q.eM O O) O<|R.u 11 O<|R.nil<|R.az O O<|R.reg O<|R.q (q.iface O br) O<|R.u 1 O<|R.nil<|R.rv O Tryz.results151 O (dj (by decide) (by (exact km (by omega))))
 refine R.qg O (q.ey O O) O<|R.u 2 O<|R.qg O (q.aP O nH O) O<|R.qg O (q.ld 0 O O au O) O<|?_
 by_cases h3:p.Slot<0
 .
  exact R.qg O (q.dD O O) O<|R.u 6 O<|R.nil<|R.az O O<|R.reg O<|R.q (q.iface O br) O<|R.u 1 O<|R.nil<|R.rv O Tryz.results151 O (dj (by decide) (by (exact km (by omega))))
 refine R.qg O (q.cU O O) O<|R.u 2 O<|R.qg O (q.aP O nH O) O<|R.qg O (q.ld 0 O O au O) O<|?_
 by_cases h4:5<p.Slot
 .
  exact R.qg O (q.eM O O) O<|R.u 1 O<|R.nil<|R.az O O<|R.reg O<|R.q (q.iface O br) O<|R.u 1 O<|R.nil<|R.rv O Tryz.results151 O (dj (by decide) (by (exact km (by omega))))
 exact R.qg O (q.ey O O) O<|R.u 1 O<|R.nil<|R.aC O O<|R.reg O<|R.u 1 O<|R.nil<|R.rv O Tryz.results151 O (iJ (by (exact yx (by omega))))
theorem mV (bP:Value)(l:List Held)(p:Place)(w:World)(ez:Sl w bP l)(hl:l.length<=1000000):Calls Tryz.prog 169 #[bP,.agg #[iV p.aA,iV p.Slot]] w fun e w'=>e = .returned (iV (mQ l p))/\Ext w w':=by
 have zq:=ez.gV
 refine R.enter [] [(0,bP),(1,.agg #[iV p.aA,iV p.Slot])] Tryz.func169 O O O O<|R.reg O<|R.s O (s.box O O O) fun b1=>?_
 refine R.u 1 O<|R.nil<|R.reg O<|R.u 1 O<|R.q (q.cW 0 O O bO) O<|?_
 have VJ:=vB l p
 rcases tU l p with gS|⟨Ew,lW,gS,vh,AV⟩
 .
  refine R.c (q.call AH O O (fun w hw=>(cv (congrArg (fun b=>Value.tuple #[iV ((fW l p:Nat):Int),.bool b]) gS) (lp _ l p w ((fun _=>Wd.old ez) w hw) (by omega))))) O<|R.u 5 O<|R.nil ?_
  exact R.reg O<|R.u 2 O<|R.nil<|R.az O O<|R.reg O<|R.u 1 O<|R.nil<|R.rv O Tryz.results169 O (rI (by (exact (JU gS).symm)))
 refine R.c (q.call AH O O (fun w hw=>(cv (congrArg (fun b=>Value.tuple #[iV ((fW l p:Nat):Int),.bool b]) gS) (lp _ l p w ((fun _=>Wd.old ez) w hw) (by omega))))) O<|R.u 5 O<|R.nil ?_
 exact R.reg O<|R.u 2 O<|R.nil<|R.aC O O<|R.reg O<|R.u 2 O<|R.q (q.idx (i:=(fW l p)) (fun _=>Wd.old ez) O O cM O lW) O<|R.q (q.nD (j':=2) (fun _=>Wd.old ez) lW O jQ O) O<|R.q (q.lw (fun _=>Wd.old ez) lW O au O) O<|R.u 1 O<|R.nil<|R.rv O Tryz.results169 O (rI (by (exact (Gh gS lW).symm)))
theorem qE (bP:Value)(l:List Held)(p:Place)(id:Int)(w:World)(own:List Nat)(H:HN w own [] [ag.ls bP l])(hl:l.length<=100000):RC Tryz.prog 121 #[bP,.agg #[iV p.aA,iV p.Slot],iV id] H (fun z:Value=>z) (fun z=>[ag.row 124 z (fS l p id)]) (fun _=>[]):=by
 have yw:=H.ck 0 rfl
 refine R.bD [(0,bP),(1,.agg #[iV p.aA,iV p.Slot]),(2,iV id)] Tryz.func121 O O O O H<|R.reg O<|R.s O (s.box O O O) fun b1=>?_
 refine R.u 1 O<|R.nil<|R.reg O<|R.u 1 O<|R.s O (s.aT [0,1] [0] _ _ _ O O O EI O O (fun w own hw H=>nn bP l w own H (by omega)) O) fun z1=>?_
 refine R.u 1 O<|R.nil<|R.reg O<|R.u 1 O<|R.q (q.cW 1 O O bO) O<|?_
 have VJ:=vB l p
 rcases tU l p with gS|⟨Ew,lW,gS,vh,AV⟩
 .
  refine R.c (q.call AH O O (fun w hw=>(cv (congrArg (fun b=>Value.tuple #[iV ((fW l p:Nat):Int),.bool b]) gS) (lp _ l p w (hw.row 0 O) (by omega))))) O<|R.u 5 O<|R.nil ?_
  refine R.reg O<|R.u 6 O<|R.nil<|R.aC O O<|R.reg O<|R.u 2 O<|R.nil<|R.aC O O<|R.reg O<|R.u 1 O<|?_
  by_cases h1:id=0
  .
   refine R.q (q.fJ O O) O<|R.u 1 O<|R.nil<|R.az O O<|R.reg O<|R.u 2 O<|R.nil ?_
   have hz:fS l p id=l:=by (unfold fS;(rw [if_neg (by rw [gS];simp),if_pos ‹_›];done))
   rw [hz]
   exact R.w1 z1 [0,2] [] O Tryz.results121 (RV.tmp O) O O O O
  refine R.q (q.eX O O) O<|R.u 1 O<|R.nil<|R.aC O O<|R.reg O<|R.u 2 O<|R.q (q.cW 1 O O bO) O<|R.u 1 O<|R.q (q.build Jh O O) O<|R.s O (s.bs (l:=([(⟨p,id⟩:Held)]:List Held)) cM gW O O O O O O O) fun b2=>?_
  refine R.s O (s.aT [1,0,2,3] [] _ _ _ O O O Pw O O (fun w own hw H=>wP z1 l (fW l p) (.slice (some ⟨b2,0,none⟩) 1 1) ([(⟨p,id⟩:Held)]) w own H ‹_› rfl (by omega)) O) fun z2=>?_
  refine R.u 1 O<|R.nil ?_
  have hz:fS l p id=l.take (fW l p)++([(⟨p,id⟩:Held)])++l.drop (fW l p):=by (unfold fS;(rw [if_neg (by rw [gS];simp),if_neg ‹_›];done))
  rw [hz]
  exact R.w1 z2 [0,2] [] O Tryz.results121 (RV.tmp O) O O O O
 refine R.c (q.call AH O O (fun w hw=>(cv (congrArg (fun b=>Value.tuple #[iV ((fW l p:Nat):Int),.bool b]) gS) (lp _ l p w (hw.row 0 O) (by omega))))) O<|R.u 5 O<|R.nil ?_
 refine R.reg O<|R.u 3 O<|?_
 by_cases h2:id=0
 .
  refine R.qg O (q.fJ O O) O<|R.u 2 O<|R.nil<|R.az O O<|R.reg O<|R.u 3 O<|R.q (q.bC (r:=(((fW l p)+1:Nat):Int)) O O) O<|R.s O (s.aT [0,1,2] [] _ _ _ O O O Pv O O (fun w own hw H=>wO z1 l (fW l p) ((fW l p)+1) w own H (by omega)) O) fun z3=>?_
  refine R.u 1 O<|R.nil ?_
  have hz:fS l p id=l.take (fW l p)++l.drop ((fW l p)+1):=by (unfold fS;(rw [if_pos gS,if_pos ‹_›];done))
  rw [hz]
  exact R.w1 z3 [0,2] [] O Tryz.results121 (RV.tmp O) O O O O
 refine R.qg O (q.eX O O) O<|R.u 2 O<|R.nil<|R.aC O O<|R.reg O<|R.u 2 O<|R.nil<|R.az O O<|R.reg O<|R.u 3 O<|R.q (q.idx (i:=(fW l p)) (bE 0 O) O O cM O lW) O<|R.q (q.nD (j':=2) (bE 0 O) lW O jQ O) O<|R.s O (s.stP (o:=2) (z:=(⟨Ew.Place,id⟩:Held)) 0 _ O lW O O O O O (by simp [Value.oneCell']) (.inr ⟨au,rfl⟩) O) fun _=>?_
 refine R.nil<|R.reg O<|R.u 2 O<|R.nil ?_
 have hz:fS l p id=(l.set (fW l p) (⟨Ew.Place,id⟩:Held)):=by (unfold fS;(rw [if_pos gS,if_neg ‹_›,vh];done))
 rw [hz]
 exact R.w1 z1 [0,2] [] O Tryz.results121 (RV.tmp O) O O O O
theorem JV (bP:Value)(l:List Held)(h:Int)(w:World)(ez:Sl w bP l)(hl:l.length<=1000000):Calls Tryz.prog 128 #[bP,iV h] w fun e w'=>e = .returned (iV (i6 l h))/\Ext w w':=by
 have zq:=ez.gV
 refine R.enter [] [(0,bP),(1,iV h)] Tryz.func128 O O O O<|R.reg O<|R.u 1 O<|R.nil<|R.reg O<|R.u 1 O<|R.nil<|R.loop (fun i:Nat=>[(0,bP),(1,iV h),(6,iV (i:Int))]) (fun i:Nat=>[]) (fun i:Nat=>[]) (fun i:Nat=>i<=6/\mo l h (6-i) i=i6 l h) (fun i:Nat=>6-i) 0 O (by exact ⟨by omega,rfl⟩) (sF O) (iz [] [] O) ?_
 rintro i ⟨hs,HA⟩
 refine R.reg O<|?_
 by_cases h1:i<6
 .
  refine R.q (q.dD O O) O<|R.nil<|R.az O O<|R.reg O<|R.u 2 O<|R.nil<|R.reg O<|R.u 3 O<|R.q (q.build wn O O) O<|R.c (q.call AG O O (fun w hw=>(mV _ l (⟨h,(i:Int)⟩:Place) w ((fun _=>Wd.old ez) w hw) (by omega)))) O<|?_
  by_cases h2:mQ l (⟨h,(i:Int)⟩:Place)=0
  .
   exact R.q (q.fJ O O) O<|R.nil<|R.az O O<|R.reg O<|R.u 2 O<|R.nil<|R.rv O Tryz.results128 O (rI (by (rw [<- HA];exact (ET ‹_› (by omega)).symm)))
  refine R.q (q.eX O O) O<|R.nil<|R.aC O O<|R.reg O<|R.q (q.bC (r:=((i+1:Nat):Int)) O O) O<|R.u 1 O<|R.nil<|R.back (i+1) O (by (exact ⟨by omega,(CP ‹_› (by omega)).symm.trans HA⟩)) (by omega) (sF O) (iz [] [] O)
 exact R.q (q.cU O O) O<|R.nil<|R.aC O O<|R.reg O<|R.u 1 O<|R.nil<|R.rv O Tryz.results128 O (rI (by (rw [<- HA];have:i=6:=(by omega);subst this;rfl)))
end
section
open Go
theorem mW (a:ByteArray):a.toList=a.data.toList:=Lib.toList_data a
theorem gN {a b:ByteArray}(h:a.data.toList=b.data.toList):a=b:=by
 cases a with|mk x=>cases b with|mk y=>congr;exact Array.toList_inj.1 h
theorem lq (a b:ByteArray):jx a b=true↔a.data.toList<b.data.toList:=by
 unfold jx;rw [Proofs.bytesLess_eq,mW,mW];exact decide_eq_true_iff
theorem fc (a:ByteArray):jx a a=false:=by
 rw [Bool.eq_false_iff];intro h;exact List.lt_irrefl _ ((lq a a).1 h)
theorem l7 {a b c:ByteArray}(h:jx a b=true)(k:jx b c=true):jx a c=true:=(lq _ _).2 (List.lt_trans ((lq _ _).1 h) ((lq _ _).1 k))
theorem tV {a b:ByteArray}(h:jx a b=true):jx b a=false:=by
 rw [Bool.eq_false_iff];intro k;have:=l7 h k;rw [fc] at this;cases this
theorem CR:∀ (x y:List UInt8),x<y∨x=y∨y<x
 | [],[] => .inr (.inl rfl)
 | [],_::_ => .inl (List.Lex.nil)
 | _::_,[] => .inr (.inr (List.Lex.nil))
 | a::x,b::y=>by
  rcases Nat.lt_trichotomy a.toNat b.toNat with h|h|h
  .exact .inl (List.Lex.rel (UInt8.lt_iff_toNat_lt.2 h))
  .
   have e:a=b:=UInt8.toNat_inj.1 h
   subst e
   rcases CR x y with h|h|h
   .exact .inl (List.Lex.cons h)
   .exact .inr (.inl (by rw [h]))
   .exact .inr (.inr (List.Lex.cons h))
  .exact .inr (.inr (List.Lex.rel (UInt8.lt_iff_toNat_lt.2 h)))
theorem sV (a b:ByteArray):jx a b=true∨a=b∨jx b a=true:=by
 rcases CR a.data.toList b.data.toList with h|h|h
 .exact .inl ((lq _ _).2 h)
 .exact .inr (.inl (gN h))
 .exact .inr (.inr ((lq _ _).2 h))
theorem PS {a b:ByteArray}(h:jx a b=false)(hn:a≠b):jx b a=true:=by
 rcases sV a b with k|k|k
 .rw [h] at k;cases k
 .exact absurd k hn
 .exact k
def AW (a b:ByteArray):Int:=if jx a b=true then -1 else if a=b then 0 else 1
theorem CS:∀ (x y:List UInt8),Lib.compareBytes x y=if x<y then -1 else if x=y then 0 else 1
 | [],[]=>rfl
 | [],b::y=>by rw [if_pos (show ([]:List UInt8)<b::y from List.Lex.nil)];rfl
 | a::x,[]=>by rw [if_neg (show ¬ (a::x)<[] from List.not_lt_nil _),if_neg (by simp)];rfl
 | a::x,b::y=>by
  unfold Lib.compareBytes
  rw [CS x y]
  by_cases h:a<b
  .rw [if_pos h,if_pos (show a::x<b::y from List.Lex.rel h)]
  .
   rw [if_neg h]
   by_cases k:b<a
   .
    have hne:¬ a=b:=fun e=>by subst e;exact UInt8.lt_irrefl _ k
    rw [if_pos k,if_neg (fun hh=>by
     cases hh with
     | rel hh=>exact h hh
     | cons _=>exact hne rfl),if_neg (by simp [hne])]
   .
    have e:a=b:=UInt8.toNat_inj.1 (by have h1:=(not_congr UInt8.lt_iff_toNat_lt).1 h;have h2:=(not_congr UInt8.lt_iff_toNat_lt).1 k;omega)
    subst e
    rw [if_neg k]
    have hc:(a::x<a::y)=(x<y):=propext ⟨fun hh=>by
     cases hh with
     | rel hh=>exact absurd hh h
     | cons hh=>exact hh,fun hh=>List.Lex.cons hh⟩
    simp only [hc,List.cons.injEq,true_and]
theorem Gi (a b:ByteArray):Lib.compareBytes a.toList b.toList=AW a b:=by
 rw [CS,mW,mW];unfold AW
 have e:(a.data.toList=b.data.toList)=(a=b):=propext ⟨gN,fun h=>by rw [h]⟩
 by_cases h:jx a b=true
 .rw [if_pos ((lq _ _).1 h),if_pos h]
 .rw [if_neg (fun k=>h ((lq _ _).2 k)),if_neg h];simp only [e]
theorem zr {a b:ByteArray}:AW a b=0↔a=b:=by
 unfold AW
 by_cases h:jx a b=true
 .
  rw [if_pos h];constructor
  .intro k;cases k
  .intro k;subst k;rw [fc] at h;cases h
 .
  rw [if_neg h];by_cases k:a=b
  .rw [if_pos k];simp [k]
  .rw [if_neg k];simp [k]
theorem wQ {a b:ByteArray}:AW a b<0↔jx a b=true:=by
 unfold AW
 by_cases h:jx a b=true
 .rw [if_pos h];simp [h]
 .
  rw [if_neg h];by_cases k:a=b
  .rw [if_pos k];simp [h]
  .rw [if_neg k];simp [h]
end
section
open Go
def c0:Change:=⟨⟨#[]⟩,⟨#[]⟩,false⟩
def iH (c:Change):Int :=
  if c.Key=⟨#[]⟩∨(c.Gone=true/\¬ c.Val=⟨#[]⟩) then 3 else if 8<c.Key.size∨24<c.Val.size then 2 else 0
theorem bz (c:Change):iH c=0∨iH c=2∨iH c=3:=by unfold iH;(repeat' split) <;> simp
theorem gY {c:Change}(h:iH c=0):c.Key≠⟨#[]⟩/\(c.Gone=true->c.Val=⟨#[]⟩)/\c.Key.size<=8/\c.Val.size<=24:=by
 unfold iH at h
 split at h
 .cases h
 .
  split at h
  .cases h
  .
   rename_i h1 h2
   exact ⟨fun e=>h1 (.inl e),fun g=>Classical.byContradiction fun e=>h1 (.inr ⟨g,e⟩),by omega,by omega⟩
theorem JW {c:Change}(h1:c.Key≠⟨#[]⟩)(h2:c.Gone=true->c.Val=⟨#[]⟩)(h3:c.Key.size<=8)(h4:c.Val.size<=24):iH c=0:=by
 unfold iH
 rw [if_neg (fun h=>h.elim h1 (fun h=>h.2 (h2 h.1))),if_neg (by omega)]
def zt (b:Bool):UInt8:=if b=true then 1 else 0
def ka (c:Change):ByteArray×Int :=
  if iH c=0 then (⟨#[zt c.Gone,UInt8.ofNat c.Key.size]⟩++c.Key++c.Val,0) else (⟨#[]⟩,iH c)
def bf (s:ByteArray)(i:Nat):Nat:=((s.data[i]?).getD 0).toNat
theorem aK {s:ByteArray}{i:Nat}{x:UInt8}(h:s.data[i]? = some x):bf s i=x.toNat:=by unfold bf;rw [h];rfl
theorem qF (s:ByteArray)(i:Nat):bf s i<256:=by unfold bf;exact UInt8.toNat_lt _
def JX (s:ByteArray):Change:=⟨s.extract 2 (2+bf s 1),s.extract (2+bf s 1) s.size,decide (bf s 0=1)⟩
def rT (s:ByteArray):Change×Int :=
  if s.size<2∨1<bf s 0∨s.size<2+bf s 1 then (c0,4) else if iH (JX s)=0 then (JX s,0) else (c0,4)
abbrev bl (s:ByteArray):List UInt8:=s.data.toList
theorem eD (s:ByteArray):(bl s).length=s.size:=Array.length_toList
theorem iL (a b:ByteArray):bl (a++b)=bl a++bl b:=by simp [bl,ByteArray.data_append]
theorem i7 (s:ByteArray)(i j:Nat):bl (s.extract i j)=((bl s).take j).drop i:=by
 simp only [bl,ByteArray.data_extract,Array.toList_extract,List.extract_eq_take_drop]
 rw [List.drop_take]
theorem gZ (s:ByteArray)(i:Nat):bf s i=(((bl s)[i]?).getD 0).toNat:=by simp [bf,bl]
theorem JY {s:ByteArray}(h:s.size=0):s=⟨#[]⟩:=gN (by rw [List.eq_nil_of_length_eq_zero (l:=s.data.toList) (by rw [Array.length_toList];exact h)])
theorem nQ {n:Nat}(h:n<256):(UInt8.ofNat n).toNat=n:=by rw [UInt8.toNat_ofNat'];omega
theorem JZ {c:Change}(h:iH c=0):bl (ka c).1=zt c.Gone::UInt8.ofNat c.Key.size::(bl c.Key++bl c.Val):=by
 unfold ka;rw [if_pos h];simp only [iL];simp [bl]
theorem lB {c:Change}(h:iH c=0):(ka c).1.size=2+c.Key.size+c.Val.size:=by
 rw [<- eD,JZ h];simp only [List.length_cons,List.length_append,eD];omega
theorem Gj {c:Change}(h:iH c=0):rT (ka c).1=(c,0):=by
 obtain ⟨h1,h2,h3,h4⟩:=gY h
 have hb:=JZ h
 have hs:=lB h
 have b0:bf (ka c).1 0=(zt c.Gone).toNat:=by rw [gZ,hb];rfl
 have b1:bf (ka c).1 1=c.Key.size:=by rw [gZ,hb];exact nQ (by omega)
 have g:(zt c.Gone).toNat=1/\c.Gone=true∨(zt c.Gone).toNat=0/\c.Gone=false:=by cases c.Gone <;> simp [zt]
 have hof:JX (ka c).1=c:=by
  unfold JX
  rw [b0,b1]
  have e1:(ka c).1.extract 2 (2+c.Key.size)=c.Key:=gN (by
   have:=i7 (ka c).1 2 (2+c.Key.size)
   rw [hb] at this
   refine this.trans ?_
   rw [show 2+c.Key.size=c.Key.size+1+1 by omega,List.take_succ_cons,List.take_succ_cons,List.drop_succ_cons,List.drop_succ_cons,List.drop_zero,<- eD c.Key,List.take_left])
  have e2:(ka c).1.extract (2+c.Key.size) (ka c).1.size=c.Val:=gN (by
   have:=i7 (ka c).1 (2+c.Key.size) (ka c).1.size
   rw [hb] at this
   refine this.trans ?_
   rw [List.take_of_length_le (by simp only [List.length_cons,List.length_append,eD];omega),show 2+c.Key.size=c.Key.size+1+1 by omega,List.drop_succ_cons,List.drop_succ_cons,<- eD c.Key,List.drop_left])
  rw [e1,e2]
  rcases g with ⟨g1,g2⟩ | ⟨g1,g2⟩ <;> (rw [g1];cases c;simp_all)
 unfold rT
 rw [if_neg (by omega),hof,if_pos h]
def fK (k:ByteArray)(x:Change):Int:=AW x.Key k
def zu (rows:List Change)(c:Change):List Change :=
  if lI (fK c.Key) rows=true then (if c.Gone=true then rows.take (jC (fK c.Key) rows)++rows.drop (jC (fK c.Key) rows+1) else rows.set (jC (fK c.Key) rows) c)
  else if c.Gone=true then rows else rows.take (jC (fK c.Key) rows)++[c]++rows.drop (jC (fK c.Key) rows)
def bZ (rows l:List Change):List Change:=l.foldl zu rows
theorem oC {rows l:List Change}{k:Nat}{c:Change}(h:l[k]? = some c):bZ rows (l.take (k+1))=zu (bZ rows (l.take k)) c:=by
 unfold bZ;rw [List.take_add_one,h];simp
theorem Mk (rows:List Change)(c:Change):(zu rows c).length<=rows.length+1:=by
 unfold zu;(repeat' split) <;> simp <;> omega
theorem kU:∀ (l rows:List Change),(bZ rows l).length<=rows.length+l.length
 | [],rows=>by simp [bZ]
 | c::l,rows=>by
  have h1:=kU l (zu rows c)
  have h2:=Mk rows c
  show (bZ (zu rows c) l).length<=_
  rw [List.length_cons];omega
def dr (l:List Change):Prop:=l.Pairwise (fun a b=>jx a.Key b.Key=true)
inductive Cut (l:List Change)(k:ByteArray):Prop where
  | hit (A B:List Change) (x:Change) (e:l=A++x::B) (hx:x.Key=k) (ha:∀y∈A,jx y.Key k=true) (hb:∀y∈B,jx k y.Key=true)
  | miss (A B:List Change) (e:l=A++B) (ha:∀y∈A,jx y.Key k=true) (hb:∀y∈B,jx k y.Key=true)
theorem dr.cut:∀ {l:List Change} (h:dr l) (k:ByteArray),Cut l k
 | [],h,k => .miss [] [] rfl (fun y hy=>by cases hy) (fun y hy=>by cases hy)
 | x::l,h,k=>by
  obtain ⟨h1,h2⟩:=List.pairwise_cons.1 h
  rcases sV x.Key k with hl|hl|hl
  .
   rcases dr.cut h2 k with ⟨A,B,y,e,hy,ha,hb⟩ | ⟨A,B,e,ha,hb⟩
   .exact .hit (x::A) B y (by rw [e];rfl) hy (fun z hz=>by rcases List.mem_cons.1 hz with r|r;exact r▸hl;exact ha z r) hb
   .exact .miss (x::A) B (by rw [e];rfl) (fun z hz=>by rcases List.mem_cons.1 hz with r|r;exact r▸hl;exact ha z r) hb
  .subst hl;exact .hit [] l x rfl rfl (fun y hy=>by cases hy) h1
  .exact .miss [] (x::l) rfl (fun y hy=>by cases hy) (fun z hz=>by rcases List.mem_cons.1 hz with r|r;exact r▸hl;exact l7 hl (h1 z r))
theorem Oa {f:Change->Int}{A R:List Change}(ha:∀y∈A,f y<0)(hr:∀y∈R,¬ f y<0):jC f (A++R)=A.length:=by
 have hm:∀ (i j:Nat) x y,i<=j->(A++R)[i]? = some x->(A++R)[j]? = some y->f y<0->f x<0:=fun i j x y hij hx hy hf=>by
  by_cases hj:j<A.length
  .rw [List.getElem?_append_left (by omega)] at hx;exact ha x (List.mem_of_getElem? hx)
  .rw [List.getElem?_append_right (by omega)] at hy;exact absurd hf (hr y (List.mem_of_getElem? hy))
 obtain ⟨h1,h2⟩:=CO hm
 rcases Nat.lt_trichotomy (jC f (A++R)) A.length with h|h|h
 .
  have hg:=List.getElem?_eq_getElem h
  exact absurd (ha _ (List.mem_of_getElem? hg)) (h2 (jC f (A++R)) _ (Nat.le_refl _) (by rw [List.getElem?_append_left h];exact hg))
 .exact h
 .
  have hle:jC f (A++R)<=(A++R).length:=pU
  have hlt:A.length<(A++R).length:=by omega
  have hg:=List.getElem?_eq_getElem hlt
  have:=h1 A.length _ h hg
  rw [List.getElem?_append_right (Nat.le_refl _)] at hg
  exact absurd this (hr _ (List.mem_of_getElem? hg))
theorem AX {k:ByteArray}{x:Change}:fK k x<0↔jx x.Key k=true:=wQ
theorem EW {k:ByteArray}{x:Change}(h:jx k x.Key=true):¬ fK k x<0/\fK k x≠0:=by
 refine ⟨fun hh=>?_,fun hh=>?_⟩
 .have:=tV (AX.1 hh);rw [h] at this;cases this
 .have e:=zr.1 hh;rw [e,fc] at h;cases h
def mid (c:Change):List Change:=if c.Gone=true then [] else [c]
theorem EX {A B:List Change}{x:Change}{k:ByteArray}(hx:x.Key=k)(ha:∀y∈A,jx y.Key k=true)(hb:∀y∈B,jx k y.Key=true):jC (fK k) (A++x::B)=A.length/\lI (fK k) (A++x::B)=true:=by
 have e:jC (fK k) (A++x::B)=A.length:=Oa (fun y hy=>AX.2 (ha y hy)) (fun y hy=>by
  rcases List.mem_cons.1 hy with r|r
  .subst r;intro hh;have:=AX.1 hh;rw [hx,fc] at this;cases this
  .exact (EW (hb y r)).1)
 refine ⟨e,?_⟩
 unfold lI;rw [e,List.getElem?_append_right (Nat.le_refl _),Nat.sub_self]
 exact decide_eq_true (zr.2 hx)
theorem Gk {A B:List Change}{k:ByteArray}(ha:∀y∈A,jx y.Key k=true)(hb:∀y∈B,jx k y.Key=true):jC (fK k) (A++B)=A.length/\lI (fK k) (A++B)=false:=by
 have e:jC (fK k) (A++B)=A.length:=Oa (fun y hy=>AX.2 (ha y hy)) (fun y hy=>(EW (hb y hy)).1)
 refine ⟨e,?_⟩
 unfold lI;rw [e,List.getElem?_append_right (Nat.le_refl _),Nat.sub_self]
 cases B with
 | nil=>rfl
 | cons y B=>exact decide_eq_false (EW (hb y (List.mem_cons_self ..))).2
theorem Ml {A B:List Change}{x c:Change}(hx:x.Key=c.Key)(ha:∀y∈A,jx y.Key c.Key=true)(hb:∀y∈B,jx c.Key y.Key=true):zu (A++x::B) c=A++mid c++B:=by
 obtain ⟨e1,e2⟩:=EX hx ha hb
 unfold zu mid
 rw [if_pos e2,e1]
 split
 .rw [List.take_left,show A++x::B=(A++[x])++B by simp,show A.length+1=(A++[x]).length by simp,List.drop_left];simp
 .rw [List.set_append_right _ _ (Nat.le_refl _),Nat.sub_self];simp
theorem CU {A B:List Change}{c:Change}(ha:∀y∈A,jx y.Key c.Key=true)(hb:∀y∈B,jx c.Key y.Key=true):zu (A++B) c=A++mid c++B:=by
 obtain ⟨e1,e2⟩:=Gk ha hb
 unfold zu mid
 rw [if_neg (by rw [e2];simp),e1]
 split
 .simp
 .rw [List.take_left,List.drop_left]
theorem Gl {l:List Change}(h:dr l)(c:Change):∃A B,zu l c=A++mid c++B/\(∀y∈A,jx y.Key c.Key=true)/\(∀y∈B,jx c.Key y.Key=true)/\dr (A++B) /\ ∀y,y∈A++B↔y∈l/\y.Key≠c.Key:=by
 have hlt:∀ {y:Change},jx y.Key c.Key=true->y.Key≠c.Key:=fun h e=>by rw [e,fc] at h;cases h
 have hgt:∀ {y:Change},jx c.Key y.Key=true->y.Key≠c.Key:=fun h e=>by rw [e,fc] at h;cases h
 rcases h.cut c.Key with ⟨A,B,x,rfl,hx,ha,hb⟩ | ⟨A,B,rfl,ha,hb⟩
 .
  refine ⟨A,B,Ml hx ha hb,ha,hb,?_,fun y=>?_⟩
  .
   obtain ⟨h1,h2,h3⟩:=List.pairwise_append.1 h
   exact List.pairwise_append.2 ⟨h1,(List.pairwise_cons.1 h2).2,fun a ha b hb=>h3 a ha b (List.mem_cons_of_mem _ hb)⟩
  .
   simp only [List.mem_append,List.mem_cons]
   constructor
   .
    rintro (h|h)
    .exact ⟨.inl h,hlt (ha y h)⟩
    .exact ⟨.inr (.inr h),hgt (hb y h)⟩
   .
    rintro ⟨h|h|h,k⟩
    .exact .inl h
    .subst h;exact absurd hx k
    .exact .inr h
 .
  refine ⟨A,B,CU ha hb,ha,hb,h,fun y=>⟨fun hy=>⟨hy,?_⟩,And.left⟩⟩
  rcases List.mem_append.1 hy with h|h
  .exact hlt (ha y h)
  .exact hgt (hb y h)
theorem wR {l:List Change}(h:dr l)(c:Change):dr (zu l c):=by
 obtain ⟨A,B,e,ha,hb,hr,_⟩:=Gl h c
 rw [e]
 obtain ⟨h1,h2,h3⟩:=List.pairwise_append.1 hr
 unfold mid
 split
 .rw [List.append_nil];exact hr
 .exact List.pairwise_append.2 ⟨List.pairwise_append.2 ⟨h1,List.pairwise_singleton _ _,fun a Ug b hbb=>by rw [List.mem_singleton.1 hbb];exact ha a Ug⟩,h2,fun a Ug b hbb=>by
   rcases List.mem_append.1 Ug with q|q
   .exact h3 a q b hbb
   .rw [List.mem_singleton.1 q];exact hb b hbb⟩
theorem Gm {l:List Change}(h:dr l){c y:Change}:y∈zu l c↔(y∈l/\y.Key≠c.Key)∨(c.Gone=false/\y=c):=by
 obtain ⟨A,B,e,ha,hb,hr,hm⟩:=Gl h c
 rw [e,<- hm y]
 simp only [List.mem_append,mid]
 cases c.Gone
 .
  rw [if_neg (by decide)]
  simp only [List.mem_singleton,true_and]
  constructor
  .
   rintro ((h|h)|h)
   .exact .inl (.inl h)
   .exact .inr h
   .exact .inl (.inr h)
  .
   rintro ((h|h)|h)
   .exact .inl (.inl h)
   .exact .inr h
   .exact .inl (.inr h)
 .
  rw [if_pos rfl]
  simp
theorem rU:∀ (l:List Change) {rows:List Change},dr rows->dr (bZ rows l)
 | [],rows,h=>h
 | c::l,rows,h=>rU l (wR h c)
theorem tW:∀ (a b:List Change),dr a->dr b->(∀x,x∈a↔x∈b)->a=b
 | [],[],_,_,_=>rfl
 | [],y::b,_,_,h=>absurd ((h y).2 (List.mem_cons_self ..)) (by simp)
 | x::a,[],_,_,h=>absurd ((h x).1 (List.mem_cons_self ..)) (by simp)
 | x::a,y::b,ha,hb,h=>by
  obtain ⟨a1,a2⟩:=List.pairwise_cons.1 ha
  obtain ⟨b1,b2⟩:=List.pairwise_cons.1 hb
  have no:∀ {u v:Change},jx u.Key v.Key=true->jx v.Key u.Key=true->False:=fun h k=>by
   have:=tV h;rw [k] at this;cases this
  have hxy:x=y:=by
   rcases List.mem_cons.1 ((h x).1 (List.mem_cons_self ..)) with e|e
   .exact e
   .
    rcases List.mem_cons.1 ((h y).2 (List.mem_cons_self ..)) with e2|e2
    .exact e2.symm
    .exact (no (b1 x e) (a1 y e2)).elim
  subst hxy
  congr 1
  refine tW a b a2 b2 fun z=>⟨fun hz=>?_,fun hz=>?_⟩
  .
   rcases List.mem_cons.1 ((h z).1 (List.mem_cons_of_mem _ hz)) with e|e
   .subst e;have:=a1 z hz;rw [fc] at this;cases this
   .exact e
  .
   rcases List.mem_cons.1 ((h z).2 (List.mem_cons_of_mem _ hz)) with e|e
   .subst e;have:=b1 z hz;rw [fc] at this;cases this
   .exact e
end
end Go.Proofs.YtkbhcbipadkcaaaGreatDoor
