import Derived.Test.YtbkfhjaibhnkmaaGreatDoorTRP13
section
namespace Go.Proofs.YtbkfhjaibhnkmaaGreatDoor
set_option linter.unusedVariables false
def aW (p:Place):Int:=if p.ag<1∨4<p.ag∨p.Slot<0∨5<p.Slot then 1 else 0
def j9 (p q:Place):Int:=if j8 p.ag q.ag=0 then j8 p.Slot q.Slot else j8 p.ag q.ag
theorem wN (p q:Place):uQ [j8 p.ag q.ag,j8 p.Slot q.Slot]=j9 p q:=by
  simp only [uQ,j9]
  split
  ·
    split
    · rename_i h;exact h.symm
    · rfl
  · rfl
theorem tq {p q:Place}(h:j9 p q=0):p=q:=by
  cases p;cases q
  simp only [j9,j8] at h
  simp only [Place.mk.injEq]
  split at h <;> (try split at h) <;> (try split at h) <;> (try split at h) <;> omega
theorem tr (p:Place):j9 p p=0:=by simp [j9,j8]
def dt (l:List Held)(p:Place):Nat:=wJ (fun h=>j9 h.Place p) l
def tt (l:List Held)(p:Place):Bool:=wK (fun h=>j9 h.Place p) l
theorem mH (l:List Held)(p:Place):dt l p≤l.length:=yE
theorem lE (l:List Held)(p:Place):tt l p=false ∨ ∃x,l[dt l p]? = some x∧tt l p=true∧x.Place=p∧dt l p<l.length:=by
  cases h:tt l p with
  | false=>exact .inl rfl
  | true =>
    obtain ⟨x,h1,h2⟩:=uO h
    exact .inr ⟨x,h1,rfl,tq h2,(List.getElem?_eq_some_iff.1 h1).1⟩
def hY (l:List Held)(p:Place):Int:=if tt l p then (match l[dt l p]? with|some x=>x.ak|none=>0) else 0
theorem qN {l:List Held}{p:Place}(h:tt l p=false):hY l p=0:=by simp [hY,h]
theorem o6 {l:List Held}{p:Place}{x:Held}(h:tt l p=true)(hx:l[dt l p]? = some x):hY l p=x.ak:=by simp [hY,h,hx]
def ck (l:List Held)(p:Place)(id:Int):List Held :=
  if tt l p then (if id=0 then l.take (dt l p)++l.drop (dt l p+1) else l.set (dt l p) ⟨p,id⟩)
  else if id=0 then l else l.take (dt l p)++[⟨p,id⟩]++l.drop (dt l p)
theorem iy (l:List Held)(p:Place)(id:Int):(ck l p id).length≤l.length+1:=by
  have:=mH l p
  unfold ck;split <;> split <;> simp <;> omega
def gN (l:List Held)(h:Int):Nat→Nat→Int
  | 0,_ => -1
  | n+1,s=>if hY l ⟨h,s⟩=0 then s else gN l h n (s+1)
def dR (l:List Held)(h:Int):Int:=gN l h 6 0
theorem qO {l:List Held}{h:Int}{n s:Nat}(e:hY l ⟨h,s⟩=0)(hn:0<n):gN l h n s=s:=by
  cases n with
  | zero=>omega
  | succ n=>simp [gN,e]
theorem pQ {l:List Held}{h:Int}{s:Nat}(e:¬ hY l ⟨h,s⟩=0)(hs:s<6):gN l h (6-s) s=gN l h (6-(s+1)) (s+1):=by
  have:6-s=(6-(s+1))+1:=by omega
  rw [this];simp only [gN];rw [if_neg e]
def l1 (l:List Held)(p:Place):Int:=match l.find? (fun h=>h.Place==p) with|some h=>h.ak|none=>0
def iU (p:Place)(id:Int)(s:List Held×Bool)(h:Held):List Held×Bool :=
  let s1:=if s.2=false∧(p.ag<h.Place.ag∨(p.ag=h.Place.ag∧p.Slot≤h.Place.Slot)) then (s.1++[⟨p,id⟩],true) else s
  (if h.Place=p then s1.1 else s1.1++[h],s1.2)
theorem ni {p:Place}{id:Int}{acc:List Held}{h:Held}(ho:p.ag<h.Place.ag∨(p.ag=h.Place.ag∧p.Slot≤h.Place.Slot)):iU p id (acc,false) h=(if h.Place=p then acc++[⟨p,id⟩] else acc++[⟨p,id⟩]++[h],true):=by
  unfold iU;rw [if_pos ⟨rfl,ho⟩]
theorem jB {p:Place}{id:Int}{acc:List Held}{b:Bool}{h:Held}(ho:b=true∨¬ (p.ag<h.Place.ag∨(p.ag=h.Place.ag∧p.Slot≤h.Place.Slot))):iU p id (acc,b) h=(if h.Place=p then acc else acc++[h],b):=by
  unfold iU;rw [if_neg (fun hh=>by
                                           rcases ho with ho|ho;· rw [ho] at hh;cases hh.1
                                           · exact ho hh.2)]
def pR (l:List Held)(p:Place)(id:Int):List Held×Bool:=l.foldl (iU p id) ([],id==0)
def qP (l:List Held)(p:Place)(id:Int):List Held:=if (pR l p id).2 then (pR l p id).1 else (pR l p id).1++[⟨p,id⟩]
theorem eX {p:Place}(h:p.ag<1∨4<p.ag∨p.Slot<0∨5<p.Slot):aW p=1:=if_pos h
theorem cS {p:Place}(h:1≤p.ag∧p.ag≤4∧0≤p.Slot∧p.Slot≤5):aW p=0:=if_neg (by omega)
theorem bS {p:Place}(h:aW p=0):1≤p.ag∧p.ag≤4∧0≤p.Slot∧p.Slot≤5:=by
  unfold aW at h;split at h <;> omega
def fD (p q:Place):Prop:=p.ag<q.ag∨(p.ag=q.ag∧p.Slot<q.Slot)
def GoodAt (l:List Held)(k:Nat):Prop:= ∀h,l[k]? = some h→aW h.Place=0∧h.ak≠0 ∧ ∀g,0<k→l[k-1]? = some g→fD g.Place h.Place
def Good (l:List Held):Prop:= ∀k,k<l.length→GoodAt l k
end Go.Proofs.YtbkfhjaibhnkmaaGreatDoor
end
section
namespace Go.Proofs.YtbkfhjaibhnkmaaGreatDoor
open Go Go.RowKit
set_option linter.unusedVariables false
theorem kf (pS:Value)(a:List ak)(pT:Value)(b:List ak)(w:World)(nj:Sl w pS a)(oz:Sl w pT b):Calls Tryz.prog 52 #[pS,pT] w fun e w'=>e = .returned (.bool (decide (a=b)))∧Ext w w':=by
  have B5:=nj.dQ
  have B6:=oz.dQ
  refine R.enter (n:=26) (vs:=[pS,pT]) [] [(0,pS),(1,pT)] Tryz.func52 rfl rfl rfl rfl ?_
  refine R.reg rfl<|R.u 1 rfl<|R.nil ?_
  refine R.reg rfl<|R.u 1 rfl<|R.q (q.len' (fun _=>Wd.old nj) rfl Tryz.underlying27) rfl<|R.u 1 rfl<|R.q (q.len' (fun _=>Wd.old oz) rfl Tryz.underlying27) rfl<|?_
  by_cases h1:a.length=b.length
  ·
    refine R.q (q.neq rfl rfl (bne_eq_false_iff_eq.2 (by omega))) rfl<|R.nil ?_
    refine R.aH rfl rfl ?_
    refine R.reg rfl<|R.u 1 rfl<|R.nil ?_
    refine R.loop (fun k:Nat=>[(0,pS),(1,pT),(5,.int .i64 (k:Int))]) (fun k:Nat=>[]) (fun k:Nat=>[]) (fun k:Nat=>k≤a.length ∧ ∀j,j<k→a[j]? = b[j]?) (fun k:Nat=>a.length-k) 0 rfl (by exact ⟨by omega,fun j hj=>absurd hj (Nat.not_lt_zero _)⟩) ⟨rfl,rfl,rfl,trivial⟩ (fun _=>Wd.pick [] [] rfl rfl rfl) ?_
    rintro k ⟨hk,HA⟩
    refine R.reg rfl<|R.u 2 rfl<|R.q (q.len' (fun _=>Wd.old nj) rfl Tryz.underlying27) rfl<|?_
    by_cases h2:k<a.length
    ·
      refine R.q (q.lss rfl rfl (decide_eq_true (by omega))) rfl<|R.nil ?_
      refine R.aE rfl rfl ?_
      obtain ⟨x1,hx1⟩:∃z,a[k]? = some z:=⟨_,List.getElem?_eq_getElem (by omega)⟩
      obtain ⟨x2,hx2⟩:∃z,b[k]? = some z:=⟨_,List.getElem?_eq_getElem (by omega)⟩
      by_cases h3:x1=x2
      ·
        refine R.eU rfl mixed (by kernel_rfl)<|Q.u 2 rfl<|Q.q (q.idx (i:=k) (fun _=>Wd.old nj) rfl rfl ct rfl hx1) rfl<|Q.q (q.dY (ds:=[.int .i64 x1.ID,.int .i64 x1.ai,.int .i64 x1.Rights,.int .i64 x1.ar,.int .i64 x1.From]) (fun _=>Wd.old nj) hx1 rfl aN rfl) rfl<|Q.u 2 rfl<|Q.q (q.idx (i:=k) (fun _=>Wd.old oz) rfl rfl ct rfl hx2) rfl<|Q.q (q.dY (ds:=[.int .i64 x2.ID,.int .i64 x2.ai,.int .i64 x2.Rights,.int .i64 x2.ar,.int .i64 x2.From]) (fun _=>Wd.old oz) hx2 rfl aN rfl) rfl<|Q.q (q.oh (x:=x1) (y:=x2) oy rfl rfl h3) rfl<|Q.nil ?_
        refine R.aH rfl rfl ?_
        refine R.reg rfl<|R.u 1 rfl<|R.q (q.add (r:=((k+1:Nat):Int)) rfl rfl (wr (by omega))) rfl<|R.u 1 rfl<|R.nil ?_
        refine R.back (k+1) rfl (by (exact ⟨by omega,iu HA hx1 hx2 (by assumption)⟩)) (by omega) ⟨rfl,rfl,rfl,trivial⟩ (fun _=>Wd.pick [] [] rfl rfl rfl)
      ·
        refine R.eU rfl mixed (by kernel_rfl)<|Q.u 2 rfl<|Q.q (q.idx (i:=k) (fun _=>Wd.old nj) rfl rfl ct rfl hx1) rfl<|Q.q (q.dY (ds:=[.int .i64 x1.ID,.int .i64 x1.ai,.int .i64 x1.Rights,.int .i64 x1.ar,.int .i64 x1.From]) (fun _=>Wd.old nj) hx1 rfl aN rfl) rfl<|Q.u 2 rfl<|Q.q (q.idx (i:=k) (fun _=>Wd.old oz) rfl rfl ct rfl hx2) rfl<|Q.q (q.dY (ds:=[.int .i64 x2.ID,.int .i64 x2.ai,.int .i64 x2.Rights,.int .i64 x2.ar,.int .i64 x2.From]) (fun _=>Wd.old oz) hx2 rfl aN rfl) rfl<|Q.q (q.om (x:=x1) (y:=x2) oy rfl rfl h3) rfl<|Q.nil ?_
        refine R.aE rfl rfl ?_
        refine R.reg rfl<|R.u 1 rfl<|R.nil ?_
        exact R.rv rfl Tryz.results52 rfl (rB (by (first|exact fG (by assumption)|exact eW (by assumption) (by assumption) HA|exact fH hx1 hx2 (by assumption))))
    ·
      refine R.q (q.lss rfl rfl (decide_eq_false (by omega))) rfl<|R.nil ?_
      refine R.aH rfl rfl ?_
      refine R.reg rfl<|R.u 1 rfl<|R.nil ?_
      exact R.rv rfl Tryz.results52 rfl (rB (by (first|exact fG (by assumption)|exact eW (by assumption) (by assumption) HA|exact fH hx1 hx2 (by assumption))))
  ·
    refine R.q (q.neq rfl rfl (bne_iff_ne.2 (by omega))) rfl<|R.nil ?_
    refine R.aE rfl rfl ?_
    refine R.reg rfl<|R.u 1 rfl<|R.nil ?_
    exact R.rv rfl Tryz.results52 rfl (rB (by (first|exact fG (by assumption)|exact eW (by assumption) (by assumption) HA|exact fH hx1 hx2 (by assumption))))
theorem gw (pS:Value)(a:List Held)(pT:Value)(b:List Held)(w:World)(nj:Sl w pS a)(oz:Sl w pT b):Calls Tryz.prog 53 #[pS,pT] w fun e w'=>e = .returned (.bool (decide (a=b)))∧Ext w w':=by
  have B5:=nj.dQ
  have B6:=oz.dQ
  refine R.enter (n:=26) (vs:=[pS,pT]) [] [(0,pS),(1,pT)] Tryz.func53 rfl rfl rfl rfl ?_
  refine R.reg rfl<|R.u 1 rfl<|R.nil ?_
  refine R.reg rfl<|R.u 1 rfl<|R.q (q.len' (fun _=>Wd.old nj) rfl Tryz.underlying29) rfl<|R.u 1 rfl<|R.q (q.len' (fun _=>Wd.old oz) rfl Tryz.underlying29) rfl<|?_
  by_cases h1:a.length=b.length
  ·
    refine R.q (q.neq rfl rfl (bne_eq_false_iff_eq.2 (by omega))) rfl<|R.nil ?_
    refine R.aH rfl rfl ?_
    refine R.reg rfl<|R.u 1 rfl<|R.nil ?_
    refine R.loop (fun k:Nat=>[(0,pS),(1,pT),(5,.int .i64 (k:Int))]) (fun k:Nat=>[]) (fun k:Nat=>[]) (fun k:Nat=>k≤a.length ∧ ∀j,j<k→a[j]? = b[j]?) (fun k:Nat=>a.length-k) 0 rfl (by exact ⟨by omega,fun j hj=>absurd hj (Nat.not_lt_zero _)⟩) ⟨rfl,rfl,rfl,trivial⟩ (fun _=>Wd.pick [] [] rfl rfl rfl) ?_
    rintro k ⟨hk,HA⟩
    refine R.reg rfl<|R.u 2 rfl<|R.q (q.len' (fun _=>Wd.old nj) rfl Tryz.underlying29) rfl<|?_
    by_cases h2:k<a.length
    ·
      refine R.q (q.lss rfl rfl (decide_eq_true (by omega))) rfl<|R.nil ?_
      refine R.aE rfl rfl ?_
      obtain ⟨x1,hx1⟩:∃z,a[k]? = some z:=⟨_,List.getElem?_eq_getElem (by omega)⟩
      obtain ⟨x2,hx2⟩:∃z,b[k]? = some z:=⟨_,List.getElem?_eq_getElem (by omega)⟩
      by_cases h3:x1=x2
      ·
        refine R.eU rfl mixed (by kernel_rfl)<|Q.u 2 rfl<|Q.q (q.idx (i:=k) (fun _=>Wd.old nj) rfl rfl bH rfl hx1) rfl<|Q.q (q.dY (ds:=[.int .i64 x1.Place.ag,.int .i64 x1.Place.Slot,.int .i64 x1.ak]) (fun _=>Wd.old nj) hx1 rfl dV rfl) rfl<|Q.u 2 rfl<|Q.q (q.idx (i:=k) (fun _=>Wd.old oz) rfl rfl bH rfl hx2) rfl<|Q.q (q.dY (ds:=[.int .i64 x2.Place.ag,.int .i64 x2.Place.Slot,.int .i64 x2.ak]) (fun _=>Wd.old oz) hx2 rfl dV rfl) rfl<|Q.q (q.oh (x:=x1) (y:=x2) xS rfl rfl h3) rfl<|Q.nil ?_
        refine R.aH rfl rfl ?_
        refine R.reg rfl<|R.u 1 rfl<|R.q (q.add (r:=((k+1:Nat):Int)) rfl rfl (wr (by omega))) rfl<|R.u 1 rfl<|R.nil ?_
        refine R.back (k+1) rfl (by (exact ⟨by omega,iu HA hx1 hx2 (by assumption)⟩)) (by omega) ⟨rfl,rfl,rfl,trivial⟩ (fun _=>Wd.pick [] [] rfl rfl rfl)
      ·
        refine R.eU rfl mixed (by kernel_rfl)<|Q.u 2 rfl<|Q.q (q.idx (i:=k) (fun _=>Wd.old nj) rfl rfl bH rfl hx1) rfl<|Q.q (q.dY (ds:=[.int .i64 x1.Place.ag,.int .i64 x1.Place.Slot,.int .i64 x1.ak]) (fun _=>Wd.old nj) hx1 rfl dV rfl) rfl<|Q.u 2 rfl<|Q.q (q.idx (i:=k) (fun _=>Wd.old oz) rfl rfl bH rfl hx2) rfl<|Q.q (q.dY (ds:=[.int .i64 x2.Place.ag,.int .i64 x2.Place.Slot,.int .i64 x2.ak]) (fun _=>Wd.old oz) hx2 rfl dV rfl) rfl<|Q.q (q.om (x:=x1) (y:=x2) xS rfl rfl h3) rfl<|Q.nil ?_
        refine R.aE rfl rfl ?_
        refine R.reg rfl<|R.u 1 rfl<|R.nil ?_
        exact R.rv rfl Tryz.results53 rfl (rB (by (first|exact fG (by assumption)|exact eW (by assumption) (by assumption) HA|exact fH hx1 hx2 (by assumption))))
    ·
      refine R.q (q.lss rfl rfl (decide_eq_false (by omega))) rfl<|R.nil ?_
      refine R.aH rfl rfl ?_
      refine R.reg rfl<|R.u 1 rfl<|R.nil ?_
      exact R.rv rfl Tryz.results53 rfl (rB (by (first|exact fG (by assumption)|exact eW (by assumption) (by assumption) HA|exact fH hx1 hx2 (by assumption))))
  ·
    refine R.q (q.neq rfl rfl (bne_iff_ne.2 (by omega))) rfl<|R.nil ?_
    refine R.aE rfl rfl ?_
    refine R.reg rfl<|R.u 1 rfl<|R.nil ?_
    exact R.rv rfl Tryz.results53 rfl (rB (by (first|exact fG (by assumption)|exact eW (by assumption) (by assumption) HA|exact fH hx1 hx2 (by assumption))))
end Go.Proofs.YtbkfhjaibhnkmaaGreatDoor
end
