import Derived.Test.YtbkfhjaibhnkmaaGreatDoorIMS12
import Derived.Test.YtbkfhjaibhnkmaaGreatDoorIMS20
namespace Go.Proofs.YtbkfhjaibhnkmaaGreatDoor
set_option linter.unusedVariables false
def r0:ar:=⟨[],[],[],[],0,0⟩
def n0:Note:=⟨0,⟨#[]⟩,0,0⟩
structure Ok (r:ar):Prop where
  wl:r.ai.length≤2000
  tl:r.Things.length≤2000
  hl:r.Held.length≤2000
  nl:r.Notes.length≤2000
  ri:∀w∈r.ai,0≤w.Rights∧w.Rights≤7
  w0:0≤r.ae
  w1:r.ae≤2000
  t0:0≤r.af
  t1:r.af≤2000
def Fx (l:List ak)(id:Int):Option ak:=l.find? (fun w=>w.ID==id)
theorem Fy {l:List ak}{id:Int}{j:Nat}{x:ak}(hf:cB l id=(j:Int))(hx:l[j]? = some x):Fx l id=some x:=by
 rcases iF (l:=l) (id:=id) with ⟨h1,h2⟩ | ⟨k,hk,h1,h2⟩
 ·omega
 ·
  have:k=j:=by omega
  subst this
  rw [List.getElem?_eq_getElem hk] at hx;injection hx with hx
  unfold Fx;rw [h2,hx]
theorem Fz {l:List ak}{id:Int}(hf:cB l id = -1):Fx l id=none:=by
 rcases iF (l:=l) (id:=id) with ⟨h1,h2⟩ | ⟨k,hk,h1,h2⟩
 ·exact h2
 ·omega
theorem Bw {l:List ak}{id:Int}{x:ak}(h:Fx l id=some x):x∈l∧x.ID=id:=by
 unfold Fx at h
 exact ⟨List.mem_of_find?_eq_some h,by simpa using List.find?_some h⟩
def au (r:ar)(p:Place):ak×Int :=
  if bu p=0 then (match Fx r.ai (jY r.Held p) with|some w=>(w,0)|none=>(gO,5)) else (gO,bu p)
theorem mo {r:ar}{p:Place}(h:¬ bu p=0):au r p=(gO,bu p):=by unfold au;rw [if_neg h]
theorem mT {r:ar}{p:Place}(h:bu p=0)(hf:cB r.ai (jY r.Held p) = -1):au r p=(gO,5):=by unfold au;rw [if_pos h,Fz hf]
theorem oC {r:ar}{p:Place}{j:Nat}{x:ak}(h:bu p=0)(hf:cB r.ai (jY r.Held p)=(j:Int))(hx:r.ai[j]? = some x):au r p=(x,0):=by unfold au;rw [if_pos h,Fy hf hx]
theorem mU {r:ar}{p:Place}(h:(au r p).2=0):bu p=0∧(au r p).1∈r.ai∧(au r p).1.ID=jY r.Held p:=by
 by_cases h1:bu p=0
 ·
  cases h2:Fx r.ai (jY r.Held p) with
  | none=>unfold au at h;rw [if_pos h1,h2] at h;simp at h
  | some w =>
   have e:au r p=(w,0):=by unfold au;rw [if_pos h1,h2]
   have:=Bw h2
   rw [e];exact ⟨h1,this.1,this.2⟩
 ·rw [mo h1] at h;exact absurd h h1
theorem eC (r:ar)(p:Place):0≤(au r p).2:=by
 unfold au;split
 ·split <;> simp
 ·have:=eu p;dsimp only;omega
theorem Ok.get {r:ar}(h:Ok r){p:Place}(hg:(au r p).2=0):0≤(au r p).1.Rights∧(au r p).1.Rights≤7:=h.ri _ (mU hg).2.1
def d9 (r:ar)(p:Place):Int:=if bu p=0 then (if jY r.Held p=0 then 0 else 6) else bu p
theorem eX (r:ar)(p:Place):0≤d9 r p:=by
 unfold d9;have:=eu p;split
 ·split <;> simp
 ·omega
def bz (r:ar)(w:ak)(p:Place):ar:=⟨r.ai++[w],r.Things,if 0<p.aj then cw r.Held p w.ID else r.Held,r.Notes,r.ae+1,r.af⟩
def bT (r:ar)(p:Place)(kind:Int):ar×Int :=
  if kind=1∨kind=2 then
    if d9 r p=0 then
      if r.Things.length=10∨999<r.af∨999<r.ae then (r0,9)
      else (bz ⟨r.ai,r.Things++[⟨r.af,kind,⟨#[]⟩⟩],r.Held,r.Notes,r.ae,r.af+1⟩ ⟨r.ae,r.af,7,0,0⟩ p,0)
    else (r0,d9 r p)
  else (r0,8)
def cb (r:ar)(p t:Place)(rights aJ:Int):ar×Int :=
  if (au r p).2=0 then
    if d9 r t=0 then
      if p.aj=t.aj∨fF (au r p).1.Rights 4=true then
        if 999<r.ae then (r0,9)
        else if (derived (au r p).1 r.ae rights aJ).2=0 then (bz r (derived (au r p).1 r.ae rights aJ).1 t,0)
        else (r0,(derived (au r p).1 r.ae rights aJ).2)
      else (r0,7)
    else (r0,d9 r t)
  else (r0,(au r p).2)
def cQ (r:ar)(p:Place)(slot:Int):ar×Int :=
  if (au r p).2=0 then
    if d9 r ⟨p.aj,slot⟩=0 then (⟨r.ai,r.Things,cw (cw r.Held p 0) ⟨p.aj,slot⟩ (au r p).1.ID,r.Notes,r.ae,r.af⟩,0)
    else (r0,d9 r ⟨p.aj,slot⟩)
  else (r0,(au r p).2)
def aX (l:List ak):List Int:=Lib.compact (jM (l.map ak.ao))
def gN (ws:List ak)(n:Note):Note:=if cB ws n.ak<0 then ⟨n.Port,n.Data,n.aI,0⟩ else n
def fH (ws:List ak)(ts:List Int)(ns:List Note):List Note:=(ns.map (gN ws)).filter (fun n=>decide (n.Port∈ts))
def f5 (ws:List ak)(ts:List Int)(ns:List Note):List Int:=((ns.map (gN ws)).filter (fun n => !decide (n.Port∈ts)&&decide (0<n.ak))).map Note.ak
def eS (r:ar):ar:=⟨r.ai,r.Things.filter (fun t => !!decide (t.ID∈aX r.ai)),r.Held.filter (fun h => !decide (cB r.ai h.ak<0)),fH r.ai (aX r.ai) r.Notes,r.ae,r.af⟩
def ka (r:ar):List Int:=f5 r.ai (aX r.ai) r.Notes
def jm (r:ar):ar:=⟨(ka r).foldl without r.ai,(eS r).Things,(eS r).Held,(eS r).Notes,r.ae,r.af⟩
def im:Nat→ar→ar
  | 0,r=>eS r
  | n+1,r=>if (ka r).length=0 then eS r else im n (jm r)
def aY (r:ar):ar:=im (r.Notes.length+1) r
theorem kN (ws:List ak)(ts:List Int)(ns:List Note):(fH ws ts ns).length+(f5 ws ts ns).length≤ns.length:=by
 have h:∀l:List Note,(l.filter (fun n=>decide (n.Port∈ts))).length+(l.filter (fun n => !decide (n.Port∈ts)&&decide (0<n.ak))).length≤l.length:=by
  intro l
  induction l with
  | nil=>simp
  | cons n l ih =>
   rw [List.filter_cons,List.filter_cons,List.length_cons]
   by_cases h:n.Port∈ts
   ·rw [if_pos (by simpa using h),if_neg (by simp [h]),List.length_cons];omega
   ·
    rw [if_neg (by simpa using h)]
    split
    ·rw [List.length_cons];omega
    ·omega
 have:=h (ns.map (gN ws))
 simpa [fH,f5] using this
theorem lx {r:ar}(h:¬ (ka r).length=0):(jm r).Notes.length<r.Notes.length:=by
 have:=kN r.ai (aX r.ai) r.Notes
 show (fH r.ai (aX r.ai) r.Notes).length<_
 unfold ka at h;omega
theorem oD:∀ (n m:Nat) (r:ar),r.Notes.length<n→r.Notes.length<m→im n r=im m r
 | 0,m,r,h,_=>by omega
 | n+1,0,r,_,h=>by omega
 | n+1,m+1,r,h1,h2=>by
  simp only [im]
  split
  ·rfl
  ·
   have:=lx (r:=r) (by assumption)
   exact oD n m _ (by omega) (by omega)
theorem kb {r:ar}(h:(ka r).length=0):aY r=eS r:=by
 unfold aY im;rw [if_pos h]
theorem pY {r:ar}(h:¬ (ka r).length=0):aY r=aY (jm r):=by
 have:=lx h
 conv=>lhs;unfold aY im
 rw [if_neg h]
 exact oD _ _ _ (by omega) (by omega)
theorem kc (l:List ak)(id:Int):(without l id).length≤l.length:=uf _ _ _
theorem ly {l:List ak}{id:Int}(h:∀w∈l,0≤w.Rights∧w.Rights≤7):∀w∈without l id,0≤w.Rights∧w.Rights≤7:=fun w hw=>by
 obtain ⟨y,hy,_,rfl⟩:=fC.1 hw
 have:=ij (id:=id) (f:=ey l id) y
 rw [this.2.2.1];exact h y hy
theorem my:∀ (ids:List Int) (l:List ak),(ids.foldl without l).length≤l.length
 | [],l=>Nat.le_refl _
 | i::ids,l=>Nat.le_trans (my ids _) (kc l i)
theorem uk:∀ (ids:List Int) (l:List ak),(∀w∈l,0≤w.Rights∧w.Rights≤7) → ∀w∈ids.foldl without l,0≤w.Rights∧w.Rights≤7
 | [],l,h=>h
 | i::ids,l,h=>uk ids _ (ly h)
theorem Ok.pZ {r:ar}(h:Ok r){l:List ak}(hl:l.length≤2000)(hr:∀w∈l,0≤w.Rights∧w.Rights≤7):Ok ⟨l,r.Things,r.Held,r.Notes,r.ae,r.af⟩ :=
 ⟨hl,h.tl,h.hl,h.nl,hr,h.w0,h.w1,h.t0,h.t1⟩
theorem Ok.wo {r:ar}(h:Ok r)(id:Int):Ok ⟨without r.ai id,r.Things,r.Held,r.Notes,r.ae,r.af⟩ :=
 h.pZ (Nat.le_trans (kc _ _) h.wl) (ly h.ri)
theorem Ok.jm {r:ar}(h:Ok r):Ok (YtbkfhjaibhnkmaaGreatDoor.jm r) :=
 ⟨Nat.le_trans (my _ _) h.wl,Nat.le_trans (List.length_filter_le _ _) h.tl,Nat.le_trans (List.length_filter_le _ _) h.hl,by
  have:=kN r.ai (aX r.ai) r.Notes
  have:=h.nl
  show (fH r.ai (aX r.ai) r.Notes).length≤2000
  omega,uk _ _ h.ri,h.w0,h.w1,h.t0,h.t1⟩
def cX (r:ar)(p:Place):ar×Int :=
  if (au r p).2=0 then (aY ⟨without r.ai (au r p).1.ID,r.Things,r.Held,r.Notes,r.ae,r.af⟩,0) else (r0,(au r p).2)
def vF (l:List ak)(id:Int):List ak:=l.filter (fun x => !decide (x.ID∈eb id l))
theorem Ok.cut {r:ar}(h:Ok r)(id:Int):Ok ⟨vF r.ai id,r.Things,r.Held,r.Notes,r.ae,r.af⟩ :=
 h.pZ (Nat.le_trans (List.length_filter_le _ _) h.wl) (fun w hw=>h.ri w (List.mem_filter.1 hw).1)
def bQ (r:ar)(p:Place):ar×Int :=
  if (au r p).2=0 then (aY ⟨vF r.ai (au r p).1.ID,r.Things,r.Held,r.Notes,r.ae,r.af⟩,0) else (r0,(au r p).2)
def EL (l:List ao)(id:Int):Int:=idxOf (fun t=>t.ID==id) l
def aM (r:ar)(p:Place)(kind rights:Int):ak×Int×Int :=
  if (au r p).2=0 then
    match r.Things.find? (fun t=>t.ID==(au r p).1.ao) with
    | none=>(gO,0,8)
    | some t=>if t.Kind=kind then (if fF (au r p).1.Rights rights=true then ((au r p).1,EL r.Things (au r p).1.ao,0) else (gO,0,7)) else (gO,0,8)
  else (gO,0,(au r p).2)
theorem mA {α:Type}{q:α→Bool}{l:List α}{k:Nat}{x:α}(hx:l[k]? = some x)(he:q x=true)(hb:∀ (j:Nat) y,j<k→l[j]? = some y→q y=false):l.find? q=some x:=by
 have hk:=(List.getElem?_eq_some_iff.1 hx).1
 rw [List.find?_eq_some_iff_getElem]
 refine ⟨he,k,hk,(List.getElem?_eq_some_iff.1 hx).2,fun j hj=>?_⟩
 have:=hb j l[j] hj (List.getElem?_eq_getElem (by omega))
 simp [this]
theorem jN {r:ar}{p:Place}{kind rights:Int}(h:¬ (au r p).2=0):aM r p kind rights=(gO,0,(au r p).2):=by unfold aM;rw [if_neg h]
theorem iH {r:ar}{p:Place}{kind rights:Int}(h:(au r p).2=0)(hn:∀x∈r.Things,(x.ID==(au r p).1.ao)=false):aM r p kind rights=(gO,0,8):=by
 unfold aM;rw [if_pos h,show r.Things.find? (fun t=>t.ID==(au r p).1.ao)=none from List.find?_eq_none.2 (fun x hx=>by simp [hn x hx])]
section
variable {r:ar} {p:Place} {kind rights:Int} {k:Nat} {x:ao}
theorem iI (h:(au r p).2=0)(hx:r.Things[k]? = some x)(he:(x.ID==(au r p).1.ao)=true)(hb:∀ (j:Nat) y,j<k→r.Things[j]? = some y→(y.ID==(au r p).1.ao)=false)(hk:¬ x.Kind=kind):aM r p kind rights=(gO,0,8):=by
 unfold aM;rw [if_pos h,mA (q:=fun t=>t.ID==(au r p).1.ao) hx he hb];simp only;rw [if_neg hk]
theorem gU (h:(au r p).2=0)(hx:r.Things[k]? = some x)(he:(x.ID==(au r p).1.ao)=true)(hb:∀ (j:Nat) y,j<k→r.Things[j]? = some y→(y.ID==(au r p).1.ao)=false)(hk:x.Kind=kind)(hr:fF (au r p).1.Rights rights=false):aM r p kind rights=(gO,0,7):=by
 unfold aM;rw [if_pos h,mA (q:=fun t=>t.ID==(au r p).1.ao) hx he hb];simp only;rw [if_pos hk,if_neg (by rw [hr];simp)]
theorem lz (h:(au r p).2=0)(hx:r.Things[k]? = some x)(he:(x.ID==(au r p).1.ao)=true)(hb:∀ (j:Nat) y,j<k→r.Things[j]? = some y→(y.ID==(au r p).1.ao)=false)(hk:x.Kind=kind)(hr:fF (au r p).1.Rights rights=true):aM r p kind rights=((au r p).1,(k:Int),0):=by
 unfold aM;rw [if_pos h,mA (q:=fun t=>t.ID==(au r p).1.ao) hx he hb];simp only;rw [if_pos hk,if_pos hr]
 have:EL r.Things (au r p).1.ao=(k:Int):=idxOf_hit hx he hb
 rw [this]
end
theorem iJ {r:ar}{p:Place}{kind rights:Int}(h:(aM r p kind rights).2.2=0):(au r p).2=0∧(aM r p kind rights).1=(au r p).1∧fF (au r p).1.Rights rights=true ∧
 ∃ (k:Nat) (x:ao),(aM r p kind rights).2.1=(k:Int)∧r.Things[k]? = some x∧x.ID=(au r p).1.ao∧x.Kind=kind ∧ ∀ (j:Nat) y,j<k→r.Things[j]? = some y→¬ y.ID=(au r p).1.ao:=by
 by_cases h1:(au r p).2=0
 ·
  rcases hJ (fun t:ao=>t.ID==(au r p).1.ao) r.Things with ⟨_,hn⟩ | ⟨k,x,hk,hx,he,hb,_⟩
  ·rw [iH h1 hn] at h;simp at h
  ·
   by_cases h2:x.Kind=kind
   ·
    cases h3:fF (au r p).1.Rights rights with
    | false=>rw [gU h1 hx he hb h2 h3] at h;simp at h
    | true =>
     rw [lz h1 hx he hb h2 h3]
     exact ⟨h1,rfl,rfl,k,x,rfl,hx,by simpa using he,h2,fun j y hj hy=>by simpa using hb j y hj hy⟩
   ·rw [iI h1 hx he hb h2] at h;simp at h
 ·rw [jN h1] at h;exact absurd h h1
theorem gx (r:ar)(p:Place)(kind rights:Int):0≤(aM r p kind rights).2.2:=by
 have:=eC r p
 unfold aM;split
 ·
  split
  ·simp
  ·
   split
   ·split <;> simp
   ·simp
 ·exact this
def eY (l:List ao)(i:Nat)(d:ByteArray):List ao:=match l[i]? with|some t=>l.set i ⟨t.ID,t.Kind,d⟩ | none=>l
def cd (r:ar)(p:Place)(d:ByteArray):ar×Int :=
  if (aM r p 1 2).2.2=0 then
    if 8<d.size then (r0,2) else (⟨r.ai,eY r.Things (aM r p 1 2).2.1.toNat d,r.Held,r.Notes,r.ae,r.af⟩,0)
  else (r0,(aM r p 1 2).2.2)
def eM (l:List Note)(t:Int):Nat:=(l.filter (fun n=>n.Port==t)).length
def bU (r:ar)(p:Place)(d:ByteArray)(slot rights:Int):ar×Int :=
  if (aM r p 2 2).2.2=0 then
    if 8<d.size then (r0,2)
    else if eM r.Notes (aM r p 2 2).1.ao=3 then (r0,9)
    else if slot<0 then (⟨r.ai,r.Things,r.Held,r.Notes++[⟨(aM r p 2 2).1.ao,d,(aM r p 2 2).1.aI,0⟩],r.ae,r.af⟩,0)
    else if fF (aM r p 2 2).1.Rights 4=true then
      if (au r ⟨p.aj,slot⟩).2=0 then
        if 999<r.ae then (r0,9)
        else if (derived (au r ⟨p.aj,slot⟩).1 r.ae rights 0).2=0 then
          (⟨r.ai++[(derived (au r ⟨p.aj,slot⟩).1 r.ae rights 0).1],r.Things,r.Held,r.Notes++[⟨(aM r p 2 2).1.ao,d,(aM r p 2 2).1.aI,(derived (au r ⟨p.aj,slot⟩).1 r.ae rights 0).1.ID⟩],r.ae+1,r.af⟩,0)
        else (r0,(derived (au r ⟨p.aj,slot⟩).1 r.ae rights 0).2)
      else (r0,(au r ⟨p.aj,slot⟩).2)
    else (r0,7)
  else (r0,(aM r p 2 2).2.2)
def pj (ns:List Note)(i:Nat):List Note:=ns.take i++ns.drop (i+1)
def bC (r:ar)(p:Place):ar×Note×Int×Int :=
  if (aM r p 2 1).2.2=0 then
    match r.Notes[(idxOf (fun n=>n.Port==(aM r p 2 1).1.ao) r.Notes).toNat]?,decide (0≤idxOf (fun n=>n.Port==(aM r p 2 1).1.ao) r.Notes) with
    | some n,true =>
      if 0<n.ak then
        if dA r.Held p.aj<0 then (r0,n0,0,9)
        else (⟨r.ai,r.Things,cw r.Held ⟨p.aj,dA r.Held p.aj⟩ n.ak,pj r.Notes (idxOf (fun n=>n.Port==(aM r p 2 1).1.ao) r.Notes).toNat,r.ae,r.af⟩,n,dA r.Held p.aj,0)
      else (⟨r.ai,r.Things,r.Held,pj r.Notes (idxOf (fun n=>n.Port==(aM r p 2 1).1.ao) r.Notes).toNat,r.ae,r.af⟩,n,-1,0)
    | _,_=>(r0,n0,0,5)
  else (r0,n0,0,(aM r p 2 1).2.2)
theorem mV {ws:List ak}{ts:List Int}{ns:List Note}{k:Nat}{n:Note}(h:ns[k]? = some n)(hp:(gN ws n).Port∈ts):fH ws ts (ns.take (k+1))=fH ws ts (ns.take k)++[gN ws n]∧f5 ws ts (ns.take (k+1))=f5 ws ts (ns.take k):=by
 unfold fH f5
 rw [List.take_add_one,h]
 simp [hp]
theorem s9 {ws:List ak}{ts:List Int}{ns:List Note}{k:Nat}{n:Note}(h:ns[k]? = some n)(hp:¬ (gN ws n).Port∈ts)(h0:0<(gN ws n).ak):fH ws ts (ns.take (k+1))=fH ws ts (ns.take k)∧f5 ws ts (ns.take (k+1))=f5 ws ts (ns.take k)++[(gN ws n).ak]:=by
 unfold fH f5
 rw [List.take_add_one,h]
 simp [hp,h0]
theorem mW {ws:List ak}{ts:List Int}{ns:List Note}{k:Nat}{n:Note}(h:ns[k]? = some n)(hp:¬ (gN ws n).Port∈ts)(h0:¬ 0<(gN ws n).ak):fH ws ts (ns.take (k+1))=fH ws ts (ns.take k)∧f5 ws ts (ns.take (k+1))=f5 ws ts (ns.take k):=by
 unfold fH f5
 rw [List.take_add_one,h]
 simp [hp,h0]
theorem qv {ws:List ak}{n:Note}(h:cB ws n.ak = -1):gN ws n=⟨n.Port,n.Data,n.aI,0⟩:=by unfold gN;rw [if_pos (by omega)]
theorem kO {ws:List ak}{n:Note}{j:Nat}(h:cB ws n.ak=(j:Int)):gN ws n=n:=by unfold gN;rw [if_neg (by omega)]
theorem vG {ns:List Note}{t:Int}{k:Nat}{n:Note}(h:ns[k]? = some n)(e:n.Port=t):eM (ns.take (k+1)) t=eM (ns.take k) t+1:=by
 unfold eM;rw [List.take_add_one,h];simp [e]
theorem ta {ns:List Note}{t:Int}{k:Nat}{n:Note}(h:ns[k]? = some n)(e:¬ n.Port=t):eM (ns.take (k+1)) t=eM (ns.take k) t:=by
 unfold eM;rw [List.take_add_one,h];simp [e]
theorem yD {ns:List Note}{t:Int}{k:Nat}:eM (ns.take k) t≤k:=by
 unfold eM;exact Nat.le_trans (List.length_filter_le _ _) (by rw [List.length_take];omega)
def fe (ns:List Note)(l:List ak):List ak:=ns.foldl (fun l n=>if 0<n.ak then without l n.ak else l) l
theorem jO {ns:List Note}{l:List ak}{k:Nat}{n:Note}(h:ns[k]? = some n):fe (ns.take (k+1)) l=(if 0<n.ak then without (fe (ns.take k) l) n.ak else fe (ns.take k) l):=by
 unfold fe;rw [List.take_add_one,h];simp
theorem rH (ns:List Note):∀ (l:List ak),(fe ns l).length≤l.length:=by
 induction ns with
 | nil=>intro l;exact Nat.le_refl _
 | cons n ns ih =>
  intro l
  show (fe ns _).length≤_
  refine Nat.le_trans (ih _) ?_
  dsimp only
  split
  ·exact kc _ _
  ·exact Nat.le_refl _
theorem td (ns:List Note):∀ (l:List ak),(∀w∈l,0≤w.Rights∧w.Rights≤7) → ∀w∈fe ns l,0≤w.Rights∧w.Rights≤7:=by
 induction ns with
 | nil=>intro l h;exact h
 | cons n ns ih =>
  intro l h
  show ∀w∈fe ns _,_
  refine ih _ ?_
  dsimp only
  split
  ·exact ly h
  ·exact h
def aH (r:ar):ar:=aY ⟨fe r.Notes r.ai,r.Things,r.Held,[],r.ae,r.af⟩
end Go.Proofs.YtbkfhjaibhnkmaaGreatDoor
