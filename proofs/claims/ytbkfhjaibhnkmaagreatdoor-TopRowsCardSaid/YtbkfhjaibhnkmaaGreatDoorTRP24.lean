import Derived.Test.YtbkfhjaibhnkmaaGreatDoorTRP14
import Derived.Test.YtbkfhjaibhnkmaaGreatDoorTRP23
namespace Go.Proofs.YtbkfhjaibhnkmaaGreatDoor
set_option linter.unusedVariables false
def r0:au:=⟨[],[],[],[],0,0⟩
def n0:Note:=⟨0,⟨#[]⟩,0,0⟩
structure Ok (r:au):Prop where
  wl:r.aj.length≤2000
  tl:r.Things.length≤2000
  hl:r.Held.length≤2000
  nl:r.Notes.length≤2000
  ri:∀w∈r.aj,0≤w.Rights∧w.Rights≤7
  w0:0≤r.ae
  w1:r.ae≤2000
  t0:0≤r.af
  t1:r.af≤2000
def yM (l:List ak)(id:Int):Option ak:=l.find? (fun w=>w.ID==id)
theorem yN {l:List ak}{id:Int}{j:Nat}{x:ak}(hf:bC l id=(j:Int))(hx:l[j]? = some x):yM l id=some x:=by
  rcases fW (l:=l) (id:=id) with ⟨h1,h2⟩ | ⟨k,hk,h1,h2⟩
  · omega
  ·
    have:k=j:=by omega
    subst this
    rw [List.getElem?_eq_getElem hk] at hx;injection hx with hx
    unfold yM;rw [h2,hx]
theorem yO {l:List ak}{id:Int}(hf:bC l id = -1):yM l id=none:=by
  rcases fW (l:=l) (id:=id) with ⟨h1,h2⟩ | ⟨k,hk,h1,h2⟩
  · exact h2
  · omega
theorem vh {l:List ak}{id:Int}{x:ak}(h:yM l id=some x):x∈l∧x.ID=id:=by
  unfold yM at h
  exact ⟨List.mem_of_find?_eq_some h,by simpa using List.find?_some h⟩
def ap (r:au)(p:Place):ak×Int :=
  if aW p=0 then (match yM r.aj (hY r.Held p) with|some w=>(w,0)|none=>(fm,5)) else (fm,aW p)
theorem gS {r:au}{p:Place}(h:¬ aW p=0):ap r p=(fm,aW p):=by unfold ap;rw [if_neg h]
theorem gH {r:au}{p:Place}(h:aW p=0)(hf:bC r.aj (hY r.Held p) = -1):ap r p=(fm,5):=by unfold ap;rw [if_pos h,yO hf]
theorem iD {r:au}{p:Place}{j:Nat}{x:ak}(h:aW p=0)(hf:bC r.aj (hY r.Held p)=(j:Int))(hx:r.aj[j]? = some x):ap r p=(x,0):=by unfold ap;rw [if_pos h,yN hf hx]
theorem oF {r:au}{p:Place}(h:(ap r p).2=0):aW p=0∧(ap r p).1∈r.aj∧(ap r p).1.ID=hY r.Held p:=by
  by_cases h1:aW p=0
  ·
    cases h2:yM r.aj (hY r.Held p) with
    | none=>unfold ap at h;rw [if_pos h1,h2] at h;simp at h
    | some w =>
      have e:ap r p=(w,0):=by unfold ap;rw [if_pos h1,h2]
      have:=vh h2
      rw [e];exact ⟨h1,this.1,this.2⟩
  · rw [gS h1] at h;exact absurd h h1
theorem Ok.get {r:au}(h:Ok r){p:Place}(hg:(ap r p).2=0):0≤(ap r p).1.Rights∧(ap r p).1.Rights≤7:=h.ri _ (oF hg).2.1
def eE (r:au)(p:Place):Int:=if aW p=0 then (if hY r.Held p=0 then 0 else 6) else aW p
def aQ (r:au)(w:ak)(p:Place):au:=⟨r.aj++[w],r.Things,if 0<p.ag then ck r.Held p w.ID else r.Held,r.Notes,r.ae+1,r.af⟩
def bg (r:au)(p:Place)(kind:Int):au×Int :=
  if kind=1∨kind=2 then
    if eE r p=0 then
      if r.Things.length=10∨999<r.af∨999<r.ae then (r0,9)
      else (aQ ⟨r.aj,r.Things++[⟨r.af,kind,⟨#[]⟩⟩],r.Held,r.Notes,r.ae,r.af+1⟩ ⟨r.ae,r.af,7,0,0⟩ p,0)
    else (r0,eE r p)
  else (r0,8)
def bV (r:au)(p t:Place)(rights aT:Int):au×Int :=
  if (ap r p).2=0 then
    if eE r t=0 then
      if p.ag=t.ag∨eY (ap r p).1.Rights 4=true then
        if 999<r.ae then (r0,9)
        else if (derived (ap r p).1 r.ae rights aT).2=0 then (aQ r (derived (ap r p).1 r.ae rights aT).1 t,0)
        else (r0,(derived (ap r p).1 r.ae rights aT).2)
      else (r0,7)
    else (r0,eE r t)
  else (r0,(ap r p).2)
def di (r:au)(p:Place)(slot:Int):au×Int :=
  if (ap r p).2=0 then
    if eE r ⟨p.ag,slot⟩=0 then (⟨r.aj,r.Things,ck (ck r.Held p 0) ⟨p.ag,slot⟩ (ap r p).1.ID,r.Notes,r.ae,r.af⟩,0)
    else (r0,eE r ⟨p.ag,slot⟩)
  else (r0,(ap r p).2)
def aR (l:List ak):List Int:=Lib.compact (gR (l.map ak.ai))
def fh (ws:List ak)(n:Note):Note:=if bC ws n.ak<0 then ⟨n.Port,n.Data,n.ar,0⟩ else n
def eI (ws:List ak)(ts:List Int)(ns:List Note):List Note:=(ns.map (fh ws)).filter (fun n=>decide (n.Port∈ts))
def fS (ws:List ak)(ts:List Int)(ns:List Note):List Int:=((ns.map (fh ws)).filter (fun n => !decide (n.Port∈ts)&&decide (0<n.ak))).map Note.ak
def dS (r:au):au:=⟨r.aj,r.Things.filter (fun t => !!decide (t.ID∈aR r.aj)),r.Held.filter (fun h => !decide (bC r.aj h.ak<0)),eI r.aj (aR r.aj) r.Notes,r.ae,r.af⟩
def jj (r:au):List Int:=fS r.aj (aR r.aj) r.Notes
def iW (r:au):au:=⟨(jj r).foldl without r.aj,(dS r).Things,(dS r).Held,(dS r).Notes,r.ae,r.af⟩
def fN:Nat→au→au
  | 0,r=>dS r
  | n+1,r=>if (jj r).length=0 then dS r else fN n (iW r)
def a8 (r:au):au:=fN (r.Notes.length+1) r
theorem jW (ws:List ak)(ts:List Int)(ns:List Note):(eI ws ts ns).length+(fS ws ts ns).length≤ns.length:=by
  have h:∀l:List Note,(l.filter (fun n=>decide (n.Port∈ts))).length+(l.filter (fun n => !decide (n.Port∈ts)&&decide (0<n.ak))).length≤l.length:=by
    intro l
    induction l with
    | nil=>simp
    | cons n l ih =>
      rw [List.filter_cons,List.filter_cons,List.length_cons]
      by_cases h:n.Port∈ts
      · rw [if_pos (by simpa using h),if_neg (by simp [h]),List.length_cons];omega
      ·
        rw [if_neg (by simpa using h)]
        split
        · rw [List.length_cons];omega
        · omega
  have:=h (ns.map (fh ws))
  simpa [eI,fS] using this
theorem iX {r:au}(h:¬ (jj r).length=0):(iW r).Notes.length<r.Notes.length:=by
  have:=jW r.aj (aR r.aj) r.Notes
  show (eI r.aj (aR r.aj) r.Notes).length<_
  unfold jj at h;omega
theorem lf:∀ (n m:Nat) (r:au),r.Notes.length<n→r.Notes.length<m→fN n r=fN m r
  | 0,m,r,h,_=>by omega
  | n+1,0,r,_,h=>by omega
  | n+1,m+1,r,h1,h2=>by
    simp only [fN]
    split
    · rfl
    ·
      have:=iX (r:=r) (by assumption)
      exact lf n m _ (by omega) (by omega)
theorem jG {r:au}(h:(jj r).length=0):a8 r=dS r:=by
  unfold a8 fN;rw [if_pos h]
theorem p6 {r:au}(h:¬ (jj r).length=0):a8 r=a8 (iW r):=by
  have:=iX h
  conv=>lhs;unfold a8 fN
  rw [if_neg h]
  exact lf _ _ _ (by omega) (by omega)
theorem hJ (l:List ak)(id:Int):(without l id).length≤l.length:=pb _ _ _
theorem iY {l:List ak}{id:Int}(h:∀w∈l,0≤w.Rights∧w.Rights≤7):∀w∈without l id,0≤w.Rights∧w.Rights≤7:=fun w hw=>by
  obtain ⟨y,hy,_,rfl⟩:=ei.1 hw
  have:=fL (id:=id) (f:=dj l id) y
  rw [this.2.2.1];exact h y hy
theorem lg:∀ (ids:List Int) (l:List ak),(ids.foldl without l).length≤l.length
  | [],l=>Nat.le_refl _
  | i::ids,l=>Nat.le_trans (lg ids _) (hJ l i)
theorem pg:∀ (ids:List Int) (l:List ak),(∀w∈l,0≤w.Rights∧w.Rights≤7) → ∀w∈ids.foldl without l,0≤w.Rights∧w.Rights≤7
  | [],l,h=>h
  | i::ids,l,h=>pg ids _ (iY h)
theorem Ok.l8 {r:au}(h:Ok r){l:List ak}(hl:l.length≤2000)(hr:∀w∈l,0≤w.Rights∧w.Rights≤7):Ok ⟨l,r.Things,r.Held,r.Notes,r.ae,r.af⟩ :=
  ⟨hl,h.tl,h.hl,h.nl,hr,h.w0,h.w1,h.t0,h.t1⟩
theorem Ok.wo {r:au}(h:Ok r)(id:Int):Ok ⟨without r.aj id,r.Things,r.Held,r.Notes,r.ae,r.af⟩ :=
  h.l8 (Nat.le_trans (hJ _ _) h.wl) (iY h.ri)
theorem Ok.iW {r:au}(h:Ok r):Ok (YtbkfhjaibhnkmaaGreatDoor.iW r) :=
  ⟨Nat.le_trans (lg _ _) h.wl,Nat.le_trans (List.length_filter_le _ _) h.tl,Nat.le_trans (List.length_filter_le _ _) h.hl,by
    have:=jW r.aj (aR r.aj) r.Notes
    have:=h.nl
    show (eI r.aj (aR r.aj) r.Notes).length≤2000
    omega,pg _ _ h.ri,h.w0,h.w1,h.t0,h.t1⟩
def dy (r:au)(p:Place):au×Int :=
  if (ap r p).2=0 then (a8 ⟨without r.aj (ap r p).1.ID,r.Things,r.Held,r.Notes,r.ae,r.af⟩,0) else (r0,(ap r p).2)
def qW (l:List ak)(id:Int):List ak:=l.filter (fun x => !decide (x.ID∈dv id l))
theorem Ok.cut {r:au}(h:Ok r)(id:Int):Ok ⟨qW r.aj id,r.Things,r.Held,r.Notes,r.ae,r.af⟩ :=
  h.l8 (Nat.le_trans (List.length_filter_le _ _) h.wl) (fun w hw=>h.ri w (List.mem_filter.1 hw).1)
def bN (r:au)(p:Place):au×Int :=
  if (ap r p).2=0 then (a8 ⟨qW r.aj (ap r p).1.ID,r.Things,r.Held,r.Notes,r.ae,r.af⟩,0) else (r0,(ap r p).2)
def xV (l:List ai)(id:Int):Int:=idxOf (fun t=>t.ID==id) l
def ay (r:au)(p:Place)(kind rights:Int):ak×Int×Int :=
  if (ap r p).2=0 then
    match r.Things.find? (fun t=>t.ID==(ap r p).1.ai) with
    | none=>(fm,0,8)
    | some t=>if t.Kind=kind then (if eY (ap r p).1.Rights rights=true then ((ap r p).1,xV r.Things (ap r p).1.ai,0) else (fm,0,7)) else (fm,0,8)
  else (fm,0,(ap r p).2)
theorem jH {α:Type}{q:α→Bool}{l:List α}{k:Nat}{x:α}(hx:l[k]? = some x)(he:q x=true)(hb:∀ (j:Nat) y,j<k→l[j]? = some y→q y=false):l.find? q=some x:=by
  have hk:=(List.getElem?_eq_some_iff.1 hx).1
  rw [List.find?_eq_some_iff_getElem]
  refine ⟨he,k,hk,(List.getElem?_eq_some_iff.1 hx).2,fun j hj=>?_⟩
  have:=hb j l[j] hj (List.getElem?_eq_getElem (by omega))
  simp [this]
theorem dI {r:au}{p:Place}{kind rights:Int}(h:¬ (ap r p).2=0):ay r p kind rights=(fm,0,(ap r p).2):=by unfold ay;rw [if_neg h]
theorem da {r:au}{p:Place}{kind rights:Int}(h:(ap r p).2=0)(hn:∀x∈r.Things,(x.ID==(ap r p).1.ai)=false):ay r p kind rights=(fm,0,8):=by
  unfold ay;rw [if_pos h,show r.Things.find? (fun t=>t.ID==(ap r p).1.ai)=none from List.find?_eq_none.2 (fun x hx=>by simp [hn x hx])]
section
variable {r:au} {p:Place} {kind rights:Int} {k:Nat} {x:ai}
theorem dc (h:(ap r p).2=0)(hx:r.Things[k]? = some x)(he:(x.ID==(ap r p).1.ai)=true)(hb:∀ (j:Nat) y,j<k→r.Things[j]? = some y→(y.ID==(ap r p).1.ai)=false)(hk:¬ x.Kind=kind):ay r p kind rights=(fm,0,8):=by
  unfold ay;rw [if_pos h,jH (q:=fun t=>t.ID==(ap r p).1.ai) hx he hb];simp only;rw [if_neg hk]
theorem cC (h:(ap r p).2=0)(hx:r.Things[k]? = some x)(he:(x.ID==(ap r p).1.ai)=true)(hb:∀ (j:Nat) y,j<k→r.Things[j]? = some y→(y.ID==(ap r p).1.ai)=false)(hk:x.Kind=kind)(hr:eY (ap r p).1.Rights rights=false):ay r p kind rights=(fm,0,7):=by
  unfold ay;rw [if_pos h,jH (q:=fun t=>t.ID==(ap r p).1.ai) hx he hb];simp only;rw [if_pos hk,if_neg (by rw [hr];simp)]
theorem ew (h:(ap r p).2=0)(hx:r.Things[k]? = some x)(he:(x.ID==(ap r p).1.ai)=true)(hb:∀ (j:Nat) y,j<k→r.Things[j]? = some y→(y.ID==(ap r p).1.ai)=false)(hk:x.Kind=kind)(hr:eY (ap r p).1.Rights rights=true):ay r p kind rights=((ap r p).1,(k:Int),0):=by
  unfold ay;rw [if_pos h,jH (q:=fun t=>t.ID==(ap r p).1.ai) hx he hb];simp only;rw [if_pos hk,if_pos hr]
  have:xV r.Things (ap r p).1.ai=(k:Int):=idxOf_hit hx he hb
  rw [this]
end
theorem jX {r:au}{p:Place}{kind rights:Int}(h:(ay r p kind rights).2.2=0):(ap r p).2=0∧(ay r p kind rights).1=(ap r p).1∧eY (ap r p).1.Rights rights=true ∧
    ∃ (k:Nat) (x:ai),(ay r p kind rights).2.1=(k:Int)∧r.Things[k]? = some x∧x.ID=(ap r p).1.ai∧x.Kind=kind ∧ ∀ (j:Nat) y,j<k→r.Things[j]? = some y→¬ y.ID=(ap r p).1.ai:=by
  by_cases h1:(ap r p).2=0
  ·
    rcases fB (fun t:ai=>t.ID==(ap r p).1.ai) r.Things with ⟨_,hn⟩ | ⟨k,x,hk,hx,he,hb,_⟩
    · rw [da h1 hn] at h;simp at h
    ·
      by_cases h2:x.Kind=kind
      ·
        cases h3:eY (ap r p).1.Rights rights with
        | false=>rw [cC h1 hx he hb h2 h3] at h;simp at h
        | true =>
          rw [ew h1 hx he hb h2 h3]
          exact ⟨h1,rfl,rfl,k,x,rfl,hx,by simpa using he,h2,fun j y hj hy=>by simpa using hb j y hj hy⟩
      · rw [dc h1 hx he hb h2] at h;simp at h
  · rw [dI h1] at h;exact absurd h h1
def ey (l:List ai)(i:Nat)(d:ByteArray):List ai:=match l[i]? with|some t=>l.set i ⟨t.ID,t.Kind,d⟩ | none=>l
def bU (r:au)(p:Place)(d:ByteArray):au×Int :=
  if (ay r p 1 2).2.2=0 then
    if 8<d.size then (r0,2) else (⟨r.aj,ey r.Things (ay r p 1 2).2.1.toNat d,r.Held,r.Notes,r.ae,r.af⟩,0)
  else (r0,(ay r p 1 2).2.2)
def dX (l:List Note)(t:Int):Nat:=(l.filter (fun n=>n.Port==t)).length
def bO (r:au)(p:Place)(d:ByteArray)(slot rights:Int):au×Int :=
  if (ay r p 2 2).2.2=0 then
    if 8<d.size then (r0,2)
    else if dX r.Notes (ay r p 2 2).1.ai=3 then (r0,9)
    else if slot<0 then (⟨r.aj,r.Things,r.Held,r.Notes++[⟨(ay r p 2 2).1.ai,d,(ay r p 2 2).1.ar,0⟩],r.ae,r.af⟩,0)
    else if eY (ay r p 2 2).1.Rights 4=true then
      if (ap r ⟨p.ag,slot⟩).2=0 then
        if 999<r.ae then (r0,9)
        else if (derived (ap r ⟨p.ag,slot⟩).1 r.ae rights 0).2=0 then
          (⟨r.aj++[(derived (ap r ⟨p.ag,slot⟩).1 r.ae rights 0).1],r.Things,r.Held,r.Notes++[⟨(ay r p 2 2).1.ai,d,(ay r p 2 2).1.ar,(derived (ap r ⟨p.ag,slot⟩).1 r.ae rights 0).1.ID⟩],r.ae+1,r.af⟩,0)
        else (r0,(derived (ap r ⟨p.ag,slot⟩).1 r.ae rights 0).2)
      else (r0,(ap r ⟨p.ag,slot⟩).2)
    else (r0,7)
  else (r0,(ay r p 2 2).2.2)
def lJ (ns:List Note)(i:Nat):List Note:=ns.take i++ns.drop (i+1)
def bD (r:au)(p:Place):au×Note×Int×Int :=
  if (ay r p 2 1).2.2=0 then
    match r.Notes[(idxOf (fun n=>n.Port==(ay r p 2 1).1.ai) r.Notes).toNat]?,decide (0≤idxOf (fun n=>n.Port==(ay r p 2 1).1.ai) r.Notes) with
    | some n,true =>
      if 0<n.ak then
        if dR r.Held p.ag<0 then (r0,n0,0,9)
        else (⟨r.aj,r.Things,ck r.Held ⟨p.ag,dR r.Held p.ag⟩ n.ak,lJ r.Notes (idxOf (fun n=>n.Port==(ay r p 2 1).1.ai) r.Notes).toNat,r.ae,r.af⟩,n,dR r.Held p.ag,0)
      else (⟨r.aj,r.Things,r.Held,lJ r.Notes (idxOf (fun n=>n.Port==(ay r p 2 1).1.ai) r.Notes).toNat,r.ae,r.af⟩,n,-1,0)
    | _,_=>(r0,n0,0,5)
  else (r0,n0,0,(ay r p 2 1).2.2)
theorem jY {ws:List ak}{ts:List Int}{ns:List Note}{k:Nat}{n:Note}(h:ns[k]? = some n)(hp:(fh ws n).Port∈ts):eI ws ts (ns.take (k+1))=eI ws ts (ns.take k)++[fh ws n]∧fS ws ts (ns.take (k+1))=fS ws ts (ns.take k):=by
  unfold eI fS
  rw [List.take_add_one,h]
  simp [hp]
theorem tw {ws:List ak}{ts:List Int}{ns:List Note}{k:Nat}{n:Note}(h:ns[k]? = some n)(hp:¬ (fh ws n).Port∈ts)(h0:0<(fh ws n).ak):eI ws ts (ns.take (k+1))=eI ws ts (ns.take k)∧fS ws ts (ns.take (k+1))=fS ws ts (ns.take k)++[(fh ws n).ak]:=by
  unfold eI fS
  rw [List.take_add_one,h]
  simp [hp,h0]
theorem jZ {ws:List ak}{ts:List Int}{ns:List Note}{k:Nat}{n:Note}(h:ns[k]? = some n)(hp:¬ (fh ws n).Port∈ts)(h0:¬ 0<(fh ws n).ak):eI ws ts (ns.take (k+1))=eI ws ts (ns.take k)∧fS ws ts (ns.take (k+1))=fS ws ts (ns.take k):=by
  unfold eI fS
  rw [List.take_add_one,h]
  simp [hp,h0]
theorem mI {ws:List ak}{n:Note}(h:bC ws n.ak = -1):fh ws n=⟨n.Port,n.Data,n.ar,0⟩:=by unfold fh;rw [if_pos (by omega)]
theorem jI {ws:List ak}{n:Note}{j:Nat}(h:bC ws n.ak=(j:Int)):fh ws n=n:=by unfold fh;rw [if_neg (by omega)]
theorem vj {ns:List Note}{t:Int}{k:Nat}{n:Note}(h:ns[k]? = some n)(e:n.Port=t):dX (ns.take (k+1)) t=dX (ns.take k) t+1:=by
  unfold dX;rw [List.take_add_one,h];simp [e]
theorem tA {ns:List Note}{t:Int}{k:Nat}{n:Note}(h:ns[k]? = some n)(e:¬ n.Port=t):dX (ns.take (k+1)) t=dX (ns.take k) t:=by
  unfold dX;rw [List.take_add_one,h];simp [e]
theorem wT {ns:List Note}{t:Int}{k:Nat}:dX (ns.take k) t≤k:=by
  unfold dX;exact Nat.le_trans (List.length_filter_le _ _) (by rw [List.length_take];omega)
def eF (ns:List Note)(l:List ak):List ak:=ns.foldl (fun l n=>if 0<n.ak then without l n.ak else l) l
theorem iZ {ns:List Note}{l:List ak}{k:Nat}{n:Note}(h:ns[k]? = some n):eF (ns.take (k+1)) l=(if 0<n.ak then without (eF (ns.take k) l) n.ak else eF (ns.take k) l):=by
  unfold eF;rw [List.take_add_one,h];simp
theorem qX (ns:List Note):∀ (l:List ak),(eF ns l).length≤l.length:=by
  induction ns with
  | nil=>intro l;exact Nat.le_refl _
  | cons n ns ih =>
    intro l
    show (eF ns _).length≤_
    refine Nat.le_trans (ih _) ?_
    dsimp only
    split
    · exact hJ _ _
    · exact Nat.le_refl _
theorem tC (ns:List Note):∀ (l:List ak),(∀w∈l,0≤w.Rights∧w.Rights≤7) → ∀w∈eF ns l,0≤w.Rights∧w.Rights≤7:=by
  induction ns with
  | nil=>intro l h;exact h
  | cons n ns ih =>
    intro l h
    show ∀w∈eF ns _,_
    refine ih _ ?_
    dsimp only
    split
    · exact iY h
    · exact h
def aI (r:au):au:=a8 ⟨eF r.Notes r.aj,r.Things,r.Held,[],r.ae,r.af⟩
end Go.Proofs.YtbkfhjaibhnkmaaGreatDoor
