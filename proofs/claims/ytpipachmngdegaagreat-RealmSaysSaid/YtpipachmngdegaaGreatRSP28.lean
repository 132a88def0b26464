import Derived.Test.YtpipachmngdegaaGreatRSP15
import Derived.Test.YtpipachmngdegaaGreatRSP27
section
namespace Go.Proofs.YtpipachmngdegaaGreat
set_option linter.unusedVariables false
def r0:ay:=⟨[],[],[],[],0,0⟩
def n0:Note:=⟨0,⟨#[]⟩,0,0⟩
structure Ok (r:ay):Prop where
  wl:r.ap.length≤2000
  tl:r.Things.length≤2000
  hl:r.Held.length≤2000
  nl:r.Notes.length≤2000
  ri:∀w∈r.ap,0≤w.Rights∧w.Rights≤7
  w0:0≤r.ae
  w1:r.ae≤2000
  t0:0≤r.af
  t1:r.af≤2000
def vu (l:List ao)(id:Int):Option ao:=l.find? (fun w=>w.ID==id)
theorem vv {l:List ao}{id:Int}{j:Nat}{x:ao}(hf:cb l id=(j:Int))(hx:l[j]? = some x):vu l id=some x:=by
  rcases fT (l:=l) (id:=id) with ⟨h1,h2⟩ | ⟨k,hk,h1,h2⟩
  · omega
  ·
    have:k=j:=by omega
    subst this
    rw [List.getElem?_eq_getElem hk] at hx;injection hx with hx
    unfold vu;rw [h2,hx]
theorem vx {l:List ao}{id:Int}(hf:cb l id = -1):vu l id=none:=by
  rcases fT (l:=l) (id:=id) with ⟨h1,h2⟩ | ⟨k,hk,h1,h2⟩
  · exact h2
  · omega
theorem tf {l:List ao}{id:Int}{x:ao}(h:vu l id=some x):x∈l∧x.ID=id:=by
  unfold vu at h
  exact ⟨List.mem_of_find?_eq_some h,by simpa using List.find?_some h⟩
def ak (r:ay)(p:Place):ao×Int :=
  if bH p=0 then (match vu r.ap (gI r.Held p) with|some w=>(w,0)|none=>(e7,5)) else (e7,bH p)
theorem eu {r:ay}{p:Place}(h:¬ bH p=0):ak r p=(e7,bH p):=by unfold ak;rw [if_neg h]
theorem ea {r:ay}{p:Place}(h:bH p=0)(hf:cb r.ap (gI r.Held p) = -1):ak r p=(e7,5):=by unfold ak;rw [if_pos h,vx hf]
theorem eD {r:ay}{p:Place}{j:Nat}{x:ao}(h:bH p=0)(hf:cb r.ap (gI r.Held p)=(j:Int))(hx:r.ap[j]? = some x):ak r p=(x,0):=by unfold ak;rw [if_pos h,vv hf hx]
theorem jN {r:ay}{p:Place}(h:(ak r p).2=0):bH p=0∧(ak r p).1∈r.ap∧(ak r p).1.ID=gI r.Held p:=by
  by_cases h1:bH p=0
  ·
    cases h2:vu r.ap (gI r.Held p) with
    | none=>unfold ak at h;rw [if_pos h1,h2] at h;simp at h
    | some w =>
      have e:ak r p=(w,0):=by unfold ak;rw [if_pos h1,h2]
      have:=tf h2
      rw [e];exact ⟨h1,this.1,this.2⟩
  · rw [eu h1] at h;exact absurd h h1
theorem dq (r:ay)(p:Place):0≤(ak r p).2:=by
  unfold ak;split
  · split <;> simp
  · have:=dv p;dsimp only;omega
theorem Ok.get {r:ay}(h:Ok r){p:Place}(hg:(ak r p).2=0):0≤(ak r p).1.Rights∧(ak r p).1.Rights≤7:=h.ri _ (jN hg).2.1
def cY (r:ay)(p:Place):Int:=if bH p=0 then (if gI r.Held p=0 then 0 else 6) else bH p
theorem dS (r:ay)(p:Place):0≤cY r p:=by
  unfold cY;have:=dv p;split
  · split <;> simp
  · omega
def aW (r:ay)(w:ao)(p:Place):ay:=⟨r.ap++[w],r.Things,if 0<p.ag then bO r.Held p w.ID else r.Held,r.Notes,r.ae+1,r.af⟩
def aU (r:ay)(p:Place)(kind:Int):ay×Int :=
  if kind=1∨kind=2 then
    if cY r p=0 then
      if r.Things.length=10∨999<r.af∨999<r.ae then (r0,9)
      else (aW ⟨r.ap,r.Things++[⟨r.af,kind,⟨#[]⟩⟩],r.Held,r.Notes,r.ae,r.af+1⟩ ⟨r.ae,r.af,7,0,0⟩ p,0)
    else (r0,cY r p)
  else (r0,8)
def bD (r:ay)(p t:Place)(rights aC:Int):ay×Int :=
  if (ak r p).2=0 then
    if cY r t=0 then
      if p.ag=t.ag∨cT (ak r p).1.Rights 4=true then
        if 999<r.ae then (r0,9)
        else if (derived (ak r p).1 r.ae rights aC).2=0 then (aW r (derived (ak r p).1 r.ae rights aC).1 t,0)
        else (r0,(derived (ak r p).1 r.ae rights aC).2)
      else (r0,7)
    else (r0,cY r t)
  else (r0,(ak r p).2)
def cj (r:ay)(p:Place)(slot:Int):ay×Int :=
  if (ak r p).2=0 then
    if cY r ⟨p.ag,slot⟩=0 then (⟨r.ap,r.Things,bO (bO r.Held p 0) ⟨p.ag,slot⟩ (ak r p).1.ID,r.Notes,r.ae,r.af⟩,0)
    else (r0,cY r ⟨p.ag,slot⟩)
  else (r0,(ak r p).2)
def aQ (l:List ao):List Int:=Lib.compact (gS (l.map ao.ai))
def fG (ws:List ao)(n:Note):Note:=if cb ws n.ao<0 then ⟨n.Port,n.Data,n.ar,0⟩ else n
def ew (ws:List ao)(ts:List Int)(ns:List Note):List Note:=(ns.map (fG ws)).filter (fun n=>decide (n.Port∈ts))
def eI (ws:List ao)(ts:List Int)(ns:List Note):List Int:=((ns.map (fG ws)).filter (fun n => !decide (n.Port∈ts)&&decide (0<n.ao))).map Note.ao
def dY (r:ay):ay:=⟨r.ap,r.Things.filter (fun t => !!decide (t.ID∈aQ r.ap)),r.Held.filter (fun h => !decide (cb r.ap h.ao<0)),ew r.ap (aQ r.ap) r.Notes,r.ae,r.af⟩
def jc (r:ay):List Int:=eI r.ap (aQ r.ap) r.Notes
def gy (r:ay):ay:=⟨(jc r).foldl without r.ap,(dY r).Things,(dY r).Held,(dY r).Notes,r.ae,r.af⟩
def fN:Nat→ay→ay
  | 0,r=>dY r
  | n+1,r=>if (jc r).length=0 then dY r else fN n (gy r)
def aP (r:ay):ay:=fN (r.Notes.length+1) r
theorem iQ (ws:List ao)(ts:List Int)(ns:List Note):(ew ws ts ns).length+(eI ws ts ns).length≤ns.length:=by
  have h:∀l:List Note,(l.filter (fun n=>decide (n.Port∈ts))).length+(l.filter (fun n => !decide (n.Port∈ts)&&decide (0<n.ao))).length≤l.length:=by
    intro l
    induction l with
    | nil=>simp
    | cons n l ih =>
      rw [List.filter_cons,List.filter_cons,List.length_cons]
      by_cases h:n.Port∈ts
      · rw [if_pos (by simpa using h),if_neg (by simp [h]),List.length_cons];omega
      ·
        rw [if_neg (by simpa using h)]
        split
        · rw [List.length_cons];omega
        · omega
  have:=h (ns.map (fG ws))
  simpa [ew,eI] using this
theorem i1 {r:ay}(h:¬ (jc r).length=0):(gy r).Notes.length<r.Notes.length:=by
  have:=iQ r.ap (aQ r.ap) r.Notes
  show (ew r.ap (aQ r.ap) r.Notes).length<_
  unfold jc at h;omega
theorem kN:∀ (n m:Nat) (r:ay),r.Notes.length<n→r.Notes.length<m→fN n r=fN m r
  | 0,m,r,h,_=>by omega
  | n+1,0,r,_,h=>by omega
  | n+1,m+1,r,h1,h2=>by
    simp only [fN]
    split
    · rfl
    ·
      have:=i1 (r:=r) (by assumption)
      exact kN n m _ (by omega) (by omega)
theorem lw {r:ay}(h:(jc r).length=0):aP r=dY r:=by
  unfold aP fN;rw [if_pos h]
theorem lx {r:ay}(h:¬ (jc r).length=0):aP r=aP (gy r):=by
  have:=i1 h
  conv=>lhs;unfold aP fN
  rw [if_neg h]
  exact kN _ _ _ (by omega) (by omega)
theorem hY (l:List ao)(id:Int):(without l id).length≤l.length:=oc _ _ _
theorem i2 {l:List ao}{id:Int}(h:∀w∈l,0≤w.Rights∧w.Rights≤7):∀w∈without l id,0≤w.Rights∧w.Rights≤7:=fun w hw=>by
  obtain ⟨y,hy,_,rfl⟩:=ey.1 hw
  have:=f8 (id:=id) (f:=dB l id) y
  rw [this.2.2.1];exact h y hy
theorem jz:∀ (ids:List Int) (l:List ao),(ids.foldl without l).length≤l.length
  | [],l=>Nat.le_refl _
  | i::ids,l=>Nat.le_trans (jz ids _) (hY l i)
theorem om:∀ (ids:List Int) (l:List ao),(∀w∈l,0≤w.Rights∧w.Rights≤7) → ∀w∈ids.foldl without l,0≤w.Rights∧w.Rights≤7
  | [],l,h=>h
  | i::ids,l,h=>om ids _ (i2 h)
theorem Ok.ly {r:ay}(h:Ok r){l:List ao}(hl:l.length≤2000)(hr:∀w∈l,0≤w.Rights∧w.Rights≤7):Ok ⟨l,r.Things,r.Held,r.Notes,r.ae,r.af⟩ :=
  ⟨hl,h.tl,h.hl,h.nl,hr,h.w0,h.w1,h.t0,h.t1⟩
theorem Ok.wo {r:ay}(h:Ok r)(id:Int):Ok ⟨without r.ap id,r.Things,r.Held,r.Notes,r.ae,r.af⟩ :=
  h.ly (Nat.le_trans (hY _ _) h.wl) (i2 h.ri)
theorem Ok.gy {r:ay}(h:Ok r):Ok (YtpipachmngdegaaGreat.gy r) :=
  ⟨Nat.le_trans (jz _ _) h.wl,Nat.le_trans (List.length_filter_le _ _) h.tl,Nat.le_trans (List.length_filter_le _ _) h.hl,by
    have:=iQ r.ap (aQ r.ap) r.Notes
    have:=h.nl
    show (ew r.ap (aQ r.ap) r.Notes).length≤2000
    omega,om _ _ h.ri,h.w0,h.w1,h.t0,h.t1⟩
def cq (r:ay)(p:Place):ay×Int :=
  if (ak r p).2=0 then (aP ⟨without r.ap (ak r p).1.ID,r.Things,r.Held,r.Notes,r.ae,r.af⟩,0) else (r0,(ak r p).2)
def o9 (l:List ao)(id:Int):List ao:=l.filter (fun x => !decide (x.ID∈cZ id l))
theorem Ok.cut {r:ay}(h:Ok r)(id:Int):Ok ⟨o9 r.ap id,r.Things,r.Held,r.Notes,r.ae,r.af⟩ :=
  h.ly (Nat.le_trans (List.length_filter_le _ _) h.wl) (fun w hw=>h.ri w (List.mem_filter.1 hw).1)
def bg (r:ay)(p:Place):ay×Int :=
  if (ak r p).2=0 then (aP ⟨o9 r.ap (ak r p).1.ID,r.Things,r.Held,r.Notes,r.ae,r.af⟩,0) else (r0,(ak r p).2)
def uV (l:List ai)(id:Int):Int:=idxOf (fun t=>t.ID==id) l
def av (r:ay)(p:Place)(kind rights:Int):ao×Int×Int :=
  if (ak r p).2=0 then
    match r.Things.find? (fun t=>t.ID==(ak r p).1.ai) with
    | none=>(e7,0,8)
    | some t=>if t.Kind=kind then (if cT (ak r p).1.Rights rights=true then ((ak r p).1,uV r.Things (ak r p).1.ai,0) else (e7,0,7)) else (e7,0,8)
  else (e7,0,(ak r p).2)
theorem jA {α:Type}{q:α→Bool}{l:List α}{k:Nat}{x:α}(hx:l[k]? = some x)(he:q x=true)(hb:∀ (j:Nat) y,j<k→l[j]? = some y→q y=false):l.find? q=some x:=by
  have hk:=(List.getElem?_eq_some_iff.1 hx).1
  rw [List.find?_eq_some_iff_getElem]
  refine ⟨he,k,hk,(List.getElem?_eq_some_iff.1 hx).2,fun j hj=>?_⟩
  have:=hb j l[j] hj (List.getElem?_eq_getElem (by omega))
  simp [this]
theorem cu {r:ay}{p:Place}{kind rights:Int}(h:¬ (ak r p).2=0):av r p kind rights=(e7,0,(ak r p).2):=by unfold av;rw [if_neg h]
theorem bV {r:ay}{p:Place}{kind rights:Int}(h:(ak r p).2=0)(hn:∀x∈r.Things,(x.ID==(ak r p).1.ai)=false):av r p kind rights=(e7,0,8):=by
  unfold av;rw [if_pos h,show r.Things.find? (fun t=>t.ID==(ak r p).1.ai)=none from List.find?_eq_none.2 (fun x hx=>by simp [hn x hx])]
section
variable {r:ay} {p:Place} {kind rights:Int} {k:Nat} {x:ai}
theorem bW (h:(ak r p).2=0)(hx:r.Things[k]? = some x)(he:(x.ID==(ak r p).1.ai)=true)(hb:∀ (j:Nat) y,j<k→r.Things[j]? = some y→(y.ID==(ak r p).1.ai)=false)(hk:¬ x.Kind=kind):av r p kind rights=(e7,0,8):=by
  unfold av;rw [if_pos h,jA (q:=fun t=>t.ID==(ak r p).1.ai) hx he hb];simp only;rw [if_neg hk]
theorem bM (h:(ak r p).2=0)(hx:r.Things[k]? = some x)(he:(x.ID==(ak r p).1.ai)=true)(hb:∀ (j:Nat) y,j<k→r.Things[j]? = some y→(y.ID==(ak r p).1.ai)=false)(hk:x.Kind=kind)(hr:cT (ak r p).1.Rights rights=false):av r p kind rights=(e7,0,7):=by
  unfold av;rw [if_pos h,jA (q:=fun t=>t.ID==(ak r p).1.ai) hx he hb];simp only;rw [if_pos hk,if_neg (by rw [hr];simp)]
theorem cL (h:(ak r p).2=0)(hx:r.Things[k]? = some x)(he:(x.ID==(ak r p).1.ai)=true)(hb:∀ (j:Nat) y,j<k→r.Things[j]? = some y→(y.ID==(ak r p).1.ai)=false)(hk:x.Kind=kind)(hr:cT (ak r p).1.Rights rights=true):av r p kind rights=((ak r p).1,(k:Int),0):=by
  unfold av;rw [if_pos h,jA (q:=fun t=>t.ID==(ak r p).1.ai) hx he hb];simp only;rw [if_pos hk,if_pos hr]
  have:uV r.Things (ak r p).1.ai=(k:Int):=idxOf_hit hx he hb
  rw [this]
end
theorem eS {r:ay}{p:Place}{kind rights:Int}(h:(av r p kind rights).2.2=0):(ak r p).2=0∧(av r p kind rights).1=(ak r p).1∧cT (ak r p).1.Rights rights=true ∧
    ∃ (k:Nat) (x:ai),(av r p kind rights).2.1=(k:Int)∧r.Things[k]? = some x∧x.ID=(ak r p).1.ai∧x.Kind=kind ∧ ∀ (j:Nat) y,j<k→r.Things[j]? = some y→¬ y.ID=(ak r p).1.ai:=by
  by_cases h1:(ak r p).2=0
  ·
    rcases fC (fun t:ai=>t.ID==(ak r p).1.ai) r.Things with ⟨_,hn⟩ | ⟨k,x,hk,hx,he,hb,_⟩
    · rw [bV h1 hn] at h;simp at h
    ·
      by_cases h2:x.Kind=kind
      ·
        cases h3:cT (ak r p).1.Rights rights with
        | false=>rw [bM h1 hx he hb h2 h3] at h;simp at h
        | true =>
          rw [cL h1 hx he hb h2 h3]
          exact ⟨h1,rfl,rfl,k,x,rfl,hx,by simpa using he,h2,fun j y hj hy=>by simpa using hb j y hj hy⟩
      · rw [bW h1 hx he hb h2] at h;simp at h
  · rw [cu h1] at h;exact absurd h h1
theorem dK (r:ay)(p:Place)(kind rights:Int):0≤(av r p kind rights).2.2:=by
  have:=dq r p
  unfold av;split
  ·
    split
    · simp
    ·
      split
      · split <;> simp
      · simp
  · exact this
def fD (r:ay)(p:Place):ByteArray×Int :=
  if (av r p 1 1).2.2=0 then (match r.Things[(av r p 1 1).2.1.toNat]? with|some t=>(t.Data,0)|none=>(⟨#[]⟩,0)) else (⟨#[]⟩,(av r p 1 1).2.2)
def dU (l:List ai)(i:Nat)(d:ByteArray):List ai:=match l[i]? with|some t=>l.set i ⟨t.ID,t.Kind,d⟩ | none=>l
def bF (r:ay)(p:Place)(d:ByteArray):ay×Int :=
  if (av r p 1 2).2.2=0 then
    if 8<d.size then (r0,2) else (⟨r.ap,dU r.Things (av r p 1 2).2.1.toNat d,r.Held,r.Notes,r.ae,r.af⟩,0)
  else (r0,(av r p 1 2).2.2)
def dN (l:List Note)(t:Int):Nat:=(l.filter (fun n=>n.Port==t)).length
def bq (r:ay)(p:Place)(d:ByteArray)(slot rights:Int):ay×Int :=
  if (av r p 2 2).2.2=0 then
    if 8<d.size then (r0,2)
    else if dN r.Notes (av r p 2 2).1.ai=3 then (r0,9)
    else if slot<0 then (⟨r.ap,r.Things,r.Held,r.Notes++[⟨(av r p 2 2).1.ai,d,(av r p 2 2).1.ar,0⟩],r.ae,r.af⟩,0)
    else if cT (av r p 2 2).1.Rights 4=true then
      if (ak r ⟨p.ag,slot⟩).2=0 then
        if 999<r.ae then (r0,9)
        else if (derived (ak r ⟨p.ag,slot⟩).1 r.ae rights 0).2=0 then
          (⟨r.ap++[(derived (ak r ⟨p.ag,slot⟩).1 r.ae rights 0).1],r.Things,r.Held,r.Notes++[⟨(av r p 2 2).1.ai,d,(av r p 2 2).1.ar,(derived (ak r ⟨p.ag,slot⟩).1 r.ae rights 0).1.ID⟩],r.ae+1,r.af⟩,0)
        else (r0,(derived (ak r ⟨p.ag,slot⟩).1 r.ae rights 0).2)
      else (r0,(ak r ⟨p.ag,slot⟩).2)
    else (r0,7)
  else (r0,(av r p 2 2).2.2)
def k4 (ns:List Note)(i:Nat):List Note:=ns.take i++ns.drop (i+1)
def aE (r:ay)(p:Place):ay×Note×Int×Int :=
  if (av r p 2 1).2.2=0 then
    match r.Notes[(idxOf (fun n=>n.Port==(av r p 2 1).1.ai) r.Notes).toNat]?,decide (0≤idxOf (fun n=>n.Port==(av r p 2 1).1.ai) r.Notes) with
    | some n,true =>
      if 0<n.ao then
        if cE r.Held p.ag<0 then (r0,n0,0,9)
        else (⟨r.ap,r.Things,bO r.Held ⟨p.ag,cE r.Held p.ag⟩ n.ao,k4 r.Notes (idxOf (fun n=>n.Port==(av r p 2 1).1.ai) r.Notes).toNat,r.ae,r.af⟩,n,cE r.Held p.ag,0)
      else (⟨r.ap,r.Things,r.Held,k4 r.Notes (idxOf (fun n=>n.Port==(av r p 2 1).1.ai) r.Notes).toNat,r.ae,r.af⟩,n,-1,0)
    | _,_=>(r0,n0,0,5)
  else (r0,n0,0,(av r p 2 1).2.2)
theorem fE {ws:List ao}{ts:List Int}{ns:List Note}{k:Nat}{n:Note}(h:ns[k]? = some n)(hp:(fG ws n).Port∈ts):ew ws ts (ns.take (k+1))=ew ws ts (ns.take k)++[fG ws n]∧eI ws ts (ns.take (k+1))=eI ws ts (ns.take k):=by
  unfold ew eI
  rw [List.take_add_one,h]
  simp [hp]
theorem nD {ws:List ao}{ts:List Int}{ns:List Note}{k:Nat}{n:Note}(h:ns[k]? = some n)(hp:¬ (fG ws n).Port∈ts)(h0:0<(fG ws n).ao):ew ws ts (ns.take (k+1))=ew ws ts (ns.take k)∧eI ws ts (ns.take (k+1))=eI ws ts (ns.take k)++[(fG ws n).ao]:=by
  unfold ew eI
  rw [List.take_add_one,h]
  simp [hp,h0]
theorem fF {ws:List ao}{ts:List Int}{ns:List Note}{k:Nat}{n:Note}(h:ns[k]? = some n)(hp:¬ (fG ws n).Port∈ts)(h0:¬ 0<(fG ws n).ao):ew ws ts (ns.take (k+1))=ew ws ts (ns.take k)∧eI ws ts (ns.take (k+1))=eI ws ts (ns.take k):=by
  unfold ew eI
  rw [List.take_add_one,h]
  simp [hp,h0]
theorem hZ {ws:List ao}{n:Note}(h:cb ws n.ao = -1):fG ws n=⟨n.Port,n.Data,n.ar,0⟩:=by unfold fG;rw [if_pos (by omega)]
theorem e9 {ws:List ao}{n:Note}{j:Nat}(h:cb ws n.ao=(j:Int)):fG ws n=n:=by unfold fG;rw [if_neg (by omega)]
theorem pb {ns:List Note}{t:Int}{k:Nat}{n:Note}(h:ns[k]? = some n)(e:n.Port=t):dN (ns.take (k+1)) t=dN (ns.take k) t+1:=by
  unfold dN;rw [List.take_add_one,h];simp [e]
theorem nE {ns:List Note}{t:Int}{k:Nat}{n:Note}(h:ns[k]? = some n)(e:¬ n.Port=t):dN (ns.take (k+1)) t=dN (ns.take k) t:=by
  unfold dN;rw [List.take_add_one,h];simp [e]
theorem q8 {ns:List Note}{t:Int}{k:Nat}:dN (ns.take k) t≤k:=by
  unfold dN;exact Nat.le_trans (List.length_filter_le _ _) (by rw [List.length_take];omega)
def eW (ns:List Note)(l:List ao):List ao:=ns.foldl (fun l n=>if 0<n.ao then without l n.ao else l) l
theorem fx {ns:List Note}{l:List ao}{k:Nat}{n:Note}(h:ns[k]? = some n):eW (ns.take (k+1)) l=(if 0<n.ao then without (eW (ns.take k) l) n.ao else eW (ns.take k) l):=by
  unfold eW;rw [List.take_add_one,h];simp
theorem mL (ns:List Note):∀ (l:List ao),(eW ns l).length≤l.length:=by
  induction ns with
  | nil=>intro l;exact Nat.le_refl _
  | cons n ns ih =>
    intro l
    show (eW ns _).length≤_
    refine Nat.le_trans (ih _) ?_
    dsimp only
    split
    · exact hY _ _
    · exact Nat.le_refl _
theorem nF (ns:List Note):∀ (l:List ao),(∀w∈l,0≤w.Rights∧w.Rights≤7) → ∀w∈eW ns l,0≤w.Rights∧w.Rights≤7:=by
  induction ns with
  | nil=>intro l h;exact h
  | cons n ns ih =>
    intro l h
    show ∀w∈eW ns _,_
    refine ih _ ?_
    dsimp only
    split
    · exact i2 h
    · exact h
def bG (r:ay):ay:=aP ⟨eW r.Notes r.ap,r.Things,r.Held,[],r.ae,r.af⟩
end Go.Proofs.YtpipachmngdegaaGreat
end
