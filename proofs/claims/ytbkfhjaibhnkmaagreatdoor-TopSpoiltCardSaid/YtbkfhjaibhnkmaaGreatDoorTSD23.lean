import Derived.Test.YtbkfhjaibhnkmaaGreatDoorTSD12
import Derived.Test.YtbkfhjaibhnkmaaGreatDoorTSD22
namespace Go.Proofs.YtbkfhjaibhnkmaaGreatDoor
set_option linter.unusedVariables false
def r0:ap:=⟨[],[],[],[],0,0⟩
def n0:Note:=⟨0,⟨#[]⟩,0,0⟩
structure Ok (r:ap):Prop where
  wl:r.ai.length≤2000
  tl:r.Things.length≤2000
  hl:r.Held.length≤2000
  nl:r.Notes.length≤2000
  ri:∀w∈r.ai,0≤w.Rights∧w.Rights≤7
  w0:0≤r.ae
  w1:r.ae≤2000
  t0:0≤r.af
  t1:r.af≤2000
def Aj (l:List aj)(id:Int):Option aj:=l.find? (fun w=>w.ID==id)
theorem Ak {l:List aj}{id:Int}{j:Nat}{x:aj}(hf:bL l id=(j:Int))(hx:l[j]? = some x):Aj l id=some x:=by
 rcases gD (l:=l) (id:=id) with ⟨h1,h2⟩ | ⟨k,hk,h1,h2⟩
 ·omega
 ·
  have:k=j:=by omega
  subst this
  rw [List.getElem?_eq_getElem hk] at hx;injection hx with hx
  unfold Aj;rw [h2,hx]
theorem Al {l:List aj}{id:Int}(hf:bL l id = -1):Aj l id=none:=by
 rcases gD (l:=l) (id:=id) with ⟨h1,h2⟩ | ⟨k,hk,h1,h2⟩
 ·exact h2
 ·omega
theorem wG {l:List aj}{id:Int}{x:aj}(h:Aj l id=some x):x∈l∧x.ID=id:=by
 unfold Aj at h
 exact ⟨List.mem_of_find?_eq_some h,by simpa using List.find?_some h⟩
def au (r:ap)(p:Place):aj×Int :=
  if aX p=0 then (match Aj r.ai (iQ r.Held p) with|some w=>(w,0)|none=>(fS,5)) else (fS,aX p)
theorem iq {r:ap}{p:Place}(h:¬ aX p=0):au r p=(fS,aX p):=by unfold au;rw [if_neg h]
theorem hN {r:ap}{p:Place}(h:aX p=0)(hf:bL r.ai (iQ r.Held p) = -1):au r p=(fS,5):=by unfold au;rw [if_pos h,Al hf]
theorem jf {r:ap}{p:Place}{j:Nat}{x:aj}(h:aX p=0)(hf:bL r.ai (iQ r.Held p)=(j:Int))(hx:r.ai[j]? = some x):au r p=(x,0):=by unfold au;rw [if_pos h,Ak hf hx]
theorem pR {r:ap}{p:Place}(h:(au r p).2=0):aX p=0∧(au r p).1∈r.ai∧(au r p).1.ID=iQ r.Held p:=by
 by_cases h1:aX p=0
 ·
  cases h2:Aj r.ai (iQ r.Held p) with
  | none=>unfold au at h;rw [if_pos h1,h2] at h;simp at h
  | some w =>
   have e:au r p=(w,0):=by unfold au;rw [if_pos h1,h2]
   have:=wG h2
   rw [e];exact ⟨h1,this.1,this.2⟩
 ·rw [iq h1] at h;exact absurd h h1
theorem Ok.get {r:ap}(h:Ok r){p:Place}(hg:(au r p).2=0):0≤(au r p).1.Rights∧(au r p).1.Rights≤7:=h.ri _ (pR hg).2.1
def eX (r:ap)(p:Place):Int:=if aX p=0 then (if iQ r.Held p=0 then 0 else 6) else aX p
def aW (r:ap)(w:aj)(p:Place):ap:=⟨r.ai++[w],r.Things,if 0<p.ao then cE r.Held p w.ID else r.Held,r.Notes,r.ae+1,r.af⟩
def bC (r:ap)(p:Place)(kind:Int):ap×Int :=
  if kind=1∨kind=2 then
    if eX r p=0 then
      if r.Things.length=10∨999<r.af∨999<r.ae then (r0,9)
      else (aW ⟨r.ai,r.Things++[⟨r.af,kind,⟨#[]⟩⟩],r.Held,r.Notes,r.ae,r.af+1⟩ ⟨r.ae,r.af,7,0,0⟩ p,0)
    else (r0,eX r p)
  else (r0,8)
def cr (r:ap)(p t:Place)(rights bB:Int):ap×Int :=
  if (au r p).2=0 then
    if eX r t=0 then
      if p.ao=t.ao∨fB (au r p).1.Rights 4=true then
        if 999<r.ae then (r0,9)
        else if (derived (au r p).1 r.ae rights bB).2=0 then (aW r (derived (au r p).1 r.ae rights bB).1 t,0)
        else (r0,(derived (au r p).1 r.ae rights bB).2)
      else (r0,7)
    else (r0,eX r t)
  else (r0,(au r p).2)
def dx (r:ap)(p:Place)(slot:Int):ap×Int :=
  if (au r p).2=0 then
    if eX r ⟨p.ao,slot⟩=0 then (⟨r.ai,r.Things,cE (cE r.Held p 0) ⟨p.ao,slot⟩ (au r p).1.ID,r.Notes,r.ae,r.af⟩,0)
    else (r0,eX r ⟨p.ao,slot⟩)
  else (r0,(au r p).2)
def aY (l:List aj):List Int:=Lib.compact (im (l.map aj.ah))
def fP (ws:List aj)(n:Note):Note:=if bL ws n.aj<0 then ⟨n.Port,n.Data,n.aG,0⟩ else n
def e9 (ws:List aj)(ts:List Int)(ns:List Note):List Note:=(ns.map (fP ws)).filter (fun n=>decide (n.Port∈ts))
def gA (ws:List aj)(ts:List Int)(ns:List Note):List Int:=((ns.map (fP ws)).filter (fun n => !decide (n.Port∈ts)&&decide (0<n.aj))).map Note.aj
def ew (r:ap):ap:=⟨r.ai,r.Things.filter (fun t => !!decide (t.ID∈aY r.ai)),r.Held.filter (fun h => !decide (bL r.ai h.aj<0)),e9 r.ai (aY r.ai) r.Notes,r.ae,r.af⟩
def jU (r:ap):List Int:=gA r.ai (aY r.ai) r.Notes
def jD (r:ap):ap:=⟨(jU r).foldl without r.ai,(ew r).Things,(ew r).Held,(ew r).Notes,r.ae,r.af⟩
def gw:Nat→ap→ap
  | 0,r=>ew r
  | n+1,r=>if (jU r).length=0 then ew r else gw n (jD r)
def bq (r:ap):ap:=gw (r.Notes.length+1) r
theorem kC (ws:List aj)(ts:List Int)(ns:List Note):(e9 ws ts ns).length+(gA ws ts ns).length≤ns.length:=by
 have h:∀l:List Note,(l.filter (fun n=>decide (n.Port∈ts))).length+(l.filter (fun n => !decide (n.Port∈ts)&&decide (0<n.aj))).length≤l.length:=by
  intro l
  induction l with
  | nil=>simp
  | cons n l ih =>
   rw [List.filter_cons,List.filter_cons,List.length_cons]
   by_cases h:n.Port∈ts
   ·rw [if_pos (by simpa using h),if_neg (by simp [h]),List.length_cons];omega
   ·
    rw [if_neg (by simpa using h)]
    split
    ·rw [List.length_cons];omega
    ·omega
 have:=h (ns.map (fP ws))
 simpa [e9,gA] using this
theorem jE {r:ap}(h:¬ (jU r).length=0):(jD r).Notes.length<r.Notes.length:=by
 have:=kC r.ai (aY r.ai) r.Notes
 show (e9 r.ai (aY r.ai) r.Notes).length<_
 unfold jU at h;omega
theorem lY:∀ (n m:Nat) (r:ap),r.Notes.length<n→r.Notes.length<m→gw n r=gw m r
 | 0,m,r,h,_=>by omega
 | n+1,0,r,_,h=>by omega
 | n+1,m+1,r,h1,h2=>by
  simp only [gw]
  split
  ·rfl
  ·
   have:=jE (r:=r) (by assumption)
   exact lY n m _ (by omega) (by omega)
theorem kg {r:ap}(h:(jU r).length=0):bq r=ew r:=by
 unfold bq gw;rw [if_pos h]
theorem rq {r:ap}(h:¬ (jU r).length=0):bq r=bq (jD r):=by
 have:=jE h
 conv=>lhs;unfold bq gw
 rw [if_neg h]
 exact lY _ _ _ (by omega) (by omega)
theorem iM (l:List aj)(id:Int):(without l id).length≤l.length:=qq _ _ _
theorem jF {l:List aj}{id:Int}(h:∀w∈l,0≤w.Rights∧w.Rights≤7):∀w∈without l id,0≤w.Rights∧w.Rights≤7:=fun w hw=>by
 obtain ⟨y,hy,_,rfl⟩:=eJ.1 hw
 have:=gu (id:=id) (f:=dy l id) y
 rw [this.2.2.1];exact h y hy
theorem lZ:∀ (ids:List Int) (l:List aj),(ids.foldl without l).length≤l.length
 | [],l=>Nat.le_refl _
 | i::ids,l=>Nat.le_trans (lZ ids _) (iM l i)
theorem qv:∀ (ids:List Int) (l:List aj),(∀w∈l,0≤w.Rights∧w.Rights≤7) → ∀w∈ids.foldl without l,0≤w.Rights∧w.Rights≤7
 | [],l,h=>h
 | i::ids,l,h=>qv ids _ (jF h)
theorem Ok.m8 {r:ap}(h:Ok r){l:List aj}(hl:l.length≤2000)(hr:∀w∈l,0≤w.Rights∧w.Rights≤7):Ok ⟨l,r.Things,r.Held,r.Notes,r.ae,r.af⟩ :=
 ⟨hl,h.tl,h.hl,h.nl,hr,h.w0,h.w1,h.t0,h.t1⟩
theorem Ok.wo {r:ap}(h:Ok r)(id:Int):Ok ⟨without r.ai id,r.Things,r.Held,r.Notes,r.ae,r.af⟩ :=
 h.m8 (Nat.le_trans (iM _ _) h.wl) (jF h.ri)
theorem Ok.jD {r:ap}(h:Ok r):Ok (YtbkfhjaibhnkmaaGreatDoor.jD r) :=
 ⟨Nat.le_trans (lZ _ _) h.wl,Nat.le_trans (List.length_filter_le _ _) h.tl,Nat.le_trans (List.length_filter_le _ _) h.hl,by
  have:=kC r.ai (aY r.ai) r.Notes
  have:=h.nl
  show (e9 r.ai (aY r.ai) r.Notes).length≤2000
  omega,qv _ _ h.ri,h.w0,h.w1,h.t0,h.t1⟩
def dJ (r:ap)(p:Place):ap×Int :=
  if (au r p).2=0 then (bq ⟨without r.ai (au r p).1.ID,r.Things,r.Held,r.Notes,r.ae,r.af⟩,0) else (r0,(au r p).2)
def sH (l:List aj)(id:Int):List aj:=l.filter (fun x => !decide (x.ID∈dG id l))
theorem Ok.cut {r:ap}(h:Ok r)(id:Int):Ok ⟨sH r.ai id,r.Things,r.Held,r.Notes,r.ae,r.af⟩ :=
 h.m8 (Nat.le_trans (List.length_filter_le _ _) h.wl) (fun w hw=>h.ri w (List.mem_filter.1 hw).1)
def bY (r:ap)(p:Place):ap×Int :=
  if (au r p).2=0 then (bq ⟨sH r.ai (au r p).1.ID,r.Things,r.Held,r.Notes,r.ae,r.af⟩,0) else (r0,(au r p).2)
def zq (l:List ah)(id:Int):Int:=idxOf (fun t=>t.ID==id) l
def aO (r:ap)(p:Place)(kind rights:Int):aj×Int×Int :=
  if (au r p).2=0 then
    match r.Things.find? (fun t=>t.ID==(au r p).1.ah) with
    | none=>(fS,0,8)
    | some t=>if t.Kind=kind then (if fB (au r p).1.Rights rights=true then ((au r p).1,zq r.Things (au r p).1.ah,0) else (fS,0,7)) else (fS,0,8)
  else (fS,0,(au r p).2)
theorem ki {α:Type}{q:α→Bool}{l:List α}{k:Nat}{x:α}(hx:l[k]? = some x)(he:q x=true)(hb:∀ (j:Nat) y,j<k→l[j]? = some y→q y=false):l.find? q=some x:=by
 have hk:=(List.getElem?_eq_some_iff.1 hx).1
 rw [List.find?_eq_some_iff_getElem]
 refine ⟨he,k,hk,(List.getElem?_eq_some_iff.1 hx).2,fun j hj=>?_⟩
 have:=hb j l[j] hj (List.getElem?_eq_getElem (by omega))
 simp [this]
theorem dX {r:ap}{p:Place}{kind rights:Int}(h:¬ (au r p).2=0):aO r p kind rights=(fS,0,(au r p).2):=by unfold aO;rw [if_neg h]
theorem du {r:ap}{p:Place}{kind rights:Int}(h:(au r p).2=0)(hn:∀x∈r.Things,(x.ID==(au r p).1.ah)=false):aO r p kind rights=(fS,0,8):=by
 unfold aO;rw [if_pos h,show r.Things.find? (fun t=>t.ID==(au r p).1.ah)=none from List.find?_eq_none.2 (fun x hx=>by simp [hn x hx])]
section
variable {r:ap} {p:Place} {kind rights:Int} {k:Nat} {x:ah}
theorem dv (h:(au r p).2=0)(hx:r.Things[k]? = some x)(he:(x.ID==(au r p).1.ah)=true)(hb:∀ (j:Nat) y,j<k→r.Things[j]? = some y→(y.ID==(au r p).1.ah)=false)(hk:¬ x.Kind=kind):aO r p kind rights=(fS,0,8):=by
 unfold aO;rw [if_pos h,ki (q:=fun t=>t.ID==(au r p).1.ah) hx he hb];simp only;rw [if_neg hk]
theorem cR (h:(au r p).2=0)(hx:r.Things[k]? = some x)(he:(x.ID==(au r p).1.ah)=true)(hb:∀ (j:Nat) y,j<k→r.Things[j]? = some y→(y.ID==(au r p).1.ah)=false)(hk:x.Kind=kind)(hr:fB (au r p).1.Rights rights=false):aO r p kind rights=(fS,0,7):=by
 unfold aO;rw [if_pos h,ki (q:=fun t=>t.ID==(au r p).1.ah) hx he hb];simp only;rw [if_pos hk,if_neg (by rw [hr];simp)]
theorem eO (h:(au r p).2=0)(hx:r.Things[k]? = some x)(he:(x.ID==(au r p).1.ah)=true)(hb:∀ (j:Nat) y,j<k→r.Things[j]? = some y→(y.ID==(au r p).1.ah)=false)(hk:x.Kind=kind)(hr:fB (au r p).1.Rights rights=true):aO r p kind rights=((au r p).1,(k:Int),0):=by
 unfold aO;rw [if_pos h,ki (q:=fun t=>t.ID==(au r p).1.ah) hx he hb];simp only;rw [if_pos hk,if_pos hr]
 have:zq r.Things (au r p).1.ah=(k:Int):=idxOf_hit hx he hb
 rw [this]
end
theorem kD {r:ap}{p:Place}{kind rights:Int}(h:(aO r p kind rights).2.2=0):(au r p).2=0∧(aO r p kind rights).1=(au r p).1∧fB (au r p).1.Rights rights=true ∧
 ∃ (k:Nat) (x:ah),(aO r p kind rights).2.1=(k:Int)∧r.Things[k]? = some x∧x.ID=(au r p).1.ah∧x.Kind=kind ∧ ∀ (j:Nat) y,j<k→r.Things[j]? = some y→¬ y.ID=(au r p).1.ah:=by
 by_cases h1:(au r p).2=0
 ·
  rcases f8 (fun t:ah=>t.ID==(au r p).1.ah) r.Things with ⟨_,hn⟩ | ⟨k,x,hk,hx,he,hb,_⟩
  ·rw [du h1 hn] at h;simp at h
  ·
   by_cases h2:x.Kind=kind
   ·
    cases h3:fB (au r p).1.Rights rights with
    | false=>rw [cR h1 hx he hb h2 h3] at h;simp at h
    | true =>
     rw [eO h1 hx he hb h2 h3]
     exact ⟨h1,rfl,rfl,k,x,rfl,hx,by simpa using he,h2,fun j y hj hy=>by simpa using hb j y hj hy⟩
   ·rw [dv h1 hx he hb h2] at h;simp at h
 ·rw [dX h1] at h;exact absurd h h1
def eP (l:List ah)(i:Nat)(d:ByteArray):List ah:=match l[i]? with|some t=>l.set i ⟨t.ID,t.Kind,d⟩ | none=>l
def cq (r:ap)(p:Place)(d:ByteArray):ap×Int :=
  if (aO r p 1 2).2.2=0 then
    if 8<d.size then (r0,2) else (⟨r.ai,eP r.Things (aO r p 1 2).2.1.toNat d,r.Held,r.Notes,r.ae,r.af⟩,0)
  else (r0,(aO r p 1 2).2.2)
def ey (l:List Note)(t:Int):Nat:=(l.filter (fun n=>n.Port==t)).length
def bZ (r:ap)(p:Place)(d:ByteArray)(slot rights:Int):ap×Int :=
  if (aO r p 2 2).2.2=0 then
    if 8<d.size then (r0,2)
    else if ey r.Notes (aO r p 2 2).1.ah=3 then (r0,9)
    else if slot<0 then (⟨r.ai,r.Things,r.Held,r.Notes++[⟨(aO r p 2 2).1.ah,d,(aO r p 2 2).1.aG,0⟩],r.ae,r.af⟩,0)
    else if fB (aO r p 2 2).1.Rights 4=true then
      if (au r ⟨p.ao,slot⟩).2=0 then
        if 999<r.ae then (r0,9)
        else if (derived (au r ⟨p.ao,slot⟩).1 r.ae rights 0).2=0 then
          (⟨r.ai++[(derived (au r ⟨p.ao,slot⟩).1 r.ae rights 0).1],r.Things,r.Held,r.Notes++[⟨(aO r p 2 2).1.ah,d,(aO r p 2 2).1.aG,(derived (au r ⟨p.ao,slot⟩).1 r.ae rights 0).1.ID⟩],r.ae+1,r.af⟩,0)
        else (r0,(derived (au r ⟨p.ao,slot⟩).1 r.ae rights 0).2)
      else (r0,(au r ⟨p.ao,slot⟩).2)
    else (r0,7)
  else (r0,(aO r p 2 2).2.2)
def mH (ns:List Note)(i:Nat):List Note:=ns.take i++ns.drop (i+1)
def bU (r:ap)(p:Place):ap×Note×Int×Int :=
  if (aO r p 2 1).2.2=0 then
    match r.Notes[(idxOf (fun n=>n.Port==(aO r p 2 1).1.ah) r.Notes).toNat]?,decide (0≤idxOf (fun n=>n.Port==(aO r p 2 1).1.ah) r.Notes) with
    | some n,true =>
      if 0<n.aj then
        if eu r.Held p.ao<0 then (r0,n0,0,9)
        else (⟨r.ai,r.Things,cE r.Held ⟨p.ao,eu r.Held p.ao⟩ n.aj,mH r.Notes (idxOf (fun n=>n.Port==(aO r p 2 1).1.ah) r.Notes).toNat,r.ae,r.af⟩,n,eu r.Held p.ao,0)
      else (⟨r.ai,r.Things,r.Held,mH r.Notes (idxOf (fun n=>n.Port==(aO r p 2 1).1.ah) r.Notes).toNat,r.ae,r.af⟩,n,-1,0)
    | _,_=>(r0,n0,0,5)
  else (r0,n0,0,(aO r p 2 1).2.2)
theorem kE {ws:List aj}{ts:List Int}{ns:List Note}{k:Nat}{n:Note}(h:ns[k]? = some n)(hp:(fP ws n).Port∈ts):e9 ws ts (ns.take (k+1))=e9 ws ts (ns.take k)++[fP ws n]∧gA ws ts (ns.take (k+1))=gA ws ts (ns.take k):=by
 unfold e9 gA
 rw [List.take_add_one,h]
 simp [hp]
theorem uS {ws:List aj}{ts:List Int}{ns:List Note}{k:Nat}{n:Note}(h:ns[k]? = some n)(hp:¬ (fP ws n).Port∈ts)(h0:0<(fP ws n).aj):e9 ws ts (ns.take (k+1))=e9 ws ts (ns.take k)∧gA ws ts (ns.take (k+1))=gA ws ts (ns.take k)++[(fP ws n).aj]:=by
 unfold e9 gA
 rw [List.take_add_one,h]
 simp [hp,h0]
theorem kF {ws:List aj}{ts:List Int}{ns:List Note}{k:Nat}{n:Note}(h:ns[k]? = some n)(hp:¬ (fP ws n).Port∈ts)(h0:¬ 0<(fP ws n).aj):e9 ws ts (ns.take (k+1))=e9 ws ts (ns.take k)∧gA ws ts (ns.take (k+1))=gA ws ts (ns.take k):=by
 unfold e9 gA
 rw [List.take_add_one,h]
 simp [hp,h0]
theorem nF {ws:List aj}{n:Note}(h:bL ws n.aj = -1):fP ws n=⟨n.Port,n.Data,n.aG,0⟩:=by unfold fP;rw [if_pos (by omega)]
theorem kj {ws:List aj}{n:Note}{j:Nat}(h:bL ws n.aj=(j:Int)):fP ws n=n:=by unfold fP;rw [if_neg (by omega)]
theorem wH {ns:List Note}{t:Int}{k:Nat}{n:Note}(h:ns[k]? = some n)(e:n.Port=t):ey (ns.take (k+1)) t=ey (ns.take k) t+1:=by
 unfold ey;rw [List.take_add_one,h];simp [e]
theorem uT {ns:List Note}{t:Int}{k:Nat}{n:Note}(h:ns[k]? = some n)(e:¬ n.Port=t):ey (ns.take (k+1)) t=ey (ns.take k) t:=by
 unfold ey;rw [List.take_add_one,h];simp [e]
theorem yk {ns:List Note}{t:Int}{k:Nat}:ey (ns.take k) t≤k:=by
 unfold ey;exact Nat.le_trans (List.length_filter_le _ _) (by rw [List.length_take];omega)
def eY (ns:List Note)(l:List aj):List aj:=ns.foldl (fun l n=>if 0<n.aj then without l n.aj else l) l
theorem jG {ns:List Note}{l:List aj}{k:Nat}{n:Note}(h:ns[k]? = some n):eY (ns.take (k+1)) l=(if 0<n.aj then without (eY (ns.take k) l) n.aj else eY (ns.take k) l):=by
 unfold eY;rw [List.take_add_one,h];simp
theorem sI (ns:List Note):∀ (l:List aj),(eY ns l).length≤l.length:=by
 induction ns with
 | nil=>intro l;exact Nat.le_refl _
 | cons n ns ih =>
  intro l
  show (eY ns _).length≤_
  refine Nat.le_trans (ih _) ?_
  dsimp only
  split
  ·exact iM _ _
  ·exact Nat.le_refl _
theorem uU (ns:List Note):∀ (l:List aj),(∀w∈l,0≤w.Rights∧w.Rights≤7) → ∀w∈eY ns l,0≤w.Rights∧w.Rights≤7:=by
 induction ns with
 | nil=>intro l h;exact h
 | cons n ns ih =>
  intro l h
  show ∀w∈eY ns _,_
  refine ih _ ?_
  dsimp only
  split
  ·exact jF h
  ·exact h
def aR (r:ap):ap:=bq ⟨eY r.Notes r.ai,r.Things,r.Held,[],r.ae,r.af⟩
end Go.Proofs.YtbkfhjaibhnkmaaGreatDoor
