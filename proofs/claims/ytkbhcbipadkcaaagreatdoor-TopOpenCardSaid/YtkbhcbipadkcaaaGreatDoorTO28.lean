import Derived.Test.YtkbhcbipadkcaaaGreatDoorTO27
namespace Go.Proofs.YtkbhcbipadkcaaaGreatDoor
set_option linter.unusedVariables false
set_option linter.unusedSimpArgs false
def r0:aD:=⟨[],[],[],[],0,0⟩
def n0:Note:=⟨0,⟨#[]⟩,0,0⟩
structure Ok (r:aD):Prop where
  wl:r.aj.length<=2000
  tl:r.Things.length<=2000
  hl:r.Held.length<=2000
  nl:r.Notes.length<=2000
  ri:∀w∈r.aj,0<=w.Rights/\w.Rights<=7
  w0:0<=r.ae
  w1:r.ae<=2000
  t0:0<=r.ah
  t1:r.ah<=2000
def F8 (l:List ap)(id:Int):Option ap:=l.find? (fun w=>w.ID==id)
theorem Ql {l:List ap}{id:Int}{j:Nat}{x:ap}(hf:cK l id=(j:Int))(hx:l[j]? = some x):F8 l id=some x:=by
 rcases kV (l:=l) (id:=id) with ⟨h1,h2⟩ | ⟨k,hk,h1,h2⟩
 .omega
 .
  have:k=j:=by omega
  subst this
  rw [List.getElem?_eq_getElem hk] at hx;injection hx with hx
  unfold F8;rw [h2,hx]
theorem Qm {l:List ap}{id:Int}(hf:cK l id = -1):F8 l id=none:=by
 rcases kV (l:=l) (id:=id) with ⟨h1,h2⟩ | ⟨k,hk,h1,h2⟩
 .exact h2
 .omega
theorem KJ {l:List ap}{id:Int}{x:ap}(h:F8 l id=some x):x∈l/\x.ID=id:=by
 unfold F8 at h
 exact ⟨List.mem_of_find?_eq_some h,by simpa using List.find?_some h⟩
def aQ (r:aD)(p:Place):ap×Int :=
  if aY p=0 then (match F8 r.aj (mT r.Held p) with|some w=>(w,0)|none=>(jJ,5)) else (jJ,aY p)
theorem xL {r:aD}{p:Place}(h:¬ aY p=0):aQ r p=(jJ,aY p):=by unfold aQ;rw [if_neg h]
theorem zO {r:aD}{p:Place}(h:aY p=0)(hf:cK r.aj (mT r.Held p) = -1):aQ r p=(jJ,5):=by unfold aQ;rw [if_pos h,Qm hf]
theorem Dp {r:aD}{p:Place}{j:Nat}{x:ap}(h:aY p=0)(hf:cK r.aj (mT r.Held p)=(j:Int))(hx:r.aj[j]? = some x):aQ r p=(x,0):=by unfold aQ;rw [if_pos h,Ql hf hx]
theorem zP {r:aD}{p:Place}(h:(aQ r p).2=0):aY p=0/\(aQ r p).1∈r.aj/\(aQ r p).1.ID=mT r.Held p:=by
 by_cases h1:aY p=0
 .
  cases h2:F8 r.aj (mT r.Held p) with
  | none=>unfold aQ at h;rw [if_pos h1,h2] at h;simp at h
  | some w =>
   have e:aQ r p=(w,0):=by unfold aQ;rw [if_pos h1,h2]
   have:=KJ h2
   rw [e];exact ⟨h1,this.1,this.2⟩
 .rw [xL h1] at h;exact absurd h h1
theorem j4 (r:aD)(p:Place):0<=(aQ r p).2:=by
 unfold aQ;split
 .split <;> simp
 .have:=rG p;dsimp only;omega
theorem Ok.get {r:aD}(h:Ok r){p:Place}(hg:(aQ r p).2=0):0<=(aQ r p).1.Rights/\(aQ r p).1.Rights<=7:=h.ri _ (zP hg).2.1
def gM (r:aD)(p:Place):Int:=if aY p=0 then (if mT r.Held p=0 then 0 else 6) else aY p
theorem oO (r:aD)(p:Place):0<=gM r p:=by
 unfold gM;have:=rG p;split
 .split <;> simp
 .omega
def e8 (r:aD)(w:ap)(p:Place):aD:=⟨r.aj++[w],r.Things,if 0<p.az then fL r.Held p w.ID else r.Held,r.Notes,r.ae+1,r.ah⟩
def dV (r:aD)(p:Place)(kind:Int):aD×Int :=
  if kind=1\/kind=2 then
    if gM r p=0 then
      if r.Things.length=10\/999<r.ah\/999<r.ae then (r0,9)
      else (e8 ⟨r.aj,r.Things++[⟨r.ah,kind,⟨#[]⟩⟩],r.Held,r.Notes,r.ae,r.ah+1⟩ ⟨r.ae,r.ah,7,0,0⟩ p,0)
    else (r0,gM r p)
  else (r0,8)
def fq (r:aD)(p t:Place)(rights dL:Int):aD×Int :=
  if (aQ r p).2=0 then
    if gM r t=0 then
      if p.az=t.az\/jh (aQ r p).1.Rights 4=true then
        if 999<r.ae then (r0,9)
        else if (derived (aQ r p).1 r.ae rights dL).2=0 then (e8 r (derived (aQ r p).1 r.ae rights dL).1 t,0)
        else (r0,(derived (aQ r p).1 r.ae rights dL).2)
      else (r0,7)
    else (r0,gM r t)
  else (r0,(aQ r p).2)
def jk (r:aD)(p:Place)(slot:Int):aD×Int :=
  if (aQ r p).2=0 then
    if gM r ⟨p.az,slot⟩=0 then (⟨r.aj,r.Things,fL (fL r.Held p 0) ⟨p.az,slot⟩ (aQ r p).1.ID,r.Notes,r.ae,r.ah⟩,0)
    else (r0,gM r ⟨p.az,slot⟩)
  else (r0,(aQ r p).2)
def bW (l:List ap):List Int:=Lib.compact (m8 (l.map ap.aE))
def jD (ws:List ap)(n:Note):Note:=if cK ws n.ap<0 then ⟨n.Port,n.Data,n.aN,0⟩ else n
def ij (ws:List ap)(ts:List Int)(ns:List Note):List Note:=(ns.map (jD ws)).filter (fun n=>decide (n.Port∈ts))
def kF (ws:List ap)(ts:List Int)(ns:List Note):List Int:=((ns.map (jD ws)).filter (fun n => !decide (n.Port∈ts)&&decide (0<n.ap))).map Note.ap
def fN (r:aD):aD:=⟨r.aj,r.Things.filter (fun t => !!decide (t.ID∈bW r.aj)),r.Held.filter (fun h => !decide (cK r.aj h.ap<0)),ij r.aj (bW r.aj) r.Notes,r.ae,r.ah⟩
def pk (r:aD):List Int:=kF r.aj (bW r.aj) r.Notes
def nz (r:aD):aD:=⟨(pk r).foldl without r.aj,(fN r).Things,(fN r).Held,(fN r).Notes,r.ae,r.ah⟩
def gX:Nat->aD->aD
  | 0,r=>fN r
  | n+1,r=>if (pk r).length=0 then fN r else gX n (nz r)
def dS (r:aD):aD:=gX (r.Notes.length+1) r
theorem qR (ws:List ap)(ts:List Int)(ns:List Note):(ij ws ts ns).length+(kF ws ts ns).length<=ns.length:=by
 have h:∀l:List Note,(l.filter (fun n=>decide (n.Port∈ts))).length+(l.filter (fun n => !decide (n.Port∈ts)&&decide (0<n.ap))).length<=l.length:=by
  intro l
  induction l with
  | nil=>simp
  | cons n l ih =>
   rw [List.filter_cons,List.filter_cons,List.length_cons]
   by_cases h:n.Port∈ts
   .rw [if_pos (by simpa using h),if_neg (by simp [h]),List.length_cons];omega
   .
    rw [if_neg (by simpa using h)]
    split
    .rw [List.length_cons];omega
    .omega
 have:=h (ns.map (jD ws))
 simpa [ij,kF] using this
theorem oP {r:aD}(h:¬ (pk r).length=0):(nz r).Notes.length<r.Notes.length:=by
 have:=qR r.aj (bW r.aj) r.Notes
 show (ij r.aj (bW r.aj) r.Notes).length<_
 unfold pk at h;omega
theorem td:∀ (n m:Nat) (r:aD),r.Notes.length<n->r.Notes.length<m->gX n r=gX m r
 | 0,m,r,h,_=>by omega
 | n+1,0,r,_,h=>by omega
 | n+1,m+1,r,h1,h2=>by
  simp only [gX]
  split
  .rfl
  .
   have:=oP (r:=r) (by assumption)
   exact td n m _ (by omega) (by omega)
theorem ql {r:aD}(h:(pk r).length=0):dS r=fN r:=by
 unfold dS gX;rw [if_pos h]
theorem Dq {r:aD}(h:¬ (pk r).length=0):dS r=dS (nz r):=by
 have:=oP h
 conv=>lhs;unfold dS gX
 rw [if_neg h]
 exact td _ _ _ (by omega) (by omega)
theorem nf (l:List ap)(id:Int):(without l id).length<=l.length:=BF _ _ _
theorem oQ {l:List ap}{id:Int}(h:∀w∈l,0<=w.Rights/\w.Rights<=7):∀w∈without l id,0<=w.Rights/\w.Rights<=7:=fun w hw=>by
 obtain ⟨y,hy,_,rfl⟩:=gL.1 hw
 have:=kz (id:=id) (f:=eP l id) y
 rw [this.2.2.1];exact h y hy
theorem tf:∀ (ids:List Int) (l:List ap),(ids.foldl without l).length<=l.length
 | [],l=>Nat.le_refl _
 | i::ids,l=>Nat.le_trans (tf ids _) (nf l i)
theorem BJ:∀ (ids:List Int) (l:List ap),(∀w∈l,0<=w.Rights/\w.Rights<=7) -> ∀w∈ids.foldl without l,0<=w.Rights/\w.Rights<=7
 | [],l,h=>h
 | i::ids,l,h=>BJ ids _ (oQ h)
theorem Ok.uL {r:aD}(h:Ok r){l:List ap}(hl:l.length<=2000)(hr:∀w∈l,0<=w.Rights/\w.Rights<=7):Ok ⟨l,r.Things,r.Held,r.Notes,r.ae,r.ah⟩ :=
 ⟨hl,h.tl,h.hl,h.nl,hr,h.w0,h.w1,h.t0,h.t1⟩
theorem Ok.wo {r:aD}(h:Ok r)(id:Int):Ok ⟨without r.aj id,r.Things,r.Held,r.Notes,r.ae,r.ah⟩ :=
 h.uL (Nat.le_trans (nf _ _) h.wl) (oQ h.ri)
theorem Ok.nz {r:aD}(h:Ok r):Ok (YtkbhcbipadkcaaaGreatDoor.nz r) :=
 ⟨Nat.le_trans (tf _ _) h.wl,Nat.le_trans (List.length_filter_le _ _) h.tl,Nat.le_trans (List.length_filter_le _ _) h.hl,by
  have:=qR r.aj (bW r.aj) r.Notes
  have:=h.nl
  show (ij r.aj (bW r.aj) r.Notes).length<=2000
  omega,BJ _ _ h.ri,h.w0,h.w1,h.t0,h.t1⟩
def jK (r:aD)(p:Place):aD×Int :=
  if (aQ r p).2=0 then (dS ⟨without r.aj (aQ r p).1.ID,r.Things,r.Held,r.Notes,r.ae,r.ah⟩,0) else (r0,(aQ r p).2)
def E9 (l:List ap)(id:Int):List ap:=l.filter (fun x => !decide (x.ID∈ky id l))
theorem Ok.cut {r:aD}(h:Ok r)(id:Int):Ok ⟨E9 r.aj id,r.Things,r.Held,r.Notes,r.ae,r.ah⟩ :=
 h.uL (Nat.le_trans (List.length_filter_le _ _) h.wl) (fun w hw=>h.ri w (List.mem_filter.1 hw).1)
def ff (r:aD)(p:Place):aD×Int :=
  if (aQ r p).2=0 then (dS ⟨E9 r.aj (aQ r p).1.ID,r.Things,r.Held,r.Notes,r.ae,r.ah⟩,0) else (r0,(aQ r p).2)
def Oq (l:List aE)(id:Int):Int:=idxOf (fun t=>t.ID==id) l
def bR (r:aD)(p:Place)(kind rights:Int):ap×Int×Int :=
  if (aQ r p).2=0 then
    match r.Things.find? (fun t=>t.ID==(aQ r p).1.aE) with
    | none=>(jJ,0,8)
    | some t=>if t.Kind=kind then (if jh (aQ r p).1.Rights rights=true then ((aQ r p).1,Oq r.Things (aQ r p).1.aE,0) else (jJ,0,7)) else (jJ,0,8)
  else (jJ,0,(aQ r p).2)
theorem qm {α:Type}{q:α->Bool}{l:List α}{k:Nat}{x:α}(hx:l[k]? = some x)(he:q x=true)(hb:∀ (j:Nat) y,j<k->l[j]? = some y->q y=false):l.find? q=some x:=by
 have hk:=(List.getElem?_eq_some_iff.1 hx).1
 rw [List.find?_eq_some_iff_getElem]
 refine ⟨he,k,hk,(List.getElem?_eq_some_iff.1 hx).2,fun j hj=>?_⟩
 have:=hb j l[j] hj (List.getElem?_eq_getElem (by omega))
 simp [this]
theorem tg {r:aD}{p:Place}{kind rights:Int}(h:¬ (aQ r p).2=0):bR r p kind rights=(jJ,0,(aQ r p).2):=by unfold bR;rw [if_neg h]
theorem qS {r:aD}{p:Place}{kind rights:Int}(h:(aQ r p).2=0)(hn:∀x∈r.Things,(x.ID==(aQ r p).1.aE)=false):bR r p kind rights=(jJ,0,8):=by
 unfold bR;rw [if_pos h,show r.Things.find? (fun t=>t.ID==(aQ r p).1.aE)=none from List.find?_eq_none.2 (fun x hx=>by simp [hn x hx])]
section
variable {r:aD} {p:Place} {kind rights:Int} {k:Nat} {x:aE}
theorem qT (h:(aQ r p).2=0)(hx:r.Things[k]? = some x)(he:(x.ID==(aQ r p).1.aE)=true)(hb:∀ (j:Nat) y,j<k->r.Things[j]? = some y->(y.ID==(aQ r p).1.aE)=false)(hk:¬ x.Kind=kind):bR r p kind rights=(jJ,0,8):=by
 unfold bR;rw [if_pos h,qm (q:=fun t=>t.ID==(aQ r p).1.aE) hx he hb];simp only;rw [if_neg hk]
theorem oS (h:(aQ r p).2=0)(hx:r.Things[k]? = some x)(he:(x.ID==(aQ r p).1.aE)=true)(hb:∀ (j:Nat) y,j<k->r.Things[j]? = some y->(y.ID==(aQ r p).1.aE)=false)(hk:x.Kind=kind)(hr:jh (aQ r p).1.Rights rights=false):bR r p kind rights=(jJ,0,7):=by
 unfold bR;rw [if_pos h,qm (q:=fun t=>t.ID==(aQ r p).1.aE) hx he hb];simp only;rw [if_pos hk,if_neg (by rw [hr];simp)]
theorem vB (h:(aQ r p).2=0)(hx:r.Things[k]? = some x)(he:(x.ID==(aQ r p).1.aE)=true)(hb:∀ (j:Nat) y,j<k->r.Things[j]? = some y->(y.ID==(aQ r p).1.aE)=false)(hk:x.Kind=kind)(hr:jh (aQ r p).1.Rights rights=true):bR r p kind rights=((aQ r p).1,(k:Int),0):=by
 unfold bR;rw [if_pos h,qm (q:=fun t=>t.ID==(aQ r p).1.aE) hx he hb];simp only;rw [if_pos hk,if_pos hr]
 have:Oq r.Things (aQ r p).1.aE=(k:Int):=idxOf_hit hx he hb
 rw [this]
end
theorem qU {r:aD}{p:Place}{kind rights:Int}(h:(bR r p kind rights).2.2=0):(aQ r p).2=0/\(bR r p kind rights).1=(aQ r p).1/\jh (aQ r p).1.Rights rights=true /\
 ∃ (k:Nat) (x:aE),(bR r p kind rights).2.1=(k:Int)/\r.Things[k]? = some x/\x.ID=(aQ r p).1.aE/\x.Kind=kind /\ ∀ (j:Nat) y,j<k->r.Things[j]? = some y->¬ y.ID=(aQ r p).1.aE:=by
 by_cases h1:(aQ r p).2=0
 .
  rcases j3 (fun t:aE=>t.ID==(aQ r p).1.aE) r.Things with ⟨_,hn⟩ | ⟨k,x,hk,hx,he,hb,_⟩
  .rw [qS h1 hn] at h;simp at h
  .
   by_cases h2:x.Kind=kind
   .
    cases h3:jh (aQ r p).1.Rights rights with
    | false=>rw [oS h1 hx he hb h2 h3] at h;simp at h
    | true =>
     rw [vB h1 hx he hb h2 h3]
     exact ⟨h1,rfl,rfl,k,x,rfl,hx,by simpa using he,h2,fun j y hj hy=>by simpa using hb j y hj hy⟩
   .rw [qT h1 hx he hb h2] at h;simp at h
 .rw [tg h1] at h;exact absurd h h1
theorem qn (r:aD)(p:Place)(kind rights:Int):0<=(bR r p kind rights).2.2:=by
 have:=j4 r p
 unfold bR;split
 .
  split
  .simp
  .
   split
   .split <;> simp
   .simp
 .exact this
def gY (l:List aE)(i:Nat)(d:ByteArray):List aE:=match l[i]? with|some t=>l.set i ⟨t.ID,t.Kind,d⟩ | none=>l
def fX (r:aD)(p:Place)(d:ByteArray):aD×Int :=
  if (bR r p 1 2).2.2=0 then
    if 8<d.size then (r0,2) else (⟨r.aj,gY r.Things (bR r p 1 2).2.1.toNat d,r.Held,r.Notes,r.ae,r.ah⟩,0)
  else (r0,(bR r p 1 2).2.2)
def gi (l:List Note)(t:Int):Nat:=(l.filter (fun n=>n.Port==t)).length
def dO (r:aD)(p:Place)(d:ByteArray)(slot rights:Int):aD×Int :=
  if (bR r p 2 2).2.2=0 then
    if 8<d.size then (r0,2)
    else if gi r.Notes (bR r p 2 2).1.aE=3 then (r0,9)
    else if slot<0 then (⟨r.aj,r.Things,r.Held,r.Notes++[⟨(bR r p 2 2).1.aE,d,(bR r p 2 2).1.aN,0⟩],r.ae,r.ah⟩,0)
    else if jh (bR r p 2 2).1.Rights 4=true then
      if (aQ r ⟨p.az,slot⟩).2=0 then
        if 999<r.ae then (r0,9)
        else if (derived (aQ r ⟨p.az,slot⟩).1 r.ae rights 0).2=0 then
          (⟨r.aj++[(derived (aQ r ⟨p.az,slot⟩).1 r.ae rights 0).1],r.Things,r.Held,r.Notes++[⟨(bR r p 2 2).1.aE,d,(bR r p 2 2).1.aN,(derived (aQ r ⟨p.az,slot⟩).1 r.ae rights 0).1.ID⟩],r.ae+1,r.ah⟩,0)
        else (r0,(derived (aQ r ⟨p.az,slot⟩).1 r.ae rights 0).2)
      else (r0,(aQ r ⟨p.az,slot⟩).2)
    else (r0,7)
  else (r0,(bR r p 2 2).2.2)
def ud (ns:List Note)(i:Nat):List Note:=ns.take i++ns.drop (i+1)
def eC (r:aD)(p:Place):aD×Note×Int×Int :=
  if (bR r p 2 1).2.2=0 then
    match r.Notes[(idxOf (fun n=>n.Port==(bR r p 2 1).1.aE) r.Notes).toNat]?,decide (0<=idxOf (fun n=>n.Port==(bR r p 2 1).1.aE) r.Notes) with
    | some n,true =>
      if 0<n.ap then
        if iO r.Held p.az<0 then (r0,n0,0,9)
        else (⟨r.aj,r.Things,fL r.Held ⟨p.az,iO r.Held p.az⟩ n.ap,ud r.Notes (idxOf (fun n=>n.Port==(bR r p 2 1).1.aE) r.Notes).toNat,r.ae,r.ah⟩,n,iO r.Held p.az,0)
      else (⟨r.aj,r.Things,r.Held,ud r.Notes (idxOf (fun n=>n.Port==(bR r p 2 1).1.aE) r.Notes).toNat,r.ae,r.ah⟩,n,-1,0)
    | _,_=>(r0,n0,0,5)
  else (r0,n0,0,(bR r p 2 1).2.2)
theorem zQ {ws:List ap}{ts:List Int}{ns:List Note}{k:Nat}{n:Note}(h:ns[k]? = some n)(hp:(jD ws n).Port∈ts):ij ws ts (ns.take (k+1))=ij ws ts (ns.take k)++[jD ws n]/\kF ws ts (ns.take (k+1))=kF ws ts (ns.take k):=by
 unfold ij kF
 rw [List.take_add_one,h]
 simp [hp]
theorem H2 {ws:List ap}{ts:List Int}{ns:List Note}{k:Nat}{n:Note}(h:ns[k]? = some n)(hp:¬ (jD ws n).Port∈ts)(h0:0<(jD ws n).ap):ij ws ts (ns.take (k+1))=ij ws ts (ns.take k)/\kF ws ts (ns.take (k+1))=kF ws ts (ns.take k)++[(jD ws n).ap]:=by
 unfold ij kF
 rw [List.take_add_one,h]
 simp [hp,h0]
theorem zR {ws:List ap}{ts:List Int}{ns:List Note}{k:Nat}{n:Note}(h:ns[k]? = some n)(hp:¬ (jD ws n).Port∈ts)(h0:¬ 0<(jD ws n).ap):ij ws ts (ns.take (k+1))=ij ws ts (ns.take k)/\kF ws ts (ns.take (k+1))=kF ws ts (ns.take k):=by
 unfold ij kF
 rw [List.take_add_one,h]
 simp [hp,h0]
theorem Gx {ws:List ap}{n:Note}(h:cK ws n.ap = -1):jD ws n=⟨n.Port,n.Data,n.aN,0⟩:=by unfold jD;rw [if_pos (by omega)]
theorem xM {ws:List ap}{n:Note}{j:Nat}(h:cK ws n.ap=(j:Int)):jD ws n=n:=by unfold jD;rw [if_neg (by omega)]
theorem KL {ns:List Note}{t:Int}{k:Nat}{n:Note}(h:ns[k]? = some n)(e:n.Port=t):gi (ns.take (k+1)) t=gi (ns.take k) t+1:=by
 unfold gi;rw [List.take_add_one,h];simp [e]
theorem H3 {ns:List Note}{t:Int}{k:Nat}{n:Note}(h:ns[k]? = some n)(e:¬ n.Port=t):gi (ns.take (k+1)) t=gi (ns.take k) t:=by
 unfold gi;rw [List.take_add_one,h];simp [e]
theorem MK {ns:List Note}{t:Int}{k:Nat}:gi (ns.take k) t<=k:=by
 unfold gi;exact Nat.le_trans (List.length_filter_le _ _) (by rw [List.length_take];omega)
def ia (ns:List Note)(l:List ap):List ap:=ns.foldl (fun l n=>if 0<n.ap then without l n.ap else l) l
theorem xO {ns:List Note}{l:List ap}{k:Nat}{n:Note}(h:ns[k]? = some n):ia (ns.take (k+1)) l=(if 0<n.ap then without (ia (ns.take k) l) n.ap else ia (ns.take k) l):=by
 unfold ia;rw [List.take_add_one,h];simp
theorem xP (ns:List Note):∀ (l:List ap),(ia ns l).length<=l.length:=by
 induction ns with
 | nil=>intro l;exact Nat.le_refl _
 | cons n ns ih =>
  intro l
  show (ia ns _).length<=_
  refine Nat.le_trans (ih _) ?_
  dsimp only
  split
  .exact nf _ _
  .exact Nat.le_refl _
theorem zS (ns:List Note):∀ (l:List ap),(∀w∈l,0<=w.Rights/\w.Rights<=7) -> ∀w∈ia ns l,0<=w.Rights/\w.Rights<=7:=by
 induction ns with
 | nil=>intro l h;exact h
 | cons n ns ih =>
  intro l h
  show ∀w∈ia ns _,_
  refine ih _ ?_
  dsimp only
  split
  .exact oQ h
  .exact h
def aR (r:aD):aD:=dS ⟨ia r.Notes r.aj,r.Things,r.Held,[],r.ae,r.ah⟩
end Go.Proofs.YtkbhcbipadkcaaaGreatDoor
