import Derived.Test.YtkbhcbipadkcaaaGreatDoorTO27
namespace Go.Proofs.YtkbhcbipadkcaaaGreatDoor
set_option linter.unusedVariables false
set_option linter.unusedSimpArgs false
def r0:aC:=⟨[],[],[],[],0,0⟩
def n0:Note:=⟨0,⟨#[]⟩,0,0⟩
structure Ok (r:aC):Prop where
  wl:r.ak.length<=2000
  tl:r.Things.length<=2000
  hl:r.Held.length<=2000
  nl:r.Notes.length<=2000
  ri:∀w∈r.ak,0<=w.Rights/\w.Rights<=7
  w0:0<=r.ae
  w1:r.ae<=2000
  t0:0<=r.ah
  t1:r.ah<=2000
def F4 (l:List aj)(id:Int):Option aj:=l.find? (fun w=>w.ID==id)
theorem Qk {l:List aj}{id:Int}{j:Nat}{x:aj}(hf:cG l id=(j:Int))(hx:l[j]? = some x):F4 l id=some x:=by
 rcases kZ (l:=l) (id:=id) with ⟨h1,h2⟩ | ⟨k,hk,h1,h2⟩
 .omega
 .
  have:k=j:=by omega
  subst this
  rw [List.getElem?_eq_getElem hk] at hx;injection hx with hx
  unfold F4;rw [h2,hx]
theorem Ql {l:List aj}{id:Int}(hf:cG l id = -1):F4 l id=none:=by
 rcases kZ (l:=l) (id:=id) with ⟨h1,h2⟩ | ⟨k,hk,h1,h2⟩
 .exact h2
 .omega
theorem KF {l:List aj}{id:Int}{x:aj}(h:F4 l id=some x):x∈l/\x.ID=id:=by
 unfold F4 at h
 exact ⟨List.mem_of_find?_eq_some h,by simpa using List.find?_some h⟩
def aS (r:aC)(p:Place):aj×Int :=
  if aY p=0 then (match F4 r.ak (mU r.Held p) with|some w=>(w,0)|none=>(jK,5)) else (jK,aY p)
theorem xH {r:aC}{p:Place}(h:¬ aY p=0):aS r p=(jK,aY p):=by unfold aS;rw [if_neg h]
theorem zJ {r:aC}{p:Place}(h:aY p=0)(hf:cG r.ak (mU r.Held p) = -1):aS r p=(jK,5):=by unfold aS;rw [if_pos h,Ql hf]
theorem Dk {r:aC}{p:Place}{j:Nat}{x:aj}(h:aY p=0)(hf:cG r.ak (mU r.Held p)=(j:Int))(hx:r.ak[j]? = some x):aS r p=(x,0):=by unfold aS;rw [if_pos h,Qk hf hx]
theorem zK {r:aC}{p:Place}(h:(aS r p).2=0):aY p=0/\(aS r p).1∈r.ak/\(aS r p).1.ID=mU r.Held p:=by
 by_cases h1:aY p=0
 .
  cases h2:F4 r.ak (mU r.Held p) with
  | none=>unfold aS at h;rw [if_pos h1,h2] at h;simp at h
  | some w =>
   have e:aS r p=(w,0):=by unfold aS;rw [if_pos h1,h2]
   have:=KF h2
   rw [e];exact ⟨h1,this.1,this.2⟩
 .rw [xH h1] at h;exact absurd h h1
theorem j6 (r:aC)(p:Place):0<=(aS r p).2:=by
 unfold aS;split
 .split <;> simp
 .have:=rG p;dsimp only;omega
theorem Ok.get {r:aC}(h:Ok r){p:Place}(hg:(aS r p).2=0):0<=(aS r p).1.Rights/\(aS r p).1.Rights<=7:=h.ri _ (zK hg).2.1
def gL (r:aC)(p:Place):Int:=if aY p=0 then (if mU r.Held p=0 then 0 else 6) else aY p
theorem oQ (r:aC)(p:Place):0<=gL r p:=by
 unfold gL;have:=rG p;split
 .split <;> simp
 .omega
def fx (r:aC)(w:aj)(p:Place):aC:=⟨r.ak++[w],r.Things,if 0<p.aB then fP r.Held p w.ID else r.Held,r.Notes,r.ae+1,r.ah⟩
def dU (r:aC)(p:Place)(kind:Int):aC×Int :=
  if kind=1∨kind=2 then
    if gL r p=0 then
      if r.Things.length=10∨999<r.ah∨999<r.ae then (r0,9)
      else (fx ⟨r.ak,r.Things++[⟨r.ah,kind,⟨#[]⟩⟩],r.Held,r.Notes,r.ae,r.ah+1⟩ ⟨r.ae,r.ah,7,0,0⟩ p,0)
    else (r0,gL r p)
  else (r0,8)
def fk (r:aC)(p t:Place)(rights dL:Int):aC×Int :=
  if (aS r p).2=0 then
    if gL r t=0 then
      if p.aB=t.aB∨ji (aS r p).1.Rights 4=true then
        if 999<r.ae then (r0,9)
        else if (derived (aS r p).1 r.ae rights dL).2=0 then (fx r (derived (aS r p).1 r.ae rights dL).1 t,0)
        else (r0,(derived (aS r p).1 r.ae rights dL).2)
      else (r0,7)
    else (r0,gL r t)
  else (r0,(aS r p).2)
def jl (r:aC)(p:Place)(slot:Int):aC×Int :=
  if (aS r p).2=0 then
    if gL r ⟨p.aB,slot⟩=0 then (⟨r.ak,r.Things,fP (fP r.Held p 0) ⟨p.aB,slot⟩ (aS r p).1.ID,r.Notes,r.ae,r.ah⟩,0)
    else (r0,gL r ⟨p.aB,slot⟩)
  else (r0,(aS r p).2)
def bT (l:List aj):List Int:=Lib.compact (m9 (l.map aj.aE))
def jE (ws:List aj)(n:Note):Note:=if cG ws n.aj<0 then ⟨n.Port,n.Data,n.aQ,0⟩ else n
def ig (ws:List aj)(ts:List Int)(ns:List Note):List Note:=(ns.map (jE ws)).filter (fun n=>decide (n.Port∈ts))
def kJ (ws:List aj)(ts:List Int)(ns:List Note):List Int:=((ns.map (jE ws)).filter (fun n => !decide (n.Port∈ts)&&decide (0<n.aj))).map Note.aj
def fJ (r:aC):aC:=⟨r.ak,r.Things.filter (fun t => !!decide (t.ID∈bT r.ak)),r.Held.filter (fun h => !decide (cG r.ak h.aj<0)),ig r.ak (bT r.ak) r.Notes,r.ae,r.ah⟩
def po (r:aC):List Int:=kJ r.ak (bT r.ak) r.Notes
def nA (r:aC):aC:=⟨(po r).foldl without r.ak,(fJ r).Things,(fJ r).Held,(fJ r).Notes,r.ae,r.ah⟩
def gV:Nat->aC->aC
  | 0,r=>fJ r
  | n+1,r=>if (po r).length=0 then fJ r else gV n (nA r)
def dR (r:aC):aC:=gV (r.Notes.length+1) r
theorem qR (ws:List aj)(ts:List Int)(ns:List Note):(ig ws ts ns).length+(kJ ws ts ns).length<=ns.length:=by
 have h:∀l:List Note,(l.filter (fun n=>decide (n.Port∈ts))).length+(l.filter (fun n => !decide (n.Port∈ts)&&decide (0<n.aj))).length<=l.length:=by
  intro l
  induction l with
  | nil=>simp
  | cons n l ih =>
   rw [List.filter_cons,List.filter_cons,List.length_cons]
   by_cases h:n.Port∈ts
   .rw [if_pos (by simpa using h),if_neg (by simp [h]),List.length_cons];omega
   .
    rw [if_neg (by simpa using h)]
    split
    .rw [List.length_cons];omega
    .omega
 have:=h (ns.map (jE ws))
 simpa [ig,kJ] using this
theorem oS {r:aC}(h:¬ (po r).length=0):(nA r).Notes.length<r.Notes.length:=by
 have:=qR r.ak (bT r.ak) r.Notes
 show (ig r.ak (bT r.ak) r.Notes).length<_
 unfold po at h;omega
theorem s9:∀ (n m:Nat) (r:aC),r.Notes.length<n->r.Notes.length<m->gV n r=gV m r
 | 0,m,r,h,_=>by omega
 | n+1,0,r,_,h=>by omega
 | n+1,m+1,r,h1,h2=>by
  simp only [gV]
  split
  .rfl
  .
   have:=oS (r:=r) (by assumption)
   exact s9 n m _ (by omega) (by omega)
theorem ql {r:aC}(h:(po r).length=0):dR r=fJ r:=by
 unfold dR gV;rw [if_pos h]
theorem Dl {r:aC}(h:¬ (po r).length=0):dR r=dR (nA r):=by
 have:=oS h
 conv=>lhs;unfold dR gV
 rw [if_neg h]
 exact s9 _ _ _ (by omega) (by omega)
theorem ng (l:List aj)(id:Int):(without l id).length<=l.length:=Bu _ _ _
theorem oT {l:List aj}{id:Int}(h:∀w∈l,0<=w.Rights/\w.Rights<=7):∀w∈without l id,0<=w.Rights/\w.Rights<=7:=fun w hw=>by
 obtain ⟨y,hy,_,rfl⟩:=gK.1 hw
 have:=kC (id:=id) (f:=eO l id) y
 rw [this.2.2.1];exact h y hy
theorem ta:∀ (ids:List Int) (l:List aj),(ids.foldl without l).length<=l.length
 | [],l=>Nat.le_refl _
 | i::ids,l=>Nat.le_trans (ta ids _) (ng l i)
theorem BA:∀ (ids:List Int) (l:List aj),(∀w∈l,0<=w.Rights/\w.Rights<=7) -> ∀w∈ids.foldl without l,0<=w.Rights/\w.Rights<=7
 | [],l,h=>h
 | i::ids,l,h=>BA ids _ (oT h)
theorem Ok.uL {r:aC}(h:Ok r){l:List aj}(hl:l.length<=2000)(hr:∀w∈l,0<=w.Rights/\w.Rights<=7):Ok ⟨l,r.Things,r.Held,r.Notes,r.ae,r.ah⟩ :=
 ⟨hl,h.tl,h.hl,h.nl,hr,h.w0,h.w1,h.t0,h.t1⟩
theorem Ok.wo {r:aC}(h:Ok r)(id:Int):Ok ⟨without r.ak id,r.Things,r.Held,r.Notes,r.ae,r.ah⟩ :=
 h.uL (Nat.le_trans (ng _ _) h.wl) (oT h.ri)
theorem Ok.nA {r:aC}(h:Ok r):Ok (YtkbhcbipadkcaaaGreatDoor.nA r) :=
 ⟨Nat.le_trans (ta _ _) h.wl,Nat.le_trans (List.length_filter_le _ _) h.tl,Nat.le_trans (List.length_filter_le _ _) h.hl,by
  have:=qR r.ak (bT r.ak) r.Notes
  have:=h.nl
  show (ig r.ak (bT r.ak) r.Notes).length<=2000
  omega,BA _ _ h.ri,h.w0,h.w1,h.t0,h.t1⟩
def jL (r:aC)(p:Place):aC×Int :=
  if (aS r p).2=0 then (dR ⟨without r.ak (aS r p).1.ID,r.Things,r.Held,r.Notes,r.ae,r.ah⟩,0) else (r0,(aS r p).2)
def E6 (l:List aj)(id:Int):List aj:=l.filter (fun x => !decide (x.ID∈kB id l))
theorem Ok.cut {r:aC}(h:Ok r)(id:Int):Ok ⟨E6 r.ak id,r.Things,r.Held,r.Notes,r.ae,r.ah⟩ :=
 h.uL (Nat.le_trans (List.length_filter_le _ _) h.wl) (fun w hw=>h.ri w (List.mem_filter.1 hw).1)
def fc (r:aC)(p:Place):aC×Int :=
  if (aS r p).2=0 then (dR ⟨E6 r.ak (aS r p).1.ID,r.Things,r.Held,r.Notes,r.ae,r.ah⟩,0) else (r0,(aS r p).2)
def Om (l:List aE)(id:Int):Int:=idxOf (fun t=>t.ID==id) l
def cC (r:aC)(p:Place)(kind rights:Int):aj×Int×Int :=
  if (aS r p).2=0 then
    match r.Things.find? (fun t=>t.ID==(aS r p).1.aE) with
    | none=>(jK,0,8)
    | some t=>if t.Kind=kind then (if ji (aS r p).1.Rights rights=true then ((aS r p).1,Om r.Things (aS r p).1.aE,0) else (jK,0,7)) else (jK,0,8)
  else (jK,0,(aS r p).2)
theorem qm {α:Type}{q:α->Bool}{l:List α}{k:Nat}{x:α}(hx:l[k]? = some x)(he:q x=true)(hb:∀ (j:Nat) y,j<k->l[j]? = some y->q y=false):l.find? q=some x:=by
 have hk:=(List.getElem?_eq_some_iff.1 hx).1
 rw [List.find?_eq_some_iff_getElem]
 refine ⟨he,k,hk,(List.getElem?_eq_some_iff.1 hx).2,fun j hj=>?_⟩
 have:=hb j l[j] hj (List.getElem?_eq_getElem (by omega))
 simp [this]
theorem td {r:aC}{p:Place}{kind rights:Int}(h:¬ (aS r p).2=0):cC r p kind rights=(jK,0,(aS r p).2):=by unfold cC;rw [if_neg h]
theorem qS {r:aC}{p:Place}{kind rights:Int}(h:(aS r p).2=0)(hn:∀x∈r.Things,(x.ID==(aS r p).1.aE)=false):cC r p kind rights=(jK,0,8):=by
 unfold cC;rw [if_pos h,show r.Things.find? (fun t=>t.ID==(aS r p).1.aE)=none from List.find?_eq_none.2 (fun x hx=>by simp [hn x hx])]
section
variable {r:aC} {p:Place} {kind rights:Int} {k:Nat} {x:aE}
theorem qT (h:(aS r p).2=0)(hx:r.Things[k]? = some x)(he:(x.ID==(aS r p).1.aE)=true)(hb:∀ (j:Nat) y,j<k->r.Things[j]? = some y->(y.ID==(aS r p).1.aE)=false)(hk:¬ x.Kind=kind):cC r p kind rights=(jK,0,8):=by
 unfold cC;rw [if_pos h,qm (q:=fun t=>t.ID==(aS r p).1.aE) hx he hb];simp only;rw [if_neg hk]
theorem oU (h:(aS r p).2=0)(hx:r.Things[k]? = some x)(he:(x.ID==(aS r p).1.aE)=true)(hb:∀ (j:Nat) y,j<k->r.Things[j]? = some y->(y.ID==(aS r p).1.aE)=false)(hk:x.Kind=kind)(hr:ji (aS r p).1.Rights rights=false):cC r p kind rights=(jK,0,7):=by
 unfold cC;rw [if_pos h,qm (q:=fun t=>t.ID==(aS r p).1.aE) hx he hb];simp only;rw [if_pos hk,if_neg (by rw [hr];simp)]
theorem vB (h:(aS r p).2=0)(hx:r.Things[k]? = some x)(he:(x.ID==(aS r p).1.aE)=true)(hb:∀ (j:Nat) y,j<k->r.Things[j]? = some y->(y.ID==(aS r p).1.aE)=false)(hk:x.Kind=kind)(hr:ji (aS r p).1.Rights rights=true):cC r p kind rights=((aS r p).1,(k:Int),0):=by
 unfold cC;rw [if_pos h,qm (q:=fun t=>t.ID==(aS r p).1.aE) hx he hb];simp only;rw [if_pos hk,if_pos hr]
 have:Om r.Things (aS r p).1.aE=(k:Int):=idxOf_hit hx he hb
 rw [this]
end
theorem qU {r:aC}{p:Place}{kind rights:Int}(h:(cC r p kind rights).2.2=0):(aS r p).2=0/\(cC r p kind rights).1=(aS r p).1/\ji (aS r p).1.Rights rights=true /\
 ∃ (k:Nat) (x:aE),(cC r p kind rights).2.1=(k:Int)/\r.Things[k]? = some x/\x.ID=(aS r p).1.aE/\x.Kind=kind /\ ∀ (j:Nat) y,j<k->r.Things[j]? = some y->¬ y.ID=(aS r p).1.aE:=by
 by_cases h1:(aS r p).2=0
 .
  rcases j5 (fun t:aE=>t.ID==(aS r p).1.aE) r.Things with ⟨_,hn⟩ | ⟨k,x,hk,hx,he,hb,_⟩
  .rw [qS h1 hn] at h;simp at h
  .
   by_cases h2:x.Kind=kind
   .
    cases h3:ji (aS r p).1.Rights rights with
    | false=>rw [oU h1 hx he hb h2 h3] at h;simp at h
    | true =>
     rw [vB h1 hx he hb h2 h3]
     exact ⟨h1,rfl,rfl,k,x,rfl,hx,by simpa using he,h2,fun j y hj hy=>by simpa using hb j y hj hy⟩
   .rw [qT h1 hx he hb h2] at h;simp at h
 .rw [td h1] at h;exact absurd h h1
theorem qn (r:aC)(p:Place)(kind rights:Int):0<=(cC r p kind rights).2.2:=by
 have:=j6 r p
 unfold cC;split
 .
  split
  .simp
  .
   split
   .split <;> simp
   .simp
 .exact this
def gW (l:List aE)(i:Nat)(d:ByteArray):List aE:=match l[i]? with|some t=>l.set i ⟨t.ID,t.Kind,d⟩ | none=>l
def fV (r:aC)(p:Place)(d:ByteArray):aC×Int :=
  if (cC r p 1 2).2.2=0 then
    if 8<d.size then (r0,2) else (⟨r.ak,gW r.Things (cC r p 1 2).2.1.toNat d,r.Held,r.Notes,r.ae,r.ah⟩,0)
  else (r0,(cC r p 1 2).2.2)
def gh (l:List Note)(t:Int):Nat:=(l.filter (fun n=>n.Port==t)).length
def dN (r:aC)(p:Place)(d:ByteArray)(slot rights:Int):aC×Int :=
  if (cC r p 2 2).2.2=0 then
    if 8<d.size then (r0,2)
    else if gh r.Notes (cC r p 2 2).1.aE=3 then (r0,9)
    else if slot<0 then (⟨r.ak,r.Things,r.Held,r.Notes++[⟨(cC r p 2 2).1.aE,d,(cC r p 2 2).1.aQ,0⟩],r.ae,r.ah⟩,0)
    else if ji (cC r p 2 2).1.Rights 4=true then
      if (aS r ⟨p.aB,slot⟩).2=0 then
        if 999<r.ae then (r0,9)
        else if (derived (aS r ⟨p.aB,slot⟩).1 r.ae rights 0).2=0 then
          (⟨r.ak++[(derived (aS r ⟨p.aB,slot⟩).1 r.ae rights 0).1],r.Things,r.Held,r.Notes++[⟨(cC r p 2 2).1.aE,d,(cC r p 2 2).1.aQ,(derived (aS r ⟨p.aB,slot⟩).1 r.ae rights 0).1.ID⟩],r.ae+1,r.ah⟩,0)
        else (r0,(derived (aS r ⟨p.aB,slot⟩).1 r.ae rights 0).2)
      else (r0,(aS r ⟨p.aB,slot⟩).2)
    else (r0,7)
  else (r0,(cC r p 2 2).2.2)
def ub (ns:List Note)(i:Nat):List Note:=ns.take i++ns.drop (i+1)
def eB (r:aC)(p:Place):aC×Note×Int×Int :=
  if (cC r p 2 1).2.2=0 then
    match r.Notes[(idxOf (fun n=>n.Port==(cC r p 2 1).1.aE) r.Notes).toNat]?,decide (0<=idxOf (fun n=>n.Port==(cC r p 2 1).1.aE) r.Notes) with
    | some n,true =>
      if 0<n.aj then
        if je r.Held p.aB<0 then (r0,n0,0,9)
        else (⟨r.ak,r.Things,fP r.Held ⟨p.aB,je r.Held p.aB⟩ n.aj,ub r.Notes (idxOf (fun n=>n.Port==(cC r p 2 1).1.aE) r.Notes).toNat,r.ae,r.ah⟩,n,je r.Held p.aB,0)
      else (⟨r.ak,r.Things,r.Held,ub r.Notes (idxOf (fun n=>n.Port==(cC r p 2 1).1.aE) r.Notes).toNat,r.ae,r.ah⟩,n,-1,0)
    | _,_=>(r0,n0,0,5)
  else (r0,n0,0,(cC r p 2 1).2.2)
theorem zL {ws:List aj}{ts:List Int}{ns:List Note}{k:Nat}{n:Note}(h:ns[k]? = some n)(hp:(jE ws n).Port∈ts):ig ws ts (ns.take (k+1))=ig ws ts (ns.take k)++[jE ws n]/\kJ ws ts (ns.take (k+1))=kJ ws ts (ns.take k):=by
 unfold ig kJ
 rw [List.take_add_one,h]
 simp [hp]
theorem HY {ws:List aj}{ts:List Int}{ns:List Note}{k:Nat}{n:Note}(h:ns[k]? = some n)(hp:¬ (jE ws n).Port∈ts)(h0:0<(jE ws n).aj):ig ws ts (ns.take (k+1))=ig ws ts (ns.take k)/\kJ ws ts (ns.take (k+1))=kJ ws ts (ns.take k)++[(jE ws n).aj]:=by
 unfold ig kJ
 rw [List.take_add_one,h]
 simp [hp,h0]
theorem zM {ws:List aj}{ts:List Int}{ns:List Note}{k:Nat}{n:Note}(h:ns[k]? = some n)(hp:¬ (jE ws n).Port∈ts)(h0:¬ 0<(jE ws n).aj):ig ws ts (ns.take (k+1))=ig ws ts (ns.take k)/\kJ ws ts (ns.take (k+1))=kJ ws ts (ns.take k):=by
 unfold ig kJ
 rw [List.take_add_one,h]
 simp [hp,h0]
theorem Gu {ws:List aj}{n:Note}(h:cG ws n.aj = -1):jE ws n=⟨n.Port,n.Data,n.aQ,0⟩:=by unfold jE;rw [if_pos (by omega)]
theorem xI {ws:List aj}{n:Note}{j:Nat}(h:cG ws n.aj=(j:Int)):jE ws n=n:=by unfold jE;rw [if_neg (by omega)]
theorem KG {ns:List Note}{t:Int}{k:Nat}{n:Note}(h:ns[k]? = some n)(e:n.Port=t):gh (ns.take (k+1)) t=gh (ns.take k) t+1:=by
 unfold gh;rw [List.take_add_one,h];simp [e]
theorem HZ {ns:List Note}{t:Int}{k:Nat}{n:Note}(h:ns[k]? = some n)(e:¬ n.Port=t):gh (ns.take (k+1)) t=gh (ns.take k) t:=by
 unfold gh;rw [List.take_add_one,h];simp [e]
theorem MJ {ns:List Note}{t:Int}{k:Nat}:gh (ns.take k) t<=k:=by
 unfold gh;exact Nat.le_trans (List.length_filter_le _ _) (by rw [List.length_take];omega)
def hZ (ns:List Note)(l:List aj):List aj:=ns.foldl (fun l n=>if 0<n.aj then without l n.aj else l) l
theorem xJ {ns:List Note}{l:List aj}{k:Nat}{n:Note}(h:ns[k]? = some n):hZ (ns.take (k+1)) l=(if 0<n.aj then without (hZ (ns.take k) l) n.aj else hZ (ns.take k) l):=by
 unfold hZ;rw [List.take_add_one,h];simp
theorem xK (ns:List Note):∀ (l:List aj),(hZ ns l).length<=l.length:=by
 induction ns with
 | nil=>intro l;exact Nat.le_refl _
 | cons n ns ih =>
  intro l
  show (hZ ns _).length<=_
  refine Nat.le_trans (ih _) ?_
  dsimp only
  split
  .exact ng _ _
  .exact Nat.le_refl _
theorem zN (ns:List Note):∀ (l:List aj),(∀w∈l,0<=w.Rights/\w.Rights<=7) -> ∀w∈hZ ns l,0<=w.Rights/\w.Rights<=7:=by
 induction ns with
 | nil=>intro l h;exact h
 | cons n ns ih =>
  intro l h
  show ∀w∈hZ ns _,_
  refine ih _ ?_
  dsimp only
  split
  .exact oT h
  .exact h
def aZ (r:aC):aC:=dR ⟨hZ r.Notes r.ak,r.Things,r.Held,[],r.ae,r.ah⟩
end Go.Proofs.YtkbhcbipadkcaaaGreatDoor
