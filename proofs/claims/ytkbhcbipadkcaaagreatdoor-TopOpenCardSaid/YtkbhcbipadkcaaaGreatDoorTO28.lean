import Derived.Test.YtkbhcbipadkcaaaGreatDoorTO27
namespace Go.Proofs.YtkbhcbipadkcaaaGreatDoor
set_option linter.unusedVariables false
set_option linter.unusedSimpArgs false
def r0:aC:=⟨[],[],[],[],0,0⟩
def n0:Note:=⟨0,⟨#[]⟩,0,0⟩
structure Ok (r:aC):Prop where
  wl:r.ak.length<=2000
  tl:r.Things.length<=2000
  hl:r.Held.length<=2000
  nl:r.Notes.length<=2000
  ri:∀w∈r.ak,0<=w.Rights/\w.Rights<=7
  w0:0<=r.ae
  w1:r.ae<=2000
  t0:0<=r.ah
  t1:r.ah<=2000
def F9 (l:List aj)(id:Int):Option aj:=l.find? (fun w=>w.ID==id)
theorem Qr {l:List aj}{id:Int}{j:Nat}{x:aj}(hf:cG l id=(j:Int))(hx:l[j]? = some x):F9 l id=some x:=by
 rcases kY (l:=l) (id:=id) with ⟨h1,h2⟩ | ⟨k,hk,h1,h2⟩
 .omega
 .
  have:k=j:=by omega
  subst this
  rw [List.getElem?_eq_getElem hk] at hx;injection hx with hx
  unfold F9;rw [h2,hx]
theorem Qs {l:List aj}{id:Int}(hf:cG l id = -1):F9 l id=none:=by
 rcases kY (l:=l) (id:=id) with ⟨h1,h2⟩ | ⟨k,hk,h1,h2⟩
 .exact h2
 .omega
theorem KN {l:List aj}{id:Int}{x:aj}(h:F9 l id=some x):x∈l/\x.ID=id:=by
 unfold F9 at h
 exact ⟨List.mem_of_find?_eq_some h,by simpa using List.find?_some h⟩
def aS (r:aC)(p:Place):aj×Int :=
  if aY p=0 then (match F9 r.ak (mV r.Held p) with|some w=>(w,0)|none=>(jK,5)) else (jK,aY p)
theorem xM {r:aC}{p:Place}(h:¬ aY p=0):aS r p=(jK,aY p):=by unfold aS;rw [if_neg h]
theorem zO {r:aC}{p:Place}(h:aY p=0)(hf:cG r.ak (mV r.Held p) = -1):aS r p=(jK,5):=by unfold aS;rw [if_pos h,Qs hf]
theorem Dp {r:aC}{p:Place}{j:Nat}{x:aj}(h:aY p=0)(hf:cG r.ak (mV r.Held p)=(j:Int))(hx:r.ak[j]? = some x):aS r p=(x,0):=by unfold aS;rw [if_pos h,Qr hf hx]
theorem zP {r:aC}{p:Place}(h:(aS r p).2=0):aY p=0/\(aS r p).1∈r.ak/\(aS r p).1.ID=mV r.Held p:=by
 by_cases h1:aY p=0
 .
  cases h2:F9 r.ak (mV r.Held p) with
  | none=>unfold aS at h;rw [if_pos h1,h2] at h;simp at h
  | some w =>
   have e:aS r p=(w,0):=by unfold aS;rw [if_pos h1,h2]
   have:=KN h2
   rw [e];exact ⟨h1,this.1,this.2⟩
 .rw [xM h1] at h;exact absurd h h1
theorem j6 (r:aC)(p:Place):0<=(aS r p).2:=by
 unfold aS;split
 .split <;> simp
 .have:=rL p;dsimp only;omega
theorem Ok.get {r:aC}(h:Ok r){p:Place}(hg:(aS r p).2=0):0<=(aS r p).1.Rights/\(aS r p).1.Rights<=7:=h.ri _ (zP hg).2.1
def gL (r:aC)(p:Place):Int:=if aY p=0 then (if mV r.Held p=0 then 0 else 6) else aY p
theorem oS (r:aC)(p:Place):0<=gL r p:=by
 unfold gL;have:=rL p;split
 .split <;> simp
 .omega
def fy (r:aC)(w:aj)(p:Place):aC:=⟨r.ak++[w],r.Things,if 0<p.aB then fP r.Held p w.ID else r.Held,r.Notes,r.ae+1,r.ah⟩
def dV (r:aC)(p:Place)(kind:Int):aC×Int :=
  if kind=1∨kind=2 then
    if gL r p=0 then
      if r.Things.length=10∨999<r.ah∨999<r.ae then (r0,9)
      else (fy ⟨r.ak,r.Things++[⟨r.ah,kind,⟨#[]⟩⟩],r.Held,r.Notes,r.ae,r.ah+1⟩ ⟨r.ae,r.ah,7,0,0⟩ p,0)
    else (r0,gL r p)
  else (r0,8)
def fq (r:aC)(p t:Place)(rights dM:Int):aC×Int :=
  if (aS r p).2=0 then
    if gL r t=0 then
      if p.aB=t.aB∨ji (aS r p).1.Rights 4=true then
        if 999<r.ae then (r0,9)
        else if (derived (aS r p).1 r.ae rights dM).2=0 then (fy r (derived (aS r p).1 r.ae rights dM).1 t,0)
        else (r0,(derived (aS r p).1 r.ae rights dM).2)
      else (r0,7)
    else (r0,gL r t)
  else (r0,(aS r p).2)
def jl (r:aC)(p:Place)(slot:Int):aC×Int :=
  if (aS r p).2=0 then
    if gL r ⟨p.aB,slot⟩=0 then (⟨r.ak,r.Things,fP (fP r.Held p 0) ⟨p.aB,slot⟩ (aS r p).1.ID,r.Notes,r.ae,r.ah⟩,0)
    else (r0,gL r ⟨p.aB,slot⟩)
  else (r0,(aS r p).2)
def bU (l:List aj):List Int:=Lib.compact (nf (l.map aj.aE))
def jE (ws:List aj)(n:Note):Note:=if cG ws n.aj<0 then ⟨n.Port,n.Data,n.aQ,0⟩ else n
def ig (ws:List aj)(ts:List Int)(ns:List Note):List Note:=(ns.map (jE ws)).filter (fun n=>decide (n.Port∈ts))
def kI (ws:List aj)(ts:List Int)(ns:List Note):List Int:=((ns.map (jE ws)).filter (fun n => !decide (n.Port∈ts)&&decide (0<n.aj))).map Note.aj
def fJ (r:aC):aC:=⟨r.ak,r.Things.filter (fun t => !!decide (t.ID∈bU r.ak)),r.Held.filter (fun h => !decide (cG r.ak h.aj<0)),ig r.ak (bU r.ak) r.Notes,r.ae,r.ah⟩
def pw (r:aC):List Int:=kI r.ak (bU r.ak) r.Notes
def nB (r:aC):aC:=⟨(pw r).foldl without r.ak,(fJ r).Things,(fJ r).Held,(fJ r).Notes,r.ae,r.ah⟩
def gV:Nat->aC->aC
  | 0,r=>fJ r
  | n+1,r=>if (pw r).length=0 then fJ r else gV n (nB r)
def dS (r:aC):aC:=gV (r.Notes.length+1) r
theorem qU (ws:List aj)(ts:List Int)(ns:List Note):(ig ws ts ns).length+(kI ws ts ns).length<=ns.length:=by
 have h:∀l:List Note,(l.filter (fun n=>decide (n.Port∈ts))).length+(l.filter (fun n => !decide (n.Port∈ts)&&decide (0<n.aj))).length<=l.length:=by
  intro l
  induction l with
  | nil=>simp
  | cons n l ih =>
   rw [List.filter_cons,List.filter_cons,List.length_cons]
   by_cases h:n.Port∈ts
   .rw [if_pos (by simpa using h),if_neg (by simp [h]),List.length_cons];omega
   .
    rw [if_neg (by simpa using h)]
    split
    .rw [List.length_cons];omega
    .omega
 have:=h (ns.map (jE ws))
 simpa [ig,kI] using this
theorem oT {r:aC}(h:¬ (pw r).length=0):(nB r).Notes.length<r.Notes.length:=by
 have:=qU r.ak (bU r.ak) r.Notes
 show (ig r.ak (bU r.ak) r.Notes).length<_
 unfold pw at h;omega
theorem tg:∀ (n m:Nat) (r:aC),r.Notes.length<n->r.Notes.length<m->gV n r=gV m r
 | 0,m,r,h,_=>by omega
 | n+1,0,r,_,h=>by omega
 | n+1,m+1,r,h1,h2=>by
  simp only [gV]
  split
  .rfl
  .
   have:=oT (r:=r) (by assumption)
   exact tg n m _ (by omega) (by omega)
theorem qp {r:aC}(h:(pw r).length=0):dS r=fJ r:=by
 unfold dS gV;rw [if_pos h]
theorem Dq {r:aC}(h:¬ (pw r).length=0):dS r=dS (nB r):=by
 have:=oT h
 conv=>lhs;unfold dS gV
 rw [if_neg h]
 exact tg _ _ _ (by omega) (by omega)
theorem nh (l:List aj)(id:Int):(without l id).length<=l.length:=BF _ _ _
theorem oU {l:List aj}{id:Int}(h:∀w∈l,0<=w.Rights/\w.Rights<=7):∀w∈without l id,0<=w.Rights/\w.Rights<=7:=fun w hw=>by
 obtain ⟨y,hy,_,rfl⟩:=gK.1 hw
 have:=kB (id:=id) (f:=eP l id) y
 rw [this.2.2.1];exact h y hy
theorem tj:∀ (ids:List Int) (l:List aj),(ids.foldl without l).length<=l.length
 | [],l=>Nat.le_refl _
 | i::ids,l=>Nat.le_trans (tj ids _) (nh l i)
theorem BJ:∀ (ids:List Int) (l:List aj),(∀w∈l,0<=w.Rights/\w.Rights<=7) -> ∀w∈ids.foldl without l,0<=w.Rights/\w.Rights<=7
 | [],l,h=>h
 | i::ids,l,h=>BJ ids _ (oU h)
theorem Ok.uQ {r:aC}(h:Ok r){l:List aj}(hl:l.length<=2000)(hr:∀w∈l,0<=w.Rights/\w.Rights<=7):Ok ⟨l,r.Things,r.Held,r.Notes,r.ae,r.ah⟩ :=
 ⟨hl,h.tl,h.hl,h.nl,hr,h.w0,h.w1,h.t0,h.t1⟩
theorem Ok.wo {r:aC}(h:Ok r)(id:Int):Ok ⟨without r.ak id,r.Things,r.Held,r.Notes,r.ae,r.ah⟩ :=
 h.uQ (Nat.le_trans (nh _ _) h.wl) (oU h.ri)
theorem Ok.nB {r:aC}(h:Ok r):Ok (YtkbhcbipadkcaaaGreatDoor.nB r) :=
 ⟨Nat.le_trans (tj _ _) h.wl,Nat.le_trans (List.length_filter_le _ _) h.tl,Nat.le_trans (List.length_filter_le _ _) h.hl,by
  have:=qU r.ak (bU r.ak) r.Notes
  have:=h.nl
  show (ig r.ak (bU r.ak) r.Notes).length<=2000
  omega,BJ _ _ h.ri,h.w0,h.w1,h.t0,h.t1⟩
def jL (r:aC)(p:Place):aC×Int :=
  if (aS r p).2=0 then (dS ⟨without r.ak (aS r p).1.ID,r.Things,r.Held,r.Notes,r.ae,r.ah⟩,0) else (r0,(aS r p).2)
def Fa (l:List aj)(id:Int):List aj:=l.filter (fun x => !decide (x.ID∈kA id l))
theorem Ok.cut {r:aC}(h:Ok r)(id:Int):Ok ⟨Fa r.ak id,r.Things,r.Held,r.Notes,r.ae,r.ah⟩ :=
 h.uQ (Nat.le_trans (List.length_filter_le _ _) h.wl) (fun w hw=>h.ri w (List.mem_filter.1 hw).1)
def fe (r:aC)(p:Place):aC×Int :=
  if (aS r p).2=0 then (dS ⟨Fa r.ak (aS r p).1.ID,r.Things,r.Held,r.Notes,r.ae,r.ah⟩,0) else (r0,(aS r p).2)
def Ox (l:List aE)(id:Int):Int:=idxOf (fun t=>t.ID==id) l
def cC (r:aC)(p:Place)(kind rights:Int):aj×Int×Int :=
  if (aS r p).2=0 then
    match r.Things.find? (fun t=>t.ID==(aS r p).1.aE) with
    | none=>(jK,0,8)
    | some t=>if t.Kind=kind then (if ji (aS r p).1.Rights rights=true then ((aS r p).1,Ox r.Things (aS r p).1.aE,0) else (jK,0,7)) else (jK,0,8)
  else (jK,0,(aS r p).2)
theorem qq {α:Type}{q:α->Bool}{l:List α}{k:Nat}{x:α}(hx:l[k]? = some x)(he:q x=true)(hb:∀ (j:Nat) y,j<k->l[j]? = some y->q y=false):l.find? q=some x:=by
 have hk:=(List.getElem?_eq_some_iff.1 hx).1
 rw [List.find?_eq_some_iff_getElem]
 refine ⟨he,k,hk,(List.getElem?_eq_some_iff.1 hx).2,fun j hj=>?_⟩
 have:=hb j l[j] hj (List.getElem?_eq_getElem (by omega))
 simp [this]
theorem tq {r:aC}{p:Place}{kind rights:Int}(h:¬ (aS r p).2=0):cC r p kind rights=(jK,0,(aS r p).2):=by unfold cC;rw [if_neg h]
theorem qV {r:aC}{p:Place}{kind rights:Int}(h:(aS r p).2=0)(hn:∀x∈r.Things,(x.ID==(aS r p).1.aE)=false):cC r p kind rights=(jK,0,8):=by
 unfold cC;rw [if_pos h,show r.Things.find? (fun t=>t.ID==(aS r p).1.aE)=none from List.find?_eq_none.2 (fun x hx=>by simp [hn x hx])]
section
variable {r:aC} {p:Place} {kind rights:Int} {k:Nat} {x:aE}
theorem qW (h:(aS r p).2=0)(hx:r.Things[k]? = some x)(he:(x.ID==(aS r p).1.aE)=true)(hb:∀ (j:Nat) y,j<k->r.Things[j]? = some y->(y.ID==(aS r p).1.aE)=false)(hk:¬ x.Kind=kind):cC r p kind rights=(jK,0,8):=by
 unfold cC;rw [if_pos h,qq (q:=fun t=>t.ID==(aS r p).1.aE) hx he hb];simp only;rw [if_neg hk]
theorem oV (h:(aS r p).2=0)(hx:r.Things[k]? = some x)(he:(x.ID==(aS r p).1.aE)=true)(hb:∀ (j:Nat) y,j<k->r.Things[j]? = some y->(y.ID==(aS r p).1.aE)=false)(hk:x.Kind=kind)(hr:ji (aS r p).1.Rights rights=false):cC r p kind rights=(jK,0,7):=by
 unfold cC;rw [if_pos h,qq (q:=fun t=>t.ID==(aS r p).1.aE) hx he hb];simp only;rw [if_pos hk,if_neg (by rw [hr];simp)]
theorem vG (h:(aS r p).2=0)(hx:r.Things[k]? = some x)(he:(x.ID==(aS r p).1.aE)=true)(hb:∀ (j:Nat) y,j<k->r.Things[j]? = some y->(y.ID==(aS r p).1.aE)=false)(hk:x.Kind=kind)(hr:ji (aS r p).1.Rights rights=true):cC r p kind rights=((aS r p).1,(k:Int),0):=by
 unfold cC;rw [if_pos h,qq (q:=fun t=>t.ID==(aS r p).1.aE) hx he hb];simp only;rw [if_pos hk,if_pos hr]
 have:Ox r.Things (aS r p).1.aE=(k:Int):=idxOf_hit hx he hb
 rw [this]
end
theorem qX {r:aC}{p:Place}{kind rights:Int}(h:(cC r p kind rights).2.2=0):(aS r p).2=0/\(cC r p kind rights).1=(aS r p).1/\ji (aS r p).1.Rights rights=true /\
 ∃ (k:Nat) (x:aE),(cC r p kind rights).2.1=(k:Int)/\r.Things[k]? = some x/\x.ID=(aS r p).1.aE/\x.Kind=kind /\ ∀ (j:Nat) y,j<k->r.Things[j]? = some y->¬ y.ID=(aS r p).1.aE:=by
 by_cases h1:(aS r p).2=0
 .
  rcases j5 (fun t:aE=>t.ID==(aS r p).1.aE) r.Things with ⟨_,hn⟩ | ⟨k,x,hk,hx,he,hb,_⟩
  .rw [qV h1 hn] at h;simp at h
  .
   by_cases h2:x.Kind=kind
   .
    cases h3:ji (aS r p).1.Rights rights with
    | false=>rw [oV h1 hx he hb h2 h3] at h;simp at h
    | true =>
     rw [vG h1 hx he hb h2 h3]
     exact ⟨h1,rfl,rfl,k,x,rfl,hx,by simpa using he,h2,fun j y hj hy=>by simpa using hb j y hj hy⟩
   .rw [qW h1 hx he hb h2] at h;simp at h
 .rw [tq h1] at h;exact absurd h h1
theorem qt (r:aC)(p:Place)(kind rights:Int):0<=(cC r p kind rights).2.2:=by
 have:=j6 r p
 unfold cC;split
 .
  split
  .simp
  .
   split
   .split <;> simp
   .simp
 .exact this
def gW (l:List aE)(i:Nat)(d:ByteArray):List aE:=match l[i]? with|some t=>l.set i ⟨t.ID,t.Kind,d⟩ | none=>l
def fV (r:aC)(p:Place)(d:ByteArray):aC×Int :=
  if (cC r p 1 2).2.2=0 then
    if 8<d.size then (r0,2) else (⟨r.ak,gW r.Things (cC r p 1 2).2.1.toNat d,r.Held,r.Notes,r.ae,r.ah⟩,0)
  else (r0,(cC r p 1 2).2.2)
def gh (l:List Note)(t:Int):Nat:=(l.filter (fun n=>n.Port==t)).length
def dO (r:aC)(p:Place)(d:ByteArray)(slot rights:Int):aC×Int :=
  if (cC r p 2 2).2.2=0 then
    if 8<d.size then (r0,2)
    else if gh r.Notes (cC r p 2 2).1.aE=3 then (r0,9)
    else if slot<0 then (⟨r.ak,r.Things,r.Held,r.Notes++[⟨(cC r p 2 2).1.aE,d,(cC r p 2 2).1.aQ,0⟩],r.ae,r.ah⟩,0)
    else if ji (cC r p 2 2).1.Rights 4=true then
      if (aS r ⟨p.aB,slot⟩).2=0 then
        if 999<r.ae then (r0,9)
        else if (derived (aS r ⟨p.aB,slot⟩).1 r.ae rights 0).2=0 then
          (⟨r.ak++[(derived (aS r ⟨p.aB,slot⟩).1 r.ae rights 0).1],r.Things,r.Held,r.Notes++[⟨(cC r p 2 2).1.aE,d,(cC r p 2 2).1.aQ,(derived (aS r ⟨p.aB,slot⟩).1 r.ae rights 0).1.ID⟩],r.ae+1,r.ah⟩,0)
        else (r0,(derived (aS r ⟨p.aB,slot⟩).1 r.ae rights 0).2)
      else (r0,(aS r ⟨p.aB,slot⟩).2)
    else (r0,7)
  else (r0,(cC r p 2 2).2.2)
def ug (ns:List Note)(i:Nat):List Note:=ns.take i++ns.drop (i+1)
def eC (r:aC)(p:Place):aC×Note×Int×Int :=
  if (cC r p 2 1).2.2=0 then
    match r.Notes[(idxOf (fun n=>n.Port==(cC r p 2 1).1.aE) r.Notes).toNat]?,decide (0<=idxOf (fun n=>n.Port==(cC r p 2 1).1.aE) r.Notes) with
    | some n,true =>
      if 0<n.aj then
        if je r.Held p.aB<0 then (r0,n0,0,9)
        else (⟨r.ak,r.Things,fP r.Held ⟨p.aB,je r.Held p.aB⟩ n.aj,ug r.Notes (idxOf (fun n=>n.Port==(cC r p 2 1).1.aE) r.Notes).toNat,r.ae,r.ah⟩,n,je r.Held p.aB,0)
      else (⟨r.ak,r.Things,r.Held,ug r.Notes (idxOf (fun n=>n.Port==(cC r p 2 1).1.aE) r.Notes).toNat,r.ae,r.ah⟩,n,-1,0)
    | _,_=>(r0,n0,0,5)
  else (r0,n0,0,(cC r p 2 1).2.2)
theorem zQ {ws:List aj}{ts:List Int}{ns:List Note}{k:Nat}{n:Note}(h:ns[k]? = some n)(hp:(jE ws n).Port∈ts):ig ws ts (ns.take (k+1))=ig ws ts (ns.take k)++[jE ws n]/\kI ws ts (ns.take (k+1))=kI ws ts (ns.take k):=by
 unfold ig kI
 rw [List.take_add_one,h]
 simp [hp]
theorem H4 {ws:List aj}{ts:List Int}{ns:List Note}{k:Nat}{n:Note}(h:ns[k]? = some n)(hp:¬ (jE ws n).Port∈ts)(h0:0<(jE ws n).aj):ig ws ts (ns.take (k+1))=ig ws ts (ns.take k)/\kI ws ts (ns.take (k+1))=kI ws ts (ns.take k)++[(jE ws n).aj]:=by
 unfold ig kI
 rw [List.take_add_one,h]
 simp [hp,h0]
theorem zR {ws:List aj}{ts:List Int}{ns:List Note}{k:Nat}{n:Note}(h:ns[k]? = some n)(hp:¬ (jE ws n).Port∈ts)(h0:¬ 0<(jE ws n).aj):ig ws ts (ns.take (k+1))=ig ws ts (ns.take k)/\kI ws ts (ns.take (k+1))=kI ws ts (ns.take k):=by
 unfold ig kI
 rw [List.take_add_one,h]
 simp [hp,h0]
theorem Gz {ws:List aj}{n:Note}(h:cG ws n.aj = -1):jE ws n=⟨n.Port,n.Data,n.aQ,0⟩:=by unfold jE;rw [if_pos (by omega)]
theorem xO {ws:List aj}{n:Note}{j:Nat}(h:cG ws n.aj=(j:Int)):jE ws n=n:=by unfold jE;rw [if_neg (by omega)]
theorem KO {ns:List Note}{t:Int}{k:Nat}{n:Note}(h:ns[k]? = some n)(e:n.Port=t):gh (ns.take (k+1)) t=gh (ns.take k) t+1:=by
 unfold gh;rw [List.take_add_one,h];simp [e]
theorem H5 {ns:List Note}{t:Int}{k:Nat}{n:Note}(h:ns[k]? = some n)(e:¬ n.Port=t):gh (ns.take (k+1)) t=gh (ns.take k) t:=by
 unfold gh;rw [List.take_add_one,h];simp [e]
theorem MQ {ns:List Note}{t:Int}{k:Nat}:gh (ns.take k) t<=k:=by
 unfold gh;exact Nat.le_trans (List.length_filter_le _ _) (by rw [List.length_take];omega)
def hZ (ns:List Note)(l:List aj):List aj:=ns.foldl (fun l n=>if 0<n.aj then without l n.aj else l) l
theorem xP {ns:List Note}{l:List aj}{k:Nat}{n:Note}(h:ns[k]? = some n):hZ (ns.take (k+1)) l=(if 0<n.aj then without (hZ (ns.take k) l) n.aj else hZ (ns.take k) l):=by
 unfold hZ;rw [List.take_add_one,h];simp
theorem xQ (ns:List Note):∀ (l:List aj),(hZ ns l).length<=l.length:=by
 induction ns with
 | nil=>intro l;exact Nat.le_refl _
 | cons n ns ih =>
  intro l
  show (hZ ns _).length<=_
  refine Nat.le_trans (ih _) ?_
  dsimp only
  split
  .exact nh _ _
  .exact Nat.le_refl _
theorem zS (ns:List Note):∀ (l:List aj),(∀w∈l,0<=w.Rights/\w.Rights<=7) -> ∀w∈hZ ns l,0<=w.Rights/\w.Rights<=7:=by
 induction ns with
 | nil=>intro l h;exact h
 | cons n ns ih =>
  intro l h
  show ∀w∈hZ ns _,_
  refine ih _ ?_
  dsimp only
  split
  .exact oU h
  .exact h
def aZ (r:aC):aC:=dS ⟨hZ r.Notes r.ak,r.Things,r.Held,[],r.ae,r.ah⟩
end Go.Proofs.YtkbhcbipadkcaaaGreatDoor
