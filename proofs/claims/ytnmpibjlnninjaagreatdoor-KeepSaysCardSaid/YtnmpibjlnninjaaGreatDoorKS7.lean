import Derived.Test.YtnmpibjlnninjaaGreatDoorKS6
namespace Go.Proofs.YtnmpibjlnninjaaGreatDoor
set_option linter.unusedVariables false
set_option linter.unusedSimpArgs false
set_option maxRecDepth 100000
set_option maxHeartbeats 90000000
section
def r0:av:=⟨[],[],[],[],0,0⟩
def n0:Note:=⟨0,⟨#[]⟩,0,0⟩
structure Ok (r:av):Prop where
  wl:r.ao.length<=2000
  tl:r.Things.length<=2000
  hl:r.Held.length<=2000
  nl:r.Notes.length<=2000
  ri:∀w∈r.ao,0<=w.Rights/\w.Rights<=7
  w0:0<=r.ag
  w1:r.ag<=2000
  t0:0<=r.ah
  t1:r.ah<=2000
def KE (l:List ap)(id:Int):Option ap:=l.find? (fun w=>w.ID==id)
theorem Tm {l:List ap}{id:Int}{j:Nat}{x:ap}(hf:cO l id=(j:Int))(hx:l[j]? = some x):KE l id=some x:=by
 grind [id,KE,kY,List.getElem?_eq_getElem]
theorem Tn {l:List ap}{id:Int}(hf:cO l id = -1):KE l id=none:=by
 rcases kY (l:=l) (id:=id) with ⟨h1,h2⟩ | ⟨k,hk,h1,h2⟩
 .exact h2
 omega
theorem MK {l:List ap}{id:Int}{x:ap}(h:KE l id=some x):x∈l/\x.ID=id:=by
 grind [KE,List.mem_of_find?_eq_some]
def aM (r:av)(p:Place):ap×Int :=
  if bB p=0 then (match KE r.ao (mG r.Held p) with|some w=>(w,0)|none=>(jI,5)) else (jI,bB p)
theorem qQ {r:av}{p:Place}(h:¬ bB p=0):aM r p=(jI,bB p):=by simp_all [aM,if_neg]
theorem rO {r:av}{p:Place}(h:bB p=0)(hf:cO r.ao (mG r.Held p) = -1):aM r p=(jI,5):=by simp_all [aM,if_pos,Tn]
theorem uu {r:av}{p:Place}{j:Nat}{x:ap}(h:bB p=0)(hf:cO r.ao (mG r.Held p)=(j:Int))(hx:r.ao[j]? = some x):aM r p=(x,0):=by unfold aM;rw [if_pos h,Tm hf hx]
theorem rP {r:av}{p:Place}(h:(aM r p).2=0):bB p=0/\(aM r p).1∈r.ao/\(aM r p).1.ID=mG r.Held p:=by
 by_cases h1:bB p=0
 .
  cases h2:KE r.ao (mG r.Held p) with
  | none=>simp_all [aM,if_pos]
  | some w =>
   have e:aM r p=(w,0):=by simp_all [aM,if_pos]
   grind [MK]
 grind [qQ]
theorem ft (r:av)(p:Place):0<=(aM r p).2:=by
 grind [aM,lD]
theorem Ok.get {r:av}(h:Ok r){p:Place}(hg:(aM r p).2=0):0<=(aM r p).1.Rights/\(aM r p).1.Rights<=7:=h.ri _ (rP hg).2.1
def eD (r:av)(p:Place):Int:=if bB p=0 then (if mG r.Held p=0 then 0 else 6) else bB p
theorem gj (r:av)(p:Place):0<=eD r p:=by
 grind [eD,lD]
def fB (r:av)(w:ap)(p:Place):av:=⟨r.ao++[w],r.Things,if 0<p.ay then eW r.Held p w.ID else r.Held,r.Notes,r.ag+1,r.ah⟩
def cE (r:av)(p:Place)(kind:Int):av×Int :=
  if kind=1∨kind=2 then
    if eD r p=0 then
      if r.Things.length=10∨999<r.ah∨999<r.ag then (r0,9)
      else (fB ⟨r.ao,r.Things++[⟨r.ah,kind,⟨#[]⟩⟩],r.Held,r.Notes,r.ag,r.ah+1⟩ ⟨r.ag,r.ah,7,0,0⟩ p,0)
    else (r0,eD r p)
  else (r0,8)
def dq (r:av)(p t:Place)(rights bU:Int):av×Int :=
  if (aM r p).2=0 then
    if eD r t=0 then
      if p.ay=t.ay∨hZ (aM r p).1.Rights 4=true then
        if 999<r.ag then (r0,9)
        else if (derived (aM r p).1 r.ag rights bU).2=0 then (fB r (derived (aM r p).1 r.ag rights bU).1 t,0)
        else (r0,(derived (aM r p).1 r.ag rights bU).2)
      else (r0,7)
    else (r0,eD r t)
  else (r0,(aM r p).2)
def fu (r:av)(p:Place)(slot:Int):av×Int :=
  if (aM r p).2=0 then
    if eD r ⟨p.ay,slot⟩=0 then (⟨r.ao,r.Things,eW (eW r.Held p 0) ⟨p.ay,slot⟩ (aM r p).1.ID,r.Notes,r.ag,r.ah⟩,0)
    else (r0,eD r ⟨p.ay,slot⟩)
  else (r0,(aM r p).2)
def bC (l:List ap):List Int:=Lib.compact (qq (l.map ap.aA))
def jT (ws:List ap)(n:Note):Note:=if cO ws n.ap<0 then ⟨n.Port,n.Data,n.aU,0⟩ else n
def gX (ws:List ap)(ts:List Int)(ns:List Note):List Note:=(ns.map (jT ws)).filter (fun n=>decide (n.Port∈ts))
def iD (ws:List ap)(ts:List Int)(ns:List Note):List Int:=((ns.map (jT ws)).filter (fun n => !decide (n.Port∈ts)&&decide (0<n.ap))).map Note.ap
def fH (r:av):av:=⟨r.ao,r.Things.filter (fun t => !!decide (t.ID∈bC r.ao)),r.Held.filter (fun h => !decide (cO r.ao h.ap<0)),gX r.ao (bC r.ao) r.Notes,r.ag,r.ah⟩
def oc (r:av):List Int:=iD r.ao (bC r.ao) r.Notes
def lh (r:av):av:=⟨(oc r).foldl without r.ao,(fH r).Things,(fH r).Held,(fH r).Notes,r.ag,r.ah⟩
def gZ:Nat->av->av
  | 0,r=>fH r
  | n+1,r=>if (oc r).length=0 then fH r else gZ n (lh r)
def dt (r:av):av:=gZ (r.Notes.length+1) r
theorem oP (ws:List ap)(ts:List Int)(ns:List Note):(gX ws ts ns).length+(iD ws ts ns).length<=ns.length:=by
 have h:∀l:List Note,(l.filter (fun n=>decide (n.Port∈ts))).length+(l.filter (fun n => !decide (n.Port∈ts)&&decide (0<n.ap))).length<=l.length:=by
  intro l
  induction l with
  | nil=>simp
  | cons n l ih =>
   grind
 grind [jT,gX,iD]
theorem pA {r:av}(h:¬ (oc r).length=0):(lh r).Notes.length<r.Notes.length:=by
 have:=oP r.ao (bC r.ao) r.Notes
 show (gX r.ao (bC r.ao) r.Notes).length<_
 grind [oc]
theorem uv:∀ (n m:Nat) (r:av),r.Notes.length<n->r.Notes.length<m->gZ n r=gZ m r
 | 0,m,r,h,_=>by omega
 | n+1,0,r,_,h=>by omega
 | n+1,m+1,r,h1,h2=>by
  simp only [gZ]
  split
  .rfl
  have:=pA (r:=r) af
  exact uv n m _ ae ae
theorem od {r:av}(h:(oc r).length=0):dt r=fH r:=by
 simp_all [dt,gZ,if_pos]
theorem wU {r:av}(h:¬ (oc r).length=0):dt r=dt (lh r):=by
 have:=pA h
 conv=>lhs;unfold dt gZ
 rw [if_neg h]
 exact uv _ _ _ ae ae
theorem og (l:List ap)(id:Int):(without l id).length<=l.length:=C6 _ _ _
theorem pB {l:List ap}{id:Int}(h:∀w∈l,0<=w.Rights/\w.Rights<=7):∀w∈without l id,0<=w.Rights/\w.Rights<=7:=fun w hw=>by
 grind [gK,lE]
theorem qR:∀ (ids:List Int) (l:List ap),(ids.foldl without l).length<=l.length
 | [],l=>Nat.le_refl _
 | i::ids,l=>Nat.le_trans (qR ids _) (og l i)
theorem Da:∀ (ids:List Int) (l:List ap),(∀w∈l,0<=w.Rights/\w.Rights<=7) -> ∀w∈ids.foldl without l,0<=w.Rights/\w.Rights<=7
 | [],l,h=>h
 | i::ids,l,h=>Da ids _ (pB h)
theorem Ok.wV {r:av}(h:Ok r){l:List ap}(hl:l.length<=2000)(hr:∀w∈l,0<=w.Rights/\w.Rights<=7):Ok ⟨l,r.Things,r.Held,r.Notes,r.ag,r.ah⟩ :=
 ⟨hl,h.tl,h.hl,h.nl,hr,h.w0,h.w1,h.t0,h.t1⟩
theorem Ok.wo {r:av}(h:Ok r)(id:Int):Ok ⟨without r.ao id,r.Things,r.Held,r.Notes,r.ag,r.ah⟩ :=
 h.wV (Nat.le_trans (og _ _) h.wl) (pB h.ri)
theorem Ok.lh {r:av}(h:Ok r):Ok (YtnmpibjlnninjaaGreatDoor.lh r) :=
 ⟨Nat.le_trans (qR _ _) h.wl,Nat.le_trans (List.length_filter_le _ _) h.tl,Nat.le_trans (List.length_filter_le _ _) h.hl,by
  have:=oP r.ao (bC r.ao) r.Notes
  have:=h.nl
  show (gX r.ao (bC r.ao) r.Notes).length<=2000
  omega,Da _ _ h.ri,h.w0,h.w1,h.t0,h.t1⟩
def fM (r:av)(p:Place):av×Int :=
  if (aM r p).2=0 then (dt ⟨without r.ao (aM r p).1.ID,r.Things,r.Held,r.Notes,r.ag,r.ah⟩,0) else (r0,(aM r p).2)
def E7 (l:List ap)(id:Int):List ap:=l.filter (fun x => !decide (x.ID∈jd id l))
theorem Ok.cut {r:av}(h:Ok r)(id:Int):Ok ⟨E7 r.ao id,r.Things,r.Held,r.Notes,r.ag,r.ah⟩ :=
 h.wV (Nat.le_trans (List.length_filter_le _ _) h.wl) (fun w hw=>h.ri w (List.mem_filter.1 hw).1)
def dF (r:av)(p:Place):av×Int :=
  if (aM r p).2=0 then (dt ⟨E7 r.ao (aM r p).1.ID,r.Things,r.Held,r.Notes,r.ag,r.ah⟩,0) else (r0,(aM r p).2)
def R5 (l:List aA)(id:Int):Int:=idxOf (fun t=>t.ID==id) l
def bQ (r:av)(p:Place)(kind rights:Int):ap×Int×Int :=
  if (aM r p).2=0 then
    match r.Things.find? (fun t=>t.ID==(aM r p).1.aA) with
    | none=>(jI,0,8)
    | some t=>if t.Kind=kind then (if hZ (aM r p).1.Rights rights=true then ((aM r p).1,R5 r.Things (aM r p).1.aA,0) else (jI,0,7)) else (jI,0,8)
  else (jI,0,(aM r p).2)
theorem qS {α:Type}{q:α->Bool}{l:List α}{k:Nat}{x:α}(hx:l[k]? = some x)(he:q x=true)(hb:∀ (j:Nat) y,j<k->l[j]? = some y->q y=false):l.find? q=some x:=by
 grind [List.getElem?_eq_some_iff,List.find?_eq_some_iff_getElem,List.getElem?_eq_getElem]
theorem mY {r:av}{p:Place}{kind rights:Int}(h:¬ (aM r p).2=0):bQ r p kind rights=(jI,0,(aM r p).2):=by simp_all [bQ,if_neg]
theorem lj {r:av}{p:Place}{kind rights:Int}(h:(aM r p).2=0)(hn:∀x∈r.Things,(x.ID==(aM r p).1.aA)=false):bQ r p kind rights=(jI,0,8):=by
 unfold bQ;grind
section
variable {r:av} {p:Place} {kind rights:Int} {k:Nat} {x:aA}
theorem ln (h:(aM r p).2=0)(hx:r.Things[k]? = some x)(he:(x.ID==(aM r p).1.aA)=true)(hb:∀ (j:Nat) y,j<k->r.Things[j]? = some y->(y.ID==(aM r p).1.aA)=false)(hk:¬ x.Kind=kind):bQ r p kind rights=(jI,0,8):=by
 unfold bQ;rw [if_pos h,qS (q:=fun t=>t.ID==(aM r p).1.aA) hx he hb];grind
theorem jU (h:(aM r p).2=0)(hx:r.Things[k]? = some x)(he:(x.ID==(aM r p).1.aA)=true)(hb:∀ (j:Nat) y,j<k->r.Things[j]? = some y->(y.ID==(aM r p).1.aA)=false)(hk:x.Kind=kind)(hr:hZ (aM r p).1.Rights rights=false):bQ r p kind rights=(jI,0,7):=by
 unfold bQ;rw [if_pos h,qS (q:=fun t=>t.ID==(aM r p).1.aA) hx he hb];grind
theorem pC (h:(aM r p).2=0)(hx:r.Things[k]? = some x)(he:(x.ID==(aM r p).1.aA)=true)(hb:∀ (j:Nat) y,j<k->r.Things[j]? = some y->(y.ID==(aM r p).1.aA)=false)(hk:x.Kind=kind)(hr:hZ (aM r p).1.Rights rights=true):bQ r p kind rights=((aM r p).1,(k:Int),0):=by
 unfold bQ;rw [if_pos h,qS (q:=fun t=>t.ID==(aM r p).1.aA) hx he hb];simp only;rw [if_pos hk,if_pos hr]
 grind [R5,aM,idxOf_hit]
end
theorem lp {r:av}{p:Place}{kind rights:Int}(h:(bQ r p kind rights).2.2=0):(aM r p).2=0/\(bQ r p kind rights).1=(aM r p).1/\hZ (aM r p).1.Rights rights=true /\
 ∃ (k:Nat) (x:aA),(bQ r p kind rights).2.1=(k:Int)/\r.Things[k]? = some x/\x.ID=(aM r p).1.aA/\x.Kind=kind /\ ∀ (j:Nat) y,j<k->r.Things[j]? = some y->¬ y.ID=(aM r p).1.aA:=by
 by_cases h1:(aM r p).2=0
 .
  rcases j9 (fun t:aA=>t.ID==(aM r p).1.aA) r.Things with ⟨_,hn⟩ | ⟨k,x,hk,hx,he,hb,_⟩
  .grind [lj]
  by_cases h2:x.Kind=kind
  .
   cases h3:hZ (aM r p).1.Rights rights with
   | false=>grind [jU]
   | true =>
    grind [pC]
  grind [ln]
 grind [mY]
theorem jj (r:av)(p:Place)(kind rights:Int):0<=(bQ r p kind rights).2.2:=by
 have:=ft r p
 grind [bQ]
def gB (l:List aA)(i:Nat)(d:ByteArray):List aA:=match l[i]? with|some t=>l.set i ⟨t.ID,t.Kind,d⟩ | none=>l
def dV (r:av)(p:Place)(d:ByteArray):av×Int :=
  if (bQ r p 1 2).2.2=0 then
    if 8<d.size then (r0,2) else (⟨r.ao,gB r.Things (bQ r p 1 2).2.1.toNat d,r.Held,r.Notes,r.ag,r.ah⟩,0)
  else (r0,(bQ r p 1 2).2.2)
def gu (l:List Note)(t:Int):Nat:=(l.filter (fun n=>n.Port==t)).length
def cL (r:av)(p:Place)(d:ByteArray)(slot rights:Int):av×Int :=
  if (bQ r p 2 2).2.2=0 then
    if 8<d.size then (r0,2)
    else if gu r.Notes (bQ r p 2 2).1.aA=3 then (r0,9)
    else if slot<0 then (⟨r.ao,r.Things,r.Held,r.Notes++[⟨(bQ r p 2 2).1.aA,d,(bQ r p 2 2).1.aU,0⟩],r.ag,r.ah⟩,0)
    else if hZ (bQ r p 2 2).1.Rights 4=true then
      if (aM r ⟨p.ay,slot⟩).2=0 then
        if 999<r.ag then (r0,9)
        else if (derived (aM r ⟨p.ay,slot⟩).1 r.ag rights 0).2=0 then
          (⟨r.ao++[(derived (aM r ⟨p.ay,slot⟩).1 r.ag rights 0).1],r.Things,r.Held,r.Notes++[⟨(bQ r p 2 2).1.aA,d,(bQ r p 2 2).1.aU,(derived (aM r ⟨p.ay,slot⟩).1 r.ag rights 0).1.ID⟩],r.ag+1,r.ah⟩,0)
        else (r0,(derived (aM r ⟨p.ay,slot⟩).1 r.ag rights 0).2)
      else (r0,(aM r ⟨p.ay,slot⟩).2)
    else (r0,7)
  else (r0,(bQ r p 2 2).2.2)
def vC (ns:List Note)(i:Nat):List Note:=ns.take i++ns.drop (i+1)
def cM (r:av)(p:Place):av×Note×Int×Int :=
  if (bQ r p 2 1).2.2=0 then
    match r.Notes[(idxOf (fun n=>n.Port==(bQ r p 2 1).1.aA) r.Notes).toNat]?,decide (0<=idxOf (fun n=>n.Port==(bQ r p 2 1).1.aA) r.Notes) with
    | some n,true =>
      if 0<n.ap then
        if gq r.Held p.ay<0 then (r0,n0,0,9)
        else (⟨r.ao,r.Things,eW r.Held ⟨p.ay,gq r.Held p.ay⟩ n.ap,vC r.Notes (idxOf (fun n=>n.Port==(bQ r p 2 1).1.aA) r.Notes).toNat,r.ag,r.ah⟩,n,gq r.Held p.ay,0)
      else (⟨r.ao,r.Things,r.Held,vC r.Notes (idxOf (fun n=>n.Port==(bQ r p 2 1).1.aA) r.Notes).toNat,r.ag,r.ah⟩,n,-1,0)
    | _,_=>(r0,n0,0,5)
  else (r0,n0,0,(bQ r p 2 1).2.2)
theorem rQ {ws:List ap}{ts:List Int}{ns:List Note}{k:Nat}{n:Note}(h:ns[k]? = some n)(hp:(jT ws n).Port∈ts):gX ws ts (ns.take (k+1))=gX ws ts (ns.take k)++[jT ws n]/\iD ws ts (ns.take (k+1))=iD ws ts (ns.take k):=by
 grind [gX,iD,List.take_add_one]
theorem BM {ws:List ap}{ts:List Int}{ns:List Note}{k:Nat}{n:Note}(h:ns[k]? = some n)(hp:¬ (jT ws n).Port∈ts)(h0:0<(jT ws n).ap):gX ws ts (ns.take (k+1))=gX ws ts (ns.take k)/\iD ws ts (ns.take (k+1))=iD ws ts (ns.take k)++[(jT ws n).ap]:=by
 grind [gX,iD,List.take_add_one]
theorem rR {ws:List ap}{ts:List Int}{ns:List Note}{k:Nat}{n:Note}(h:ns[k]? = some n)(hp:¬ (jT ws n).Port∈ts)(h0:¬ 0<(jT ws n).ap):gX ws ts (ns.take (k+1))=gX ws ts (ns.take k)/\iD ws ts (ns.take (k+1))=iD ws ts (ns.take k):=by
 grind [gX,iD,List.take_add_one]
theorem xJ {ws:List ap}{n:Note}(h:cO ws n.ap = -1):jT ws n=⟨n.Port,n.Data,n.aU,0⟩:=by simp_all [jT,if_pos]
theorem oQ {ws:List ap}{n:Note}{j:Nat}(h:cO ws n.ap=(j:Int)):jT ws n=n:=by simp_all [jT,if_neg]
theorem E8 {ns:List Note}{t:Int}{k:Nat}{n:Note}(h:ns[k]? = some n)(e:n.Port=t):gu (ns.take (k+1)) t=gu (ns.take k) t+1:=by
 grind [gu,List.take_add_one]
theorem BN {ns:List Note}{t:Int}{k:Nat}{n:Note}(h:ns[k]? = some n)(e:¬ n.Port=t):gu (ns.take (k+1)) t=gu (ns.take k) t:=by
 grind [gu,List.take_add_one]
theorem Jr {ns:List Note}{t:Int}{k:Nat}:gu (ns.take k) t<=k:=by
 grind [gu,Nat.le_trans,List.length_filter_le,List.length_take]
def gG (ns:List Note)(l:List ap):List ap:=ns.foldl (fun l n=>if 0<n.ap then without l n.ap else l) l
theorem mZ {ns:List Note}{l:List ap}{k:Nat}{n:Note}(h:ns[k]? = some n):gG (ns.take (k+1)) l=(if 0<n.ap then without (gG (ns.take k) l) n.ap else gG (ns.take k) l):=by
 grind [gG,List.take_add_one]
theorem tq (ns:List Note):∀ (l:List ap),(gG ns l).length<=l.length:=by
 induction ns with
 | nil=>intro l;exact Nat.le_refl _
 | cons n ns ih =>
  intro l
  show (gG ns _).length<=_
  refine Nat.le_trans (ih _) ?_
  dsimp only
  split
  .exact og _ _
  omega
theorem vD (ns:List Note):∀ (l:List ap),(∀w∈l,0<=w.Rights/\w.Rights<=7) -> ∀w∈gG ns l,0<=w.Rights/\w.Rights<=7:=by
 induction ns with
 | nil=>intro l h;exact h
 | cons n ns ih =>
  intro l h
  show ∀w∈gG ns _,_
  grind [pB]
def aP (r:av):av:=dt ⟨gG r.Notes r.ao,r.Things,r.Held,[],r.ag,r.ah⟩
end
def pD (c:Change):Bool:=decide (c.Key.size<=20)&&decide (c.Val.size<=40)
def tr (l:List Change)(most:Int):Bool:=decide ((l.length:Int)<=most)&&l.all pD
def pE (a:fL):Bool:=decide (a.S.size<=100)&&tr a.Changes 70
def qT (l:List fL)(most:Int):Bool:=decide ((l.length:Int)<=most)&&l.all pE
theorem xK {α:Type}{p:α->Bool}{l:List α}{k:Nat}{x:α}(hx:l[k]? = some x)(h:p x=false):l.all p=false:=by
 grind
theorem ML {α:Type}{p:α->Bool}{l:List α}{k:Nat}(hk:¬ k<l.length)(h:(l.take k).all p=true):l.all p=true:=by
 grind [List.take_of_length_le]
theorem E9 {α:Type}{p:α->Bool}{l:List α}{k:Nat}{x:α}(hx:l[k]? = some x)(h:(l.take k).all p=true)(hp:p x=true):(l.take (k+1)).all p=true:=by
 grind [List.take_add_one]
theorem Hr {l:List fL}{most:Int}(h:qT l most=true):(l.length:Int)<=most:=by
 simp_all [qT,Bool.and_eq_true,decide_eq_true_eq]
def newR:av:=⟨[],[],[],[],1,1⟩
def cp (r:av)(a:fL):av×Int :=
  if a.Kind=(⟨#[109,97,107,101]⟩:ByteArray) then cE r a.P a.A
  else if a.Kind=(⟨#[103,105,118,101]⟩:ByteArray) then dq r a.P a.Q a.A a.B
  else if a.Kind=(⟨#[109,111,118,101]⟩:ByteArray) then fu r a.P a.A
  else if a.Kind=(⟨#[100,114,111,112]⟩:ByteArray) then fM r a.P
  else if a.Kind=(⟨#[114,101,118,111,107,101]⟩:ByteArray) then dF r a.P
  else if a.Kind=(⟨#[119,114,105,116,101]⟩:ByteArray) then dV r a.P a.S
  else if a.Kind=(⟨#[115,101,110,100]⟩:ByteArray) then cL r a.P a.S a.A a.B
  else if a.Kind=(⟨#[116,97,107,101]⟩:ByteArray) then ((cM r a.P).1,(cM r a.P).2.2.2)
  else (r,0)
def Wo (r:av)(a:fL):av:=if (cp r a).2=0 then (cp r a).1 else r
def grow (l:List fL):av:=l.foldl Wo newR
theorem mo {w:ap}{id r b:Int}(h:(derived w id r b).2=0):0<=r/\r<=7/\0<=b/\b<=99/\hZ w.Rights r=true/\(derived w id r b).1=⟨id,w.aA,r,if b=0 then w.aU else b,w.ID⟩/\(w.aU=0∨b=0∨b=w.aU):=by
 revert h
 rcases hY r with ⟨h1,h2⟩ | ⟨h1,h2⟩
 .simp_all [derived,if_pos]
 unfold derived;grind
theorem yK {w:ap}{id r b:Int}(h:(derived w id r b).2=0):0<=(derived w id r b).1.Rights/\(derived w id r b).1.Rights<=7:=by
 have:=mo h;grind
structure Sz (k:Nat)(r:av):Prop where
  wl:r.ao.length<=k
  tl:r.Things.length<=k
  hl:r.Held.length<=2*k
  nl:r.Notes.length<=k
  ri:∀w∈r.ao,0<=w.Rights/\w.Rights<=7
  w0:0<=r.ag
  w1:r.ag<=1000
  t0:0<=r.ah
  t1:r.ah<=1000
theorem Sz.ok {k:Nat}{r:av}(h:Sz k r)(hk:k<=1000):Ok r:=⟨by have:=h.wl;omega,by have:=h.tl;omega,by have:=h.hl;omega,by have:=h.nl;omega,h.ri,h.w0,by have:=h.w1;omega,h.t0,by have:=h.t1;omega⟩
theorem Sz.up {k m:Nat}{r:av}(h:Sz k r)(hk:k<=m):Sz m r:=⟨by have:=h.wl;omega,by have:=h.tl;omega,by have:=h.hl;omega,by have:=h.nl;omega,h.ri,h.w0,h.w1,h.t0,h.t1⟩
theorem Sz.new:Sz 0 newR:=⟨Nat.le_refl _,Nat.le_refl _,Nat.le_refl _,Nat.le_refl _,fun w hw=>(by cases hw),aD,aD,aD,aD⟩
theorem sN (k:Nat):Sz k r0:=⟨Nat.zero_le _,Nat.zero_le _,Nat.zero_le _,Nat.zero_le _,fun w hw=>(by cases hw),aD,aD,aD,aD⟩
theorem Db {l:List ap}{x:ap}(h:∀w∈l,0<=w.Rights/\w.Rights<=7)(hx:0<=x.Rights/\x.Rights<=7):∀w∈l++[x],0<=w.Rights/\w.Rights<=7:=fun w hw=>by
 grind
theorem oS {k:Nat}{r:av}(h:Sz k r):Sz k (fH r) :=
 ⟨h.wl,Nat.le_trans (List.length_filter_le _ _) h.tl,Nat.le_trans (List.length_filter_le _ _) h.hl,by
  have:=oP r.ao (bC r.ao) r.Notes
  have:=h.nl
  show (gX r.ao (bC r.ao) r.Notes).length<=k
  omega,h.ri,h.w0,h.w1,h.t0,h.t1⟩
theorem KF {k:Nat}{r:av}(h:Sz k r):Sz k (lh r) :=
 ⟨Nat.le_trans (qR _ _) h.wl,(oS h).tl,(oS h).hl,(oS h).nl,Da _ _ h.ri,h.w0,h.w1,h.t0,h.t1⟩
theorem pF {k:Nat}:∀ (n:Nat) (r:av),Sz k r->Sz k (gZ n r)
 | 0,r,h=>oS h
 | n+1,r,h=>by
  unfold gZ;split
  .exact oS h
  exact pF n _ (KF h)
theorem Sz.wV {k:Nat}{r:av}(h:Sz k r){l:List ap}(hl:l.length<=k)(hr:∀w∈l,0<=w.Rights/\w.Rights<=7):Sz k ⟨l,r.Things,r.Held,r.Notes,r.ag,r.ah⟩ :=
 ⟨hl,h.tl,h.hl,h.nl,hr,h.w0,h.w1,h.t0,h.t1⟩
theorem Qd {k:Nat}{r:av}(h:Sz k r)(p:Place)(kind:Int):Sz (k+1) (cE r p kind).1:=by
 have:=h.wl;have:=h.tl;have:=h.hl;have:=h.nl;have:=h.w0;have:=h.t0;have hp:=mU r.Held p r.ag
 unfold cE
 (repeat' split) <;> first|exact sN _|skip
 refine ⟨?_,?_,?_,?_,Db h.ri ⟨aB,aB⟩,?_,?_,?_,?_⟩ <;> dsimp only [fB]
 .grind
 .grind
 .grind
 all_goals omega
theorem Qe {k:Nat}{r:av}(h:Sz k r)(p t:Place)(a b:Int):Sz (k+1) (dq r p t a b).1:=by
 have:=h.wl;have:=h.tl;have:=h.hl;have:=h.nl;have:=h.w0;have:=h.t0;have:=h.t1
 unfold dq
 (repeat' split) <;> first|exact sN _|skip
 rename_i h1 h2 h3 h4 h5
 have hp:=mU r.Held t (derived (aM r p).1 r.ag a b).1.ID
 have hr:0<=(derived (aM r p).1 r.ag a b).1.Rights/\(derived (aM r p).1 r.ag a b).1.Rights<=7:=yK h5
 refine ⟨?_,?_,?_,?_,Db h.ri hr,?_,?_,?_,?_⟩ <;> dsimp only [fB]
 .grind
 .omega
 .grind
 all_goals omega
theorem Qf {k:Nat}{r:av}(h:Sz k r)(p:Place)(s:Int):Sz (k+1) (fu r p s).1:=by
 have:=h.wl;have:=h.tl;have:=h.hl;have:=h.nl;have:=h.w0;have:=h.t0;have:=h.t1;have:=h.w1
 have h1:=mU r.Held p 0
 have h2:=mU (eW r.Held p 0) ⟨p.ay,s⟩ (aM r p).1.ID
 unfold fu
 (repeat' split) <;> first|exact sN _|exact ⟨aB,aB,aB,aB,h.ri,h.w0,h.w1,h.t0,h.t1⟩
theorem Qg {k:Nat}{r:av}(h:Sz k r)(p:Place):Sz (k+1) (fM r p).1:=by
 unfold fM;split
 .exact (pF _ _ (h.wV (Nat.le_trans (og _ _) h.wl) (pB h.ri))).up (Nat.le_succ k)
 grind [sN]
theorem KG {k:Nat}{r:av}(h:Sz k r)(p:Place):Sz (k+1) (dF r p).1:=by
 unfold dF;split
 .exact (pF _ _ (h.wV (Nat.le_trans (List.length_filter_le _ _) h.wl) (fun w hw=>h.ri w (List.mem_filter.1 hw).1))).up (Nat.le_succ k)
 grind [sN]
theorem wW (l:List aA)(i:Nat)(d:ByteArray):(gB l i d).length=l.length:=by
 grind [gB]
theorem MN {k:Nat}{r:av}(h:Sz k r)(p:Place)(d:ByteArray):Sz (k+1) (dV r p d).1:=by
 have:=h.wl;have:=h.tl;have:=h.hl;have:=h.nl
 unfold dV
 (repeat' split) <;> first|exact sN _|exact ⟨aB,by grind [wW],aB,aB,h.ri,h.w0,h.w1,h.t0,h.t1⟩
theorem Qh {k:Nat}{r:av}(h:Sz k r)(p:Place)(d:ByteArray)(a b:Int):Sz (k+1) (cL r p d a b).1:=by
 have:=h.wl;have:=h.tl;have:=h.hl;have:=h.nl;have:=h.w0;have:=h.t0;have:=h.t1;have:=h.w1
 unfold cL
 (repeat' split) <;> first|exact sN _|exact ⟨aB,aB,aB,aB,h.ri,h.w0,h.w1,h.t0,h.t1⟩ | skip
 rename_i h8
 exact ⟨aB,aB,aB,aB,Db h.ri (yK h8),aB,aB,h.t0,h.t1⟩
theorem MO (l:List Note)(i:Nat):(vC l i).length<=l.length:=by
 grind [vC,List.length_append,List.length_take,List.length_drop]
theorem Qi {k:Nat}{r:av}(h:Sz k r)(p:Place):Sz (k+1) (cM r p).1:=by
 have:=h.wl;have:=h.tl;have:=h.hl;have:=h.nl
 unfold cM
 split
 .
  split
  .
   rename_i n _ _
   have h1:=mU r.Held ⟨p.ay,gq r.Held p.ay⟩ n.ap
   have h2:=MO r.Notes (idxOf (fun n=>n.Port==(bQ r p 2 1).1.aA) r.Notes).toNat
   (repeat' split) <;> first|exact sN _|exact ⟨aB,aB,aB,aB,h.ri,h.w0,h.w1,h.t0,h.t1⟩
  grind [sN]
 grind [sN]
theorem MP {k:Nat}{r:av}(h:Sz k r)(a:fL):Sz (k+1) (cp r a).1:=by
 unfold cp
 (repeat' split)
 .grind [Qd]
 .grind [Qe]
 .grind [Qf]
 .exact Qg h _
 .exact KG h _
 .grind [MN]
 .grind [Qh]
 .exact Qi h _
 exact h.up (Nat.le_succ k)
theorem tu {p q r:Place}(h:kr p q)(k:kr q r):kr p r:=by grind [kr]
theorem yL {p:Place}(h:kr p p):False:=by grind [kr]
theorem Fa (p q:Place):kr p q∨p=q∨kr q p:=by
 cases p;cases q;grind [kr,Place.mk.injEq]
theorem om {p q:Place}(h:kr p q):p≠q:=fun e=>yL (e▸h)
theorem yM (p q:Place):sE p q<0↔kr p q:=by
 grind [sE,sD,kr]
abbrev yN (l:List Held):Prop:=l.Pairwise fun a b=>kr a.Place b.Place
def MQ (l:List Held):Prop:= ∀h∈l,bB h.Place=0/\h.ap≠0
theorem iw {l:List Held}(h:Good l):yN l:=by
 have key:∀ (d i:Nat) x y,l[i]? = some x->l[i+d+1]? = some y->kr x.Place y.Place:=by
  intro d
  induction d with
  | zero =>
   intro i x y hx hy
   have hi:=(List.getElem?_eq_some_iff.1 hy).1
   exact (h (i+1) hi y hy).2.2 x ae aB
  | succ d ih =>
   intro i x y hx hy
   have hi:=(List.getElem?_eq_some_iff.1 hy).1
   obtain ⟨z,hz⟩:∃z,l[i+d+1]? = some z:=⟨_,List.getElem?_eq_getElem ae⟩
   exact tu (ih i x z hx hz) ((h (i+(d+1)+1) hi y hy).2.2 z ae aB)
 refine List.pairwise_iff_getElem.2 ?_
 intro i j hi hj hij
 exact key (j-i-1) i _ _ (List.getElem?_eq_getElem hi) aB
theorem uw {l:List Held}(h:Good l):MQ l:=fun x hx=>by
 obtain ⟨i,hi⟩:=List.mem_iff_getElem?.1 hx
 have:=h i (List.getElem?_eq_some_iff.1 hi).1 x hi
 omega
theorem rT {l:List Held}(h:yN l)(hf:MQ l):Good l:=fun k hk x hx=>by
 refine ⟨(hf x (List.mem_of_getElem? hx)).1,(hf x (List.mem_of_getElem? hx)).2,fun g h0 hg=>?_⟩
 grind [List.pairwise_iff_getElem,List.getElem?_eq_some_iff]
theorem Fb {l:List Held}:Good l↔yN l/\MQ l:=⟨fun h=>⟨iw h,uw h⟩,fun h=>rT h.1 h.2⟩
def Fc (p:Place):Int:=6*p.ay+p.Slot
theorem Qj {p q:Place}(hp:bB p=0)(hq:bB q=0)(h:kr p q):Fc p<Fc q:=by
 have:=bY hp;have:=bY hq
 grind [kr,Fc]
theorem MR {l:List Held}(h:Good l):l.length<=24:=by
 have hr:=iw h;have hf:=uw h
 have key:∀ (l:List Held) (m:Int),yN l->MQ l->(∀x∈l,m<Fc x.Place)->m<=30->m+l.length<=29∨l=[]:=by
  intro l
  induction l with
  | nil=>grind
  | cons x l ih =>
   intro m hr hf hm h30
   left
   have hx:=hf x (List.mem_cons_self ..)
   have hp:=bY hx.1
   have h1:=hm x (List.mem_cons_self ..)
   have h2:Fc x.Place<=29:=by grind [Fc]
   obtain ⟨hr1,hr2⟩:=List.pairwise_cons.1 hr
   have hf':MQ l:=fun y hy=>hf y (List.mem_cons_of_mem _ hy)
   rcases ih (Fc x.Place) hr2 hf' (fun y hy=>Qj hx.1 (hf' y hy).1 (hr1 y hy)) ae with h3|h3
   .grind
   grind
 rcases key l 5 hr hf (fun x hx=>by have:=bY (hf x hx).1;grind [Fc]) ae with h1|h1
 .omega
 grind
inductive Shape (l:List Held)(p:Place):Prop
  | hit (A B:List Held) (w:Int) (e:l=A++⟨p,w⟩::B) (h:KB l p=true) (k:gR l p=A.length) (ha:∀x∈A,kr x.Place p) (hb:∀x∈B,kr p x.Place)
  | miss (A B:List Held) (e:l=A++B) (h:KB l p=false) (k:gR l p=A.length) (ha:∀x∈A,kr x.Place p) (hb:∀x∈B,kr p x.Place)
theorem shape (l:List Held)(p:Place)(hr:yN l):Shape l p:=by
 have hm:=ET (f:=fun h:Held=>sE h.Place p) (l:=l) (fun i j x y hij hx hy hc=>by
  simp only [yM] at hc ⊢
  grind [Nat.lt_or_ge,List.pairwise_iff_getElem,List.getElem?_eq_some_iff,tu])
 have hk:=xI l p
 have hsplit:l=l.take (gR l p)++l.drop (gR l p):=(List.take_append_drop _ _).symm
 have hlen:(l.take (gR l p)).length=gR l p:=aB
 have hA:∀x∈l.take (gR l p),kr x.Place p:=fun x hx=>by
  obtain ⟨i,hi⟩:=List.mem_iff_getElem?.1 hx
  rw [List.getElem?_take] at hi
  split at hi
  .exact (yM _ _).1 (hm.1 i x af hi)
  grind
 have hB:∀x∈l.drop (gR l p),¬ kr x.Place p:=fun x hx=>by
  obtain ⟨i,hi⟩:=List.mem_iff_getElem?.1 hx
  rw [List.getElem?_drop] at hi
  exact fun hc=>hm.2 _ x (Nat.le_add_right _ _) hi ((yM _ _).2 hc)
 rcases vq l p with h|⟨x,hx,h,hp,hlt⟩
 .
  refine .miss _ _ hsplit h hlen.symm hA fun x hx=>?_
  have h1:=hB x hx
  rcases Fa p x.Place with h2|h2|h2
  .omega
  .
   exfalso
   obtain ⟨y,hy⟩:∃y,l[gR l p]? = some y:=by
    grind [List.mem_iff_getElem?,List.getElem?_eq_some_iff,List.getElem?_eq_getElem]
   have hyn:sE y.Place p≠0:=fun hc=>by
    have:KB l p=true:=by
     show qn _ l=true
     unfold qn
     have hy':l[jF (fun h:Held=>sE h.Place p) l]? = some y:=hy
     grind
    grind
   have hym:y∈l.drop (gR l p):=List.mem_iff_getElem?.2 ⟨0,aB⟩
   have hyb:=hB y hym
   have hyp:kr p y.Place:=by
    grind [Fa,KA]
   obtain ⟨i,hi⟩:=List.mem_iff_getElem?.1 hx
   rw [List.getElem?_drop] at hi
   rcases Nat.eq_zero_or_pos i with h0|h0
   .grind
   grind [List.pairwise_iff_getElem,List.getElem?_eq_some_iff,yL,tu]
  grind
 have hd:l.drop (gR l p)=x::l.drop (gR l p+1):=by
  grind [List.drop_eq_getElem_cons,List.getElem?_eq_some_iff]
 have hxe:x=⟨p,x.ap⟩:=by cases x;grind
 refine .hit (l.take (gR l p)) (l.drop (gR l p+1)) x.ap ?_ h hlen.symm hA fun y hy=>?_
 .grind
 grind
theorem Js {A:List Held}{p:Place}(h:∀x∈A,¬ x.Place=p):A.find? (fun h=>h.Place==p)=none:=by
 grind
theorem vE {A B:List Held}{p:Place}{w:Int}(h:∀x∈A,¬ x.Place=p):lP (A++⟨p,w⟩::B) p=w:=by
 simp_all [lP,List.find?_append,Js]
theorem Fe {A:List Held}{p:Place}(h:∀x∈A,¬ x.Place=p):lP A p=0:=by
 simp_all [lP,Js]
theorem yO {A B:List Held}{x:Held}{q:Place}(h:¬ x.Place=q):lP (A++x::B) q=lP (A++B) q:=by
 grind [lP]
theorem at_eq {l:List Held}{p:Place}(hr:yN l):mG l p=lP l p:=by
 cases shape l p hr with
 | hit A B w e h k ha hb =>
  have hx:l[gR l p]? = some ⟨p,w⟩:=aB
  rw [Jm h hx,e,vE (fun x hx=>om (ha x hx))]
 | miss A B e h k ha hb =>
  grind [My,Fe,om]
theorem free_eq {l:List Held}{h:Int}(hr:yN l):gq l h=C2 l h:=by
 have:∀n s,kV l h n s=lC l h n s:=by
  intro n
  induction n with
  | zero=>intro s;rfl
  | succ n ih=>grind [kV,lC,at_eq]
 exact this 6 0
theorem MS {p:Place}{id:Int}:∀ {A:List Held} (acc:List Held) (b:Bool),(∀x∈A,kr x.Place p)->A.foldl (ky p id) (acc,b)=(acc++A,b)
 | [],acc,b,h=>by simp
 | x::A,acc,b,h=>by
  have hx:=h x (List.mem_cons_self ..)
  simp only [List.foldl_cons]
  rw [ef (.inr (by grind [kr])),if_neg (om hx),MS _ _ (fun y hy=>h y (List.mem_cons_of_mem _ hy))]
  simp
theorem Ff {p:Place}{id:Int}:∀ {B:List Held} (acc:List Held),(∀x∈B,kr p x.Place)->B.foldl (ky p id) (acc,true)=(acc++B,true)
 | [],acc,h=>by simp
 | x::B,acc,h=>by
  have hx:=h x (List.mem_cons_self ..)
  simp only [List.foldl_cons]
  rw [ef (.inl rfl),if_neg (fun e=>om hx e.symm),Ff _ (fun y hy=>h y (List.mem_cons_of_mem _ hy))]
  simp
theorem ux {l A B:List Held}{p:Place}{w id:Int}(e:l=A++⟨p,w⟩::B)(h:KB l p=true)(k:gR l p=A.length):eW l p id=if id=0 then A++B else A++⟨p,id⟩::B:=by
 simp_all [eW,if_pos,List.drop_append,List.drop_of_length_le]
theorem rU {l A B:List Held}{p:Place}{id:Int}(e:l=A++B)(h:KB l p=false)(k:gR l p=A.length):eW l p id=if id=0 then A++B else A++⟨p,id⟩::B:=by
 simp_all [eW,if_neg]
theorem put_eq {l:List Held}{p:Place}{id:Int}(hr:yN l):eW l p id=l8 l p id:=by
 cases shape l p hr with
 | hit A B w e h k ha hb =>
  rw [ux e h k]
  unfold l8 nX
  rw [e,List.foldl_append,MS _ _ ha,List.foldl_cons]
  have hle:p.ay<(⟨p,w⟩:Held).Place.ay∨(p.ay=(⟨p,w⟩:Held).Place.ay/\p.Slot<=(⟨p,w⟩:Held).Place.Slot):= .inr ⟨rfl,Int.le_refl _⟩
  by_cases h0:id=0
  .
   have:(id==0)=true:=aB
   rw [this,ef (.inl rfl),if_pos rfl,Ff _ hb,if_pos h0,if_pos rfl];simp
  have:(id==0)=false:=aB
  rw [this,gS hle,if_pos rfl,Ff _ hb,if_neg h0,if_pos rfl];simp
 | miss A B e h k ha hb =>
  rw [rU e h k]
  unfold l8 nX
  rw [e,List.foldl_append,MS _ _ ha]
  by_cases h0:id=0
  .
   have:(id==0)=true:=aB
   rw [this,Ff _ hb,if_pos h0,if_pos rfl];simp
  have:(id==0)=false:=aB
  rw [this,if_neg h0]
  cases B with
  | nil=>rfl
  | cons x B =>
   have hx:=hb x (List.mem_cons_self ..)
   have hne:¬ x.Place=p:=fun e=>om hx e.symm
   rw [List.foldl_cons,gS (by grind [kr]),if_neg hne,Ff _ (fun y hy=>hb y (List.mem_cons_of_mem _ hy)),if_pos rfl];simp
theorem Fg {A B:List Held}(h:yN (A++B)):yN A/\yN B /\ ∀x∈A,∀y∈B,kr x.Place y.Place:=List.pairwise_append.1 h
theorem lQ {l:List Held}{p:Place}{id:Int}(hg:Good l)(hp:bB p=0):Good (eW l p id):=by
 have hr:=iw hg;have hf:=uw hg
 cases shape l p hr with
 | hit A B w e h k ha hb =>
  rw [ux e h k]
  rw [e] at hr hf
  obtain ⟨h1,h2,h3⟩:=Fg hr
  obtain ⟨h4,h5⟩:=List.pairwise_cons.1 h2
  split
  .exact rT (List.pairwise_append.2 ⟨h1,h5,fun x hx y hy=>h3 x hx y (List.mem_cons_of_mem _ hy)⟩) (fun x hx=>hf x aB)
  refine rT (List.pairwise_append.2 ⟨h1,List.pairwise_cons.2 ⟨hb,h5⟩,fun x hx y hy=>?_⟩) (fun x hx=>?_)
  .grind
  simp at hx
  rcases hx with hx|hx|hx
  .exact hf x aB
  .grind
  exact hf x aB
 | miss A B e h k ha hb =>
  rw [rU e h k]
  split
  .grind
  rw [e] at hr hf
  obtain ⟨h1,h2,h3⟩:=Fg hr
  refine rT (List.pairwise_append.2 ⟨h1,List.pairwise_cons.2 ⟨hb,h2⟩,fun x hx y hy=>?_⟩) (fun x hx=>?_)
  .grind
  simp at hx
  rcases hx with hx|hx|hx
  .exact hf x aB
  .grind
  exact hf x aB
theorem BO {l:List Held}{p q:Place}{id:Int}(hg:Good l)(hp:bB p=0)(hq:¬ q=p):mG (eW l p id) q=mG l q:=by
 have hr:=iw hg
 rw [at_eq (iw (lQ hg hp)),at_eq hr]
 have hpq:¬ p=q:=fun e=>hq e.symm
 cases shape l p hr with
 | hit A B w e h k ha hb =>
  grind [ux,yO]
 | miss A B e h k ha hb =>
  grind [rU,yO]
theorem wX {l:List Held}{h:Int}:∀ (n s:Nat),(kV l h n s = -1 /\ ∀t,s<=t->t<s+n->mG l ⟨h,(t:Int)⟩≠0) ∨ ∃k:Nat,kV l h n s=k/\s<=k/\k<s+n/\mG l ⟨h,(k:Int)⟩=0 /\ ∀t,s<=t->t<k->mG l ⟨h,(t:Int)⟩≠0
 | 0,s => .inl ⟨rfl,fun t h1 h2=>by omega⟩
 | n+1,s=>by
  simp only [kV]
  by_cases e:mG l ⟨h,s⟩=0
  .rw [if_pos e];exact .inr ⟨s,rfl,Nat.le_refl _,ae,e,fun t h1 h2=>by omega⟩
  rw [if_neg e]
  rcases wX (l:=l) (h:=h) n (s+1) with ⟨h1,h2⟩ | ⟨k,h1,h2,h3,h4,h5⟩
  .
   refine .inl ⟨h1,fun t h3 h4=>?_⟩
   rcases Nat.eq_or_lt_of_le h3 with h5|h5
   .subst h5;exact e
   exact h2 t h5 ae
  refine .inr ⟨k,h1,ae,ae,h4,fun t h6 h7=>?_⟩
  rcases Nat.eq_or_lt_of_le h6 with h8|h8
  .subst h8;exact e
  exact h5 t h8 h7
theorem free_spec (l:List Held)(h:Int):(gq l h = -1 /\ ∀t:Int,0<=t->t<=5->mG l ⟨h,t⟩≠0)∨(0<=gq l h/\gq l h<=5/\mG l ⟨h,gq l h⟩=0 /\ ∀t:Int,0<=t->t<gq l h->mG l ⟨h,t⟩≠0):=by
 rcases wX (l:=l) (h:=h) 6 0 with ⟨h1,h2⟩ | ⟨k,h1,h2,h3,h4,h5⟩
 .
  refine .inl ⟨h1,fun t h3 h4=>?_⟩
  have:=h2 t.toNat (Nat.zero_le _) ae
  grind
 have hk:gq l h=k:=h1
 refine .inr ⟨ae,ae,aB,fun t h6 h7=>?_⟩
 have:=h5 t.toNat (Nat.zero_le _) ae
 grind

end Go.Proofs.YtnmpibjlnninjaaGreatDoor
