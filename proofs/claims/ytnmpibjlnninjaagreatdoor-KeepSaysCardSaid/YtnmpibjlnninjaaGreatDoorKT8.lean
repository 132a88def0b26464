import Derived.Test.YtnmpibjlnninjaaGreatDoorKT7
namespace Go.Proofs.YtnmpibjlnninjaaGreatDoor
set_option linter.unusedVariables false
set_option linter.unusedSimpArgs false
set_option maxRecDepth 100000
set_option maxHeartbeats 90000000
section
def r0:aA:=⟨[],[],[],[],0,0⟩
def n0:Note:=⟨0,⟨#[]⟩,0,0⟩
structure Ok (r:aA):Prop where
  wl:r.aj.length<=2000
  tl:r.Things.length<=2000
  hl:r.Held.length<=2000
  nl:r.Notes.length<=2000
  ri:∀w∈r.aj,0<=w.Rights/\w.Rights<=7
  w0:0<=r.ag
  w1:r.ag<=2000
  t0:0<=r.ai
  t1:r.ai<=2000
def Ja (l:List ak)(id:Int):Option ak:=l.find? (fun w=>w.ID==id)
theorem Rf {l:List ak}{id:Int}{j:Nat}{x:ak}(hf:bY l id=(j:Int))(hx:l[j]? = some x):Ja l id=some x:=by
 grind [id,Ja,ka,List.getElem?_eq_getElem]
theorem Rh {l:List ak}{id:Int}(hf:bY l id = -1):Ja l id=none:=by
 rcases ka (l:=l) (id:=id) with ⟨h1,h2⟩ | ⟨k,hk,h1,h2⟩
 .exact h2
 omega
theorem K8 {l:List ak}{id:Int}{x:ak}(h:Ja l id=some x):x∈l/\x.ID=id:=by
 grind [Ja,List.mem_of_find?_eq_some]
def aL (r:aA)(p:Place):ak×Int :=
  if aY p=0 then (match Ja r.aj (lY r.Held p) with|some w=>(w,0)|none=>(iT,5)) else (iT,aY p)
theorem pZ {r:aA}{p:Place}(h:¬ aY p=0):aL r p=(iT,aY p):=by simp_all [aL,if_neg]
theorem qF {r:aA}{p:Place}(h:aY p=0)(hf:bY r.aj (lY r.Held p) = -1):aL r p=(iT,5):=by simp_all [aL,if_pos,Rh]
theorem tf {r:aA}{p:Place}{j:Nat}{x:ak}(h:aY p=0)(hf:bY r.aj (lY r.Held p)=(j:Int))(hx:r.aj[j]? = some x):aL r p=(x,0):=by unfold aL;rw [if_pos h,Rf hf hx]
theorem qG {r:aA}{p:Place}(h:(aL r p).2=0):aY p=0/\(aL r p).1∈r.aj/\(aL r p).1.ID=lY r.Held p:=by
 by_cases h1:aY p=0
 .
  cases h2:Ja r.aj (lY r.Held p) with
  | none=>simp_all [aL,if_pos]
  | some w =>
   have e:aL r p=(w,0):=by simp_all [aL,if_pos]
   grind [K8]
 grind [pZ]
theorem eB (r:aA)(p:Place):0<=(aL r p).2:=by
 grind [aL,kD]
theorem Ok.get {r:aA}(h:Ok r){p:Place}(hg:(aL r p).2=0):0<=(aL r p).1.Rights/\(aL r p).1.Rights<=7:=h.ri _ (qG hg).2.1
def eG (r:aA)(p:Place):Int:=if aY p=0 then (if lY r.Held p=0 then 0 else 6) else aY p
theorem fe (r:aA)(p:Place):0<=eG r p:=by
 grind [eG,kD]
def jH (r:aA)(w:ak)(p:Place):aA:=⟨r.aj++[w],r.Things,if 0<p.aB then eY r.Held p w.ID else r.Held,r.Notes,r.ag+1,r.ai⟩
def cQ (r:aA)(p:Place)(kind:Int):aA×Int :=
  if kind=1∨kind=2 then
    if eG r p=0 then
      if r.Things.length=10∨999<r.ai∨999<r.ag then (r0,9)
      else (jH ⟨r.aj,r.Things++[⟨r.ai,kind,⟨#[]⟩⟩],r.Held,r.Notes,r.ag,r.ai+1⟩ ⟨r.ag,r.ai,7,0,0⟩ p,0)
    else (r0,eG r p)
  else (r0,8)
def dA (r:aA)(p t:Place)(rights cB:Int):aA×Int :=
  if (aL r p).2=0 then
    if eG r t=0 then
      if p.aB=t.aB∨gj (aL r p).1.Rights 4=true then
        if 999<r.ag then (r0,9)
        else if (derived (aL r p).1 r.ag rights cB).2=0 then (jH r (derived (aL r p).1 r.ag rights cB).1 t,0)
        else (r0,(derived (aL r p).1 r.ag rights cB).2)
      else (r0,7)
    else (r0,eG r t)
  else (r0,(aL r p).2)
def iK (r:aA)(p:Place)(slot:Int):aA×Int :=
  if (aL r p).2=0 then
    if eG r ⟨p.aB,slot⟩=0 then (⟨r.aj,r.Things,eY (eY r.Held p 0) ⟨p.aB,slot⟩ (aL r p).1.ID,r.Notes,r.ag,r.ai⟩,0)
    else (r0,eG r ⟨p.aB,slot⟩)
  else (r0,(aL r p).2)
def a8 (l:List ak):List Int:=Lib.compact (pA (l.map ak.av))
def ji (ws:List ak)(n:Note):Note:=if bY ws n.ak<0 then ⟨n.Port,n.Data,n.aO,0⟩ else n
def fW (ws:List ak)(ts:List Int)(ns:List Note):List Note:=(ns.map (ji ws)).filter (fun n=>decide (n.Port∈ts))
def gG (ws:List ak)(ts:List Int)(ns:List Note):List Int:=((ns.map (ji ws)).filter (fun n => !decide (n.Port∈ts)&&decide (0<n.ak))).map Note.ak
def eL (r:aA):aA:=⟨r.aj,r.Things.filter (fun t => !!decide (t.ID∈a8 r.aj)),r.Held.filter (fun h => !decide (bY r.aj h.ak<0)),fW r.aj (a8 r.aj) r.Notes,r.ag,r.ai⟩
def mT (r:aA):List Int:=gG r.aj (a8 r.aj) r.Notes
def kf (r:aA):aA:=⟨(mT r).foldl without r.aj,(eL r).Things,(eL r).Held,(eL r).Notes,r.ag,r.ai⟩
def fY:Nat->aA->aA
  | 0,r=>eL r
  | n+1,r=>if (mT r).length=0 then eL r else fY n (kf r)
def dF (r:aA):aA:=fY (r.Notes.length+1) r
theorem nJ (ws:List ak)(ts:List Int)(ns:List Note):(fW ws ts ns).length+(gG ws ts ns).length<=ns.length:=by
 have h:∀l:List Note,(l.filter (fun n=>decide (n.Port∈ts))).length+(l.filter (fun n => !decide (n.Port∈ts)&&decide (0<n.ak))).length<=l.length:=by
  intro l
  induction l with
  | nil=>simp
  | cons n l ih =>
   grind
 grind [ji,fW,gG]
theorem oz {r:aA}(h:¬ (mT r).length=0):(kf r).Notes.length<r.Notes.length:=by
 have:=nJ r.aj (a8 r.aj) r.Notes
 show (fW r.aj (a8 r.aj) r.Notes).length<_
 grind [mT]
theorem tg:∀ (n m:Nat) (r:aA),r.Notes.length<n->r.Notes.length<m->fY n r=fY m r
 | 0,m,r,h,_=>by omega
 | n+1,0,r,_,h=>by omega
 | n+1,m+1,r,h1,h2=>by
  simp only [fY]
  split
  .rfl
  have:=oz (r:=r) af
  exact tg n m _ ae ae
theorem mU {r:aA}(h:(mT r).length=0):dF r=eL r:=by
 simp_all [dF,fY,if_pos]
theorem vx {r:aA}(h:¬ (mT r).length=0):dF r=dF (kf r):=by
 have:=oz h
 conv=>lhs;unfold dF fY
 rw [if_neg h]
 exact tg _ _ _ ae ae
theorem mV (l:List ak)(id:Int):(without l id).length<=l.length:=BM _ _ _
theorem oA {l:List ak}{id:Int}(h:∀w∈l,0<=w.Rights/\w.Rights<=7):∀w∈without l id,0<=w.Rights/\w.Rights<=7:=fun w hw=>by
 grind [fM,kE]
theorem p6:∀ (ids:List Int) (l:List ak),(ids.foldl without l).length<=l.length
 | [],l=>Nat.le_refl _
 | i::ids,l=>Nat.le_trans (p6 ids _) (mV l i)
theorem BP:∀ (ids:List Int) (l:List ak),(∀w∈l,0<=w.Rights/\w.Rights<=7) -> ∀w∈ids.foldl without l,0<=w.Rights/\w.Rights<=7
 | [],l,h=>h
 | i::ids,l,h=>BP ids _ (oA h)
theorem Ok.vy {r:aA}(h:Ok r){l:List ak}(hl:l.length<=2000)(hr:∀w∈l,0<=w.Rights/\w.Rights<=7):Ok ⟨l,r.Things,r.Held,r.Notes,r.ag,r.ai⟩ :=
 ⟨hl,h.tl,h.hl,h.nl,hr,h.w0,h.w1,h.t0,h.t1⟩
theorem Ok.wo {r:aA}(h:Ok r)(id:Int):Ok ⟨without r.aj id,r.Things,r.Held,r.Notes,r.ag,r.ai⟩ :=
 h.vy (Nat.le_trans (mV _ _) h.wl) (oA h.ri)
theorem Ok.kf {r:aA}(h:Ok r):Ok (YtnmpibjlnninjaaGreatDoor.kf r) :=
 ⟨Nat.le_trans (p6 _ _) h.wl,Nat.le_trans (List.length_filter_le _ _) h.tl,Nat.le_trans (List.length_filter_le _ _) h.hl,by
  have:=nJ r.aj (a8 r.aj) r.Notes
  have:=h.nl
  show (fW r.aj (a8 r.aj) r.Notes).length<=2000
  omega,BP _ _ h.ri,h.w0,h.w1,h.t0,h.t1⟩
def j5 (r:aA)(p:Place):aA×Int :=
  if (aL r p).2=0 then (dF ⟨without r.aj (aL r p).1.ID,r.Things,r.Held,r.Notes,r.ag,r.ai⟩,0) else (r0,(aL r p).2)
def DX (l:List ak)(id:Int):List ak:=l.filter (fun x => !decide (x.ID∈im id l))
theorem Ok.cut {r:aA}(h:Ok r)(id:Int):Ok ⟨DX r.aj id,r.Things,r.Held,r.Notes,r.ag,r.ai⟩ :=
 h.vy (Nat.le_trans (List.length_filter_le _ _) h.wl) (fun w hw=>h.ri w (List.mem_filter.1 hw).1)
def fA (r:aA)(p:Place):aA×Int :=
  if (aL r p).2=0 then (dF ⟨DX r.aj (aL r p).1.ID,r.Things,r.Held,r.Notes,r.ag,r.ai⟩,0) else (r0,(aL r p).2)
def Qb (l:List av)(id:Int):Int:=idxOf (fun t=>t.ID==id) l
def bJ (r:aA)(p:Place)(kind rights:Int):ak×Int×Int :=
  if (aL r p).2=0 then
    match r.Things.find? (fun t=>t.ID==(aL r p).1.av) with
    | none=>(iT,0,8)
    | some t=>if t.Kind=kind then (if gj (aL r p).1.Rights rights=true then ((aL r p).1,Qb r.Things (aL r p).1.av,0) else (iT,0,7)) else (iT,0,8)
  else (iT,0,(aL r p).2)
theorem p7 {α:Type}{q:α->Bool}{l:List α}{k:Nat}{x:α}(hx:l[k]? = some x)(he:q x=true)(hb:∀ (j:Nat) y,j<k->l[j]? = some y->q y=false):l.find? q=some x:=by
 grind [List.getElem?_eq_some_iff,List.find?_eq_some_iff_getElem,List.getElem?_eq_getElem]
theorem l7 {r:aA}{p:Place}{kind rights:Int}(h:¬ (aL r p).2=0):bJ r p kind rights=(iT,0,(aL r p).2):=by simp_all [bJ,if_neg]
theorem kg {r:aA}{p:Place}{kind rights:Int}(h:(aL r p).2=0)(hn:∀x∈r.Things,(x.ID==(aL r p).1.av)=false):bJ r p kind rights=(iT,0,8):=by
 unfold bJ;grind
section
variable {r:aA} {p:Place} {kind rights:Int} {k:Nat} {x:av}
theorem ki (h:(aL r p).2=0)(hx:r.Things[k]? = some x)(he:(x.ID==(aL r p).1.av)=true)(hb:∀ (j:Nat) y,j<k->r.Things[j]? = some y->(y.ID==(aL r p).1.av)=false)(hk:¬ x.Kind=kind):bJ r p kind rights=(iT,0,8):=by
 unfold bJ;rw [if_pos h,p7 (q:=fun t=>t.ID==(aL r p).1.av) hx he hb];grind
theorem jj (h:(aL r p).2=0)(hx:r.Things[k]? = some x)(he:(x.ID==(aL r p).1.av)=true)(hb:∀ (j:Nat) y,j<k->r.Things[j]? = some y->(y.ID==(aL r p).1.av)=false)(hk:x.Kind=kind)(hr:gj (aL r p).1.Rights rights=false):bJ r p kind rights=(iT,0,7):=by
 unfold bJ;rw [if_pos h,p7 (q:=fun t=>t.ID==(aL r p).1.av) hx he hb];grind
theorem oB (h:(aL r p).2=0)(hx:r.Things[k]? = some x)(he:(x.ID==(aL r p).1.av)=true)(hb:∀ (j:Nat) y,j<k->r.Things[j]? = some y->(y.ID==(aL r p).1.av)=false)(hk:x.Kind=kind)(hr:gj (aL r p).1.Rights rights=true):bJ r p kind rights=((aL r p).1,(k:Int),0):=by
 unfold bJ;rw [if_pos h,p7 (q:=fun t=>t.ID==(aL r p).1.av) hx he hb];simp only;rw [if_pos hk,if_pos hr]
 grind [Qb,aL,idxOf_hit]
end
theorem kj {r:aA}{p:Place}{kind rights:Int}(h:(bJ r p kind rights).2.2=0):(aL r p).2=0/\(bJ r p kind rights).1=(aL r p).1/\gj (aL r p).1.Rights rights=true /\
 ∃ (k:Nat) (x:av),(bJ r p kind rights).2.1=(k:Int)/\r.Things[k]? = some x/\x.ID=(aL r p).1.av/\x.Kind=kind /\ ∀ (j:Nat) y,j<k->r.Things[j]? = some y->¬ y.ID=(aL r p).1.av:=by
 by_cases h1:(aL r p).2=0
 .
  rcases jz (fun t:av=>t.ID==(aL r p).1.av) r.Things with ⟨_,hn⟩ | ⟨k,x,hk,hx,he,hb,_⟩
  .grind [kg]
  by_cases h2:x.Kind=kind
  .
   cases h3:gj (aL r p).1.Rights rights with
   | false=>grind [jj]
   | true =>
    grind [oB]
  grind [ki]
 grind [l7]
theorem iq (r:aA)(p:Place)(kind rights:Int):0<=(bJ r p kind rights).2.2:=by
 have:=eB r p
 grind [bJ]
def fB (l:List av)(i:Nat)(d:ByteArray):List av:=match l[i]? with|some t=>l.set i ⟨t.ID,t.Kind,d⟩ | none=>l
def fD (r:aA)(p:Place)(d:ByteArray):aA×Int :=
  if (bJ r p 1 2).2.2=0 then
    if 8<d.size then (r0,2) else (⟨r.aj,fB r.Things (bJ r p 1 2).2.1.toNat d,r.Held,r.Notes,r.ag,r.ai⟩,0)
  else (r0,(bJ r p 1 2).2.2)
def fk (l:List Note)(t:Int):Nat:=(l.filter (fun n=>n.Port==t)).length
def cW (r:aA)(p:Place)(d:ByteArray)(slot rights:Int):aA×Int :=
  if (bJ r p 2 2).2.2=0 then
    if 8<d.size then (r0,2)
    else if fk r.Notes (bJ r p 2 2).1.av=3 then (r0,9)
    else if slot<0 then (⟨r.aj,r.Things,r.Held,r.Notes++[⟨(bJ r p 2 2).1.av,d,(bJ r p 2 2).1.aO,0⟩],r.ag,r.ai⟩,0)
    else if gj (bJ r p 2 2).1.Rights 4=true then
      if (aL r ⟨p.aB,slot⟩).2=0 then
        if 999<r.ag then (r0,9)
        else if (derived (aL r ⟨p.aB,slot⟩).1 r.ag rights 0).2=0 then
          (⟨r.aj++[(derived (aL r ⟨p.aB,slot⟩).1 r.ag rights 0).1],r.Things,r.Held,r.Notes++[⟨(bJ r p 2 2).1.av,d,(bJ r p 2 2).1.aO,(derived (aL r ⟨p.aB,slot⟩).1 r.ag rights 0).1.ID⟩],r.ag+1,r.ai⟩,0)
        else (r0,(derived (aL r ⟨p.aB,slot⟩).1 r.ag rights 0).2)
      else (r0,(aL r ⟨p.aB,slot⟩).2)
    else (r0,7)
  else (r0,(bJ r p 2 2).2.2)
def uz (ns:List Note)(i:Nat):List Note:=ns.take i++ns.drop (i+1)
def dD (r:aA)(p:Place):aA×Note×Int×Int :=
  if (bJ r p 2 1).2.2=0 then
    match r.Notes[(idxOf (fun n=>n.Port==(bJ r p 2 1).1.av) r.Notes).toNat]?,decide (0<=idxOf (fun n=>n.Port==(bJ r p 2 1).1.av) r.Notes) with
    | some n,true =>
      if 0<n.ak then
        if fj r.Held p.aB<0 then (r0,n0,0,9)
        else (⟨r.aj,r.Things,eY r.Held ⟨p.aB,fj r.Held p.aB⟩ n.ak,uz r.Notes (idxOf (fun n=>n.Port==(bJ r p 2 1).1.av) r.Notes).toNat,r.ag,r.ai⟩,n,fj r.Held p.aB,0)
      else (⟨r.aj,r.Things,r.Held,uz r.Notes (idxOf (fun n=>n.Port==(bJ r p 2 1).1.av) r.Notes).toNat,r.ag,r.ai⟩,n,-1,0)
    | _,_=>(r0,n0,0,5)
  else (r0,n0,0,(bJ r p 2 1).2.2)
theorem qH {ws:List ak}{ts:List Int}{ns:List Note}{k:Nat}{n:Note}(h:ns[k]? = some n)(hp:(ji ws n).Port∈ts):fW ws ts (ns.take (k+1))=fW ws ts (ns.take k)++[ji ws n]/\gG ws ts (ns.take (k+1))=gG ws ts (ns.take k):=by
 grind [fW,gG,List.take_add_one]
theorem Ag {ws:List ak}{ts:List Int}{ns:List Note}{k:Nat}{n:Note}(h:ns[k]? = some n)(hp:¬ (ji ws n).Port∈ts)(h0:0<(ji ws n).ak):fW ws ts (ns.take (k+1))=fW ws ts (ns.take k)/\gG ws ts (ns.take (k+1))=gG ws ts (ns.take k)++[(ji ws n).ak]:=by
 grind [fW,gG,List.take_add_one]
theorem qJ {ws:List ak}{ts:List Int}{ns:List Note}{k:Nat}{n:Note}(h:ns[k]? = some n)(hp:¬ (ji ws n).Port∈ts)(h0:¬ 0<(ji ws n).ak):fW ws ts (ns.take (k+1))=fW ws ts (ns.take k)/\gG ws ts (ns.take (k+1))=gG ws ts (ns.take k):=by
 grind [fW,gG,List.take_add_one]
theorem wu {ws:List ak}{n:Note}(h:bY ws n.ak = -1):ji ws n=⟨n.Port,n.Data,n.aO,0⟩:=by simp_all [ji,if_pos]
theorem nK {ws:List ak}{n:Note}{j:Nat}(h:bY ws n.ak=(j:Int)):ji ws n=n:=by simp_all [ji,if_neg]
theorem DY {ns:List Note}{t:Int}{k:Nat}{n:Note}(h:ns[k]? = some n)(e:n.Port=t):fk (ns.take (k+1)) t=fk (ns.take k) t+1:=by
 grind [fk,List.take_add_one]
theorem Ah {ns:List Note}{t:Int}{k:Nat}{n:Note}(h:ns[k]? = some n)(e:¬ n.Port=t):fk (ns.take (k+1)) t=fk (ns.take k) t:=by
 grind [fk,List.take_add_one]
theorem Hw {ns:List Note}{t:Int}{k:Nat}:fk (ns.take k) t<=k:=by
 grind [fk,Nat.le_trans,List.length_filter_le,List.length_take]
def fE (ns:List Note)(l:List ak):List ak:=ns.foldl (fun l n=>if 0<n.ak then without l n.ak else l) l
theorem l8 {ns:List Note}{l:List ak}{k:Nat}{n:Note}(h:ns[k]? = some n):fE (ns.take (k+1)) l=(if 0<n.ak then without (fE (ns.take k) l) n.ak else fE (ns.take k) l):=by
 grind [fE,List.take_add_one]
theorem r6 (ns:List Note):∀ (l:List ak),(fE ns l).length<=l.length:=by
 induction ns with
 | nil=>intro l;exact Nat.le_refl _
 | cons n ns ih =>
  intro l
  show (fE ns _).length<=_
  refine Nat.le_trans (ih _) ?_
  dsimp only
  split
  .exact mV _ _
  omega
theorem uA (ns:List Note):∀ (l:List ak),(∀w∈l,0<=w.Rights/\w.Rights<=7) -> ∀w∈fE ns l,0<=w.Rights/\w.Rights<=7:=by
 induction ns with
 | nil=>intro l h;exact h
 | cons n ns ih =>
  intro l h
  show ∀w∈fE ns _,_
  grind [oA]
def aK (r:aA):aA:=dF ⟨fE r.Notes r.aj,r.Things,r.Held,[],r.ag,r.ai⟩
end
def oC (c:Change):Bool:=decide (c.Key.size<=20)&&decide (c.Val.size<=40)
def r8 (l:List Change)(most:Int):Bool:=decide ((l.length:Int)<=most)&&l.all oC
def oD (a:eU):Bool:=decide (a.S.size<=100)&&r8 a.Changes 70
def p8 (l:List eU)(most:Int):Bool:=decide ((l.length:Int)<=most)&&l.all oD
theorem wv {α:Type}{p:α->Bool}{l:List α}{k:Nat}{x:α}(hx:l[k]? = some x)(h:p x=false):l.all p=false:=by
 grind
theorem K9 {α:Type}{p:α->Bool}{l:List α}{k:Nat}(hk:¬ k<l.length)(h:(l.take k).all p=true):l.all p=true:=by
 grind [List.take_of_length_le]
theorem DZ {α:Type}{p:α->Bool}{l:List α}{k:Nat}{x:α}(hx:l[k]? = some x)(h:(l.take k).all p=true)(hp:p x=true):(l.take (k+1)).all p=true:=by
 grind [List.take_add_one]
theorem F3 {l:List eU}{most:Int}(h:p8 l most=true):(l.length:Int)<=most:=by
 simp_all [p8,Bool.and_eq_true,decide_eq_true_eq]
def newR:aA:=⟨[],[],[],[],1,1⟩
def cJ (r:aA)(a:eU):aA×Int :=
  if a.Kind=(⟨#[109,97,107,101]⟩:ByteArray) then cQ r a.P a.A
  else if a.Kind=(⟨#[103,105,118,101]⟩:ByteArray) then dA r a.P a.Q a.A a.B
  else if a.Kind=(⟨#[109,111,118,101]⟩:ByteArray) then iK r a.P a.A
  else if a.Kind=(⟨#[100,114,111,112]⟩:ByteArray) then j5 r a.P
  else if a.Kind=(⟨#[114,101,118,111,107,101]⟩:ByteArray) then fA r a.P
  else if a.Kind=(⟨#[119,114,105,116,101]⟩:ByteArray) then fD r a.P a.S
  else if a.Kind=(⟨#[115,101,110,100]⟩:ByteArray) then cW r a.P a.S a.A a.B
  else if a.Kind=(⟨#[116,97,107,101]⟩:ByteArray) then ((dD r a.P).1,(dD r a.P).2.2.2)
  else (r,0)
def Ui (r:aA)(a:eU):aA:=if (cJ r a).2=0 then (cJ r a).1 else r
def grow (l:List eU):aA:=l.foldl Ui newR
theorem lC {w:ak}{id r b:Int}(h:(derived w id r b).2=0):0<=r/\r<=7/\0<=b/\b<=99/\gj w.Rights r=true/\(derived w id r b).1=⟨id,w.av,r,if b=0 then w.aO else b,w.ID⟩/\(w.aO=0∨b=0∨b=w.aO):=by
 revert h
 rcases gi r with ⟨h1,h2⟩ | ⟨h1,h2⟩
 .simp_all [derived,if_pos]
 unfold derived;grind
theorem xy {w:ak}{id r b:Int}(h:(derived w id r b).2=0):0<=(derived w id r b).1.Rights/\(derived w id r b).1.Rights<=7:=by
 have:=lC h;grind
structure Sz (k:Nat)(r:aA):Prop where
  wl:r.aj.length<=k
  tl:r.Things.length<=k
  hl:r.Held.length<=2*k
  nl:r.Notes.length<=k
  ri:∀w∈r.aj,0<=w.Rights/\w.Rights<=7
  w0:0<=r.ag
  w1:r.ag<=1000
  t0:0<=r.ai
  t1:r.ai<=1000
theorem Sz.ok {k:Nat}{r:aA}(h:Sz k r)(hk:k<=1000):Ok r:=⟨by have:=h.wl;omega,by have:=h.tl;omega,by have:=h.hl;omega,by have:=h.nl;omega,h.ri,h.w0,by have:=h.w1;omega,h.t0,by have:=h.t1;omega⟩
theorem Sz.up {k m:Nat}{r:aA}(h:Sz k r)(hk:k<=m):Sz m r:=⟨by have:=h.wl;omega,by have:=h.tl;omega,by have:=h.hl;omega,by have:=h.nl;omega,h.ri,h.w0,h.w1,h.t0,h.t1⟩
theorem Sz.new:Sz 0 newR:=⟨Nat.le_refl _,Nat.le_refl _,Nat.le_refl _,Nat.le_refl _,fun w hw=>(by cases hw),aD,aD,aD,aD⟩
theorem rJ (k:Nat):Sz k r0:=⟨Nat.zero_le _,Nat.zero_le _,Nat.zero_le _,Nat.zero_le _,fun w hw=>(by cases hw),aD,aD,aD,aD⟩
theorem BQ {l:List ak}{x:ak}(h:∀w∈l,0<=w.Rights/\w.Rights<=7)(hx:0<=x.Rights/\x.Rights<=7):∀w∈l++[x],0<=w.Rights/\w.Rights<=7:=fun w hw=>by
 grind
theorem nL {k:Nat}{r:aA}(h:Sz k r):Sz k (eL r) :=
 ⟨h.wl,Nat.le_trans (List.length_filter_le _ _) h.tl,Nat.le_trans (List.length_filter_le _ _) h.hl,by
  have:=nJ r.aj (a8 r.aj) r.Notes
  have:=h.nl
  show (fW r.aj (a8 r.aj) r.Notes).length<=k
  omega,h.ri,h.w0,h.w1,h.t0,h.t1⟩
theorem Jb {k:Nat}{r:aA}(h:Sz k r):Sz k (kf r) :=
 ⟨Nat.le_trans (p6 _ _) h.wl,(nL h).tl,(nL h).hl,(nL h).nl,BP _ _ h.ri,h.w0,h.w1,h.t0,h.t1⟩
theorem oE {k:Nat}:∀ (n:Nat) (r:aA),Sz k r->Sz k (fY n r)
 | 0,r,h=>nL h
 | n+1,r,h=>by
  unfold fY;split
  .exact nL h
  exact oE n _ (Jb h)
theorem Sz.vy {k:Nat}{r:aA}(h:Sz k r){l:List ak}(hl:l.length<=k)(hr:∀w∈l,0<=w.Rights/\w.Rights<=7):Sz k ⟨l,r.Things,r.Held,r.Notes,r.ag,r.ai⟩ :=
 ⟨hl,h.tl,h.hl,h.nl,hr,h.w0,h.w1,h.t0,h.t1⟩
theorem N1 {k:Nat}{r:aA}(h:Sz k r)(p:Place)(kind:Int):Sz (k+1) (cQ r p kind).1:=by
 have:=h.wl;have:=h.tl;have:=h.hl;have:=h.nl;have:=h.w0;have:=h.t0;have hp:=lZ r.Held p r.ag
 unfold cQ
 (repeat' split) <;> first|exact rJ _|skip
 refine ⟨?_,?_,?_,?_,BQ h.ri ⟨au,au⟩,?_,?_,?_,?_⟩ <;> dsimp only [jH]
 .grind
 .grind
 .grind
 all_goals omega
theorem N2 {k:Nat}{r:aA}(h:Sz k r)(p t:Place)(a b:Int):Sz (k+1) (dA r p t a b).1:=by
 have:=h.wl;have:=h.tl;have:=h.hl;have:=h.nl;have:=h.w0;have:=h.t0;have:=h.t1
 unfold dA
 (repeat' split) <;> first|exact rJ _|skip
 rename_i h1 h2 h3 h4 h5
 have hp:=lZ r.Held t (derived (aL r p).1 r.ag a b).1.ID
 have hr:0<=(derived (aL r p).1 r.ag a b).1.Rights/\(derived (aL r p).1 r.ag a b).1.Rights<=7:=xy h5
 refine ⟨?_,?_,?_,?_,BQ h.ri hr,?_,?_,?_,?_⟩ <;> dsimp only [jH]
 .grind
 .omega
 .grind
 all_goals omega
theorem N3 {k:Nat}{r:aA}(h:Sz k r)(p:Place)(s:Int):Sz (k+1) (iK r p s).1:=by
 have:=h.wl;have:=h.tl;have:=h.hl;have:=h.nl;have:=h.w0;have:=h.t0;have:=h.t1;have:=h.w1
 have h1:=lZ r.Held p 0
 have h2:=lZ (eY r.Held p 0) ⟨p.aB,s⟩ (aL r p).1.ID
 unfold iK
 (repeat' split) <;> first|exact rJ _|exact ⟨au,au,au,au,h.ri,h.w0,h.w1,h.t0,h.t1⟩
theorem N4 {k:Nat}{r:aA}(h:Sz k r)(p:Place):Sz (k+1) (j5 r p).1:=by
 unfold j5;split
 .exact (oE _ _ (h.vy (Nat.le_trans (mV _ _) h.wl) (oA h.ri))).up (Nat.le_succ k)
 grind [rJ]
theorem Jc {k:Nat}{r:aA}(h:Sz k r)(p:Place):Sz (k+1) (fA r p).1:=by
 unfold fA;split
 .exact (oE _ _ (h.vy (Nat.le_trans (List.length_filter_le _ _) h.wl) (fun w hw=>h.ri w (List.mem_filter.1 hw).1))).up (Nat.le_succ k)
 grind [rJ]
theorem vz (l:List av)(i:Nat)(d:ByteArray):(fB l i d).length=l.length:=by
 grind [fB]
theorem La {k:Nat}{r:aA}(h:Sz k r)(p:Place)(d:ByteArray):Sz (k+1) (fD r p d).1:=by
 have:=h.wl;have:=h.tl;have:=h.hl;have:=h.nl
 unfold fD
 (repeat' split) <;> first|exact rJ _|exact ⟨au,by grind [vz],au,au,h.ri,h.w0,h.w1,h.t0,h.t1⟩
theorem N5 {k:Nat}{r:aA}(h:Sz k r)(p:Place)(d:ByteArray)(a b:Int):Sz (k+1) (cW r p d a b).1:=by
 have:=h.wl;have:=h.tl;have:=h.hl;have:=h.nl;have:=h.w0;have:=h.t0;have:=h.t1;have:=h.w1
 unfold cW
 (repeat' split) <;> first|exact rJ _|exact ⟨au,au,au,au,h.ri,h.w0,h.w1,h.t0,h.t1⟩ | skip
 rename_i h8
 exact ⟨au,au,au,au,BQ h.ri (xy h8),au,au,h.t0,h.t1⟩
theorem Lb (l:List Note)(i:Nat):(uz l i).length<=l.length:=by
 grind [uz,List.length_append,List.length_take,List.length_drop]
theorem N6 {k:Nat}{r:aA}(h:Sz k r)(p:Place):Sz (k+1) (dD r p).1:=by
 have:=h.wl;have:=h.tl;have:=h.hl;have:=h.nl
 unfold dD
 split
 .
  split
  .
   rename_i n _ _
   have h1:=lZ r.Held ⟨p.aB,fj r.Held p.aB⟩ n.ak
   have h2:=Lb r.Notes (idxOf (fun n=>n.Port==(bJ r p 2 1).1.av) r.Notes).toNat
   (repeat' split) <;> first|exact rJ _|exact ⟨au,au,au,au,h.ri,h.w0,h.w1,h.t0,h.t1⟩
  grind [rJ]
 grind [rJ]
theorem Lc {k:Nat}{r:aA}(h:Sz k r)(a:eU):Sz (k+1) (cJ r a).1:=by
 unfold cJ
 (repeat' split)
 .grind [N1]
 .grind [N2]
 .grind [N3]
 .exact N4 h _
 .exact Jc h _
 .grind [La]
 .grind [N5]
 .exact N6 h _
 exact h.up (Nat.le_succ k)
theorem r9 {p q r:Place}(h:jI p q)(k:jI q r):jI p r:=by grind [jI]
theorem xA {p:Place}(h:jI p p):False:=by grind [jI]
theorem D1 (p q:Place):jI p q∨p=q∨jI q p:=by
 cases p;cases q;grind [jI,Place.mk.injEq]
theorem mW {p q:Place}(h:jI p q):p≠q:=fun e=>xA (e▸h)
theorem xB (p q:Place):ru p q<0↔jI p q:=by
 grind [ru,rq,jI]
abbrev xC (l:List Held):Prop:=l.Pairwise fun a b=>jI a.Place b.Place
def Ld (l:List Held):Prop:= ∀h∈l,aY h.Place=0/\h.ak≠0
theorem gA {l:List Held}(h:Good l):xC l:=by
 have key:∀ (d i:Nat) x y,l[i]? = some x->l[i+d+1]? = some y->jI x.Place y.Place:=by
  intro d
  induction d with
  | zero =>
   intro i x y hx hy
   have hi:=(List.getElem?_eq_some_iff.1 hy).1
   exact (h (i+1) hi y hy).2.2 x ae au
  | succ d ih =>
   intro i x y hx hy
   have hi:=(List.getElem?_eq_some_iff.1 hy).1
   obtain ⟨z,hz⟩:∃z,l[i+d+1]? = some z:=⟨_,List.getElem?_eq_getElem ae⟩
   exact r9 (ih i x z hx hz) ((h (i+(d+1)+1) hi y hy).2.2 z ae au)
 refine List.pairwise_iff_getElem.2 ?_
 intro i j hi hj hij
 exact key (j-i-1) i _ _ (List.getElem?_eq_getElem hi) au
theorem tj {l:List Held}(h:Good l):Ld l:=fun x hx=>by
 obtain ⟨i,hi⟩:=List.mem_iff_getElem?.1 hx
 have:=h i (List.getElem?_eq_some_iff.1 hi).1 x hi
 omega
theorem qK {l:List Held}(h:xC l)(hf:Ld l):Good l:=fun k hk x hx=>by
 refine ⟨(hf x (List.mem_of_getElem? hx)).1,(hf x (List.mem_of_getElem? hx)).2,fun g h0 hg=>?_⟩
 grind [List.pairwise_iff_getElem,List.getElem?_eq_some_iff]
theorem D2 {l:List Held}:Good l↔xC l/\Ld l:=⟨fun h=>⟨gA h,tj h⟩,fun h=>qK h.1 h.2⟩
def D3 (p:Place):Int:=6*p.aB+p.Slot
theorem N7 {p q:Place}(hp:aY p=0)(hq:aY q=0)(h:jI p q):D3 p<D3 q:=by
 have:=bG hp;have:=bG hq
 grind [jI,D3]
theorem Le {l:List Held}(h:Good l):l.length<=24:=by
 have hr:=gA h;have hf:=tj h
 have key:∀ (l:List Held) (m:Int),xC l->Ld l->(∀x∈l,m<D3 x.Place)->m<=30->m+l.length<=29∨l=[]:=by
  intro l
  induction l with
  | nil=>grind
  | cons x l ih =>
   intro m hr hf hm ZM
   left
   have hx:=hf x (List.mem_cons_self ..)
   have hp:=bG hx.1
   have h1:=hm x (List.mem_cons_self ..)
   have h2:D3 x.Place<=29:=by grind [D3]
   obtain ⟨hr1,hr2⟩:=List.pairwise_cons.1 hr
   have hf':Ld l:=fun y hy=>hf y (List.mem_cons_of_mem _ hy)
   rcases ih (D3 x.Place) hr2 hf' (fun y hy=>N7 hx.1 (hf' y hy).1 (hr1 y hy)) ae with h3|h3
   .grind
   grind
 rcases key l 5 hr hf (fun x hx=>by have:=bG (hf x hx).1;grind [D3]) ae with h1|h1
 .omega
 grind
inductive Shape (l:List Held)(p:Place):Prop
  | hit (A B:List Held) (w:Int) (e:l=A++⟨p,w⟩::B) (h:I7 l p=true) (k:hZ l p=A.length) (ha:∀x∈A,jI x.Place p) (hb:∀x∈B,jI p x.Place)
  | miss (A B:List Held) (e:l=A++B) (h:I7 l p=false) (k:hZ l p=A.length) (ha:∀x∈A,jI x.Place p) (hb:∀x∈B,jI p x.Place)
theorem shape (l:List Held)(p:Place)(hr:xC l):Shape l p:=by
 have hm:=Dz (f:=fun h:Held=>ru h.Place p) (l:=l) (fun i j x y hij hx hy hc=>by
  simp only [xB] at hc ⊢
  grind [Nat.lt_or_ge,List.pairwise_iff_getElem,List.getElem?_eq_some_iff,r9])
 have hk:=wt l p
 have hsplit:l=l.take (hZ l p)++l.drop (hZ l p):=(List.take_append_drop _ _).symm
 have hlen:(l.take (hZ l p)).length=hZ l p:=au
 have hA:∀x∈l.take (hZ l p),jI x.Place p:=fun x hx=>by
  obtain ⟨i,hi⟩:=List.mem_iff_getElem?.1 hx
  rw [List.getElem?_take] at hi
  split at hi
  .exact (xB _ _).1 (hm.1 i x af hi)
  grind
 have hB:∀x∈l.drop (hZ l p),¬ jI x.Place p:=fun x hx=>by
  obtain ⟨i,hi⟩:=List.mem_iff_getElem?.1 hx
  rw [List.getElem?_drop] at hi
  exact fun hc=>hm.2 _ x (Nat.le_add_right _ _) hi ((xB _ _).2 hc)
 rcases uo l p with h|⟨x,hx,h,hp,hlt⟩
 .
  refine .miss _ _ hsplit h hlen.symm hA fun x hx=>?_
  have h1:=hB x hx
  rcases D1 p x.Place with h2|h2|h2
  .omega
  .
   exfalso
   obtain ⟨y,hy⟩:∃y,l[hZ l p]? = some y:=by
    grind [List.mem_iff_getElem?,List.getElem?_eq_some_iff,List.getElem?_eq_getElem]
   have hyn:ru y.Place p≠0:=fun hc=>by
    have:I7 l p=true:=by
     show py _ l=true
     unfold py
     have hy':l[jw (fun h:Held=>ru h.Place p) l]? = some y:=hy
     grind
    grind
   have hym:y∈l.drop (hZ l p):=List.mem_iff_getElem?.2 ⟨0,au⟩
   have hyb:=hB y hym
   have hyp:jI p y.Place:=by
    grind [D1,I6]
   obtain ⟨i,hi⟩:=List.mem_iff_getElem?.1 hx
   rw [List.getElem?_drop] at hi
   rcases Nat.eq_zero_or_pos i with h0|h0
   .grind
   grind [List.pairwise_iff_getElem,List.getElem?_eq_some_iff,xA,r9]
  grind
 have hd:l.drop (hZ l p)=x::l.drop (hZ l p+1):=by
  grind [List.drop_eq_getElem_cons,List.getElem?_eq_some_iff]
 have hxe:x=⟨p,x.ak⟩:=by cases x;grind
 refine .hit (l.take (hZ l p)) (l.drop (hZ l p+1)) x.ak ?_ h hlen.symm hA fun y hy=>?_
 .grind
 grind
theorem Hy {A:List Held}{p:Place}(h:∀x∈A,¬ x.Place=p):A.find? (fun h=>h.Place==p)=none:=by
 grind
theorem uB {A B:List Held}{p:Place}{w:Int}(h:∀x∈A,¬ x.Place=p):kP (A++⟨p,w⟩::B) p=w:=by
 simp_all [kP,List.find?_append,Hy]
theorem D4 {A:List Held}{p:Place}(h:∀x∈A,¬ x.Place=p):kP A p=0:=by
 simp_all [kP,Hy]
theorem xD {A B:List Held}{x:Held}{q:Place}(h:¬ x.Place=q):kP (A++x::B) q=kP (A++B) q:=by
 grind [kP]
theorem at_eq {l:List Held}{p:Place}(hr:xC l):lY l p=kP l p:=by
 cases shape l p hr with
 | hit A B w e h k ha hb =>
  have hx:l[hZ l p]? = some ⟨p,w⟩:=au
  rw [Hq h hx,e,uB (fun x hx=>mW (ha x hx))]
 | miss A B e h k ha hb =>
  grind [KW,D4,mW]
theorem free_eq {l:List Held}{h:Int}(hr:xC l):fj l h=BJ l h:=by
 have:∀n s,j9 l h n s=kC l h n s:=by
  intro n
  induction n with
  | zero=>intro s;rfl
  | succ n ih=>grind [j9,kC,at_eq]
 exact this 6 0
theorem Lf {p:Place}{id:Int}:∀ {A:List Held} (acc:List Held) (b:Bool),(∀x∈A,jI x.Place p)->A.foldl (jL p id) (acc,b)=(acc++A,b)
 | [],acc,b,h=>by simp
 | x::A,acc,b,h=>by
  have hx:=h x (List.mem_cons_self ..)
  simp only [List.foldl_cons]
  rw [du (.inr (by grind [jI])),if_neg (mW hx),Lf _ _ (fun y hy=>h y (List.mem_cons_of_mem _ hy))]
  simp
theorem D5 {p:Place}{id:Int}:∀ {B:List Held} (acc:List Held),(∀x∈B,jI p x.Place)->B.foldl (jL p id) (acc,true)=(acc++B,true)
 | [],acc,h=>by simp
 | x::B,acc,h=>by
  have hx:=h x (List.mem_cons_self ..)
  simp only [List.foldl_cons]
  rw [du (.inl rfl),if_neg (fun e=>mW hx e.symm),D5 _ (fun y hy=>h y (List.mem_cons_of_mem _ hy))]
  simp
theorem tq {l A B:List Held}{p:Place}{w id:Int}(e:l=A++⟨p,w⟩::B)(h:I7 l p=true)(k:hZ l p=A.length):eY l p id=if id=0 then A++B else A++⟨p,id⟩::B:=by
 simp_all [eY,if_pos,List.drop_append,List.drop_of_length_le]
theorem qL {l A B:List Held}{p:Place}{id:Int}(e:l=A++B)(h:I7 l p=false)(k:hZ l p=A.length):eY l p id=if id=0 then A++B else A++⟨p,id⟩::B:=by
 simp_all [eY,if_neg]
theorem put_eq {l:List Held}{p:Place}{id:Int}(hr:xC l):eY l p id=lv l p id:=by
 cases shape l p hr with
 | hit A B w e h k ha hb =>
  rw [tq e h k]
  unfold lv mP
  rw [e,List.foldl_append,Lf _ _ ha,List.foldl_cons]
  have hle:p.aB<(⟨p,w⟩:Held).Place.aB∨(p.aB=(⟨p,w⟩:Held).Place.aB/\p.Slot<=(⟨p,w⟩:Held).Place.Slot):= .inr ⟨rfl,Int.le_refl _⟩
  by_cases h0:id=0
  .
   have:(id==0)=true:=au
   rw [this,du (.inl rfl),if_pos rfl,D5 _ hb,if_pos h0,if_pos rfl];simp
  have:(id==0)=false:=au
  rw [this,fS hle,if_pos rfl,D5 _ hb,if_neg h0,if_pos rfl];simp
 | miss A B e h k ha hb =>
  rw [qL e h k]
  unfold lv mP
  rw [e,List.foldl_append,Lf _ _ ha]
  by_cases h0:id=0
  .
   have:(id==0)=true:=au
   rw [this,D5 _ hb,if_pos h0,if_pos rfl];simp
  have:(id==0)=false:=au
  rw [this,if_neg h0]
  cases B with
  | nil=>rfl
  | cons x B =>
   have hx:=hb x (List.mem_cons_self ..)
   have hne:¬ x.Place=p:=fun e=>mW hx e.symm
   rw [List.foldl_cons,fS (by grind [jI]),if_neg hne,D5 _ (fun y hy=>hb y (List.mem_cons_of_mem _ hy)),if_pos rfl];simp
theorem D6 {A B:List Held}(h:xC (A++B)):xC A/\xC B /\ ∀x∈A,∀y∈B,jI x.Place y.Place:=List.pairwise_append.1 h
theorem kQ {l:List Held}{p:Place}{id:Int}(hg:Good l)(hp:aY p=0):Good (eY l p id):=by
 have hr:=gA hg;have hf:=tj hg
 cases shape l p hr with
 | hit A B w e h k ha hb =>
  rw [tq e h k]
  rw [e] at hr hf
  obtain ⟨h1,h2,h3⟩:=D6 hr
  obtain ⟨h4,h5⟩:=List.pairwise_cons.1 h2
  split
  .exact qK (List.pairwise_append.2 ⟨h1,h5,fun x hx y hy=>h3 x hx y (List.mem_cons_of_mem _ hy)⟩) (fun x hx=>hf x au)
  refine qK (List.pairwise_append.2 ⟨h1,List.pairwise_cons.2 ⟨hb,h5⟩,fun x hx y hy=>?_⟩) (fun x hx=>?_)
  .grind
  simp at hx
  rcases hx with hx|hx|hx
  .exact hf x au
  .grind
  exact hf x au
 | miss A B e h k ha hb =>
  rw [qL e h k]
  split
  .grind
  rw [e] at hr hf
  obtain ⟨h1,h2,h3⟩:=D6 hr
  refine qK (List.pairwise_append.2 ⟨h1,List.pairwise_cons.2 ⟨hb,h2⟩,fun x hx y hy=>?_⟩) (fun x hx=>?_)
  .grind
  simp at hx
  rcases hx with hx|hx|hx
  .exact hf x au
  .grind
  exact hf x au
theorem Ai {l:List Held}{p q:Place}{id:Int}(hg:Good l)(hp:aY p=0)(hq:¬ q=p):lY (eY l p id) q=lY l q:=by
 have hr:=gA hg
 rw [at_eq (gA (kQ hg hp)),at_eq hr]
 have hpq:¬ p=q:=fun e=>hq e.symm
 cases shape l p hr with
 | hit A B w e h k ha hb =>
  grind [tq,xD]
 | miss A B e h k ha hb =>
  grind [qL,xD]
theorem vA {l:List Held}{h:Int}:∀ (n s:Nat),(j9 l h n s = -1 /\ ∀t,s<=t->t<s+n->lY l ⟨h,(t:Int)⟩≠0) ∨ ∃k:Nat,j9 l h n s=k/\s<=k/\k<s+n/\lY l ⟨h,(k:Int)⟩=0 /\ ∀t,s<=t->t<k->lY l ⟨h,(t:Int)⟩≠0
 | 0,s => .inl ⟨rfl,fun t h1 h2=>by omega⟩
 | n+1,s=>by
  simp only [j9]
  by_cases e:lY l ⟨h,s⟩=0
  .rw [if_pos e];exact .inr ⟨s,rfl,Nat.le_refl _,ae,e,fun t h1 h2=>by omega⟩
  rw [if_neg e]
  rcases vA (l:=l) (h:=h) n (s+1) with ⟨h1,h2⟩ | ⟨k,h1,h2,h3,h4,h5⟩
  .
   refine .inl ⟨h1,fun t h3 h4=>?_⟩
   rcases Nat.eq_or_lt_of_le h3 with h5|h5
   .subst h5;exact e
   exact h2 t h5 ae
  refine .inr ⟨k,h1,ae,ae,h4,fun t h6 h7=>?_⟩
  rcases Nat.eq_or_lt_of_le h6 with h8|h8
  .subst h8;exact e
  exact h5 t h8 h7
theorem free_spec (l:List Held)(h:Int):(fj l h = -1 /\ ∀t:Int,0<=t->t<=5->lY l ⟨h,t⟩≠0)∨(0<=fj l h/\fj l h<=5/\lY l ⟨h,fj l h⟩=0 /\ ∀t:Int,0<=t->t<fj l h->lY l ⟨h,t⟩≠0):=by
 rcases vA (l:=l) (h:=h) 6 0 with ⟨h1,h2⟩ | ⟨k,h1,h2,h3,h4,h5⟩
 .
  refine .inl ⟨h1,fun t h3 h4=>?_⟩
  have:=h2 t.toNat (Nat.zero_le _) ae
  grind
 have hk:fj l h=k:=h1
 refine .inr ⟨ae,ae,au,fun t h6 h7=>?_⟩
 have:=h5 t.toNat (Nat.zero_le _) ae
 grind

end Go.Proofs.YtnmpibjlnninjaaGreatDoor
