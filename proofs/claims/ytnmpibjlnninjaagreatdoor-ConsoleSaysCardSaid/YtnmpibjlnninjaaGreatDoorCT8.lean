import Derived.Test.YtnmpibjlnninjaaGreatDoorCT7
import Derived.Lib.Bytealg
import Derived.Sort.Walk0
namespace Go.Proofs.YtnmpibjlnninjaaGreatDoor
set_option linter.unusedVariables false
set_option linter.unusedSimpArgs false
set_option maxRecDepth 100000
set_option maxHeartbeats 90000000
section
def r0:aB:=⟨[],[],[],[],0,0⟩
def n0:Note:=⟨0,⟨#[]⟩,0,0⟩
structure Ok (r:aB):Prop where
  wl:r.aj.length<=2000
  tl:r.Things.length<=2000
  hl:r.Held.length<=2000
  nl:r.Notes.length<=2000
  ri:∀w∈r.aj,0<=w.Rights/\w.Rights<=7
  w0:0<=r.ah
  w1:r.ah<=2000
  t0:0<=r.ai
  t1:r.ai<=2000
def Ka (l:List ak)(id:Int):Option ak:=l.find? (fun w=>w.ID==id)
theorem U9 {l:List ak}{id:Int}{j:Nat}{x:ak}(hf:cE l id=(j:Int))(hx:l[j]? = some x):Ka l id=some x:=by
 grind [id,Ka,lQ,List.getElem?_eq_getElem]
theorem Va {l:List ak}{id:Int}(hf:cE l id = -1):Ka l id=none:=by
 rcases lQ (l:=l) (id:=id) with ⟨h1,h2⟩ | ⟨k,hk,h1,h2⟩
 .exact h2
 omega
theorem NR {l:List ak}{id:Int}{x:ak}(h:Ka l id=some x):x∈l/\x.ID=id:=by
 grind [Ka,List.mem_of_find?_eq_some]
def aI (r:aB)(p:Place):ak×Int :=
  if bq p=0 then (match Ka r.aj (oI r.Held p) with|some w=>(w,0)|none=>(kf,5)) else (kf,bq p)
theorem r8 {r:aB}{p:Place}(h:¬ bq p=0):aI r p=(kf,bq p):=by simp_all [aI,if_neg]
theorem sX {r:aB}{p:Place}(h:bq p=0)(hf:cE r.aj (oI r.Held p) = -1):aI r p=(kf,5):=by simp_all [aI,if_pos,Va]
theorem vC {r:aB}{p:Place}{j:Nat}{x:ak}(h:bq p=0)(hf:cE r.aj (oI r.Held p)=(j:Int))(hx:r.aj[j]? = some x):aI r p=(x,0):=by unfold aI;rw [if_pos h,U9 hf hx]
theorem pJ {r:aB}{p:Place}(h:(aI r p).2=0):bq p=0/\(aI r p).1∈r.aj/\(aI r p).1.ID=oI r.Held p:=by
 by_cases h1:bq p=0
 .
  cases h2:Ka r.aj (oI r.Held p) with
  | none=>simp_all [aI,if_pos]
  | some w =>
   have e:aI r p=(w,0):=by simp_all [aI,if_pos]
   grind [NR]
 grind [r8]
theorem ef (r:aB)(p:Place):0<=(aI r p).2:=by
 grind [aI,jq]
theorem Ok.get {r:aB}(h:Ok r){p:Place}(hg:(aI r p).2=0):0<=(aI r p).1.Rights/\(aI r p).1.Rights<=7:=h.ri _ (pJ hg).2.1
def ft (r:aB)(p:Place):Int:=if bq p=0 then (if oI r.Held p=0 then 0 else 6) else bq p
theorem fX (r:aB)(p:Place):0<=ft r p:=by
 grind [ft,jq]
def lu (r:aB)(w:ak)(p:Place):aB:=⟨r.aj++[w],r.Things,if 0<p.aD then fW r.Held p w.ID else r.Held,r.Notes,r.ah+1,r.ai⟩
def cG (r:aB)(p:Place)(kind:Int):aB×Int :=
  if kind=1∨kind=2 then
    if ft r p=0 then
      if r.Things.length=10∨999<r.ai∨999<r.ah then (r0,9)
      else (lu ⟨r.aj,r.Things++[⟨r.ai,kind,⟨#[]⟩⟩],r.Held,r.Notes,r.ah,r.ai+1⟩ ⟨r.ah,r.ai,7,0,0⟩ p,0)
    else (r0,ft r p)
  else (r0,8)
def dt (r:aB)(p t:Place)(rights cU:Int):aB×Int :=
  if (aI r p).2=0 then
    if ft r t=0 then
      if p.aD=t.aD∨iI (aI r p).1.Rights 4=true then
        if 999<r.ah then (r0,9)
        else if (derived (aI r p).1 r.ah rights cU).2=0 then (lu r (derived (aI r p).1 r.ah rights cU).1 t,0)
        else (r0,(derived (aI r p).1 r.ah rights cU).2)
      else (r0,7)
    else (r0,ft r t)
  else (r0,(aI r p).2)
def gC (r:aB)(p:Place)(slot:Int):aB×Int :=
  if (aI r p).2=0 then
    if ft r ⟨p.aD,slot⟩=0 then (⟨r.aj,r.Things,fW (fW r.Held p 0) ⟨p.aD,slot⟩ (aI r p).1.ID,r.Notes,r.ah,r.ai⟩,0)
    else (r0,ft r ⟨p.aD,slot⟩)
  else (r0,(aI r p).2)
def br (l:List ak):List Int:=Lib.compact (rm (l.map ak.aA))
def kC (ws:List ak)(n:Note):Note:=if cE ws n.ak<0 then ⟨n.Port,n.Data,n.aM,0⟩ else n
def iy (ws:List ak)(ts:List Int)(ns:List Note):List Note:=(ns.map (kC ws)).filter (fun n=>decide (n.Port∈ts))
def jg (ws:List ak)(ts:List Int)(ns:List Note):List Int:=((ns.map (kC ws)).filter (fun n => !decide (n.Port∈ts)&&decide (0<n.ak))).map Note.ak
def fx (r:aB):aB:=⟨r.aj,r.Things.filter (fun t => !!decide (t.ID∈br r.aj)),r.Held.filter (fun h => !decide (cE r.aj h.ak<0)),iy r.aj (br r.aj) r.Notes,r.ah,r.ai⟩
def nZ (r:aB):List Int:=jg r.aj (br r.aj) r.Notes
def lT (r:aB):aB:=⟨(nZ r).foldl without r.aj,(fx r).Things,(fx r).Held,(fx r).Notes,r.ah,r.ai⟩
def gI:Nat->aB->aB
  | 0,r=>fx r
  | n+1,r=>if (nZ r).length=0 then fx r else gI n (lT r)
def ez (r:aB):aB:=gI (r.Notes.length+1) r
theorem pK (ws:List ak)(ts:List Int)(ns:List Note):(iy ws ts ns).length+(jg ws ts ns).length<=ns.length:=by
 have h:∀l:List Note,(l.filter (fun n=>decide (n.Port∈ts))).length+(l.filter (fun n => !decide (n.Port∈ts)&&decide (0<n.ak))).length<=l.length:=by
  intro l
  induction l with
  | nil=>simp
  | cons n l ih =>
   grind
 grind [kC,iy,jg]
theorem qq {r:aB}(h:¬ (nZ r).length=0):(lT r).Notes.length<r.Notes.length:=by
 have:=pK r.aj (br r.aj) r.Notes
 show (iy r.aj (br r.aj) r.Notes).length<_
 grind [nZ]
theorem vD:∀ (n m:Nat) (r:aB),r.Notes.length<n->r.Notes.length<m->gI n r=gI m r
 | 0,m,r,h,_=>by omega
 | n+1,0,r,_,h=>by omega
 | n+1,m+1,r,h1,h2=>by
  simp only [gI]
  split
  .rfl
  have:=qq (r:=r) af
  exact vD n m _ ae ae
theorem oW {r:aB}(h:(nZ r).length=0):ez r=fx r:=by
 simp_all [ez,gI,if_pos]
theorem xM {r:aB}(h:¬ (nZ r).length=0):ez r=ez (lT r):=by
 have:=qq h
 conv=>lhs;unfold ez gI
 rw [if_neg h]
 exact vD _ _ _ ae ae
theorem oX (l:List ak)(id:Int):(without l id).length<=l.length:=Eo _ _ _
theorem qt {l:List ak}{id:Int}(h:∀w∈l,0<=w.Rights/\w.Rights<=7):∀w∈without l id,0<=w.Rights/\w.Rights<=7:=fun w hw=>by
 grind [gX,ma]
theorem sf:∀ (ids:List Int) (l:List ak),(ids.foldl without l).length<=l.length
 | [],l=>Nat.le_refl _
 | i::ids,l=>Nat.le_trans (sf ids _) (oX l i)
theorem Es:∀ (ids:List Int) (l:List ak),(∀w∈l,0<=w.Rights/\w.Rights<=7) -> ∀w∈ids.foldl without l,0<=w.Rights/\w.Rights<=7
 | [],l,h=>h
 | i::ids,l,h=>Es ids _ (qt h)
theorem Ok.xO {r:aB}(h:Ok r){l:List ak}(hl:l.length<=2000)(hr:∀w∈l,0<=w.Rights/\w.Rights<=7):Ok ⟨l,r.Things,r.Held,r.Notes,r.ah,r.ai⟩ :=
 ⟨hl,h.tl,h.hl,h.nl,hr,h.w0,h.w1,h.t0,h.t1⟩
theorem Ok.wo {r:aB}(h:Ok r)(id:Int):Ok ⟨without r.aj id,r.Things,r.Held,r.Notes,r.ah,r.ai⟩ :=
 h.xO (Nat.le_trans (oX _ _) h.wl) (qt h.ri)
theorem Ok.lT {r:aB}(h:Ok r):Ok (YtnmpibjlnninjaaGreatDoor.lT r) :=
 ⟨Nat.le_trans (sf _ _) h.wl,Nat.le_trans (List.length_filter_le _ _) h.tl,Nat.le_trans (List.length_filter_le _ _) h.hl,by
  have:=pK r.aj (br r.aj) r.Notes
  have:=h.nl
  show (iy r.aj (br r.aj) r.Notes).length<=2000
  omega,Es _ _ h.ri,h.w0,h.w1,h.t0,h.t1⟩
def iK (r:aB)(p:Place):aB×Int :=
  if (aI r p).2=0 then (ez ⟨without r.aj (aI r p).1.ID,r.Things,r.Held,r.Notes,r.ah,r.ai⟩,0) else (r0,(aI r p).2)
def Et (l:List ak)(id:Int):List ak:=l.filter (fun x => !decide (x.ID∈gW id l))
theorem Ok.cut {r:aB}(h:Ok r)(id:Int):Ok ⟨Et r.aj id,r.Things,r.Held,r.Notes,r.ah,r.ai⟩ :=
 h.xO (Nat.le_trans (List.length_filter_le _ _) h.wl) (fun w hw=>h.ri w (List.mem_filter.1 hw).1)
def dI (r:aB)(p:Place):aB×Int :=
  if (aI r p).2=0 then (ez ⟨Et r.aj (aI r p).1.ID,r.Things,r.Held,r.Notes,r.ah,r.ai⟩,0) else (r0,(aI r p).2)
def TU (l:List aA)(id:Int):Int:=idxOf (fun t=>t.ID==id) l
def bO (r:aB)(p:Place)(kind rights:Int):ak×Int×Int :=
  if (aI r p).2=0 then
    match r.Things.find? (fun t=>t.ID==(aI r p).1.aA) with
    | none=>(kf,0,8)
    | some t=>if t.Kind=kind then (if iI (aI r p).1.Rights rights=true then ((aI r p).1,TU r.Things (aI r p).1.aA,0) else (kf,0,7)) else (kf,0,8)
  else (kf,0,(aI r p).2)
theorem sg {α:Type}{q:α->Bool}{l:List α}{k:Nat}{x:α}(hx:l[k]? = some x)(he:q x=true)(hb:∀ (j:Nat) y,j<k->l[j]? = some y->q y=false):l.find? q=some x:=by
 grind [List.getElem?_eq_some_iff,List.find?_eq_some_iff_getElem,List.getElem?_eq_getElem]
theorem oa {r:aB}{p:Place}{kind rights:Int}(h:¬ (aI r p).2=0):bO r p kind rights=(kf,0,(aI r p).2):=by simp_all [bO,if_neg]
theorem lU {r:aB}{p:Place}{kind rights:Int}(h:(aI r p).2=0)(hn:∀x∈r.Things,(x.ID==(aI r p).1.aA)=false):bO r p kind rights=(kf,0,8):=by
 unfold bO;grind
section
variable {r:aB} {p:Place} {kind rights:Int} {k:Nat} {x:aA}
theorem lV (h:(aI r p).2=0)(hx:r.Things[k]? = some x)(he:(x.ID==(aI r p).1.aA)=true)(hb:∀ (j:Nat) y,j<k->r.Things[j]? = some y->(y.ID==(aI r p).1.aA)=false)(hk:¬ x.Kind=kind):bO r p kind rights=(kf,0,8):=by
 unfold bO;rw [if_pos h,sg (q:=fun t=>t.ID==(aI r p).1.aA) hx he hb];grind
theorem kD (h:(aI r p).2=0)(hx:r.Things[k]? = some x)(he:(x.ID==(aI r p).1.aA)=true)(hb:∀ (j:Nat) y,j<k->r.Things[j]? = some y->(y.ID==(aI r p).1.aA)=false)(hk:x.Kind=kind)(hr:iI (aI r p).1.Rights rights=false):bO r p kind rights=(kf,0,7):=by
 unfold bO;rw [if_pos h,sg (q:=fun t=>t.ID==(aI r p).1.aA) hx he hb];grind
theorem qu (h:(aI r p).2=0)(hx:r.Things[k]? = some x)(he:(x.ID==(aI r p).1.aA)=true)(hb:∀ (j:Nat) y,j<k->r.Things[j]? = some y->(y.ID==(aI r p).1.aA)=false)(hk:x.Kind=kind)(hr:iI (aI r p).1.Rights rights=true):bO r p kind rights=((aI r p).1,(k:Int),0):=by
 unfold bO;rw [if_pos h,sg (q:=fun t=>t.ID==(aI r p).1.aA) hx he hb];simp only;rw [if_pos hk,if_pos hr]
 grind [TU,aI,idxOf_hit]
end
theorem jV {r:aB}{p:Place}{kind rights:Int}(h:(bO r p kind rights).2.2=0):(aI r p).2=0/\(bO r p kind rights).1=(aI r p).1/\iI (aI r p).1.Rights rights=true /\
 ∃ (k:Nat) (x:aA),(bO r p kind rights).2.1=(k:Int)/\r.Things[k]? = some x/\x.ID=(aI r p).1.aA/\x.Kind=kind /\ ∀ (j:Nat) y,j<k->r.Things[j]? = some y->¬ y.ID=(aI r p).1.aA:=by
 by_cases h1:(aI r p).2=0
 .
  rcases kY (fun t:aA=>t.ID==(aI r p).1.aA) r.Things with ⟨_,hn⟩ | ⟨k,x,hk,hx,he,hb,_⟩
  .grind [lU]
  by_cases h2:x.Kind=kind
  .
   cases h3:iI (aI r p).1.Rights rights with
   | false=>grind [kD]
   | true =>
    grind [qu]
  grind [lV]
 grind [oa]
theorem gu (r:aB)(p:Place)(kind rights:Int):0<=(bO r p kind rights).2.2:=by
 have:=ef r p
 grind [bO]
def iz (r:aB)(p:Place):ByteArray×Int :=
  if (bO r p 1 1).2.2=0 then (match r.Things[(bO r p 1 1).2.1.toNat]? with|some t=>(t.Data,0)|none=>(⟨#[]⟩,0)) else (⟨#[]⟩,(bO r p 1 1).2.2)
def gJ (l:List aA)(i:Nat)(d:ByteArray):List aA:=match l[i]? with|some t=>l.set i ⟨t.ID,t.Kind,d⟩ | none=>l
def eh (r:aB)(p:Place)(d:ByteArray):aB×Int :=
  if (bO r p 1 2).2.2=0 then
    if 8<d.size then (r0,2) else (⟨r.aj,gJ r.Things (bO r p 1 2).2.1.toNat d,r.Held,r.Notes,r.ah,r.ai⟩,0)
  else (r0,(bO r p 1 2).2.2)
def gv (l:List Note)(t:Int):Nat:=(l.filter (fun n=>n.Port==t)).length
def cm (r:aB)(p:Place)(d:ByteArray)(slot rights:Int):aB×Int :=
  if (bO r p 2 2).2.2=0 then
    if 8<d.size then (r0,2)
    else if gv r.Notes (bO r p 2 2).1.aA=3 then (r0,9)
    else if slot<0 then (⟨r.aj,r.Things,r.Held,r.Notes++[⟨(bO r p 2 2).1.aA,d,(bO r p 2 2).1.aM,0⟩],r.ah,r.ai⟩,0)
    else if iI (bO r p 2 2).1.Rights 4=true then
      if (aI r ⟨p.aD,slot⟩).2=0 then
        if 999<r.ah then (r0,9)
        else if (derived (aI r ⟨p.aD,slot⟩).1 r.ah rights 0).2=0 then
          (⟨r.aj++[(derived (aI r ⟨p.aD,slot⟩).1 r.ah rights 0).1],r.Things,r.Held,r.Notes++[⟨(bO r p 2 2).1.aA,d,(bO r p 2 2).1.aM,(derived (aI r ⟨p.aD,slot⟩).1 r.ah rights 0).1.ID⟩],r.ah+1,r.ai⟩,0)
        else (r0,(derived (aI r ⟨p.aD,slot⟩).1 r.ah rights 0).2)
      else (r0,(aI r ⟨p.aD,slot⟩).2)
    else (r0,7)
  else (r0,(bO r p 2 2).2.2)
def wU (ns:List Note)(i:Nat):List Note:=ns.take i++ns.drop (i+1)
def bG (r:aB)(p:Place):aB×Note×Int×Int :=
  if (bO r p 2 1).2.2=0 then
    match r.Notes[(idxOf (fun n=>n.Port==(bO r p 2 1).1.aA) r.Notes).toNat]?,decide (0<=idxOf (fun n=>n.Port==(bO r p 2 1).1.aA) r.Notes) with
    | some n,true =>
      if 0<n.ak then
        if gk r.Held p.aD<0 then (r0,n0,0,9)
        else (⟨r.aj,r.Things,fW r.Held ⟨p.aD,gk r.Held p.aD⟩ n.ak,wU r.Notes (idxOf (fun n=>n.Port==(bO r p 2 1).1.aA) r.Notes).toNat,r.ah,r.ai⟩,n,gk r.Held p.aD,0)
      else (⟨r.aj,r.Things,r.Held,wU r.Notes (idxOf (fun n=>n.Port==(bO r p 2 1).1.aA) r.Notes).toNat,r.ah,r.ai⟩,n,-1,0)
    | _,_=>(r0,n0,0,5)
  else (r0,n0,0,(bO r p 2 1).2.2)
theorem sY {ws:List ak}{ts:List Int}{ns:List Note}{k:Nat}{n:Note}(h:ns[k]? = some n)(hp:(kC ws n).Port∈ts):iy ws ts (ns.take (k+1))=iy ws ts (ns.take k)++[kC ws n]/\jg ws ts (ns.take (k+1))=jg ws ts (ns.take k):=by
 grind [iy,jg,List.take_add_one]
theorem CG {ws:List ak}{ts:List Int}{ns:List Note}{k:Nat}{n:Note}(h:ns[k]? = some n)(hp:¬ (kC ws n).Port∈ts)(h0:0<(kC ws n).ak):iy ws ts (ns.take (k+1))=iy ws ts (ns.take k)/\jg ws ts (ns.take (k+1))=jg ws ts (ns.take k)++[(kC ws n).ak]:=by
 grind [iy,jg,List.take_add_one]
theorem sZ {ws:List ak}{ts:List Int}{ns:List Note}{k:Nat}{n:Note}(h:ns[k]? = some n)(hp:¬ (kC ws n).Port∈ts)(h0:¬ 0<(kC ws n).ak):iy ws ts (ns.take (k+1))=iy ws ts (ns.take k)/\jg ws ts (ns.take (k+1))=jg ws ts (ns.take k):=by
 grind [iy,jg,List.take_add_one]
theorem yM {ws:List ak}{n:Note}(h:cE ws n.ak = -1):kC ws n=⟨n.Port,n.Data,n.aM,0⟩:=by simp_all [kC,if_pos]
theorem pL {ws:List ak}{n:Note}{j:Nat}(h:cE ws n.ak=(j:Int)):kC ws n=n:=by simp_all [kC,if_neg]
theorem Gb {ns:List Note}{t:Int}{k:Nat}{n:Note}(h:ns[k]? = some n)(e:n.Port=t):gv (ns.take (k+1)) t=gv (ns.take k) t+1:=by
 grind [gv,List.take_add_one]
theorem CH {ns:List Note}{t:Int}{k:Nat}{n:Note}(h:ns[k]? = some n)(e:¬ n.Port=t):gv (ns.take (k+1)) t=gv (ns.take k) t:=by
 grind [gv,List.take_add_one]
theorem Kc {ns:List Note}{t:Int}{k:Nat}:gv (ns.take k) t<=k:=by
 grind [gv,Nat.le_trans,List.length_filter_le,List.length_take]
def gO (ns:List Note)(l:List ak):List ak:=ns.foldl (fun l n=>if 0<n.ak then without l n.ak else l) l
theorem oc {ns:List Note}{l:List ak}{k:Nat}{n:Note}(h:ns[k]? = some n):gO (ns.take (k+1)) l=(if 0<n.ak then without (gO (ns.take k) l) n.ak else gO (ns.take k) l):=by
 grind [gO,List.take_add_one]
theorem uF (ns:List Note):∀ (l:List ak),(gO ns l).length<=l.length:=by
 induction ns with
 | nil=>intro l;exact Nat.le_refl _
 | cons n ns ih =>
  intro l
  show (gO ns _).length<=_
  refine Nat.le_trans (ih _) ?_
  dsimp only
  split
  .exact oX _ _
  omega
theorem wV (ns:List Note):∀ (l:List ak),(∀w∈l,0<=w.Rights/\w.Rights<=7) -> ∀w∈gO ns l,0<=w.Rights/\w.Rights<=7:=by
 induction ns with
 | nil=>intro l h;exact h
 | cons n ns ih =>
  intro l h
  show ∀w∈gO ns _,_
  grind [qt]
def aN (r:aB):aB:=ez ⟨gO r.Notes r.aj,r.Things,r.Held,[],r.ah,r.ai⟩
end

def newR:aB:=⟨[],[],[],[],1,1⟩
def dU (r:aB)(a:jy):aB×Int :=
  if a.Kind=(⟨#[109,97,107,101]⟩:ByteArray) then cG r a.P a.A
  else if a.Kind=(⟨#[103,105,118,101]⟩:ByteArray) then dt r a.P a.Q a.A a.B
  else if a.Kind=(⟨#[109,111,118,101]⟩:ByteArray) then gC r a.P a.A
  else if a.Kind=(⟨#[100,114,111,112]⟩:ByteArray) then iK r a.P
  else if a.Kind=(⟨#[114,101,118,111,107,101]⟩:ByteArray) then dI r a.P
  else if a.Kind=(⟨#[119,114,105,116,101]⟩:ByteArray) then eh r a.P a.S
  else if a.Kind=(⟨#[115,101,110,100]⟩:ByteArray) then cm r a.P a.S a.A a.B
  else if a.Kind=(⟨#[116,97,107,101]⟩:ByteArray) then ((bG r a.P).1,(bG r a.P).2.2.2)
  else (r,0)
def rq (r:aB)(a:jy):aB:=if (dU r a).2=0 then (dU r a).1 else r
def grow (l:List jy):aB:=l.foldl rq newR
theorem m9 {w:ak}{id r b:Int}(h:(derived w id r b).2=0):0<=r/\r<=7/\0<=b/\b<=99/\iI w.Rights r=true/\(derived w id r b).1=⟨id,w.aA,r,if b=0 then w.aM else b,w.ID⟩/\(w.aM=0∨b=0∨b=w.aM):=by
 revert h
 rcases iH r with ⟨h1,h2⟩ | ⟨h1,h2⟩
 .simp_all [derived,if_pos]
 unfold derived;grind
theorem zK {w:ak}{id r b:Int}(h:(derived w id r b).2=0):0<=(derived w id r b).1.Rights/\(derived w id r b).1.Rights<=7:=by
 have:=m9 h;grind
structure Sz (k:Nat)(r:aB):Prop where
  wl:r.aj.length<=k
  tl:r.Things.length<=k
  hl:r.Held.length<=2*k
  nl:r.Notes.length<=k
  ri:∀w∈r.aj,0<=w.Rights/\w.Rights<=7
  w0:0<=r.ah
  w1:r.ah<=1000
  t0:0<=r.ai
  t1:r.ai<=1000
theorem Sz.ok {k:Nat}{r:aB}(h:Sz k r)(hk:k<=1000):Ok r:=⟨by have:=h.wl;omega,by have:=h.tl;omega,by have:=h.hl;omega,by have:=h.nl;omega,h.ri,h.w0,by have:=h.w1;omega,h.t0,by have:=h.t1;omega⟩
theorem Sz.up {k m:Nat}{r:aB}(h:Sz k r)(hk:k<=m):Sz m r:=⟨by have:=h.wl;omega,by have:=h.tl;omega,by have:=h.hl;omega,by have:=h.nl;omega,h.ri,h.w0,h.w1,h.t0,h.t1⟩
theorem Sz.new:Sz 0 newR:=⟨Nat.le_refl _,Nat.le_refl _,Nat.le_refl _,Nat.le_refl _,fun w hw=>(by cases hw),aC,aC,aC,aC⟩
theorem ua (k:Nat):Sz k r0:=⟨Nat.zero_le _,Nat.zero_le _,Nat.zero_le _,Nat.zero_le _,fun w hw=>(by cases hw),aC,aC,aC,aC⟩
theorem Eu {l:List ak}{x:ak}(h:∀w∈l,0<=w.Rights/\w.Rights<=7)(hx:0<=x.Rights/\x.Rights<=7):∀w∈l++[x],0<=w.Rights/\w.Rights<=7:=fun w hw=>by
 grind
theorem pN {k:Nat}{r:aB}(h:Sz k r):Sz k (fx r) :=
 ⟨h.wl,Nat.le_trans (List.length_filter_le _ _) h.tl,Nat.le_trans (List.length_filter_le _ _) h.hl,by
  have:=pK r.aj (br r.aj) r.Notes
  have:=h.nl
  show (iy r.aj (br r.aj) r.Notes).length<=k
  omega,h.ri,h.w0,h.w1,h.t0,h.t1⟩
theorem LC {k:Nat}{r:aB}(h:Sz k r):Sz k (lT r) :=
 ⟨Nat.le_trans (sf _ _) h.wl,(pN h).tl,(pN h).hl,(pN h).nl,Es _ _ h.ri,h.w0,h.w1,h.t0,h.t1⟩
theorem qv {k:Nat}:∀ (n:Nat) (r:aB),Sz k r->Sz k (gI n r)
 | 0,r,h=>pN h
 | n+1,r,h=>by
  unfold gI;split
  .exact pN h
  exact qv n _ (LC h)
theorem Sz.xO {k:Nat}{r:aB}(h:Sz k r){l:List ak}(hl:l.length<=k)(hr:∀w∈l,0<=w.Rights/\w.Rights<=7):Sz k ⟨l,r.Things,r.Held,r.Notes,r.ah,r.ai⟩ :=
 ⟨hl,h.tl,h.hl,h.nl,hr,h.w0,h.w1,h.t0,h.t1⟩
theorem RG {k:Nat}{r:aB}(h:Sz k r)(p:Place)(kind:Int):Sz (k+1) (cG r p kind).1:=by
 have:=h.wl;have:=h.tl;have:=h.hl;have:=h.nl;have:=h.w0;have:=h.t0;have hp:=nV r.Held p r.ah
 unfold cG
 (repeat' split) <;> first|exact ua _|skip
 refine ⟨?_,?_,?_,?_,Eu h.ri ⟨az,az⟩,?_,?_,?_,?_⟩ <;> dsimp only [lu]
 .grind
 .grind
 .grind
 all_goals omega
theorem RH {k:Nat}{r:aB}(h:Sz k r)(p t:Place)(a b:Int):Sz (k+1) (dt r p t a b).1:=by
 have:=h.wl;have:=h.tl;have:=h.hl;have:=h.nl;have:=h.w0;have:=h.t0;have:=h.t1
 unfold dt
 (repeat' split) <;> first|exact ua _|skip
 rename_i h1 h2 h3 h4 h5
 have hp:=nV r.Held t (derived (aI r p).1 r.ah a b).1.ID
 have hr:0<=(derived (aI r p).1 r.ah a b).1.Rights/\(derived (aI r p).1 r.ah a b).1.Rights<=7:=zK h5
 refine ⟨?_,?_,?_,?_,Eu h.ri hr,?_,?_,?_,?_⟩ <;> dsimp only [lu]
 .grind
 .omega
 .grind
 all_goals omega
theorem RI {k:Nat}{r:aB}(h:Sz k r)(p:Place)(s:Int):Sz (k+1) (gC r p s).1:=by
 have:=h.wl;have:=h.tl;have:=h.hl;have:=h.nl;have:=h.w0;have:=h.t0;have:=h.t1;have:=h.w1
 have h1:=nV r.Held p 0
 have h2:=nV (fW r.Held p 0) ⟨p.aD,s⟩ (aI r p).1.ID
 unfold gC
 (repeat' split) <;> first|exact ua _|exact ⟨az,az,az,az,h.ri,h.w0,h.w1,h.t0,h.t1⟩
theorem RJ {k:Nat}{r:aB}(h:Sz k r)(p:Place):Sz (k+1) (iK r p).1:=by
 unfold iK;split
 .exact (qv _ _ (h.xO (Nat.le_trans (oX _ _) h.wl) (qt h.ri))).up (Nat.le_succ k)
 grind [ua]
theorem LD {k:Nat}{r:aB}(h:Sz k r)(p:Place):Sz (k+1) (dI r p).1:=by
 unfold dI;split
 .exact (qv _ _ (h.xO (Nat.le_trans (List.length_filter_le _ _) h.wl) (fun w hw=>h.ri w (List.mem_filter.1 hw).1))).up (Nat.le_succ k)
 grind [ua]
theorem xP (l:List aA)(i:Nat)(d:ByteArray):(gJ l i d).length=l.length:=by
 grind [gJ]
theorem NS {k:Nat}{r:aB}(h:Sz k r)(p:Place)(d:ByteArray):Sz (k+1) (eh r p d).1:=by
 have:=h.wl;have:=h.tl;have:=h.hl;have:=h.nl
 unfold eh
 (repeat' split) <;> first|exact ua _|exact ⟨az,by grind [xP],az,az,h.ri,h.w0,h.w1,h.t0,h.t1⟩
theorem RL {k:Nat}{r:aB}(h:Sz k r)(p:Place)(d:ByteArray)(a b:Int):Sz (k+1) (cm r p d a b).1:=by
 have:=h.wl;have:=h.tl;have:=h.hl;have:=h.nl;have:=h.w0;have:=h.t0;have:=h.t1;have:=h.w1
 unfold cm
 (repeat' split) <;> first|exact ua _|exact ⟨az,az,az,az,h.ri,h.w0,h.w1,h.t0,h.t1⟩ | skip
 rename_i h8
 exact ⟨az,az,az,az,Eu h.ri (zK h8),az,az,h.t0,h.t1⟩
theorem NT (l:List Note)(i:Nat):(wU l i).length<=l.length:=by
 grind [wU,List.length_append,List.length_take,List.length_drop]
theorem RN {k:Nat}{r:aB}(h:Sz k r)(p:Place):Sz (k+1) (bG r p).1:=by
 have:=h.wl;have:=h.tl;have:=h.hl;have:=h.nl
 unfold bG
 split
 .
  split
  .
   rename_i n _ _
   have h1:=nV r.Held ⟨p.aD,gk r.Held p.aD⟩ n.ak
   have h2:=NT r.Notes (idxOf (fun n=>n.Port==(bO r p 2 1).1.aA) r.Notes).toNat
   (repeat' split) <;> first|exact ua _|exact ⟨az,az,az,az,h.ri,h.w0,h.w1,h.t0,h.t1⟩
  grind [ua]
 grind [ua]
theorem TV {k:Nat}{r:aB}(h:Sz k r)(a:jy):Sz (k+1) (dU r a).1:=by
 unfold dU
 (repeat' split)
 .grind [RG]
 .grind [RH]
 .grind [RI]
 .exact RJ h _
 .exact LD h _
 .grind [NS]
 .grind [RL]
 .exact RN h _
 exact h.up (Nat.le_succ k)
theorem uG {p q r:Place}(h:ln p q)(k:ln q r):ln p r:=by grind [ln]
theorem zL {p:Place}(h:ln p p):False:=by grind [ln]
theorem Gc (p q:Place):ln p q∨p=q∨ln q p:=by
 cases p;cases q;grind [ln,Place.mk.injEq]
theorem oY {p q:Place}(h:ln p q):p≠q:=fun e=>zL (e▸h)
theorem zN (p q:Place):tO p q<0↔ln p q:=by
 grind [tO,tN,ln]
abbrev zO (l:List Held):Prop:=l.Pairwise fun a b=>ln a.Place b.Place
def NU (l:List Held):Prop:= ∀h∈l,bq h.Place=0/\h.ak≠0
theorem iX {l:List Held}(h:Good l):zO l:=by
 have key:∀ (d i:Nat) x y,l[i]? = some x->l[i+d+1]? = some y->ln x.Place y.Place:=by
  intro d
  induction d with
  | zero =>
   intro i x y hx hy
   have hi:=(List.getElem?_eq_some_iff.1 hy).1
   exact (h (i+1) hi y hy).2.2 x ae az
  | succ d ih =>
   intro i x y hx hy
   have hi:=(List.getElem?_eq_some_iff.1 hy).1
   obtain ⟨z,hz⟩:∃z,l[i+d+1]? = some z:=⟨_,List.getElem?_eq_getElem ae⟩
   exact uG (ih i x z hx hz) ((h (i+(d+1)+1) hi y hy).2.2 z ae az)
 refine List.pairwise_iff_getElem.2 ?_
 intro i j hi hj hij
 exact key (j-i-1) i _ _ (List.getElem?_eq_getElem hi) az
theorem vE {l:List Held}(h:Good l):NU l:=fun x hx=>by
 obtain ⟨i,hi⟩:=List.mem_iff_getElem?.1 hx
 have:=h i (List.getElem?_eq_some_iff.1 hi).1 x hi
 omega
theorem s7 {l:List Held}(h:zO l)(hf:NU l):Good l:=fun k hk x hx=>by
 refine ⟨(hf x (List.mem_of_getElem? hx)).1,(hf x (List.mem_of_getElem? hx)).2,fun g h0 hg=>?_⟩
 grind [List.pairwise_iff_getElem,List.getElem?_eq_some_iff]
theorem Gd {l:List Held}:Good l↔zO l/\NU l:=⟨fun h=>⟨iX h,vE h⟩,fun h=>s7 h.1 h.2⟩
def Ge (p:Place):Int:=6*p.aD+p.Slot
theorem RO {p q:Place}(hp:bq p=0)(hq:bq q=0)(h:ln p q):Ge p<Ge q:=by
 have:=bP hp;have:=bP hq
 grind [ln,Ge]
theorem NV {l:List Held}(h:Good l):l.length<=24:=by
 have hr:=iX h;have hf:=vE h
 have key:∀ (l:List Held) (m:Int),zO l->NU l->(∀x∈l,m<Ge x.Place)->m<=30->m+l.length<=29∨l=[]:=by
  intro l
  induction l with
  | nil=>grind
  | cons x l ih =>
   intro m hr hf hm h30
   left
   have hx:=hf x (List.mem_cons_self ..)
   have hp:=bP hx.1
   have h1:=hm x (List.mem_cons_self ..)
   have h2:Ge x.Place<=29:=by grind [Ge]
   obtain ⟨hr1,hr2⟩:=List.pairwise_cons.1 hr
   have hf':NU l:=fun y hy=>hf y (List.mem_cons_of_mem _ hy)
   rcases ih (Ge x.Place) hr2 hf' (fun y hy=>RO hx.1 (hf' y hy).1 (hr1 y hy)) ae with h3|h3
   .grind
   grind
 rcases key l 5 hr hf (fun x hx=>by have:=bP (hf x hx).1;grind [Ge]) ae with h1|h1
 .omega
 grind
inductive Shape (l:List Held)(p:Place):Prop
  | hit (A B:List Held) (w:Int) (e:l=A++⟨p,w⟩::B) (h:Lz l p=true) (k:jF l p=A.length) (ha:∀x∈A,ln x.Place p) (hb:∀x∈B,ln p x.Place)
  | miss (A B:List Held) (e:l=A++B) (h:Lz l p=false) (k:jF l p=A.length) (ha:∀x∈A,ln x.Place p) (hb:∀x∈B,ln p x.Place)
theorem shape (l:List Held)(p:Place)(hr:zO l):Shape l p:=by
 have hm:=FU (f:=fun h:Held=>tO h.Place p) (l:=l) (fun i j x y hij hx hy hc=>by
  simp only [zN] at hc ⊢
  grind [Nat.lt_or_ge,List.pairwise_iff_getElem,List.getElem?_eq_some_iff,uG])
 have hk:=yL l p
 have hsplit:l=l.take (jF l p)++l.drop (jF l p):=(List.take_append_drop _ _).symm
 have hlen:(l.take (jF l p)).length=jF l p:=az
 have hA:∀x∈l.take (jF l p),ln x.Place p:=fun x hx=>by
  obtain ⟨i,hi⟩:=List.mem_iff_getElem?.1 hx
  rw [List.getElem?_take] at hi
  split at hi
  .exact (zN _ _).1 (hm.1 i x af hi)
  grind
 have hB:∀x∈l.drop (jF l p),¬ ln x.Place p:=fun x hx=>by
  obtain ⟨i,hi⟩:=List.mem_iff_getElem?.1 hx
  rw [List.getElem?_drop] at hi
  exact fun hc=>hm.2 _ x (Nat.le_add_right _ _) hi ((zN _ _).2 hc)
 rcases wN l p with h|⟨x,hx,h,hp,hlt⟩
 .
  refine .miss _ _ hsplit h hlen.symm hA fun x hx=>?_
  have h1:=hB x hx
  rcases Gc p x.Place with h2|h2|h2
  .omega
  .
   exfalso
   obtain ⟨y,hy⟩:∃y,l[jF l p]? = some y:=by
    grind [List.mem_iff_getElem?,List.getElem?_eq_some_iff,List.getElem?_eq_getElem]
   have hyn:tO y.Place p≠0:=fun hc=>by
    have:Lz l p=true:=by
     show rk _ l=true
     unfold rk
     have hy':l[kS (fun h:Held=>tO h.Place p) l]? = some y:=hy
     grind
    grind
   have hym:y∈l.drop (jF l p):=List.mem_iff_getElem?.2 ⟨0,az⟩
   have hyb:=hB y hym
   have hyp:ln p y.Place:=by
    grind [Gc,Ly]
   obtain ⟨i,hi⟩:=List.mem_iff_getElem?.1 hx
   rw [List.getElem?_drop] at hi
   rcases Nat.eq_zero_or_pos i with h0|h0
   .grind
   grind [List.pairwise_iff_getElem,List.getElem?_eq_some_iff,zL,uG]
  grind
 have hd:l.drop (jF l p)=x::l.drop (jF l p+1):=by
  grind [List.drop_eq_getElem_cons,List.getElem?_eq_some_iff]
 have hxe:x=⟨p,x.ak⟩:=by cases x;grind
 refine .hit (l.take (jF l p)) (l.drop (jF l p+1)) x.ak ?_ h hlen.symm hA fun y hy=>?_
 .grind
 grind
theorem Kd {A:List Held}{p:Place}(h:∀x∈A,¬ x.Place=p):A.find? (fun h=>h.Place==p)=none:=by
 grind
theorem wW {A B:List Held}{p:Place}{w:Int}(h:∀x∈A,¬ x.Place=p):mA (A++⟨p,w⟩::B) p=w:=by
 simp_all [mA,List.find?_append,Kd]
theorem Gf {A:List Held}{p:Place}(h:∀x∈A,¬ x.Place=p):mA A p=0:=by
 simp_all [mA,Kd]
theorem zP {A B:List Held}{x:Held}{q:Place}(h:¬ x.Place=q):mA (A++x::B) q=mA (A++B) q:=by
 grind [mA]
theorem at_eq {l:List Held}{p:Place}(hr:zO l):oI l p=mA l p:=by
 cases shape l p hr with
 | hit A B w e h k ha hb =>
  have hx:l[jF l p]? = some ⟨p,w⟩:=az
  rw [J5 h hx,e,wW (fun x hx=>oY (ha x hx))]
 | miss A B e h k ha hb =>
  grind [NF,Gf,oY]
theorem free_eq {l:List Held}{h:Int}(hr:zO l):gk l h=El l h:=by
 have:∀n s,lP l h n s=l9 l h n s:=by
  intro n
  induction n with
  | zero=>intro s;rfl
  | succ n ih=>grind [lP,l9,at_eq]
 exact this 6 0
theorem NW {p:Place}{id:Int}:∀ {A:List Held} (acc:List Held) (b:Bool),(∀x∈A,ln x.Place p)->A.foldl (lv p id) (acc,b)=(acc++A,b)
 | [],acc,b,h=>by simp
 | x::A,acc,b,h=>by
  have hx:=h x (List.mem_cons_self ..)
  simp only [List.foldl_cons]
  rw [d9 (.inr (by grind [ln])),if_neg (oY hx),NW _ _ (fun y hy=>h y (List.mem_cons_of_mem _ hy))]
  simp
theorem Gg {p:Place}{id:Int}:∀ {B:List Held} (acc:List Held),(∀x∈B,ln p x.Place)->B.foldl (lv p id) (acc,true)=(acc++B,true)
 | [],acc,h=>by simp
 | x::B,acc,h=>by
  have hx:=h x (List.mem_cons_self ..)
  simp only [List.foldl_cons]
  rw [d9 (.inl rfl),if_neg (fun e=>oY hx e.symm),Gg _ (fun y hy=>h y (List.mem_cons_of_mem _ hy))]
  simp
theorem vF {l A B:List Held}{p:Place}{w id:Int}(e:l=A++⟨p,w⟩::B)(h:Lz l p=true)(k:jF l p=A.length):fW l p id=if id=0 then A++B else A++⟨p,id⟩::B:=by
 simp_all [fW,if_pos,List.drop_append,List.drop_of_length_le]
theorem s8 {l A B:List Held}{p:Place}{id:Int}(e:l=A++B)(h:Lz l p=false)(k:jF l p=A.length):fW l p id=if id=0 then A++B else A++⟨p,id⟩::B:=by
 simp_all [fW,if_neg]
theorem put_eq {l:List Held}{p:Place}{id:Int}(hr:zO l):fW l p id=mS l p id:=by
 cases shape l p hr with
 | hit A B w e h k ha hb =>
  rw [vF e h k]
  unfold mS oS
  rw [e,List.foldl_append,NW _ _ ha,List.foldl_cons]
  have hle:p.aD<(⟨p,w⟩:Held).Place.aD∨(p.aD=(⟨p,w⟩:Held).Place.aD/\p.Slot<=(⟨p,w⟩:Held).Place.Slot):= .inr ⟨rfl,Int.le_refl _⟩
  by_cases h0:id=0
  .
   have:(id==0)=true:=az
   rw [this,d9 (.inl rfl),if_pos rfl,Gg _ hb,if_pos h0,if_pos rfl];simp
  have:(id==0)=false:=az
  rw [this,ic hle,if_pos rfl,Gg _ hb,if_neg h0,if_pos rfl];simp
 | miss A B e h k ha hb =>
  rw [s8 e h k]
  unfold mS oS
  rw [e,List.foldl_append,NW _ _ ha]
  by_cases h0:id=0
  .
   have:(id==0)=true:=az
   rw [this,Gg _ hb,if_pos h0,if_pos rfl];simp
  have:(id==0)=false:=az
  rw [this,if_neg h0]
  cases B with
  | nil=>rfl
  | cons x B =>
   have hx:=hb x (List.mem_cons_self ..)
   have hne:¬ x.Place=p:=fun e=>oY hx e.symm
   rw [List.foldl_cons,ic (by grind [ln]),if_neg hne,Gg _ (fun y hy=>hb y (List.mem_cons_of_mem _ hy)),if_pos rfl];simp
theorem Gh {A B:List Held}(h:zO (A++B)):zO A/\zO B /\ ∀x∈A,∀y∈B,ln x.Place y.Place:=List.pairwise_append.1 h
theorem mB {l:List Held}{p:Place}{id:Int}(hg:Good l)(hp:bq p=0):Good (fW l p id):=by
 have hr:=iX hg;have hf:=vE hg
 cases shape l p hr with
 | hit A B w e h k ha hb =>
  rw [vF e h k]
  rw [e] at hr hf
  obtain ⟨h1,h2,h3⟩:=Gh hr
  obtain ⟨h4,h5⟩:=List.pairwise_cons.1 h2
  split
  .exact s7 (List.pairwise_append.2 ⟨h1,h5,fun x hx y hy=>h3 x hx y (List.mem_cons_of_mem _ hy)⟩) (fun x hx=>hf x az)
  refine s7 (List.pairwise_append.2 ⟨h1,List.pairwise_cons.2 ⟨hb,h5⟩,fun x hx y hy=>?_⟩) (fun x hx=>?_)
  .grind
  simp at hx
  rcases hx with hx|hx|hx
  .exact hf x az
  .grind
  exact hf x az
 | miss A B e h k ha hb =>
  rw [s8 e h k]
  split
  .grind
  rw [e] at hr hf
  obtain ⟨h1,h2,h3⟩:=Gh hr
  refine s7 (List.pairwise_append.2 ⟨h1,List.pairwise_cons.2 ⟨hb,h2⟩,fun x hx y hy=>?_⟩) (fun x hx=>?_)
  .grind
  simp at hx
  rcases hx with hx|hx|hx
  .exact hf x az
  .grind
  exact hf x az
theorem CK {l:List Held}{p q:Place}{id:Int}(hg:Good l)(hp:bq p=0)(hq:¬ q=p):oI (fW l p id) q=oI l q:=by
 have hr:=iX hg
 rw [at_eq (iX (mB hg hp)),at_eq hr]
 have hpq:¬ p=q:=fun e=>hq e.symm
 cases shape l p hr with
 | hit A B w e h k ha hb =>
  grind [vF,zP]
 | miss A B e h k ha hb =>
  grind [s8,zP]
theorem xQ {l:List Held}{h:Int}:∀ (n s:Nat),(lP l h n s = -1 /\ ∀t,s<=t->t<s+n->oI l ⟨h,(t:Int)⟩≠0) ∨ ∃k:Nat,lP l h n s=k/\s<=k/\k<s+n/\oI l ⟨h,(k:Int)⟩=0 /\ ∀t,s<=t->t<k->oI l ⟨h,(t:Int)⟩≠0
 | 0,s => .inl ⟨rfl,fun t h1 h2=>by omega⟩
 | n+1,s=>by
  simp only [lP]
  by_cases e:oI l ⟨h,s⟩=0
  .rw [if_pos e];exact .inr ⟨s,rfl,Nat.le_refl _,ae,e,fun t h1 h2=>by omega⟩
  rw [if_neg e]
  rcases xQ (l:=l) (h:=h) n (s+1) with ⟨h1,h2⟩ | ⟨k,h1,h2,h3,h4,h5⟩
  .
   refine .inl ⟨h1,fun t h3 h4=>?_⟩
   rcases Nat.eq_or_lt_of_le h3 with h5|h5
   .subst h5;exact e
   exact h2 t h5 ae
  refine .inr ⟨k,h1,ae,ae,h4,fun t h6 h7=>?_⟩
  rcases Nat.eq_or_lt_of_le h6 with h8|h8
  .subst h8;exact e
  exact h5 t h8 h7
theorem free_spec (l:List Held)(h:Int):(gk l h = -1 /\ ∀t:Int,0<=t->t<=5->oI l ⟨h,t⟩≠0)∨(0<=gk l h/\gk l h<=5/\oI l ⟨h,gk l h⟩=0 /\ ∀t:Int,0<=t->t<gk l h->oI l ⟨h,t⟩≠0):=by
 rcases xQ (l:=l) (h:=h) 6 0 with ⟨h1,h2⟩ | ⟨k,h1,h2,h3,h4,h5⟩
 .
  refine .inl ⟨h1,fun t h3 h4=>?_⟩
  have:=h2 t.toNat (Nat.zero_le _) ae
  grind
 have hk:gk l h=k:=h1
 refine .inr ⟨ae,ae,az,fun t h6 h7=>?_⟩
 have:=h5 t.toNat (Nat.zero_le _) ae
 grind

theorem Ke {l:List Held}{p:Place}{id:Int}(hg:Good l)(h:oI l p=0)(hi:id≠0):∃A B,l=A++B/\fW l p id=A++⟨p,id⟩::B:=by
 cases shape l p (iX hg) with
 | hit A B w e hh k ha hb =>
  have hw:w≠0:=(vE hg ⟨p,w⟩ az).2
  grind [at_eq,iX,wW,oY]
 | miss A B e hh k ha hb=>exact ⟨A,B,e,by rw [s8 e hh k,if_neg hi]⟩
theorem Ev {l:List Held}{p:Place}{w:Int}(hg:Good l)(h:oI l p=w)(hw:w≠0):∃A B,l=A++⟨p,w⟩::B/\fW l p 0=A++B:=by
 cases shape l p (iX hg) with
 | hit A B w' e hh k ha hb =>
  rw [at_eq (iX hg),e,wW (fun x hx=>oY (ha x hx))] at h
  subst h
  exact ⟨A,B,e,by rw [vF e hh k,if_pos rfl]⟩
 | miss A B e hh k ha hb =>
  grind [at_eq,iX,Gf,oY]
theorem at_mem {l:List Held}{p:Place}{w:Int}(hg:Good l)(h:oI l p=w)(hw:w≠0):(⟨p,w⟩:Held)∈l:=by
 obtain ⟨A,B,e,_⟩:=Ev hg h hw
 grind
theorem Gi {l:List Held}(f:Held->Bool)(hg:Good l):Good (l.filter f) :=
 s7 ((iX hg).filter _) (fun x hx=>vE hg x (List.mem_filter.1 hx).1)
def cH (l:List Held)(j:Int):Nat:=l.countP (fun h=>h.ak==j)
def cN (l:List Note)(j:Int):Nat:=l.countP (fun n=>n.ak==j)
theorem Ew {l:List Held}{p:Place}{id:Int}(hg:Good l)(h:oI l p=0)(hi:id≠0)(j:Int):cH (fW l p id) j=cH l j+(if id=j then 1 else 0):=by
 obtain ⟨A,B,e,e2⟩:=Ke hg h hi
 rw [e2,e];unfold cH
 grind
theorem Vb {l:List Held}{p:Place}{w:Int}(hg:Good l)(h:oI l p=w)(hw:w≠0)(j:Int):cH l j=cH (fW l p 0) j+(if w=j then 1 else 0):=by
 obtain ⟨A,B,e,e2⟩:=Ev hg h hw
 rw [e2,e];unfold cH
 grind
theorem Vd {l:List Held}{x:Held}(h:x∈l):0<cH l x.ak:=List.countP_pos_iff.2 ⟨x,h,bA⟩
theorem Ve {l:List Note}{x:Note}(h:x∈l):0<cN l x.ak:=List.countP_pos_iff.2 ⟨x,h,bA⟩
theorem Vf {l:List Note}{i:Nat}{n:Note}(h:l[i]? = some n)(j:Int):cN l j=cN (wU l i) j+(if n.ak=j then 1 else 0):=by
 obtain ⟨hi,rfl⟩:=List.getElem?_eq_some_iff.1 h
 have e:l=l.take i++l[i]::l.drop (i+1):=bA
 unfold wU cN
 grind
theorem RP {l:List Note}{i:Nat}{x:Note}(h:x∈wU l i):x∈l:=by
 grind [wU,List.mem_of_mem_take,List.mem_of_mem_drop]
theorem CL {l:List Note}{i:Nat}(q:Int):gv (wU l i) q<=gv l q:=by
 unfold wU gv
 have h:(l.take i++l.drop (i+1)).Sublist l:=by
  have:=List.Sublist.append (List.Sublist.refl (l.take i)) (List.drop_sublist_drop_left l (Nat.le_succ i))
  simp_all
 grind
theorem kE {l:List ak}{id:Int}:0<=cE l id ↔ ∃x∈l,x.ID=id:=by
 grind [zA,lS]
theorem lW {l:List ak}(h:cJ l){t:Int}:t∈br l ↔ ∃w∈l,w.aA=t:=by
 unfold br
 rw [sW h]
 show t∈eY l 999↔_
 rw [(oV l 999).2]
 simp only [hasT?,List.any_eq_true,beq_iff_eq]
 constructor
 .grind
 rintro ⟨w,hw,e⟩
 have:=h.mem hw
 have h1:=this.U5;have h2:=this.U6
 grind
structure Pre (r:aB):Prop where
  tree:cJ r.aj
  good:Good r.Held
  uH:∀w∈r.aj,w.ID<r.ah
  pO:1<=r.ah
  rK:r.ah<=1000
  qw:1<=r.ai
  qx:r.ai<=1000
  jL:r.Things.Pairwise (fun a b=>a.ID<b.ID)
  yN:∀t∈r.Things,1<=t.ID/\t.ID<r.ai
  j7:∀t∈r.Things,t.Kind=1∨t.Kind=2
  j8:∀t∈r.Things,t.Data.size<=8/\(t.Kind=2->t.Data=⟨#[]⟩)
  jG:r.Things.length<=10
  thing:∀w∈r.aj,∃t∈r.Things,t.ID=w.aA
  port:∀n∈r.Notes,∃t∈r.Things,t.ID=n.Port/\t.Kind=2
  kZ:∀n∈r.Notes,n.Data.size<=8/\0<=n.aM/\n.aM<=99
  wait:∀q,gv r.Notes q<=3
  j9:∀n∈r.Notes,0<=n.ak
  once:∀w∈r.aj,cH r.Held w.ID+cN r.Notes w.ID=1
structure Inv (r:aB):Prop extends Pre r where
  iY:∀n∈r.Notes,0<n.ak -> ∃w∈r.aj,w.ID=n.ak
  fh:∀h∈r.Held,∃w∈r.aj,w.ID=h.ak
  used:∀t∈r.Things,∃w∈r.aj,w.aA=t.ID
theorem Inv.new:Inv newR:=by
 refine { tree:=rfl,good:=s7 List.Pairwise.nil (fun x hx=>by cases hx),uH:=?_,pO:=by decide,rK:=by decide,qw:=by decide,qx:=by decide,jL:=List.Pairwise.nil,yN:=?_,j7:=?_,j8:=?_,jG:=by decide,thing:=?_,port:=?_,kZ:=?_,wait:=fun q=>by simp [gv,newR],j9:=?_,once:=?_,iY:=?_,fh:=?_,used:=?_} <;> intro x hx <;> cases hx
theorem wX:∀ (ids:List Int) (l:List ak),cJ l->cJ (ids.foldl without l)
 | [],l,h=>h
 | i::ids,l,h=>wX ids _ (h.wo i)
structure Like (y x:ak):Prop where
  id:y.ID=x.ID
  th:y.aA=x.aA
  ri:y.Rights=x.Rights
  ba:y.aM=x.aM
theorem Like.refl (x:ak):Like x x:=⟨rfl,rfl,rfl,rfl⟩
theorem Like.trans {x y z:ak}(h:Like x y)(k:Like y z):Like x z:=⟨h.id.trans k.id,h.th.trans k.th,h.ri.trans k.ri,h.ba.trans k.ba⟩
theorem yO (id f:Int)(x:ak):Like (m8 id f x) x:=by have:=ma (id:=id) (f:=f) x;exact ⟨this.1,this.2.1,this.2.2.1,this.2.2.2⟩
theorem zQ:∀ (ids:List Int) (l:List ak) (w:ak),w∈ids.foldl without l->(∃y∈l,Like w y)/\¬ w.ID∈ids
 | [],l,w,h=>⟨⟨w,h,Like.refl w⟩,fun h=>by cases h⟩
 | i::ids,l,w,h=>by
  obtain ⟨⟨y,hy,hl⟩,hn⟩:=zQ ids (without l i) w h
  obtain ⟨z,hz,hne,rfl⟩:=gX.1 hy
  refine ⟨⟨z,hz,hl.trans (yO _ _ z)⟩,fun hm=>?_⟩
  rcases List.mem_cons.1 hm with e|hm
  .exact hne (by rw [<- e,hl.id,(ma z).1])
  exact hn hm
theorem jC (ws:List ak)(n:Note):(kC ws n).Port=n.Port/\(kC ws n).Data=n.Data/\(kC ws n).aM=n.aM/\((kC ws n).ak=n.ak/\0<=cE ws n.ak∨(kC ws n).ak=0):=by
 unfold kC;grind
theorem vG {ws:List ak}{ts:List Int}{ns:List Note}{n:Note}:n∈iy ws ts ns ↔ ∃m∈ns,n=kC ws m/\m.Port∈ts:=by
 unfold iy
 rw [List.mem_filter,List.mem_map]
 constructor
 .
  rintro ⟨⟨m,hm,rfl⟩,hp⟩
  exact ⟨m,hm,rfl,by have:=of_decide_eq_true hp;grind [jC]⟩
 grind [decide_eq_true,jC]
theorem Gj {ws:List ak}{ts:List Int}{ns:List Note}{j:Int}:j∈jg ws ts ns ↔ ∃m∈ns,j=(kC ws m).ak/\¬ m.Port∈ts/\0<j:=by
 unfold jg
 rw [List.mem_map]
 constructor
 .
  rintro ⟨n,hn,rfl⟩
  obtain ⟨h1,h2⟩:=List.mem_filter.1 hn
  obtain ⟨m,hm,rfl⟩:=List.mem_map.1 h1
  simp only [Bool.and_eq_true,Bool.not_eq_true',decide_eq_false_iff_not,decide_eq_true_eq] at h2
  grind [jC]
 rintro ⟨m,hm,rfl,hp,h0⟩
 refine ⟨kC ws m,List.mem_filter.2 ⟨List.mem_map.2 ⟨m,hm,rfl⟩,?_⟩,rfl⟩
 simp only [Bool.and_eq_true,Bool.not_eq_true',decide_eq_false_iff_not,decide_eq_true_eq]
 grind [jC]
theorem wY (ws:List ak)(ts:List Int)(m:Note)(ns:List Note):iy ws ts (m::ns)=if m.Port∈ts then kC ws m::iy ws ts ns else iy ws ts ns:=by
 simp_all [iy,List.map_cons,List.filter_cons,jC,if_pos,decide_eq_true,if_neg]
theorem zU {ws:List ak}{ts:List Int}{j:Int}(hj:0<=cE ws j)(h0:0<j):∀ (ns:List Note),(∀n∈ns,n.ak=j->n.Port∈ts)->cN (iy ws ts ns) j=cN ns j
 | [],_=>rfl
 | m::ns,hl=>by
  have ih:=zU hj h0 ns (fun n hn=>hl n (List.mem_cons_of_mem _ hn))
  have hf:=jC ws m
  rw [wY]
  unfold cN at ih ⊢
  by_cases e:m.ak=j
  .simp_all [kC,if_neg,if_pos,List.mem_cons_self,List.countP_cons]
  grind
theorem CN (ws:List ak)(ts:List Int)(q:Int):∀ (ns:List Note),gv (iy ws ts ns) q<=gv ns q
 | []=>Nat.le_refl _
 | m::ns=>by
  have ih:=CN ws ts q ns
  have hf:=jC ws m
  rw [wY]
  unfold gv at ih ⊢
  have e:(kC ws m).Port=m.Port:=hf.1
  split
  .rw [List.filter_cons,List.filter_cons,e];split <;> simp <;> omega
  rw [List.filter_cons];split <;> simp <;> omega
def sw (r:aB)(ids:List Int):aB:=⟨ids.foldl without r.aj,(fx r).Things,(fx r).Held,(fx r).Notes,r.ah,r.ai⟩
theorem nf {r:aB}{t:aA}:t∈(fx r).Things↔t∈r.Things/\t.ID∈br r.aj:=by
 show t∈r.Things.filter _↔_
 grind
theorem yP {r:aB}{h:Held}:h∈(fx r).Held↔h∈r.Held /\ ∃w∈r.aj,w.ID=h.ak:=by
 show h∈r.Held.filter _↔_
 grind [kE]
theorem Pre.sw {r:aB}(h:Pre r){ids:List Int}(hl:∀j∈nZ r,j∈ids):Pre (YtnmpibjlnninjaaGreatDoor.sw r ids):=by
 have hsub:∀w∈ids.foldl without r.aj,(∃y∈r.aj,Like w y)/\¬ w.ID∈ids:=fun w hw=>zQ ids r.aj w hw
 have CO:∀n∈(fx r).Notes,∃m∈r.Notes,n=kC r.aj m/\m.Port∈br r.aj:=fun n hn=>vG.1 hn
 refine { tree:=wX ids _ h.tree,good:=Gi _ h.good,uH:=?_,pO:=h.pO,rK:=h.rK,qw:=h.qw,qx:=h.qx,jL:=h.jL.filter _,yN:=fun t ht=>h.yN t (nf.1 ht).1,j7:=fun t ht=>h.j7 t (nf.1 ht).1,j8:=fun t ht=>h.j8 t (nf.1 ht).1,jG:=Nat.le_trans (List.length_filter_le _ _) h.jG,thing:=?_,port:=?_,kZ:=?_,wait:=fun q=>Nat.le_trans (CN _ _ q _) (h.wait q),j9:=?_,once:=?_}
 .
  intro w hw
  obtain ⟨⟨y,hy,hk⟩,_⟩:=hsub w hw
  rw [hk.id];exact h.uH y hy
 .
  intro w hw
  obtain ⟨⟨y,hy,hk⟩,_⟩:=hsub w hw
  obtain ⟨t,ht,e⟩:=h.thing y hy
  exact ⟨t,nf.2 ⟨ht,(lW h.tree).2 ⟨y,hy,e.symm⟩⟩,by rw [e,hk.th]⟩
 .
  intro n hn
  obtain ⟨m,hm,rfl,hp⟩:=CO n hn
  obtain ⟨t,ht,e,hk⟩:=h.port m hm
  exact ⟨t,nf.2 ⟨ht,az⟩,by grind [jC],hk⟩
 .
  intro n hn
  obtain ⟨m,hm,rfl,hp⟩:=CO n hn
  rw [(jC _ m).2.1,(jC _ m).2.2.1];exact h.kZ m hm
 .
  intro n hn
  obtain ⟨m,hm,rfl,hp⟩:=CO n hn
  have:=h.j9 m hm
  grind [jC]
 intro w hw
 obtain ⟨⟨y,hy,hk⟩,hn⟩:=hsub w hw
 have hfd:0<=cE r.aj w.ID:=kE.2 ⟨y,hy,hk.id.symm⟩
 have h0:0<w.ID:=by have:=(h.tree.mem hy).id1;rw [hk.id];omega
 have h1:cH (fx r).Held w.ID=cH r.Held w.ID:=by
  show List.countP _ (r.Held.filter _)=List.countP _ r.Held
  rw [List.countP_filter]
  grind
 have h2:cN (fx r).Notes w.ID=cN r.Notes w.ID:=zU hfd h0 r.Notes (fun n hnn e=>by
  by_cases hp:n.Port∈br r.aj
  .omega
  refine absurd (hl w.ID (Gj.2 ⟨n,hnn,?_,hp,h0⟩)) hn
  simp_all [kC,if_neg])
 show cH (fx r).Held w.ID+cN (fx r).Notes w.ID=1
 rw [h1,h2,hk.id];exact h.once y hy
theorem II {r:aB}(h:Pre r)(hl:(nZ r).length=0):Inv (fx r):=by
 have h1:Pre (fx r):=h.sw (ids:=[]) (fun j hj=>by grind)
 refine { toPre:=h1,iY:=?_,fh:=fun x hx=>(yP.1 hx).2,used:=fun t ht=>(lW h.tree).1 (nf.1 ht).2}
 intro n hn h0
 obtain ⟨m,hm,rfl,hp⟩:=vG.1 hn
 rcases (jC r.aj m).2.2.2 with ⟨e,hf⟩ | e
 .rw [e];exact kE.1 hf
 omega
theorem xR:∀ (n:Nat) (r:aB),r.Notes.length<n->Pre r->Inv (gI n r)
 | 0,r,h,_=>by omega
 | n+1,r,h,hp=>by
  unfold gI;split
  .exact II hp af
  have:=qq (r:=r) af
  exact xR n _ ae (hp.sw (ids:=nZ r) (fun j hj=>hj))
theorem wZ {r:aB}(h:Pre r):Inv (ez r):=xR _ r (Nat.lt_succ_self _) h
theorem xS:∀ (n:Nat) (r:aB),(∀x∈(gI n r).Held,x∈r.Held)/\(∀v∈(gI n r).aj,∃w∈r.aj,Like v w)/\(∀t∈(gI n r).Things,t∈r.Things)/\(∀m∈(gI n r).Notes,∃k∈r.Notes,m.Port=k.Port/\m.Data=k.Data/\m.aM=k.aM/\(m.ak=k.ak∨m.ak=0))
 | 0,r=>⟨fun x hx=>(yP.1 hx).1,fun v hv=>⟨v,hv,Like.refl v⟩,fun t ht=>(nf.1 ht).1,fun m hm=>by
  obtain ⟨k,hk,rfl,_⟩:=vG.1 hm
  grind [jC]⟩
 | n+1,r=>by
  have hs:∀m∈(fx r).Notes,∃k∈r.Notes,m.Port=k.Port/\m.Data=k.Data/\m.aM=k.aM/\(m.ak=k.ak∨m.ak=0):=fun m hm=>by
   obtain ⟨k,hk,rfl,_⟩:=vG.1 hm
   grind [jC]
  unfold gI;split
  .exact ⟨fun x hx=>(yP.1 hx).1,fun v hv=>⟨v,hv,Like.refl v⟩,fun t ht=>(nf.1 ht).1,hs⟩
  obtain ⟨h1,h2,h3,h4⟩:=xS n (lT r)
  refine ⟨fun x hx=>(yP.1 (h1 x hx)).1,fun v hv=>?_,fun t ht=>(nf.1 (h3 t ht)).1,fun m hm=>?_⟩
  .
   obtain ⟨w,hw,hl⟩:=h2 v hv
   obtain ⟨⟨y,hy,hl2⟩,_⟩:=zQ _ _ w hw
   exact ⟨y,hy,hl.trans hl2⟩
  obtain ⟨k,hk,a,b,c,d⟩:=h4 m hm
  obtain ⟨k',hk',a',b',c',d'⟩:=hs k hk
  grind
theorem CP (r:aB):(∀x∈(ez r).Held,x∈r.Held)/\(∀v∈(ez r).aj,∃w∈r.aj,Like v w)/\(∀t∈(ez r).Things,t∈r.Things)/\(∀m∈(ez r).Notes,∃k∈r.Notes,m.Port=k.Port/\m.Data=k.Data/\m.aM=k.aM/\(m.ak=k.ak∨m.ak=0)):=xS _ r
section
theorem jr {r:aB}{p:Place}(h:ft r p=0):bq p=0/\oI r.Held p=0:=by
 unfold ft at h
 omega
theorem mC {l:List Held}{p:Place}{id:Int}(hg:Good l)(h:oI l p=0)(hi:id≠0){x:Held}:x∈fW l p id↔x=⟨p,id⟩∨x∈l:=by
 obtain ⟨A,B,e,e2⟩:=Ke hg h hi
 grind
theorem Gk {l:List Held}{p:Place}{w:Int}(hg:Good l)(h:oI l p=w)(hw:w≠0){x:Held}(hx:x∈fW l p 0):x∈l:=by
 obtain ⟨A,B,e,e2⟩:=Ev hg h hw
 grind
section
variable {r:aB}
theorem Inv.get (h:Inv r){p:Place}(hg:(aI r p).2=0):bq p=0/\(aI r p).1∈r.aj/\(aI r p).1.ID=oI r.Held p/\1<=(aI r p).1.ID/\(aI r p).1.ID<r.ah:=by
 obtain ⟨h1,h2,h3⟩:=pJ hg
 exact ⟨h1,h2,h3,(h.tree.mem h2).id1,h.uH _ h2⟩
theorem Inv.fresh (h:Inv r):cH r.Held r.ah=0/\cN r.Notes r.ah=0:=by
 constructor
 .
  refine List.countP_eq_zero.2 fun x hx=>?_
  obtain ⟨w,hw,e⟩:=h.fh x hx
  have:=h.uH w hw
  grind
 refine List.countP_eq_zero.2 fun x hx=>?_
 have h0:=h.j9 x hx;have h1:=h.pO
 by_cases hp:0<x.ak
 .
  obtain ⟨w,hw,e⟩:=h.iY x hx hp
  have:=h.uH w hw
  grind
 grind
theorem CQ {l:List ak}{w:ak}(h:cJ l)(hw:cZ w=0)(hlt:∀y∈l,y.ID<w.ID)(hm:w.From≠0 -> ∃y∈l,Made y w):cJ (l++[w]):=by
 have hi:=h.is
 refine wR.ok' ⟨fun x hx=>?_,List.pairwise_append.2 ⟨hi.rise,bA,fun a ha b hb=>by grind⟩,fun x hx h0=>?_⟩
 .
  rcases List.mem_append.1 hx with hx|hx
  .exact hi.ok x hx
  grind
 rcases List.mem_append.1 hx with hx|hx
 .
  obtain ⟨y,hy,hmd⟩:=hi.made x hx h0
  grind
 grind
theorem zX {p:Place}{kind:Int}(h:(cG r p kind).2=0):(kind=1∨kind=2)/\ft r p=0/\r.Things.length≠10/\r.ai<=999/\r.ah<=999 /\
 (0<p.aD->(cG r p kind).1=⟨r.aj++[⟨r.ah,r.ai,7,0,0⟩],r.Things++[⟨r.ai,kind,⟨#[]⟩⟩],fW r.Held p r.ah,r.Notes,r.ah+1,r.ai+1⟩):=by
 unfold cG at h ⊢
 by_cases h1:kind=1∨kind=2
 .
  rw [if_pos h1] at h ⊢
  by_cases h2:ft r p=0
  .
   rw [if_pos h2] at h ⊢
   by_cases h3:r.Things.length=10∨999<r.ai∨999<r.ah
   .grind
   simp_all [lu,if_neg,if_pos]
  grind
 grind
theorem Inv.make (h:Inv r){p:Place}{kind:Int}(hm:(cG r p kind).2=0):Inv (cG r p kind).1:=by
 obtain ⟨hk,hf,hl,ht,hw,he⟩:=zX hm
 obtain ⟨hp,ha⟩:=jr hf
 have hpl:=bP hp
 rw [he ae]
 have n1:=h.pO;have n2:=h.qw;have hfr:=h.fresh;have hmax:=h.jG
 have hi:r.ah≠0:=ae
 have hgp:=mB (id:=r.ah) h.good hp
 refine { tree:=CQ h.tree (qm az) (fun y hy=>h.uH y hy) (fun h0=>absurd rfl h0),good:=hgp,uH:=?_,pO:=by grind,rK:=by grind,qw:=by grind,qx:=by grind,jL:=List.pairwise_append.2 ⟨h.jL,bA,fun a ha b hb=>by simp at hb;subst hb;exact (h.yN a ha).2⟩,yN:=?_,j7:=?_,j8:=?_,jG:=by grind,thing:=?_,port:=?_,kZ:=h.kZ,wait:=h.wait,j9:=h.j9,once:=?_,iY:=?_,fh:=?_,used:=?_}
 .
  intro w hw
  show w.ID<r.ah+1
  rcases List.mem_append.1 hw with hw|hw
  .have:=h.uH w hw;omega
  grind
 .
  intro t ht
  show 1<=t.ID/\t.ID<r.ai+1
  rcases List.mem_append.1 ht with ht|ht
  .have:=h.yN t ht;omega
  grind
 .
  intro t ht
  rcases List.mem_append.1 ht with ht|ht
  .exact h.j7 t ht
  grind
 .
  intro t ht
  rcases List.mem_append.1 ht with ht|ht
  .exact h.j8 t ht
  rw [List.mem_singleton.1 ht];exact ⟨by show (0:Nat)<=8;decide,fun _=>rfl⟩
 .
  intro w hw
  rcases List.mem_append.1 hw with hw|hw
  .
   obtain ⟨t,ht,e⟩:=h.thing w hw
   grind
  simp_all
 .
  intro n hn
  obtain ⟨t,ht,e⟩:=h.port n hn
  grind
 .
  intro w hw
  show cH (fW r.Held p r.ah) w.ID+cN r.Notes w.ID=1
  rw [Ew h.good ha hi]
  rcases List.mem_append.1 hw with hw|hw
  .
   have:=h.uH w hw;have:=h.once w hw
   grind
  grind
 .
  intro n hn h0
  obtain ⟨w,hw,e⟩:=h.iY n hn h0
  grind
 .
  intro x hx
  rcases (mC h.good ha hi).1 hx with e|hx
  .simp_all
  obtain ⟨w,hw,e⟩:=h.fh x hx
  grind
 intro t ht
 rcases List.mem_append.1 ht with ht|ht
 .
  obtain ⟨w,hw,e⟩:=h.used t ht
  grind
 simp_all
theorem zY {p t:Place}{a b:Int}(h:(dt r p t a b).2=0):(aI r p).2=0/\ft r t=0/\(p.aD=t.aD∨iI (aI r p).1.Rights 4=true)/\r.ah<=999/\(derived (aI r p).1 r.ah a b).2=0 /\
 (0<t.aD->(dt r p t a b).1=⟨r.aj++[(derived (aI r p).1 r.ah a b).1],r.Things,fW r.Held t (derived (aI r p).1 r.ah a b).1.ID,r.Notes,r.ah+1,r.ai⟩):=by
 unfold dt at h ⊢
 by_cases h1:(aI r p).2=0
 .
  rw [if_pos h1] at h ⊢
  by_cases h2:ft r t=0
  .
   rw [if_pos h2] at h ⊢
   by_cases h3:p.aD=t.aD∨iI (aI r p).1.Rights 4=true
   .
    rw [if_pos h3] at h ⊢
    by_cases h4:999<r.ah
    .grind
    rw [if_neg h4] at h ⊢
    by_cases h5:(derived (aI r p).1 r.ah a b).2=0
    .simp_all [lu,if_pos]
    grind
   grind
  grind
 grind
theorem Inv.derive (h:Inv r){g:ak}(hg:g∈r.aj){a b:Int}(hn:r.ah<=999)(hd:(derived g r.ah a b).2=0):cJ (r.aj++[(derived g r.ah a b).1])/\(derived g r.ah a b).1.ID=r.ah/\(derived g r.ah a b).1.aA=g.aA/\(derived g r.ah a b).1.Rights=a/\(derived g r.ah a b).1.From=g.ID/\iI g.Rights a=true/\0<=a/\a<=7:=by
 obtain ⟨a0,a7,b0,b9,hh,e,hb⟩:=m9 hd
 have w:=h.tree.mem hg
 have w1:=w.id1;have w2:=w.U5;have w3:=w.U6;have w4:=w.U7;have w5:=w.U8;have w6:=h.uH g hg
 rw [e]
 refine ⟨CQ h.tree (qm ⟨az,hn,w2,w3,?_,?_,az,w6,a0,a7⟩) (fun y hy=>h.uH y hy) (fun _=>⟨g,hg,rfl,hh,?_,rfl⟩),rfl,rfl,rfl,rfl,hh,a0,a7⟩
 .grind
 .grind
 grind
theorem Inv.give (h:Inv r){p t:Place}{a b:Int}(hm:(dt r p t a b).2=0):Inv (dt r p t a b).1:=by
 obtain ⟨hg,hf,hr,hw,hd,he⟩:=zY hm
 obtain ⟨hp,ha⟩:=jr hf
 have hpl:=bP hp
 obtain ⟨_,hgm,_⟩:=h.get hg
 obtain ⟨Kf,hid,hth,_⟩:=h.derive hgm hw hd
 rw [he ae,hid]
 generalize hx:(derived (aI r p).1 r.ah a b).1=x at *
 have n1:=h.pO;have hfr:=h.fresh
 have hi:r.ah≠0:=ae
 have hgp:=mB (id:=r.ah) h.good hp
 refine { tree:=Kf,good:=hgp,uH:=?_,pO:=by grind,rK:=by grind,qw:=h.qw,qx:=h.qx,jL:=h.jL,yN:=h.yN,j7:=h.j7,j8:=h.j8,jG:=h.jG,thing:=?_,port:=h.port,kZ:=h.kZ,wait:=h.wait,j9:=h.j9,once:=?_,iY:=?_,fh:=?_,used:=?_}
 .
  intro w hw
  show w.ID<r.ah+1
  rcases List.mem_append.1 hw with hw|hw
  .have:=h.uH w hw;omega
  grind
 .
  intro w hw
  rcases List.mem_append.1 hw with hw|hw
  .exact h.thing w hw
  rw [List.mem_singleton.1 hw,hth];exact h.thing _ hgm
 .
  intro w hw
  show cH (fW r.Held t r.ah) w.ID+cN r.Notes w.ID=1
  rw [Ew h.good ha hi]
  rcases List.mem_append.1 hw with hw|hw
  .
   have:=h.uH w hw;have:=h.once w hw
   grind
  grind
 .
  intro n hn h0
  obtain ⟨w,hw,e⟩:=h.iY n hn h0
  grind
 .
  intro y hy
  rcases (mC h.good ha hi).1 hy with e|hy
  .grind
  obtain ⟨w,hw,e⟩:=h.fh y hy
  grind
 intro t ht
 obtain ⟨w,hw,e⟩:=h.used t ht
 grind
theorem zZ {p:Place}{s:Int}(h:(gC r p s).2=0):(aI r p).2=0/\ft r ⟨p.aD,s⟩=0/\(gC r p s).1=⟨r.aj,r.Things,fW (fW r.Held p 0) ⟨p.aD,s⟩ (aI r p).1.ID,r.Notes,r.ah,r.ai⟩:=by
 unfold gC at h ⊢
 grind
theorem Inv.held (h:Inv r){m:List Held}(hg:Good m)(hc:∀w∈r.aj,cH m w.ID=cH r.Held w.ID)(hs:∀x∈m,∃w∈r.aj,w.ID=x.ak):Inv ⟨r.aj,r.Things,m,r.Notes,r.ah,r.ai⟩ :=
 { tree:=h.tree,good:=hg,uH:=h.uH,pO:=h.pO,rK:=h.rK,qw:=h.qw,qx:=h.qx,jL:=h.jL,yN:=h.yN,j7:=h.j7,j8:=h.j8,jG:=h.jG,thing:=h.thing,port:=h.port,kZ:=h.kZ,wait:=h.wait,j9:=h.j9,once:=fun w hw=>by show cH m w.ID+_=1;rw [hc w hw];exact h.once w hw,iY:=h.iY,fh:=hs,used:=h.used}
theorem Inv.move (h:Inv r){p:Place}{s:Int}(hm:(gC r p s).2=0):Inv (gC r p s).1:=by
 obtain ⟨hg,hf,he⟩:=zZ hm
 obtain ⟨hp,ha⟩:=jr hf
 obtain ⟨hpf,hgm,hat,h1,_⟩:=h.get hg
 rw [he]
 have hi:(aI r p).1.ID≠0:=ae
 have hg1:Good (fW r.Held p 0):=mB h.good hpf
 have hne:¬ (⟨p.aD,s⟩:Place)=p:=fun e=>by grind
 have ha1:oI (fW r.Held p 0) ⟨p.aD,s⟩=0:=by rw [CK h.good hpf hne];omega
 refine h.held (mB hg1 hp) (fun w hw=>?_) (fun x hx=>?_)
 .rw [Ew hg1 ha1 hi,<- Vb h.good hat.symm hi]
 rcases (mC hg1 ha1 hi).1 hx with e|hx
 .grind
 exact h.fh x (Gk h.good hat.symm hi hx)
theorem Pre.xO (h:Pre r){l:List ak}(ht:cJ l)(hs:∀v∈l,∃w∈r.aj,Like v w):Pre ⟨l,r.Things,r.Held,r.Notes,r.ah,r.ai⟩ :=
 { tree:=ht,good:=h.good,uH:=fun v hv=>by obtain ⟨w,hw,k⟩:=hs v hv;rw [k.id];exact h.uH w hw,pO:=h.pO,rK:=h.rK,qw:=h.qw,qx:=h.qx,jL:=h.jL,yN:=h.yN,j7:=h.j7,j8:=h.j8,jG:=h.jG,thing:=fun v hv=>by obtain ⟨w,hw,k⟩:=hs v hv;rw [k.th];exact h.thing w hw,port:=h.port,kZ:=h.kZ,wait:=h.wait,j9:=h.j9,once:=fun v hv=>by obtain ⟨w,hw,k⟩:=hs v hv;rw [k.id];exact h.once w hw}
theorem Pre.wo (h:Pre r)(id:Int):Pre ⟨without r.aj id,r.Things,r.Held,r.Notes,r.ah,r.ai⟩ :=
 h.xO (h.tree.wo id) (fun v hv=>by grind [gX,yO])
theorem vH {l:List ak}{id:Int}{x:ak}:x∈Et l id↔x∈l/\¬ x.ID∈gW id l:=by
 grind [Et]
theorem NY {l:List ak}(h:cJ l){id:Int}{x y:ak}(hi:0<=cE l id)(hx:x∈l)(hy:y∈l)(e:y.ID=x.From)(hb:y.ID∈gW id l):x.ID∈gW id l:=by
 have h1:=lS hx;have h2:=lS hy
 rw [CF h hi h1]
 rw [CF h hi h2] at hb
 unfold above at hb ⊢
 obtain ⟨x',_,e1,hx',e2⟩:=pI h1
 have:x'=x:=h.inj hx' hx e1
 grind [uD,List.mem_cons_of_mem]
theorem cJ.cut {l:List ak}(h:cJ l){id:Int}(hi:0<=cE l id):cJ (Et l id):=by
 have hs:=h.is
 refine wR.ok' ⟨fun x hx=>hs.ok x (vH.1 hx).1,hs.rise.filter _,fun x hx h0=>?_⟩
 obtain ⟨h1,h2⟩:=vH.1 hx
 obtain ⟨y,hy,hm⟩:=hs.made x h1 h0
 exact ⟨y,vH.2 ⟨hy,fun hb=>h2 (NY h hi h1 hy hm.gS hb)⟩,hm⟩
theorem Pre.cut (h:Pre r){id:Int}(hi:0<=cE r.aj id):Pre ⟨Et r.aj id,r.Things,r.Held,r.Notes,r.ah,r.ai⟩ :=
 h.xO (h.tree.cut hi) (fun v hv=>⟨v,(vH.1 hv).1,Like.refl v⟩)
theorem Aa {p:Place}(h:(iK r p).2=0):(aI r p).2=0/\(iK r p).1=ez ⟨without r.aj (aI r p).1.ID,r.Things,r.Held,r.Notes,r.ah,r.ai⟩:=by
 unfold iK at h ⊢
 grind
theorem vI {p:Place}(h:(dI r p).2=0):(aI r p).2=0/\(dI r p).1=ez ⟨Et r.aj (aI r p).1.ID,r.Things,r.Held,r.Notes,r.ah,r.ai⟩:=by
 unfold dI at h ⊢
 grind
theorem Inv.drop (h:Inv r){p:Place}(hm:(iK r p).2=0):Inv (iK r p).1:=by
 rw [(Aa hm).2];exact wZ (h.toPre.wo _)
theorem Inv.Vg (h:Inv r){p:Place}(hm:(dI r p).2=0):Inv (dI r p).1:=by
 obtain ⟨hg,he⟩:=vI hm
 rw [he];exact wZ (h.toPre.cut (lS (h.get hg).2.1))
theorem mem_set {l:List aA}{i:Nat}{d:ByteArray}{x:aA}(h:x∈gJ l i d):∃ (k:Nat) (t:aA),l[k]? = some t/\x.ID=t.ID/\x.Kind=t.Kind/\(x.Data=t.Data∨k=i/\x.Data=d):=by
 unfold gJ at h
 grind [List.mem_iff_getElem?]
theorem Kh {l:List aA}{i:Nat}{d:ByteArray}{t:aA}(h:t∈l):∃x∈gJ l i d,x.ID=t.ID/\x.Kind=t.Kind:=by
 unfold gJ
 split
 .
  rename_i y hy
  obtain ⟨k,hk⟩:=List.mem_iff_getElem?.1 h
  by_cases e:i=k
  .grind [List.mem_set,List.getElem?_eq_some_iff]
  exact ⟨t,List.mem_of_getElem? (i:=k) az,rfl,rfl⟩
 grind
theorem RQ (l:List aA)(i:Nat)(d:ByteArray):(gJ l i d).map aA.ID=l.map aA.ID:=by
 unfold gJ
 split
 .
  rename_i t ht
  rw [List.map_set]
  apply List.ext_getElem?
  grind
 rfl
theorem xU {p:Place}{d:ByteArray}(h:(eh r p d).2=0):(bO r p 1 2).2.2=0/\d.size<=8/\(eh r p d).1=⟨r.aj,gJ r.Things (bO r p 1 2).2.1.toNat d,r.Held,r.Notes,r.ah,r.ai⟩:=by
 unfold eh at h ⊢
 grind
theorem Inv.write (h:Inv r){p:Place}{d:ByteArray}(hm:(eh r p d).2=0):Inv (eh r p d).1:=by
 obtain ⟨hy,hd,he⟩:=xU hm
 obtain ⟨_,_,_,k,t,hk,ht,abX,htk,_⟩:=jV hy
 rw [he,hk,Int.toNat_natCast]
 have abY:=RQ r.Things k d
 have hin:∀x∈gJ r.Things k d,∃y∈r.Things,x.ID=y.ID/\x.Kind=y.Kind:=fun x hx=>by
  grind [mem_set,List.mem_of_getElem?]
 refine { tree:=h.tree,good:=h.good,uH:=h.uH,pO:=h.pO,rK:=h.rK,qw:=h.qw,qx:=h.qx,jL:=?_,yN:=?_,j7:=?_,j8:=?_,jG:=by show (gJ _ _ _).length<=10;rw [xP];exact h.jG,thing:=?_,port:=?_,kZ:=h.kZ,wait:=h.wait,j9:=h.j9,once:=h.once,iY:=h.iY,fh:=h.fh,used:=?_}
 .
  have h1:(r.Things.map aA.ID).Pairwise (· < ·):=List.pairwise_map.2 h.jL
  grind
 .intro x hx;obtain ⟨y,hy,a,b⟩:=hin x hx;show 1<=x.ID/\x.ID<r.ai;rw [a];exact h.yN y hy
 .intro x hx;obtain ⟨y,hy,a,b⟩:=hin x hx;rw [b];exact h.j7 y hy
 .
  intro x hx
  obtain ⟨j,y,hj,a,b,c⟩:=mem_set hx
  have:=h.j8 y (List.mem_of_getElem? hj)
  grind
 .
  intro w hw
  obtain ⟨t',ht',e⟩:=h.thing w hw
  obtain ⟨x,hx,a,_⟩:=Kh (i:=k) (d:=d) ht'
  grind
 .
  intro n hn
  obtain ⟨t',ht',e,e2⟩:=h.port n hn
  obtain ⟨x,hx,a,b⟩:=Kh (i:=k) (d:=d) ht'
  grind
 intro x hx;obtain ⟨y,hy,a,b⟩:=hin x hx;rw [a];exact h.used y hy
end
end
section
section
variable {r:aB}
theorem CS (ns:List Note)(n:Note)(q:Int):gv (ns++[n]) q=gv ns q+(if n.Port=q then 1 else 0):=by
 unfold gv;grind
theorem Ki (ns:List Note)(n:Note)(j:Int):cN (ns++[n]) j=cN ns j+(if n.ak=j then 1 else 0):=by
 simp_all [cN,List.countP_append,List.countP_cons,if_pos,if_neg]
theorem s9 {p:Place}{k q:Int}(h:(bO r p k q).2.2=0):(aI r p).2=0/\(bO r p k q).1=(aI r p).1/\iI (aI r p).1.Rights q=true /\ ∃t∈r.Things,t.ID=(aI r p).1.aA/\t.Kind=k:=by
 grind [jV,List.mem_of_getElem?]
theorem Ab {p:Place}{d:ByteArray}{s a:Int}(h:(cm r p d s a).2=0):(bO r p 2 2).2.2=0/\d.size<=8/\gv r.Notes (aI r p).1.aA≠3 /\
 (s<0/\(cm r p d s a).1=⟨r.aj,r.Things,r.Held,r.Notes++[⟨(aI r p).1.aA,d,(aI r p).1.aM,0⟩],r.ah,r.ai⟩ ∨
  0<=s/\iI (aI r p).1.Rights 4=true/\(aI r ⟨p.aD,s⟩).2=0/\r.ah<=999/\(derived (aI r ⟨p.aD,s⟩).1 r.ah a 0).2=0 /\
  (cm r p d s a).1=⟨r.aj++[(derived (aI r ⟨p.aD,s⟩).1 r.ah a 0).1],r.Things,r.Held,r.Notes++[⟨(aI r p).1.aA,d,(aI r p).1.aM,(derived (aI r ⟨p.aD,s⟩).1 r.ah a 0).1.ID⟩],r.ah+1,r.ai⟩):=by
 unfold cm at h ⊢
 by_cases h1:(bO r p 2 2).2.2=0
 .
  have he:=(s9 h1).2.1
  rw [if_pos h1] at h ⊢
  by_cases h2:8<d.size
  .grind
  rw [if_neg h2] at h ⊢
  by_cases h3:gv r.Notes (bO r p 2 2).1.aA=3
  .grind
  grind
 grind
theorem Inv.send (h:Inv r){p:Place}{d:ByteArray}{s a:Int}(hm:(cm r p d s a).2=0):Inv (cm r p d s a).1:=by
 obtain ⟨hy,hd,h3,hc⟩:=Ab hm
 obtain ⟨hg,_,_,t,ht,hti,htk⟩:=s9 hy
 obtain ⟨_,hgm,_⟩:=h.get hg
 have hw:=h.tree.mem hgm
 have abM:∀q,gv r.Notes q+(if (aI r p).1.aA=q then 1 else 0)<=3:=fun q=>by
  have:=h.wait q
  grind
 have CO:∀ (k:Int) (n:Note),n∈r.Notes++[⟨(aI r p).1.aA,d,(aI r p).1.aM,k⟩] -> ∃t∈r.Things,t.ID=n.Port/\t.Kind=2:=fun k n hn=>by
  rcases List.mem_append.1 hn with hn|hn
  .exact h.port n hn
  grind
 have hnd:∀ (k:Int) (n:Note),n∈r.Notes++[⟨(aI r p).1.aA,d,(aI r p).1.aM,k⟩]->n.Data.size<=8/\0<=n.aM/\n.aM<=99:=fun k n hn=>by
  rcases List.mem_append.1 hn with hn|hn
  .exact h.kZ n hn
  rw [List.mem_singleton.1 hn];exact ⟨hd,hw.U7,hw.U8⟩
 rcases hc with ⟨h4,he⟩ | ⟨h4,h5,h6,h7,h8,he⟩
 .
  rw [he]
  refine { tree:=h.tree,good:=h.good,uH:=h.uH,pO:=h.pO,rK:=h.rK,qw:=h.qw,qx:=h.qx,jL:=h.jL,yN:=h.yN,j7:=h.j7,j8:=h.j8,jG:=h.jG,thing:=h.thing,port:=CO 0,kZ:=hnd 0,wait:=fun q=>?_,j9:=?_,once:=?_,iY:=?_,fh:=h.fh,used:=h.used}
  .grind [CS]
  .
   intro n hn
   rcases List.mem_append.1 hn with hn|hn
   .exact h.j9 n hn
   grind
  .
   intro w hw
   show cH r.Held w.ID+cN (r.Notes++[_]) w.ID=1
   have:=h.once w hw;have:=(h.tree.mem hw).id1
   rw [Ki,if_neg az];omega
  intro n hn h0
  rcases List.mem_append.1 hn with hn|hn
  .exact h.iY n hn h0
  grind
 obtain ⟨_,Yv,_⟩:=h.get h6
 obtain ⟨Kf,hid,hth,_⟩:=h.derive Yv h7 h8
 rw [he]
 generalize hx:(derived (aI r ⟨p.aD,s⟩).1 r.ah a 0).1=x at *
 have n1:=h.pO;have hfr:=h.fresh
 refine { tree:=Kf,good:=h.good,uH:=?_,pO:=by grind,rK:=by grind,qw:=h.qw,qx:=h.qx,jL:=h.jL,yN:=h.yN,j7:=h.j7,j8:=h.j8,jG:=h.jG,thing:=?_,port:=CO x.ID,kZ:=hnd x.ID,wait:=fun q=>?_,j9:=?_,once:=?_,iY:=?_,fh:=?_,used:=?_}
 .
  intro w hw
  show w.ID<r.ah+1
  rcases List.mem_append.1 hw with hw|hw
  .have:=h.uH w hw;omega
  grind
 .
  intro w hw
  rcases List.mem_append.1 hw with hw|hw
  .exact h.thing w hw
  rw [List.mem_singleton.1 hw,hth];exact h.thing _ Yv
 .grind [CS]
 .
  intro n hn
  rcases List.mem_append.1 hn with hn|hn
  .exact h.j9 n hn
  grind
 .
  intro w hw
  show cH r.Held w.ID+cN (r.Notes++[_]) w.ID=1
  rw [Ki];dsimp only
  rcases List.mem_append.1 hw with hw|hw
  .
   have:=h.uH w hw;have:=h.once w hw
   grind
  grind
 .
  intro n hn h0
  rcases List.mem_append.1 hn with hn|hn
  .
   obtain ⟨w,hw,e⟩:=h.iY n hn h0
   grind
  grind
 .
  intro y hy
  obtain ⟨w,hw,e⟩:=h.fh y hy
  grind
 intro t ht
 obtain ⟨w,hw,e⟩:=h.used t ht
 grind
theorem Ac {p:Place}(h:(bG r p).2.2.2=0):(bO r p 2 1).2.2=0 /\ ∃ (i:Nat) (n:Note),r.Notes[i]? = some n/\n.Port=(aI r p).1.aA/\(∀ (j:Nat) y,j<i->r.Notes[j]? = some y->¬ y.Port=(aI r p).1.aA)/\(bG r p).2.1=n /\
 (0<n.ak/\0<=gk r.Held p.aD/\(bG r p).2.2.1=gk r.Held p.aD/\(bG r p).1=⟨r.aj,r.Things,fW r.Held ⟨p.aD,gk r.Held p.aD⟩ n.ak,wU r.Notes i,r.ah,r.ai⟩ ∨
  n.ak<=0/\(bG r p).2.2.1 = -1/\(bG r p).1=⟨r.aj,r.Things,r.Held,wU r.Notes i,r.ah,r.ai⟩):=by
 unfold bG at h ⊢
 by_cases h1:(bO r p 2 1).2.2=0
 .
  have he:=(s9 h1).2.1
  rw [if_pos h1] at h ⊢
  rw [he] at h ⊢
  rcases kY (fun n:Note=>n.Port==(aI r p).1.aA) r.Notes with ⟨hf,hn⟩ | ⟨i,n,hf,hn,hp,hb,_⟩
  .grind
  grind
 grind
theorem free_at {l:List Held}{h:Int}(hf:0<=gk l h):gk l h<=5/\oI l ⟨h,gk l h⟩=0:=by
 grind [free_spec]
theorem IJ {p:Place}{k:Int}(h:bq p=0)(h0:0<=k)(h5:k<=5):bq ⟨p.aD,k⟩=0:=by
 grind [bq,bP]
theorem Inv.notes (h:Inv r){m:List Held}{ns:List Note}(hg:Good m)(hc:∀w∈r.aj,cH m w.ID+cN ns w.ID=1)(hs:∀x∈m,∃w∈r.aj,w.ID=x.ak)(hn:∀n∈ns,n∈r.Notes)(hw:∀q,gv ns q<=gv r.Notes q):Inv ⟨r.aj,r.Things,m,ns,r.ah,r.ai⟩ :=
 { tree:=h.tree,good:=hg,uH:=h.uH,pO:=h.pO,rK:=h.rK,qw:=h.qw,qx:=h.qx,jL:=h.jL,yN:=h.yN,j7:=h.j7,j8:=h.j8,jG:=h.jG,thing:=h.thing,port:=fun n k=>h.port n (hn n k),kZ:=fun n k=>h.kZ n (hn n k),wait:=fun q=>Nat.le_trans (hw q) (h.wait q),j9:=fun n k=>h.j9 n (hn n k),once:=hc,iY:=fun n k=>h.iY n (hn n k),fh:=hs,used:=h.used}
theorem Inv.take (h:Inv r){p:Place}(hm:(bG r p).2.2.2=0):Inv (bG r p).1:=by
 obtain ⟨hy,i,n,hn,hp,hb,_,hc⟩:=Ac hm
 obtain ⟨hg,_⟩:=s9 hy
 obtain ⟨hpf,_⟩:=h.get hg
 have hcut:=fun j=>Vf hn j
 have hsub:∀x∈wU r.Notes i,x∈r.Notes:=fun x hx=>RP hx
 rcases hc with ⟨h0,hf,_,he⟩ | ⟨h0,_,he⟩
 .
  rw [he]
  obtain ⟨h5,ha⟩:=free_at hf
  have hi:n.ak≠0:=ae
  have hq:=IJ hpf hf h5
  refine h.notes (mB h.good hq) (fun w hw=>?_) (fun x hx=>?_) hsub (fun q=>CL q)
  .
   rw [Ew h.good ha hi]
   have h1:=h.once w hw;grind
  rcases (mC h.good ha hi).1 hx with e|hx
  .rw [e];exact h.iY n (List.mem_of_getElem? hn) h0
  exact h.fh x hx
 rw [he]
 refine h.notes h.good (fun w hw=>?_) h.fh hsub (fun q=>CL q)
 have h1:=h.once w hw;have h2:=hcut w.ID;have h3:=(h.tree.mem hw).id1
 grind
theorem Inv.do (h:Inv r){a:jy}(hm:(dU r a).2=0):Inv (dU r a).1:=by
 unfold dU at hm ⊢
 by_cases h1:a.Kind=(⟨#[109,97,107,101]⟩:ByteArray)
 .rw [if_pos h1] at hm ⊢;exact h.make hm
 rw [if_neg h1] at hm ⊢
 by_cases h2:a.Kind=(⟨#[103,105,118,101]⟩:ByteArray)
 .rw [if_pos h2] at hm ⊢;exact h.give hm
 rw [if_neg h2] at hm ⊢
 by_cases h3:a.Kind=(⟨#[109,111,118,101]⟩:ByteArray)
 .rw [if_pos h3] at hm ⊢;exact h.move hm
 rw [if_neg h3] at hm ⊢
 by_cases h4:a.Kind=(⟨#[100,114,111,112]⟩:ByteArray)
 .rw [if_pos h4] at hm ⊢;exact h.drop hm
 rw [if_neg h4] at hm ⊢
 by_cases h5:a.Kind=(⟨#[114,101,118,111,107,101]⟩:ByteArray)
 .rw [if_pos h5] at hm ⊢;exact h.Vg hm
 rw [if_neg h5] at hm ⊢
 by_cases h6:a.Kind=(⟨#[119,114,105,116,101]⟩:ByteArray)
 .rw [if_pos h6] at hm ⊢;exact h.write hm
 rw [if_neg h6] at hm ⊢
 by_cases h7:a.Kind=(⟨#[115,101,110,100]⟩:ByteArray)
 .rw [if_pos h7] at hm ⊢;exact h.send hm
 rw [if_neg h7] at hm ⊢
 by_cases h8:a.Kind=(⟨#[116,97,107,101]⟩:ByteArray)
 .rw [if_pos h8] at hm ⊢;exact h.take hm
 grind
theorem sh (h:Inv r):r.Held.length<=24:=NV h.good
end
end
section
section
variable {r:aB}
end
end
section
section
variable {r:aB}
theorem CU {ws:List ak}{ts:List Int}:∀ {ns:List Note},(∀n∈ns,n.Port∈ts/\kC ws n=n)->iy ws ts ns=ns
 | [],_=>rfl
 | n::ns,h=>by
  obtain ⟨h1,h2⟩:=h n (List.mem_cons_self ..)
  rw [wY,if_pos h1,h2,CU (fun m hm=>h m (List.mem_cons_of_mem _ hm))]
theorem LF {ws:List ak}{ts:List Int}{ns:List Note}(h:∀n∈ns,n.Port∈ts):jg ws ts ns=[]:=by
 refine List.eq_nil_iff_forall_not_mem.2 fun j hj=>?_
 grind [Gj]
theorem Inv.Kj (h:Inv r):∀n∈r.Notes,n.Port∈br r.aj:=fun n hn=>by
 obtain ⟨t,ht,e,_⟩:=h.port n hn
 obtain ⟨w,hw,e2⟩:=h.used t ht
 exact (lW h.tree).2 ⟨w,hw,ae⟩
theorem Inv.fix (h:Inv r):∀n∈r.Notes,kC r.aj n=n:=fun n hn=>by
 unfold kC;split
 .
  rename_i hf
  have h0:=h.j9 n hn
  have:n.ak=0:=by
   by_cases hp:0<n.ak
   .
    obtain ⟨w,hw,e⟩:=h.iY n hn hp
    have:=lS hw;grind
   omega
  cases n;grind
 rfl
theorem IK (h:Inv r)(T:List aA)(H:List Held)(hT:∀t∈T,∀w∈r.aj,w.aA≠t.ID)(hH:H.filter (fun h => !decide (cE r.aj h.ak<0))=r.Held)(a b:Int):ez ⟨r.aj,r.Things++T,H,r.Notes,a,b⟩=⟨r.aj,r.Things,r.Held,r.Notes,a,b⟩:=by
 have hl:nZ ⟨r.aj,r.Things++T,H,r.Notes,a,b⟩=[]:=LF h.Kj
 rw [oW az]
 unfold fx
 dsimp only
 have h1:(r.Things++T).filter (fun t => !!decide (t.ID∈br r.aj))=r.Things:=by
  have k1:r.Things.filter (fun t => !!decide (t.ID∈br r.aj))=r.Things:=List.filter_eq_self.2 fun t ht=>by
   obtain ⟨w,hw,e⟩:=h.used t ht
   simp only [Bool.not_not,decide_eq_true_eq]
   exact (lW h.tree).2 ⟨w,hw,e⟩
  have k2:T.filter (fun t => !!decide (t.ID∈br r.aj))=[]:=List.filter_eq_nil_iff.2 fun t ht=>by
   simp only [Bool.not_not,decide_eq_true_eq]
   intro hm
   obtain ⟨w,hw,e⟩:=(lW h.tree).1 hm
   grind
  grind
 rw [h1,hH,CU (fun n hn=>⟨h.Kj n hn,h.fix n hn⟩)]
theorem Inv.LG (h:Inv r){H:List Held}(hs:∀x∈H,x∈r.Held):H.filter (fun h => !decide (cE r.aj h.ak<0))=H :=
 List.filter_eq_self.2 fun x hx=>by
  have:=kE.2 (h.fh x (hs x hx))
  grind
theorem Ad (h:Inv r):ez r=r:=by
 have:=IK h [] r.Held (fun t ht=>by grind) (h.LG (fun x hx=>hx)) r.ah r.ai
 simp_all
theorem Vh {l:List Held}{x y:Held}(hx:x∈l)(hy:y∈l)(e:x.ak=y.ak)(h:cH l x.ak<=1):x=y:=by
 obtain ⟨A,B,rfl⟩:=List.append_of_mem hx
 unfold cH at h
 rw [List.countP_append,List.countP_cons,if_pos bA] at h
 grind [List.countP_pos_iff]
theorem Inv.one (h:Inv r){x y:Held}(hx:x∈r.Held)(hy:y∈r.Held)(e:x.ak=y.ak):x=y:=by
 obtain ⟨w,hw,e2⟩:=h.fh x hx
 have:=h.once w hw
 grind [Vh]
end
end
section
section
variable {r:aB}
theorem si:∀ (ns:List Note) (l:List ak),cJ l->cJ (gO ns l)
 | [],l,h=>h
 | n::ns,l,h=>by
  show cJ (gO ns (if 0<n.ak then without l n.ak else l))
  refine si ns _ ?_
  split
  .exact h.wo _
  exact h
theorem Ae:∀ (ns:List Note) (l:List ak) (w:ak),w∈gO ns l->(∃y∈l,Like w y) /\ ∀n∈ns,0<n.ak->w.ID≠n.ak
 | [],l,w,h=>⟨⟨w,h,Like.refl w⟩,fun n hn=>by grind⟩
 | n::ns,l,w,h=>by
  obtain ⟨⟨y,hy,hl⟩,hn⟩:=Ae ns (if 0<n.ak then without l n.ak else l) w h
  by_cases h0:0<n.ak
  .
   rw [if_pos h0] at hy
   obtain ⟨z,hz,hne,rfl⟩:=gX.1 hy
   refine ⟨⟨z,hz,hl.trans (yO _ _ z)⟩,fun m hm hm0=>?_⟩
   rcases List.mem_cons.1 hm with e|hm
   .rw [e,hl.id,(ma z).1];omega
   grind
  grind
theorem uI:∀ (ns:List Note) (l:List ak) (y:ak),y∈l->(∀n∈ns,0<n.ak->y.ID≠n.ak) -> ∃w∈gO ns l,Like w y
 | [],l,y,h,_=>⟨y,h,Like.refl y⟩
 | n::ns,l,y,h,hn=>by
  by_cases h0:0<n.ak
  .
   obtain ⟨w,hw,k⟩:=uI ns (without l n.ak) (m8 n.ak (ff l n.ak) y) (gX.2 ⟨y,h,hn n (List.mem_cons_self ..) h0,rfl⟩) (fun m hm hm0=>by grind [ma,List.mem_cons_of_mem])
   refine ⟨w,?_,k.trans (yO _ _ y)⟩
   simp_all [gO,without,if_pos]
  obtain ⟨w,hw,k⟩:=uI ns l y h (fun m hm hm0=>hn m (List.mem_cons_of_mem _ hm) hm0)
  refine ⟨w,?_,k⟩
  simp_all [gO,without,if_neg]
theorem NZ {ns:List Note}{j:Int}(h:cN ns j=0):∀n∈ns,0<n.ak->j≠n.ak:=fun n hn _ e=>by
 grind [Ve]
theorem Inv.CV (h:Inv r):Pre ⟨gO r.Notes r.aj,r.Things,r.Held,[],r.ah,r.ai⟩:=by
 have hs:=fun w hw=>Ae r.Notes r.aj w hw
 refine { tree:=si _ _ h.tree,good:=h.good,uH:=?_,pO:=h.pO,rK:=h.rK,qw:=h.qw,qx:=h.qx,jL:=h.jL,yN:=h.yN,j7:=h.j7,j8:=h.j8,jG:=h.jG,thing:=?_,port:=fun n hn=>az,kZ:=fun n hn=>az,wait:=fun q=>by simp [gv],j9:=fun n hn=>az,once:=?_}
 .intro w hw;obtain ⟨⟨y,hy,k⟩,_⟩:=hs w hw;rw [k.id];exact h.uH y hy
 .intro w hw;obtain ⟨⟨y,hy,k⟩,_⟩:=hs w hw;rw [k.th];exact h.thing y hy
 intro w hw
 obtain ⟨⟨y,hy,k⟩,hn⟩:=hs w hw
 have h1:=h.once y hy
 have h2:cN r.Notes w.ID=0:=List.countP_eq_zero.2 fun n hnn e=>by
  have e:n.ak=w.ID:=az
  have:=(h.tree.mem hy).id1
  exact hn n hnn (by rw [e,k.id];omega) e.symm
 show cH r.Held w.ID+cN [] w.ID=1
 rw [<- k.id] at h1;grind [cN]
theorem w8:∀ (a b:List Int),a.Nodup->(∀x∈a,x∈b)->a.length<=b.length
 | [],b,_,_=>Nat.zero_le _
 | x::a,b,hn,hs=>by
  obtain ⟨h1,h2⟩:=List.nodup_cons.1 hn
  obtain ⟨A,B,rfl⟩:=List.append_of_mem (hs x (List.mem_cons_self ..))
  have:=w8 a (A++B) h2 fun y hy=>by
   grind
  grind
theorem N0 (h:Inv r)(hn:r.Notes=[]):r.Held.length=r.aj.length:=by
 have h1:(r.aj.map ak.ID).Nodup:=List.Pairwise.imp (fun h=>Int.ne_of_lt h) (List.pairwise_map.2 h.tree.is.rise)
 have h2:(r.Held.map Held.ak).Nodup:=by
  refine List.pairwise_iff_getElem.2 fun i j hi hj hij e=>?_
  rw [List.length_map] at hi hj
  rw [List.getElem_map,List.getElem_map] at e
  have:=h.one (List.getElem_mem hi) (List.getElem_mem hj) e
  have h3:=List.pairwise_iff_getElem.1 (iX h.good) i j hi hj hij
  grind [zL]
 have a:=w8 (r.Held.map Held.ak) (r.aj.map ak.ID) h2 fun x hx=>by
  obtain ⟨y,hy,rfl⟩:=List.mem_map.1 hx
  obtain ⟨w,hw,e⟩:=h.fh y hy
  grind
 have b:=w8 (r.aj.map ak.ID) (r.Held.map Held.ak) h1 fun x hx=>by
  obtain ⟨w,hw,rfl⟩:=List.mem_map.1 hx
  have h3:=h.once w hw
  grind [cN,cH,List.countP_pos_iff]
 grind
theorem iL (h:Inv r):Inv (aN r)/\(aN r).Notes=[]/\(aN r).Held=r.Held/\(aN r).Held.length=(aN r).aj.length/\aN (aN r)=aN r:=by
 have hp:=h.CV
 have hi:Inv (aN r):=wZ hp
 have hl:nZ ⟨gO r.Notes r.aj,r.Things,r.Held,[],r.ah,r.ai⟩=[]:=rfl
 have hd:aN r=fx ⟨gO r.Notes r.aj,r.Things,r.Held,[],r.ah,r.ai⟩:=oW eH
 have hn:(aN r).Notes=[]:=eH
 refine ⟨hi,hn,?_,N0 hi hn,?_⟩
 .
  rw [hd]
  show r.Held.filter _=r.Held
  refine List.filter_eq_self.2 fun x hx=>?_
  obtain ⟨w,hw,e⟩:=h.fh x hx
  have h1:=h.once w hw;have h2:=Vd hx;rw [<- e] at h2
  obtain ⟨v,hv,k⟩:=uI r.Notes r.aj w hw (NZ ae)
  have h3:0<=cE (gO r.Notes r.aj) x.ak:=kE.2 ⟨v,hv,by rw [k.id,e]⟩
  grind
 have hs:=Ad hi
 assumption
theorem Gl {k:Nat}(h:Sz k r):Sz k (aN r) :=
 qv _ _ ⟨Nat.le_trans (uF _ _) h.wl,h.tl,h.hl,Nat.zero_le _,wV _ _ h.ri,h.w0,h.w1,h.t0,h.t1⟩
end
end
section
open Go
theorem qy (a:ByteArray):a.toList=a.data.toList:=Lib.toList_data a
theorem fY {a b:ByteArray}(h:a.data.toList=b.data.toList):a=b:=by
 cases a with|mk x=>simp_all
theorem ng (a b:ByteArray):hY a b=true↔a.data.toList<b.data.toList:=by
 simp_all [hY,Proofs.bytesLess_eq,qy,decide_eq_true_iff]
theorem fL (a:ByteArray):hY a a=false:=by
 rw [Bool.eq_false_iff];grind [List.lt_irrefl,ng]
theorem nD {a b c:ByteArray}(h:hY a b=true)(k:hY b c=true):hY a c=true:=(ng _ _).2 (List.lt_trans ((ng _ _).1 h) ((ng _ _).1 k))
theorem ta {a b:ByteArray}(h:hY a b=true):hY b a=false:=by
 rw [Bool.eq_false_iff];grind [nD,fL]
theorem N1:∀ (x y:List UInt8),x<y∨x=y∨y<x
 | [],[] => .inr (.inl rfl)
 | [],_::_ => .inl (List.Lex.nil)
 | _::_,[] => .inr (.inr (List.Lex.nil))
 | a::x,b::y=>by
  grind
theorem vJ (a b:ByteArray):hY a b=true∨a=b∨hY b a=true:=by
 grind [N1,ng,fY]
theorem Vi {a b:ByteArray}(h:hY a b=false)(hn:a≠b):hY b a=true:=by
 grind [vJ]
def Ex (a b:ByteArray):Int:=if hY a b=true then -1 else if a=b then 0 else 1
theorem Gm:∀ (x y:List UInt8),Lib.compareBytes x y=if x<y then -1 else if x=y then 0 else 1
 | [],[]=>rfl
 | [],b::y=>by rfl
 | a::x,[]=>by rfl
 | a::x,b::y=>by
  unfold Lib.compareBytes
  rw [Gm x y]
  by_cases h:a<b
  .rw [if_pos h,if_pos (show a::x<b::y from List.Lex.rel h)]
  rw [if_neg h]
  by_cases k:b<a
  .
   have hne:¬ a=b:=fun e=>by grind
   rw [if_pos k,if_neg (fun hh=>by
    cases hh with
    | rel hh=>grind
    | cons _=>grind),if_neg az]
  have e:a=b:=UInt8.toNat_inj.1 az
  simp_all
theorem Kk (a b:ByteArray):Lib.compareBytes a.toList b.toList=Ex a b:=by
 rw [Gm,qy,qy];unfold Ex
 have e:(a.data.toList=b.data.toList)=(a=b):=propext ⟨fY,fun h=>by rw [h]⟩
 by_cases h:hY a b=true
 .rw [if_pos ((ng _ _).1 h),if_pos h]
 rw [if_neg (fun k=>h ((ng _ _).2 k)),if_neg h];grind
theorem CW {a b:ByteArray}:Ex a b=0↔a=b:=by
 unfold Ex
 by_cases h:hY a b=true
 .rw [if_pos h];grind [fL]
 grind
theorem Gn {a b:ByteArray}:Ex a b<0↔hY a b=true:=by
 unfold Ex
 grind
end
end Go.Proofs.YtnmpibjlnninjaaGreatDoor
