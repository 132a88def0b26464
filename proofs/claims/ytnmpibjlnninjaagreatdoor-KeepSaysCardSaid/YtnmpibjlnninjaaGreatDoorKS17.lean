import Derived.Test.YtnmpibjlnninjaaGreatDoorKS16
import Derived.Lib.AppendStr
import Derived.Lib.Builder
import Derived.Lib.UnsafeStr
namespace Go.Proofs.YtnmpibjlnninjaaGreatDoor
set_option linter.unusedVariables false
set_option linter.unusedSimpArgs false
set_option maxRecDepth 100000
set_option maxHeartbeats 90000000
section
open Go
section
variable {l:List Change} {k:Nat} {x y:Change}
theorem QP {a b:ByteArray}(h:(gQ a b||decide (a=b))=true):gQ b a=false:=by
 rcases Bool.or_eq_true_iff.1 h with h|h
 .exact rW h
 have e:=of_decide_eq_true h;grind [fN]
theorem UK {a b:ByteArray}(h:(gQ a b||decide (a=b))=false):gQ b a=true:=by
 grind [Bool.or_eq_false_iff,Tw,of_decide_eq_false]
end
end
section
open Go Go.RowKit
structure dP where
  Epoch:Int
  Side:Int
  Size:Int
  First:Int
  deriving DecidableEq
structure p6 where
  Epoch:Int
  Side:Int
  Size:Int
  First:Int
  L:Lg
  Rows:List Change
def aS (h:dP):ByteArray:=⟨#[72]⟩++cz h.Epoch++cz h.Side++cz h.Size++cz h.First
def eM (s:ByteArray):Nat:=bO s 0+bO s 1*256+bO s 2*65536+bO s 3*16777216
theorem UL (s:ByteArray):eM s<4294967296:=by
 grind [eM,KL]
def Ka (s:ByteArray):dP:=⟨(eM (s.extract 1 5):Int),(eM (s.extract 5 9):Int),(eM (s.extract 9 13):Int),(eM (s.extract 13 17):Int)⟩
def fX (s:ByteArray):Prop:= ¬ bO s 0=72∨1<eM (s.extract 5 9)∨2400<eM (s.extract 9 13)∨eM (s.extract 13 17)<1
instance (s:ByteArray):Decidable (fX s):=by unfold fX;infer_instance
def cG (s:ByteArray):dP:=if fX s then ⟨0,0,0,0⟩ else Ka s
theorem dR {s:ByteArray}(h:fX s):cG s=⟨0,0,0,0⟩:=if_pos h
theorem ng {s:ByteArray}(h:¬ fX s):cG s=Ka s:=if_neg h
theorem zV (s:ByteArray):0<=(cG s).Epoch/\(cG s).Epoch<4294967296/\0<=(cG s).Side/\(cG s).Side<=1/\0<=(cG s).Size/\(cG s).Size<=2400/\0<=(cG s).First/\(cG s).First<4294967296/\(¬ (cG s).Epoch=0->1<=(cG s).First):=by
 by_cases h:fX s
 .grind [dR]
 grind [fX,Ka,ng,UL]
def sS (s:cU×Int)(f:cU->cU×Int):cU×Int:=if s.2=0 then f s.1 else s
theorem nh {s:cU×Int}{f:cU->cU×Int}(h:s.2=0):sS s f=f s.1:=if_pos h
theorem o7 {s:cU×Int}{f:cU->cU×Int}(h:¬ s.2=0):sS s f=s:=if_neg h
def kF:Nat->Nat->cU×Int->cU×Int
  | 0,_,s=>s
  | k+1,i,s=>if s.2=0 then kF k (i+1) (aC s.1 (i:Int) ⟨#[]⟩) else s
def AW (d:cU):cU×Int:=kF (d.Now.length-102) 102 (aC d 0 ⟨#[]⟩)
def Ol (d:cU):cU×Int:=sS (AW d) au
def Om (d:cU):cU×Int:=sS (Ol d) fun e=>aC e 1 (aS ⟨1,0,0,1⟩)
def Oo (d:cU):cU×Int:=sS (Om d) au
def ey (d:cU):cU×Int:=if d.Now.length<166 then (d,9) else Oo d
def jy (c:Change):ByteArray:=⟨#[UInt8.ofNat c.Key.size,UInt8.ofNat c.Val.size,UInt8.ofNat (c.Val.size / 256)]⟩++c.Key++c.Val
def aK (l:List Change):ByteArray:=l.foldl (fun b c=>b++jy c) ⟨#[]⟩
theorem Lk {l:List Change}{k:Nat}{c:Change}(h:l[k]? = some c):aK (l.take (k+1))=aK (l.take k)++jy c:=by
 grind [aK,List.take_add_one]
theorem sg (c:Change):(jy c).size=3+c.Key.size+c.Val.size:=by
 unfold jy;simp only [ByteArray.size_append];rfl
theorem Cw {b:ByteArray}{m:Nat}:∀ (l:List Change) (b:ByteArray),(∀c∈l,gY c=0)->(l.foldl (fun b c=>b++jy c) b).size<=b.size+35*l.length
 | [],b,h=>by simp
 | c::l,b,h=>by
  rw [List.foldl_cons,List.length_cons]
  have h1:=Cw (b:=b) (m:=m) l (b++jy c) (fun x hx=>h x (List.mem_cons_of_mem _ hx))
  grind [ig,List.mem_cons_self,ByteArray.size_append,sg]
theorem xY {l:List Change}(h:∀c∈l,gY c=0):(aK l).size<=35*l.length:=by
 have:=Cw (b:=⟨#[]⟩) (m:=0) l ⟨#[]⟩ h
 rw [show (⟨#[]⟩:ByteArray).size=0 from rfl,Nat.zero_add] at this
 exact this
def rz (t:ByteArray):Nat:=3+bO t 0+bO t 1+256*bO t 2
def zW (t:ByteArray):Change:=⟨t.extract 3 (3+bO t 0),t.extract (3+bO t 0) (rz t),false⟩
def qx:Nat->ByteArray->List Change->List Change×Bool
  | 0,_,l=>(l,true)
  | k+1,t,l =>
    if t=⟨#[]⟩ then (l,true)
    else if t.size<3∨t.size<rz t then ([],false)
    else if gY (zW t)=0 then qx k (t.extract (rz t) t.size) (cm l [zW t]) else ([],false)
def fJ (t:ByteArray):List Change×Bool:=qx (t.size+1) t []
section
variable {t:ByteArray} {l:List Change} {Z:List Change×Bool} {k:Nat}
theorem QR (h:qx k t l=Z)(hk:t.size<k)(ht:t=⟨#[]⟩):Z=(l,true):=by
 cases k with
 | zero=>omega
 | succ k=>simp_all [qx,if_pos]
theorem Kc (h:qx k t l=Z)(hk:t.size<k)(ht:¬ t=⟨#[]⟩)(hb:t.size<3∨t.size<rz t):Z=([],false):=by
 cases k with
 | zero=>omega
 | succ k=>simp_all [qx,if_neg,if_pos]
theorem Ll (h:qx k t l=Z)(hk:t.size<k)(ht:¬ t=⟨#[]⟩)(hb:¬ (t.size<3∨t.size<rz t))(hf:¬ gY (zW t)=0):Z=([],false):=by
 cases k with
 | zero=>omega
 | succ k=>simp_all [qx,if_neg]
theorem UM (h:qx k t l=Z)(hk:t.size<k)(ht:¬ t=⟨#[]⟩)(hb:¬ (t.size<3∨t.size<rz t))(hf:gY (zW t)=0) :
 qx (k-1) (t.extract (rz t) t.size) (cm l [zW t])=Z/\(t.extract (rz t) t.size).size<k-1:=by
 cases k with
 | zero=>omega
 | succ k =>
  rw [qx,if_neg ht,if_neg hb,if_pos hf] at h
  grind [rz,ByteArray.size_extract]
end
def o8 (a b:dP):dP:=if a.Epoch<b.Epoch then b else a
def headD (d:cU):dP:=o8 (o8 ⟨0,0,0,0⟩ (cG (cx d 0).1)) (cG (cx d 1).1)
def cJ (d:cU)(f:Int):Nat->ByteArray
  | 0=>⟨#[]⟩
  | k+1=>cJ d f k++(cx d (f+(k:Int))).1
def sT (d:cU):ByteArray:=(cJ d (2+(headD d).Side*50) 50).extract 0 (headD d).Size.toNat
def ki (d:cU):Int:=if d.Now.length<166 then 4 else if (headD d).Epoch=0 then 4 else if (fJ (sT d)).2=true then 0 else 4
def kG (rows:List Change)(W:List (List Change)):List Change:=W.foldl cm rows
theorem Gk {rows:List Change}{W:List (List Change)}{k:Nat}{c:List Change}(h:W[k]? = some c):kG rows (W.take (k+1))=cm (kG rows (W.take k)) c:=by
 grind [kG,List.take_add_one]
def bM (d:cU):p6 :=
  ⟨(headD d).Epoch,(headD d).Side,(headD d).Size,(headD d).First,⟨102,(d.Now.length:Int)-102,(headD d).First,(fT d 102 ((d.Now.length:Int)-102).toNat (headD d).First:Int)⟩,
    kG (fJ (sT d)).1 (lW d 102 ((d.Now.length:Int)-102).toNat (headD d).First)⟩
def iX (f:Int)(t:ByteArray):Nat->Nat->cU->cU×Int
  | 0,_,d=>(d,0)
  | k+1,i,d =>
    if i*48<t.size then
      (if (aC d (f+(i:Int)) (t.extract (i*48) (i*48+min 48 (t.size-i*48)))).2=0 then iX f t k (i+1) (aC d (f+(i:Int)) (t.extract (i*48) (i*48+min 48 (t.size-i*48)))).1
       else aC d (f+(i:Int)) (t.extract (i*48) (i*48+min 48 (t.size-i*48))))
    else (d,0)
def xj (st:p6):dP:=⟨st.Epoch+1,1-st.Side,((aK st.Rows).size:Int),st.L.First+st.L.Many⟩
def ck1 (st:p6)(d:cU):cU×Int:=iX (2+(1-st.Side)*50) (aK st.Rows) ((aK st.Rows).size+1) 0 d
def ck2 (st:p6)(d:cU):cU×Int:=sS (ck1 st d) au
def UN (st:p6)(d:cU):cU×Int:=sS (ck2 st d) fun e=>aC e ((st.Epoch+1) % 2) (aS (xj st))
def Lm (st:p6)(d:cU):cU×Int:=sS (UN st d) au
def Xu (st:p6)(d:cU):p6 :=
  ⟨st.Epoch+1,1-st.Side,((aK st.Rows).size:Int),st.L.First+st.L.Many,⟨102,(d.Now.length:Int)-102,st.L.First+st.L.Many,(fT d 102 ((d.Now.length:Int)-102).toNat (st.L.First+st.L.Many):Int)⟩,st.Rows⟩
def cX (st:p6)(d:cU):p6×cU×Int:=if (Lm st d).2=0 then (Xu st (Lm st d).1,(Lm st d).1,0) else (st,Lm st d)
def ni (st:p6)(n:Nat)(l:List Change):Int :=
  if 62<l.length then 2 else if ¬ iF l=0 then iF l else if 60<(cm st.Rows l).length∨(n:Int)-102<(l.length:Int)+1 then 9 else 0
def Ec (st:p6)(d:cU)(l:List Change):p6×cU×Int:=if st.L.Many-st.L.Next<(l.length:Int)+1 then cX st d else (st,d,0)
def uU (st:p6)(lg:Lg)(rows:List Change):p6:=⟨st.Epoch,st.Side,st.Size,st.First,lg,rows⟩
def Oq (st st0:p6)(d:cU)(l:List Change):p6×cU×Int :=
  if (cW st.L d l).2.2=0 then (uU st (cW st.L d l).1 (cm st0.Rows l),(cW st.L d l).2.1,0) else (uU st (cW st.L d l).1 st.Rows,(cW st.L d l).2.1,(cW st.L d l).2.2)
def bT (st:p6)(d:cU)(l:List Change):p6×cU×Int :=
  if ¬ ni st d.Now.length l=0 then (st,d,ni st d.Now.length l)
  else if ¬ (Ec st d l).2.2=0 then Ec st d l
  else Oq (Ec st d l).1 st (Ec st d l).2.1 l
end
section
open Go Go.RowKit
theorem UO {a b:Nat}(D:Nat)(hD:2 ^ (min b IntKind.i64.bits)=D)(h:a*D<9223372036854775808):IntKind.i64.wrap (((a:Nat):Int)*2 ^ (min b IntKind.i64.bits))=((a*D:Nat):Int):=by
 have e:((2:Int) ^ (min b IntKind.i64.bits))=(D:Int):=aB
 rw [e,<- Int.natCast_mul]
 exact wr ae
theorem UQ {a b:Nat}(k:Nat)(ha:a<2 ^ k):a ||| (b*2 ^ k)=a+b*2 ^ k:=by
 have h:=Nat.shiftLeft_add_eq_or_of_lt ha b
 grind [Nat.shiftLeft_eq,Nat.add_comm]
theorem Zc {a b:Nat}(k:Nat)(D:Nat)(hD:2 ^ k=D)(ha:a<D)(h:a+b*D<9223372036854775808):bits .or .i64 ((a:Nat):Int) ((b*D:Nat):Int)=((a+b*D:Nat):Int):=by
 subst hD
 have e:=UQ (b:=b) k ha
 have key:∀x:Nat,x<9223372036854775808->(BitVec.ofInt 64 (x:Int)).toNat=x:=fun x hx=>by
  grind
 unfold bits
 show IntKind.i64.wrap ((BitVec.ofInt 64 (a:Int) ||| BitVec.ofInt 64 ((b*2 ^ k:Nat):Int)).toNat:Int)=_
 rw [BitVec.toNat_or,key a ae,key (b*2 ^ k) ae,e]
 exact wr ae
end
section
open Go Go.RowKit
abbrev zX (b:Nat)(u:Bool):Value:= .pointer (if u=true then some ⟨b,0,none⟩ else none)
theorem AX (s:ByteArray):Lib.strCells s=s.data.toList.flatMap Enc.cells:=by
 unfold Lib.strCells;rw [List.map_eq_flatMap];rfl
theorem zY (l:List UInt8):Lib.byteCells l=l.flatMap Enc.cells:=by
 unfold Lib.byteCells;rw [List.map_eq_flatMap];rfl
section
variable {P:Program}
theorem Ot {w:World}{e t u ty:TypeId}{i:TypeInfo}(ht:P.underlying t=some (.slice e))(hu:P.underlying u=some .string)(hi:P.info? e=some i)(hz:i.zero=some (.int .u8 0))(hsize:i.size=1)(hby:i.bytes=1)
 {v:Value} {l:List UInt8} (hown:Own 0 e w v l) (s:ByteArray) (hlen:l.length+s.size<=140737488355328) :
 ∃v' w',(Builtin.append_ #[t,u] ty #[v,.string s]).run P w = .ok v' w'/\Own 0 e w' v' (l++s.data.toList)/\w.grownBy w' v.ownBlock /\ ∀k∈fk v',k∈fk v∨w.heap.size<=k:=by
 have hfl:=eK l
 have hown':w.ownsRow 0 e 1 v l.length (l.flatMap Enc.cells):=hown
 obtain ⟨v',w',g1,g2,g3,g4⟩:=Lib.run_append_own_string (P:=P) w 0 t u ty e i ht hu hi hz hsize hby v l.length (l.flatMap Enc.cells) hown' s (by grind [maxLen]) hlen (Nat.zero_le _)
 refine ⟨v',w',g1,?_,g3,?_⟩
 .
  rw [AX] at g2
  unfold Own
  rw [List.flatMap_append,List.length_append,show s.data.toList.length=s.size from by rfl]
  omega
 rcases hown'.2 with ⟨rfl,h0⟩ | ⟨g,cap,cur,rfl,_,hg,hnc,hcm,hcs,htake⟩
 .
  by_cases hm:s.size=0
  .grind
  have hr:=run_append_nil_string (P:=P) w t u ty e i (.int .u8 0) ht hu hi hz s ae ae aB
  rw [hr] at g1
  injection g1 with g1 _
  subst g1
  simp_all [fk,Nat.le_refl]
 by_cases hroom:l.length+s.size<=cap
 .
  have hr:=Lib.run_append_room_string (P:=P) w t u ty e i ht hu hi hsize g l.length cap cur hg s hroom ae
  rw [hr] at g1
  injection g1 with g1 _
  subst g1
  intro k hk;exact .inl hk
 have holds:∀j u,(l.flatMap Enc.cells)[j]? = some u->w.cell? ((⟨g,0,none⟩:Addr).add j)=some u:=World.ownsRow.cells hown' (g:=g) rfl
 have hr:=Lib.run_append_grow_string (P:=P) w t u ty e i (.int .u8 0) ht hu hi hz ⟨g,0,none⟩ l.length cap (l.flatMap Enc.cells) aB holds s ae ae (by rw [hby];exact growslice_fits ae ae)
 rw [hr] at g1
 injection g1 with g1 _
 subst g1
 simp_all [fk,Nat.le_refl]
variable {n:Nat} {we:World} {X:List Nat} {L:Fm} {B F:List aj} {x y c:Operand} {xT yT ty:TypeId} {d:Nat} {pos:String} {eC:Array Edge} {g:Option (Nat×Bool)} {e:TypeId} {v:Value}
theorem s.Ou {t u:TypeId}{ti:TypeInfo}{l:List UInt8}{s:ByteArray}(i:Nat)(hB:B[i]? = some (aj.row e v l))(hx:ev L x=some v)(hy:ev L y=some (.string s))
 (ht:P.underlying t=some (.slice e)) (hu:P.underlying u=some .string) (hi:P.info? e=some ti) (hz:ti.zero=some (.int .u8 0)) (hsize:ti.size=1) (hby:ti.bytes=1) (hlen:l.length+s.size<=140737488355328) (hd:Nat.blt d n=true) :
 Stp P n we X L B F ⟨some d,.call { callee:= .builtin .append,args:= #[x,y],argTypes:= #[t,u] },ty,pos,eC,g⟩ (fun z:Value=>(d,z)::L) (fun z=>B.set i (aj.row e z (l++s.data.toList))) (fun _=>F):=by
 intro K Q' a w ha hw hK
 have hown:Own 0 e w v l:=hw.b i hB
 obtain ⟨v',w',h1,h2,h3,h4⟩:=Ot (P:=P) (ty:=ty) ht hu hi hz hsize hby hown s hlen
 unfold Oper.wp
 have hrun:(execOp a.eval ⟨some d,.call { callee:= .builtin .append,args:= #[x,y],argTypes:= #[t,u] },ty,pos,eC,g⟩).run P w = .ok (.value v') w':=by
  simp [execOp,resolve,invoke,builtin,ha.ev hx,ha.ev hy,h1]
 rw [hrun,Oper.upon_value]
 refine hK v' _ _ (ha.put d _ hd) (hw.turn hB (Jf (α:=UInt8) h3) h2 (pw h2).1 fun k hk=>⟨((pw h2).2 k hk).2,h4 k hk⟩)
theorem Cx {w:World}{b:Nat}{cs:List Value}{T:TypeId}(h:(aj.box b cs T).ok w):w.shape? b=some (T,cs.length):=by
 have h':w.heap[b]? = some (.cells cs.toArray T (0,0)):=h
 grind [World.shape?]
theorem q.toU {b i:Nat}{cs:List Value}{T t:TypeId}{j:TypeInfo}(hB:B[i]? = some (aj.box b cs T))(hx:ev L x=some (.pointer (some ⟨b,0,none⟩)))(hs:P.underlying xT=some (.pointer t))(hd:P.underlying yT=some .unsafePointer)(ht:P.info? t=some j)(hj:¬ j.size=0)(hc:0<cs.length) :
 Qt P n we X L B F (.convert xT yT x) ty (.pointer (some ⟨b,0,none⟩)):=fun _ _ _ _ a w ha hw=>by
 have h:=Lib.run_to_unsafe (P:=P) w ⟨b,0,none⟩ hs hd ht hj (Cx (hw.b i hB)) hc
 simp [execOp,ha.ev hx,h]
theorem q.frU {b i:Nat}{cs:List Value}{T t:TypeId}{j:TypeInfo}(hB:B[i]? = some (aj.box b cs T))(hx:ev L x=some (.pointer (some ⟨b,0,none⟩)))(hs:P.underlying xT=some .unsafePointer)(hd:P.underlying yT=some (.pointer t))(ht:P.info? t=some j)(m:Nat)(hm:cs.length=m)(hl:liesAt P P.depth T (m / P.cellsOf T) 0 t 1=true) :
 Qt P n we X L B F (.convert xT yT x) ty (.pointer (some ⟨b,0,none⟩)):=fun _ _ _ _ a w ha hw=>by
 subst hm
 have h:=Lib.run_from_unsafe (P:=P) w ⟨b,0,none⟩ hs hd ht (Cx (hw.b i hB)) hl
 simp [execOp,ha.ev hx,h]
theorem q.same {pT:TypeId}{a:Addr}{j:TypeInfo}(hx:ev L x=some (.pointer (some a)))(hy:ev L y=some (.pointer (some a)))(ht:P.underlying xT=some (.pointer pT))(hj:P.info? pT=some j):Qt P n we X L B F (.binOp .neq xT x y yT) ty (.bool false):=fun _ _ _ _ q w ha hw=>by
 simp only [execOp,ha.ev hx,ha.ev hy,eqGuard_at_pointer,Sem.run_bind,Sem.run_pure,Result.andThen_ok,Lib.run_neq_ptr_same w a ht hj]
theorem q.Xv {f:Nat}{fn:Func}{ts:Array TypeId}(hf:P.funcs[f]? = some fn)(hname:(fn.name == "runtime.NumGoroutine")=false)(hb:fn.body.isNone=true)(hn:Extern.findNext fn=none)(he:Extern.find fn=some Extern.AbiNoEscape.same)
 (hc:ev L c=some (.func (.func f) #[] #[])) (hx:ev L x=some v):Qt P n we X L B F (.call { callee:= .value c,args:= #[x],argTypes:=ts }) ty v:=fun _ _ _ _ a w ha hw=>by
 simp [execOp,resolve,ha.ev hc,Deferred.ofValue,invoke,ha.ev hx,run_callFunc_extern hf hname hb hn he,Lib.run_noEscape,Result.andThen]
theorem s.Zd {i j b f T:Nat}{u:Bool}{l:List UInt8}{ts:Array TypeId}(eg:∀args w,(callFunc f args).run P w = .ok (.enter f args) w)(hb:B[i]? = some (aj.box b [zX b u,v] T))(hr:B[j]? = some (aj.row e v l))(hij:¬ i=j)
 (hc:ev L c=some (.func (.func f) #[] #[])) (hx:ev L x=some (.pointer (some ⟨b,0,none⟩)))
 (hcall:∀w,Lib.IsBuilder T e we.heap.size b (Lib.byteCells l) w->we.heap.size<=w.heap.size->Calls P f #[.pointer (some ⟨b,0,none⟩)] w fun en w'=>en = .returned (.string ⟨l.toArray⟩)/\Below we.heap.size w w') (hd:Nat.blt d n=true) :
 Stp P n we [] L B F ⟨some d,.call { callee:= .value c,args:= #[x],argTypes:=ts },ty,pos,eC,g⟩ (fun _:Unit=>(d,.string ⟨l.toArray⟩)::L) (fun _=>[]) (fun _=>[]):=by
 intro K Q' a w ha hw hK
 have Xw:w.heap[b]? = some (.cells #[zX b u,v] T (0,0)):=hw.b i hb
 have hown:Own 0 e w v l:=hw.b j hr
 have ZY:b∈blks B:=bX.2 ⟨_,List.mem_of_getElem? hb,by simp [aj.box]⟩
 have hge:∀k∈blks B,we.heap.size<=k:=fun k hk=>by
  rcases Nat.lt_or_ge k we.heap.size with h|h
  .have:=(hw.own k hk).2 h;grind
  omega
 have hown2:w.ownsRow we.heap.size e 1 v (Lib.byteCells l).length (Lib.byteCells l):=by
  rw [Lib.byteCells_length,zY]
  have h':w.ownsRow 0 e 1 v l.length (l.flatMap Enc.cells):=hown
  refine ⟨h'.1,?_⟩
  rcases h'.2 with h0|⟨gg,cap,cur,hv,_,rest⟩
  .grind
  refine .inr ⟨gg,cap,cur,hv,hge gg (bX.2 ⟨_,List.mem_of_getElem? hr,by grind [aj.row,fk]⟩),rest⟩
 have hne:v.ownBlock≠some b:=fun h=>by
  have hkv:b∈(aj.row e v l).blk:=by
   show b∈fk v
   unfold Value.ownBlock at h
   grind [fk]
  have hs:=hw.sep
  obtain ⟨l1,l2,e1⟩:∃l1 l2,B=l1++l2/\((aj.box b [zX b u,v] T∈l1/\aj.row e v l∈l2)∨(aj.row e v l∈l1/\aj.box b [zX b u,v] T∈l2)):=by
   rcases Nat.lt_or_gt_of_ne hij with h1|h1
   .exact ⟨B.take j,B.drop j,(List.take_append_drop j B).symm,.inl ⟨List.mem_of_getElem? (i:=i) aB,List.mem_of_getElem? (i:=0) aB⟩⟩
   exact ⟨B.take i,B.drop i,(List.take_append_drop i B).symm,.inr ⟨List.mem_of_getElem? (i:=j) aB,List.mem_of_getElem? (i:=0) aB⟩⟩
  rw [e1.1,bG] at hs
  have hd':=(List.nodup_append.1 hs).2.2
  rcases e1.2 with ⟨h1,h2⟩ | ⟨h1,h2⟩
  .exact hd' b (bX.2 ⟨_,h1,by simp [aj.box]⟩) b (bX.2 ⟨_,h2,hkv⟩) rfl
  exact hd' b (bX.2 ⟨_,h1,hkv⟩) b (bX.2 ⟨_,h2,by simp [aj.box]⟩) rfl
 have hIs:Lib.IsBuilder T e we.heap.size b (Lib.byteCells l) w:=by
  cases u with
  | true=>exact .inr ⟨hge b ZY,v,Xw,hown2,hne⟩
  | false=>exact .inl ⟨hge b ZY,v,Xw,hown2,hne⟩
 have UR:=hcall w hIs hw.upd.size
 unfold Oper.wp
 have hrun:(execOp a.eval ⟨some d,.call { callee:= .value c,args:= #[x],argTypes:=ts },ty,pos,eC,g⟩).run P w = .ok (.enter f #[.pointer (some ⟨b,0,none⟩)]) w:=by
  simp [execOp,resolve,ha.ev hc,Deferred.ofValue,invoke,ha.ev hx,eg]
 rw [hrun,Oper.upon_enter]
 refine UR.mono fun en w' h=>?_
 obtain ⟨rfl,h⟩:=h
 refine hK () _ _ (ha.put d _ hd) ⟨⟨h.os.trans hw.upd.os,h.tape.trans hw.upd.tape,h.output.trans hw.upd.output,Nat.le_trans hw.upd.size h.size,fun k hk hn=>(h.block k hk).trans (hw.upd.block k hk hn)⟩,bW,bW,by simp [blks],by simp [blks],by simp [blks]⟩
end
end
end Go.Proofs.YtnmpibjlnninjaaGreatDoor
section
set_option maxRecDepth 100000
namespace Go.Proofs
open Go.Shelf
def Tryz.lays169_ren:Go.Shelf.Ren:=⟨fun|169=>127|n=>n,fun|70=>187|9=>9|0=>0|72=>189|37=>137|127=>244|3=>3|5=>5|n=>n,fun|n=>n⟩
theorem Tryz.lays169:Go.Proofs.Lays.n169 Tryz.prog Tryz.lays169_ren:={
 mixed:=by kernel_rfl
 f169:=Tryz.func127.trans (congrArg some (by kernel_rfl))
 t0:=Tryz.underlying0
 a0:=Tryz.isAgg0
 z0:=Tryz.sizeOf0
 v0:=Tryz.zeroValue0
 t3:=Tryz.underlying3
 a3:=Tryz.isAgg3
 z3:=Tryz.sizeOf3
 v3:=Tryz.zeroValue3
 t9:=Tryz.underlying9
 a9:=Tryz.isAgg9
 z9:=Tryz.sizeOf9
 v9:=Tryz.zeroValue9
 t37:=Tryz.underlying137
 a37:=Tryz.isAgg137
 z37:=Tryz.sizeOf137
 v37:=Tryz.zeroValue137
 t70:=Tryz.underlying187
 a70:=Tryz.isAgg187
 z70:=Tryz.sizeOf187
 v70:=Tryz.zeroValue187
 t72:=Tryz.underlying189
 a72:=Tryz.isAgg189
 z72:=Tryz.sizeOf189
 v72:=Tryz.zeroValue189
 t127:=Tryz.underlying244
 a127:=Tryz.isAgg244
 z127:=Tryz.sizeOf244
 v127:=Tryz.zeroValue244 }
theorem Tryz.Builder_Extra_169:Builder.Extra Tryz.prog Tryz.lays169_ren:={
 sizeBuilder:=by kernel_rfl
 liesBuilder:=by kernel_rfl
 t5:=Tryz.underlying5
 a5:=Tryz.isAgg5
 z5:=Tryz.sizeOf5
 v5:=Tryz.zeroValue5
 infoByte:=by kernel_rfl
 cellsByte:=by kernel_rfl
 sizeByte:=by kernel_rfl
 neB5:=by decide }
open Go.RowKit in
theorem Tryz.Builder_String_any (B b:Nat)(l:List UInt8)(w:World)(h:Lib.IsBuilder 189 5 B b (Lib.byteCells l) w)(hBw:B<=w.heap.size) :
    Calls Tryz.prog 127 #[.pointer (some ⟨b,0,none⟩)] w fun e w'=>e = .returned (.string ⟨l.toArray⟩)/\Below B w w':=Any.Builder_String_any Tryz.lays169 Tryz.Builder_Extra_169 B b l w h hBw
end Go.Proofs
end
namespace Go.Proofs.YtnmpibjlnninjaaGreatDoor
set_option linter.unusedVariables false
set_option linter.unusedSimpArgs false
set_option maxRecDepth 100000
set_option maxHeartbeats 90000000
section
open Go Go.RowKit
section
variable {s:p6} {d m:cU} {e:Int}
theorem Xx (h:ck1 s d=(m,e))(he:¬ e=0):cX s d=(s,m,e):=by
 simp_all [Lm,UN,ck2,au,cX,o7,if_neg]
theorem Xy (h:ck1 s d=(m,e))(he:e=0)(h2:¬ (au m).2=0):cX s d=(s,au m):=by
 simp_all [Lm,au,UN,ck2,cX,nh,o7,if_neg]
theorem Xz (h:ck1 s d=(m,e))(he:e=0)(h2:(au m).2=0)(h3:¬ (aC (au m).1 ((s.Epoch+1) % 2) (aS (xj s))).2=0):cX s d=(s,aC (au m).1 ((s.Epoch+1) % 2) (aS (xj s))):=by
 have h4:Lm s d=aC (au m).1 ((s.Epoch+1) % 2) (aS (xj s)):=by
  grind [Lm,UN,ck2,au,nh,o7]
 simp_all [cX,if_neg]
theorem XA (h:ck1 s d=(m,e))(he:e=0)(h2:(au m).2=0)(h3:(aC (au m).1 ((s.Epoch+1) % 2) (aS (xj s))).2=0)(h5:¬ (au (aC (au m).1 ((s.Epoch+1) % 2) (aS (xj s))).1).2=0) :
 cX s d=(s,au (aC (au m).1 ((s.Epoch+1) % 2) (aS (xj s))).1):=by
 have h4:Lm s d=au (aC (au m).1 ((s.Epoch+1) % 2) (aS (xj s))).1:=by
  grind [Lm,UN,ck2,au,nh]
 simp_all [cX,if_neg]
theorem XB (h:ck1 s d=(m,e))(he:e=0)(h2:(au m).2=0)(h3:(aC (au m).1 ((s.Epoch+1) % 2) (aS (xj s))).2=0)(h5:(au (aC (au m).1 ((s.Epoch+1) % 2) (aS (xj s))).1).2=0) :
 cX s d=(Xu s (au (aC (au m).1 ((s.Epoch+1) % 2) (aS (xj s))).1).1,(au (aC (au m).1 ((s.Epoch+1) % 2) (aS (xj s))).1).1,0):=by
 have h4:Lm s d=au (aC (au m).1 ((s.Epoch+1) % 2) (aS (xj s))).1:=by
  grind [Lm,UN,ck2,au,nh]
 simp_all [cX,if_pos]
theorem Ov (h:(au d).2=0):(au d).1.Down=false:=by
 unfold au at h ⊢
 split
 .
  rename_i h0
  by_cases hd:d.Down=true
  .grind [zj]
  grind [tE,uK]
 grind
end
section
variable {s:p6} {d:cU} {l:List Change} {e:Int} {n m:Nat}
theorem wt {f:Int}{t:ByteArray}:∀ (k i:Nat) (d:cU) (m:Nat),gy n m d->gy n (m+k) (iX f t k i d).1
 | 0,i,d,m,h=>h
 | k+1,i,d,m,h=>by
  rw [iX]
  split
  .
   split
   .
    have:=wt (f:=f) (t:=t) k (i+1) _ (m+1) (h.write (f+(i:Int)) (t.extract (i*48) (i*48+min 48 (t.size-i*48))))
    grind
   exact (h.write _ _).up ae
  exact h.up ae
theorem zZ {x:cU×Int}{f:cU->cU×Int}{a b:Nat}(h:gy n a x.1)(hab:a<=b)(hf:∀e,gy n a e->gy n b (f e).1):gy n b (sS x f).1:=by
 unfold sS;split
 .grind
 exact h.up hab
theorem Ow (h:gy n m d)(ht:(aK s.Rows).size<=2400):gy n (m+2500) (cX s d).2.1:=by
 have h1:gy n (m+2401) (ck1 s d).1:=(wt _ 0 d m h).up ae
 have h2:gy n (m+2401) (ck2 s d).1:=zZ h1 (Nat.le_refl _) fun e he=>he.flush
 have h3:gy n (m+2402) (UN s d).1:=zZ h2 ae fun e he=>he.write _ _
 have h4:gy n (m+2402) (Lm s d).1:=zZ h3 (Nat.le_refl _) fun e he=>he.flush
 unfold cX;split <;> exact h4.up ae
theorem US (h:(cX s d).2.2=0):(cX s d).1=Xu s (cX s d).2.1:=by
 unfold cX at h ⊢
 grind
end
section
variable {s:p6} {d:cU} {l:List Change} {e:Int} {n m:Nat}
theorem XC (h:62<l.length):bT s d l=(s,d,2):=by
 simp_all [ni,bT,if_pos]
theorem XD (h0:¬ 62<l.length)(he:iF l=e)(h:¬ e=0):bT s d l=(s,d,e):=by
 simp_all [ni,bT,if_neg,if_pos]
theorem SF (h0:¬ 62<l.length)(h1:iF l=0)(h:60<(cm s.Rows l).length∨(d.Now.length:Int)-102<(l.length:Int)+1):bT s d l=(s,d,9):=by
 simp_all [ni,bT,if_neg,if_pos]
theorem Aa (h0:¬ 62<l.length)(h1:iF l=0)(h:¬ (60<(cm s.Rows l).length∨(d.Now.length:Int)-102<(l.length:Int)+1)):ni s d.Now.length l=0:=by
 simp_all [ni,if_neg]
theorem SG (hf:ni s d.Now.length l=0)(hr:s.L.Many-s.L.Next<(l.length:Int)+1)(he:¬ (cX s d).2.2=0):bT s d l=cX s d:=by
 simp_all [Ec,cX,bT,if_pos,if_neg]
theorem SH (hf:ni s d.Now.length l=0)(hr:s.L.Many-s.L.Next<(l.length:Int)+1)(he:(cX s d).2.2=0)(ha:(cW (cX s d).1.L (cX s d).2.1 l).2.2=0) :
 bT s d l=(uU (cX s d).1 (cW (cX s d).1.L (cX s d).2.1 l).1 (cm s.Rows l),(cW (cX s d).1.L (cX s d).2.1 l).2.1,(cW (cX s d).1.L (cX s d).2.1 l).2.2):=by
 simp_all [Ec,cX,bT,Oq,if_pos,if_neg]
theorem SI (hf:ni s d.Now.length l=0)(hr:s.L.Many-s.L.Next<(l.length:Int)+1)(he:(cX s d).2.2=0)(ha:¬ (cW (cX s d).1.L (cX s d).2.1 l).2.2=0) :
 bT s d l=(uU (cX s d).1 (cW (cX s d).1.L (cX s d).2.1 l).1 (cX s d).1.Rows,(cW (cX s d).1.L (cX s d).2.1 l).2.1,(cW (cX s d).1.L (cX s d).2.1 l).2.2):=by
 simp_all [Ec,cX,bT,Oq,if_pos,if_neg]
theorem SJ (hf:ni s d.Now.length l=0)(hr:¬ s.L.Many-s.L.Next<(l.length:Int)+1)(ha:(cW s.L d l).2.2=0) :
 bT s d l=(uU s (cW s.L d l).1 (cm s.Rows l),(cW s.L d l).2.1,(cW s.L d l).2.2):=by
 have hp:Ec s d l=(s,d,0):=if_neg hr
 unfold bT;rw [hf,if_neg aD,hp,if_neg (fun hh=>hh rfl)];simp_all [Oq,if_pos]
theorem SK (hf:ni s d.Now.length l=0)(hr:¬ s.L.Many-s.L.Next<(l.length:Int)+1)(ha:¬ (cW s.L d l).2.2=0) :
 bT s d l=(uU s (cW s.L d l).1 s.Rows,(cW s.L d l).2.1,(cW s.L d l).2.2):=by
 have hp:Ec s d l=(s,d,0):=if_neg hr
 unfold bT;rw [hf,if_neg aD,hp,if_neg (fun hh=>hh rfl)];simp_all [Oq,if_neg]
end
section
variable {d m:cU} {e:Int}
theorem Ln (h:d.Now.length<166):ey d=(d,9):=if_pos h
theorem SL (h0:¬ d.Now.length<166)(h:AW d=(m,e))(he:¬ e=0):ey d=(m,e):=by
 simp_all [ey,Oo,Om,Ol,au,if_neg,o7]
theorem XE (h0:¬ d.Now.length<166)(h:AW d=(m,e))(he:e=0)(h2:¬ (au m).2=0):ey d=au m:=by
 simp_all [ey,Oo,Om,Ol,au,if_neg,nh,o7]
theorem XF (h0:¬ d.Now.length<166)(h:AW d=(m,e))(he:e=0)(h2:(au m).2=0)(h3:¬ (aC (au m).1 1 (aS ⟨1,0,0,1⟩)).2=0):ey d=aC (au m).1 1 (aS ⟨1,0,0,1⟩):=by
 simp_all [ey,Oo,Om,Ol,au,if_neg,nh,o7]
theorem SQ (h0:¬ d.Now.length<166)(h:AW d=(m,e))(he:e=0)(h2:(au m).2=0)(h3:(aC (au m).1 1 (aS ⟨1,0,0,1⟩)).2=0):ey d=au (aC (au m).1 1 (aS ⟨1,0,0,1⟩)).1:=by
 unfold ey;rw [if_neg h0];grind [Oo,Om,Ol,au,nh]
end
theorem UT {d m:cU}{e:Int}(h0:¬ d.Now.length<166)(h:AW d=(m,e))(he:e=0)(h2:(au m).2=0)(h3:(aC (au m).1 1 (aS ⟨1,0,0,1⟩)).2=0):ey d=au (aC (au m).1 1 (aS ⟨1,0,0,1⟩)).1:=SQ h0 h he h2 h3
end
section
open Go Go.RowKit
attribute [local irreducible] Run Rg Rq Qt Qa Stp Dg Do Dm cD
theorem sh (n:Int)(w:World)(hn:0<=n/\n<=9000000000000000000):Calls Tryz.prog 130 #[iV n] w fun e w'=>e = .returned (.string (cz n))/\Ext w w':=by
 refine R.enter [] [(0,iV n)] Tryz.func130 O O O O<|U ?_
 refine R.q (q.nG O (by rw [Tryz.underlying3];rfl) Tryz.underlying5 qJ) O<|U ?_
 refine R.q (q.shr (r:=n / 256) O O aD (Ku (D:=256) aD aD)) O<|R.q (q.nG O (by rw [Tryz.underlying3];rfl) Tryz.underlying5 qJ) O<|U ?_
 refine R.q (q.shr (r:=n / 65536) O O aD (Ku (D:=65536) aD aD)) O<|R.q (q.nG O (by rw [Tryz.underlying3];rfl) Tryz.underlying5 qJ) O<|U ?_
 refine R.q (q.shr (r:=n / 16777216) O O aD (Ku (D:=16777216) aD aD)) O<|R.q (q.nG O (by rw [Tryz.underlying3];rfl) Tryz.underlying5 qJ) O<|R.s O (s.bs (l:=([u8 (n % 256),u8 ((n / 256) % 256),u8 ((n / 65536) % 256),u8 ((n / 16777216) % 256)]:List UInt8)) bf eE O O O O O (cy (fO ae) (cy (fO ae) (cy (fO ae) (cy (fO ae) fI)))) O) fun b1=>?_
 refine R.q (q.jR (bH 0 O) O bf Tryz.underlying5 Tryz.underlying9) O<|U ?_
 exact R.rv O Tryz.results130 O (rS ck)
theorem e8 (sx:ByteArray)(w:World)(hs:4<=sx.size):Calls Tryz.prog 134 #[.string sx] w fun e w'=>e = .returned (iV (eM sx:Int))/\Ext w w':=by
 refine R.enter [] [(0,.string sx)] Tryz.func134 O O O O<|U ?_
 obtain ⟨y1,hy1⟩:∃z,sx.data[0]? = some z:=⟨_,Array.getElem?_eq_getElem (show 0<sx.size from by omega)⟩
 have Xs:=y1.toNat_lt
 obtain ⟨y2,hy2⟩:∃z,sx.data[1]? = some z:=⟨_,Array.getElem?_eq_getElem (show 1<sx.size from by omega)⟩
 have Xt:=y2.toNat_lt
 obtain ⟨y3,hy3⟩:∃z,sx.data[2]? = some z:=⟨_,Array.getElem?_eq_getElem (show 2<sx.size from by omega)⟩
 have Yu:=y3.toNat_lt
 obtain ⟨y4,hy4⟩:∃z,sx.data[3]? = some z:=⟨_,Array.getElem?_eq_getElem (show 3<sx.size from by omega)⟩
 have ZW:=y4.toNat_lt
 refine R.dA O mixed ai<|U ?_
 refine Q.q (q.iU (i:=0) O O Tryz.underlying9 O hy1) O<|Q.q (q.nG (r:=((y1.toNat:Nat):Int)) O (by rw [Tryz.underlying5];rfl) Tryz.underlying3 (wr ae)) O<|U ?_
 refine Q.q (q.iU (i:=1) O O Tryz.underlying9 O hy2) O<|Q.q (q.nG (r:=((y2.toNat:Nat):Int)) O (by rw [Tryz.underlying5];rfl) Tryz.underlying3 (wr ae)) O<|Q.q (q.shl (r:=(((y2.toNat*256):Nat):Int)) O O aD (UO 256 aD (by have:=y2.toNat_lt;omega))) O<|Q.q (q.or (r:=(((y1.toNat+(y2.toNat*256)):Nat):Int)) O O (Zc 8 256 O (by have:=y1.toNat_lt;have:=y2.toNat_lt;omega) (by have:=y1.toNat_lt;have:=y2.toNat_lt;omega))) O<|U ?_
 refine Q.q (q.iU (i:=2) O O Tryz.underlying9 O hy3) O<|Q.q (q.nG (r:=((y3.toNat:Nat):Int)) O (by rw [Tryz.underlying5];rfl) Tryz.underlying3 (wr ae)) O<|Q.q (q.shl (r:=(((y3.toNat*65536):Nat):Int)) O O aD (UO 65536 aD (by have:=y3.toNat_lt;omega))) O<|Q.q (q.or (r:=((((y1.toNat+(y2.toNat*256))+(y3.toNat*65536)):Nat):Int)) O O (Zc 16 65536 O (by have:=y1.toNat_lt;have:=y2.toNat_lt;have:=y3.toNat_lt;omega) (by have:=y1.toNat_lt;have:=y2.toNat_lt;have:=y3.toNat_lt;omega))) O<|U ?_
 refine Q.q (q.iU (i:=3) O O Tryz.underlying9 O hy4) O<|Q.q (q.nG (r:=((y4.toNat:Nat):Int)) O (by rw [Tryz.underlying5];rfl) Tryz.underlying3 (wr ae)) O<|Q.q (q.shl (r:=(((y4.toNat*16777216):Nat):Int)) O O aD (UO 16777216 aD (by have:=y4.toNat_lt;omega))) O<|Q.q (q.or (r:=(((((y1.toNat+(y2.toNat*256))+(y3.toNat*65536))+(y4.toNat*16777216)):Nat):Int)) O O (Zc 24 16777216 O (by have:=y1.toNat_lt;have:=y2.toNat_lt;have:=y3.toNat_lt;have:=y4.toNat_lt;omega) (by have:=y1.toNat_lt;have:=y2.toNat_lt;have:=y3.toNat_lt;have:=y4.toNat_lt;omega))) O<|U ?_
 exact R.rv O Tryz.results134 O (rI (by (unfold eM;rw [aQ hy1,aQ hy2,aQ hy3,aQ hy4])))
theorem Cy (h:dP)(w:World)(hn:0<=h.Epoch/\h.Epoch<=9000000000000000000/\0<=h.Side/\h.Side<=9000000000000000000/\0<=h.Size/\h.Size<=9000000000000000000/\0<=h.First/\h.First<=9000000000000000000):Calls Tryz.prog 73 #[.agg #[iV h.Epoch,iV h.Side,iV h.Size,iV h.First]] w fun e w'=>e = .returned (.string (aS h))/\Ext w w':=by
 refine R.enter [] [(0,.agg #[iV h.Epoch,iV h.Side,iV h.Size,iV h.First])] Tryz.func73 O O O O<|U ?_
 refine R.s O (s.box O O O) fun b1=>U ?_
 refine R.dA O mixed ai<|U ?_
 refine Q.c (q.call DK O O (fun w hw=>(sh h.Epoch w ae))) O<|Q.q (q.cJ O O) O<|U ?_
 refine Q.c (q.call DK O O (fun w hw=>(sh h.Side w ae))) O<|Q.q (q.cJ O O) O<|U ?_
 refine Q.c (q.call DK O O (fun w hw=>(sh h.Size w ae))) O<|Q.q (q.cJ O O) O<|U ?_
 refine Q.c (q.call DK O O (fun w hw=>(sh h.First w ae))) O<|Q.q (q.cJ O O) O<|U ?_
 exact R.rv O Tryz.results73 O (rS ck)
theorem IG (sx:ByteArray)(w:World)(own:List Nat)(H:HN w own [] [])(hs:sx.size=48):RC Tryz.prog 78 #[.string sx] H (fun _:Unit => .agg #[iV (cG sx).Epoch,iV (cG sx).Side,iV (cG sx).Size,iV (cG sx).First]) (fun _=>[]) (fun _=>[]):=by
 refine R.bE [(0,.string sx)] Tryz.func78 O O O O H<|U ?_
 refine R.s O (s.alloc (cs:=[iV 0,iV 0,iV 0,iV 0]) jw O O) fun b1=>U ?_
 refine R.eA (fuel:=15) [0,1] O O mixed O ?_
 refine D.l [0,1,3,4,6,7,9,10] [0,1] [] O<|U ?_
 refine Dm.yy O O (q.EO (i:=1) (j:=5) O O O Tryz.underlying9 O O ae ae) O<|U ?_
 refine Dm.yy O O (q.EO (i:=5) (j:=9) O O O Tryz.underlying9 O O ae ae) O<|U ?_
 refine Dm.yy O O (q.EO (i:=9) (j:=13) O O O Tryz.underlying9 O O ae ae) O<|U ?_
 refine Dm.yy O O (q.EO (i:=13) (j:=17) O O O Tryz.underlying9 O O ae ae) O<|U ?_
 refine D.two (i:=2) (j:=13) O O ?_ ?_
 .
  refine Do.s (s.c (q.call kD O O (fun w hw=>(e8 (sx.extract 1 5) w me))) O) (fun _=>(aN [0,1] [] O)) O fun _=>?_
  refine D.two (i:=5) (j:=13) O O ?_ ?_
  .
   refine Do.s (s.c (q.call kD O O (fun w hw=>(e8 (sx.extract 5 9) w me))) O) (fun _=>(aN [0,1] [] O)) O fun _=>?_
   refine D.two (i:=8) (j:=13) O O ?_ ?_
   .
    refine Do.s (s.c (q.call kD O O (fun w hw=>(e8 (sx.extract 9 13) w me))) O) (fun _=>(aN [0,1] [] O)) O fun _=>?_
    refine D.two (i:=11) (j:=13) O O ?_ ?_
    .
     refine Do.s (s.c (q.call kD O O (fun w hw=>(e8 (sx.extract 13 17) w me))) O) (fun _=>(aN [0,1] [] O)) O fun _=>?_
     refine D.l [12] [0,1] [] O<|U ?_
     refine D.one (i:=13) O ?_
     refine Do.s (s.alloc (cs:=[iV 0,iV 0,iV 0,iV 0]) jw O O) (fun _=>(aN [1,2] [] O)) O fun b2=>?_
     refine D.one (i:=14) O ?_
     refine Do.s (s.st (us:=[iV (eM (sx.extract 1 5):Int),iV (eM (sx.extract 5 9):Int),iV (eM (sx.extract 9 13):Int),iV (eM (sx.extract 13 17):Int)]) (cs':=[iV (eM (sx.extract 1 5):Int),iV (eM (sx.extract 5 9):Int),iV (eM (sx.extract 9 13):Int),iV (eM (sx.extract 13 17):Int)]) 0 _ O O O O (.inl bA) O O O O) (fun _=>(aN [1,2] [] O)) O fun _=>?_
     refine D.done<|U ?_
     obtain ⟨y1,hy1⟩:∃z,sx.data[0]? = some z:=⟨_,Array.getElem?_eq_getElem (show 0<sx.size from by omega)⟩
     have Xs:=y1.toNat_lt
     refine R.q (q.iU (i:=0) O O Tryz.underlying9 O hy1) O ?_
     by_cases h1:y1.toNat=72
     .
      refine U ?_
      by_cases h2:1<eM (sx.extract 5 9)
      .
       refine U ?_
       refine R.s O (s.st (us:=[iV 0,iV 0,iV 0,iV 0]) (cs':=[iV 0,iV 0,iV 0,iV 0]) 1 _ O O O O (.inl bA) O O O O) fun _=>U ?_
       have hz:cG sx=(⟨0,0,0,0⟩:dP):=by (rw [dR (by unfold fX;(rw [aQ hy1]);omega)];done)
       rw [hz]
       exact R.w1 () [2] [] O Tryz.results78 (RV.cell 1 O O bA) O O O O
      refine U ?_
      by_cases h3:2400<eM (sx.extract 9 13)
      .
       refine U ?_
       refine R.s O (s.st (us:=[iV 0,iV 0,iV 0,iV 0]) (cs':=[iV 0,iV 0,iV 0,iV 0]) 1 _ O O O O (.inl bA) O O O O) fun _=>U ?_
       have hz:cG sx=(⟨0,0,0,0⟩:dP):=by (rw [dR (by unfold fX;(rw [aQ hy1]);omega)];done)
       rw [hz]
       exact R.w1 () [2] [] O Tryz.results78 (RV.cell 1 O O bA) O O O O
      refine U ?_
      by_cases h4:eM (sx.extract 13 17)<1
      .
       refine U ?_
       refine R.s O (s.st (us:=[iV 0,iV 0,iV 0,iV 0]) (cs':=[iV 0,iV 0,iV 0,iV 0]) 1 _ O O O O (.inl bA) O O O O) fun _=>U ?_
       have hz:cG sx=(⟨0,0,0,0⟩:dP):=by (rw [dR (by unfold fX;(rw [aQ hy1]);omega)];done)
       rw [hz]
       exact R.w1 () [2] [] O Tryz.results78 (RV.cell 1 O O bA) O O O O
      refine U ?_
      refine R.s O (s.st (us:=[iV (eM (sx.extract 1 5):Int),iV (eM (sx.extract 5 9):Int),iV (eM (sx.extract 9 13):Int),iV (eM (sx.extract 13 17):Int)]) (cs':=[iV (eM (sx.extract 1 5):Int),iV (eM (sx.extract 5 9):Int),iV (eM (sx.extract 9 13):Int),iV (eM (sx.extract 13 17):Int)]) 1 _ O O O O (.inl bA) O O O O) fun _=>U ?_
      have hz:cG sx=(⟨(eM (sx.extract 1 5):Int),(eM (sx.extract 5 9):Int),(eM (sx.extract 9 13):Int),(eM (sx.extract 13 17):Int)⟩:dP):=by (rw [ng (by unfold fX;(rw [aQ hy1]);omega)];rfl)
      rw [hz]
      exact R.w1 () [2] [] O Tryz.results78 (RV.cell 1 O O bA) O O O O
     refine U ?_
     refine R.s O (s.st (us:=[iV 0,iV 0,iV 0,iV 0]) (cs':=[iV 0,iV 0,iV 0,iV 0]) 1 _ O O O O (.inl bA) O O O O) fun _=>U ?_
     have hz:cG sx=(⟨0,0,0,0⟩:dP):=by (rw [dR (by unfold fX;(rw [aQ hy1]);omega)];done)
     rw [hz]
     exact R.w1 () [2] [] O Tryz.results78 (RV.cell 1 O O bA) O O O O
    refine Do.s (s.alloc (cs:=[iV 0,iV 0,iV 0,iV 0]) jw O O) (fun _=>(aN [1,2] [] O)) O fun b3=>?_
    refine D.one (i:=11) O ?_
    refine Do.s (s.c (q.call kD O O (fun w hw=>(e8 (sx.extract 13 17) w me))) O) (fun _=>(aN [1,2] [] O)) O fun _=>?_
    refine D.l [12] [1,2] [] O<|U ?_
    refine D.one (i:=14) O ?_
    refine Do.s (s.st (us:=[iV (eM (sx.extract 1 5):Int),iV (eM (sx.extract 5 9):Int),iV (eM (sx.extract 9 13):Int),iV (eM (sx.extract 13 17):Int)]) (cs':=[iV (eM (sx.extract 1 5):Int),iV (eM (sx.extract 5 9):Int),iV (eM (sx.extract 9 13):Int),iV (eM (sx.extract 13 17):Int)]) 0 _ O O O O (.inl bA) O O O O) (fun _=>(aN [1,2] [] O)) O fun _=>?_
    refine D.done<|U ?_
    obtain ⟨y2,hy2⟩:∃z,sx.data[0]? = some z:=⟨_,Array.getElem?_eq_getElem (show 0<sx.size from by omega)⟩
    have Xt:=y2.toNat_lt
    refine R.q (q.iU (i:=0) O O Tryz.underlying9 O hy2) O ?_
    by_cases h5:y2.toNat=72
    .
     refine U ?_
     by_cases h6:1<eM (sx.extract 5 9)
     .
      refine U ?_
      refine R.s O (s.st (us:=[iV 0,iV 0,iV 0,iV 0]) (cs':=[iV 0,iV 0,iV 0,iV 0]) 1 _ O O O O (.inl bA) O O O O) fun _=>U ?_
      have hz:cG sx=(⟨0,0,0,0⟩:dP):=by (rw [dR (by unfold fX;(rw [aQ hy2]);omega)];done)
      rw [hz]
      exact R.w1 () [2] [] O Tryz.results78 (RV.cell 1 O O bA) O O O O
     refine U ?_
     by_cases h7:2400<eM (sx.extract 9 13)
     .
      refine U ?_
      refine R.s O (s.st (us:=[iV 0,iV 0,iV 0,iV 0]) (cs':=[iV 0,iV 0,iV 0,iV 0]) 1 _ O O O O (.inl bA) O O O O) fun _=>U ?_
      have hz:cG sx=(⟨0,0,0,0⟩:dP):=by (rw [dR (by unfold fX;(rw [aQ hy2]);omega)];done)
      rw [hz]
      exact R.w1 () [2] [] O Tryz.results78 (RV.cell 1 O O bA) O O O O
     refine U ?_
     by_cases h8:eM (sx.extract 13 17)<1
     .
      refine U ?_
      refine R.s O (s.st (us:=[iV 0,iV 0,iV 0,iV 0]) (cs':=[iV 0,iV 0,iV 0,iV 0]) 1 _ O O O O (.inl bA) O O O O) fun _=>U ?_
      have hz:cG sx=(⟨0,0,0,0⟩:dP):=by (rw [dR (by unfold fX;(rw [aQ hy2]);omega)];done)
      rw [hz]
      exact R.w1 () [2] [] O Tryz.results78 (RV.cell 1 O O bA) O O O O
     refine U ?_
     refine R.s O (s.st (us:=[iV (eM (sx.extract 1 5):Int),iV (eM (sx.extract 5 9):Int),iV (eM (sx.extract 9 13):Int),iV (eM (sx.extract 13 17):Int)]) (cs':=[iV (eM (sx.extract 1 5):Int),iV (eM (sx.extract 5 9):Int),iV (eM (sx.extract 9 13):Int),iV (eM (sx.extract 13 17):Int)]) 1 _ O O O O (.inl bA) O O O O) fun _=>U ?_
     have hz:cG sx=(⟨(eM (sx.extract 1 5):Int),(eM (sx.extract 5 9):Int),(eM (sx.extract 9 13):Int),(eM (sx.extract 13 17):Int)⟩:dP):=by (rw [ng (by unfold fX;(rw [aQ hy2]);omega)];rfl)
     rw [hz]
     exact R.w1 () [2] [] O Tryz.results78 (RV.cell 1 O O bA) O O O O
    refine U ?_
    refine R.s O (s.st (us:=[iV 0,iV 0,iV 0,iV 0]) (cs':=[iV 0,iV 0,iV 0,iV 0]) 1 _ O O O O (.inl bA) O O O O) fun _=>U ?_
    have hz:cG sx=(⟨0,0,0,0⟩:dP):=by (rw [dR (by unfold fX;(rw [aQ hy2]);omega)];done)
    rw [hz]
    exact R.w1 () [2] [] O Tryz.results78 (RV.cell 1 O O bA) O O O O
   refine Do.s (s.alloc (cs:=[iV 0,iV 0,iV 0,iV 0]) jw O O) (fun _=>(aN [1,2] [] O)) O fun b4=>?_
   refine D.one (i:=8) O ?_
   refine Do.s (s.c (q.call kD O O (fun w hw=>(e8 (sx.extract 9 13) w me))) O) (fun _=>(aN [1,2] [] O)) O fun _=>?_
   refine D.one (i:=11) O ?_
   refine Do.s (s.c (q.call kD O O (fun w hw=>(e8 (sx.extract 13 17) w me))) O) (fun _=>(aN [1,2] [] O)) O fun _=>?_
   refine D.l [12] [1,2] [] O<|U ?_
   refine D.one (i:=14) O ?_
   refine Do.s (s.st (us:=[iV (eM (sx.extract 1 5):Int),iV (eM (sx.extract 5 9):Int),iV (eM (sx.extract 9 13):Int),iV (eM (sx.extract 13 17):Int)]) (cs':=[iV (eM (sx.extract 1 5):Int),iV (eM (sx.extract 5 9):Int),iV (eM (sx.extract 9 13):Int),iV (eM (sx.extract 13 17):Int)]) 0 _ O O O O (.inl bA) O O O O) (fun _=>(aN [1,2] [] O)) O fun _=>?_
   refine D.done<|U ?_
   obtain ⟨y3,hy3⟩:∃z,sx.data[0]? = some z:=⟨_,Array.getElem?_eq_getElem (show 0<sx.size from by omega)⟩
   have Yu:=y3.toNat_lt
   refine R.q (q.iU (i:=0) O O Tryz.underlying9 O hy3) O ?_
   by_cases h9:y3.toNat=72
   .
    refine U ?_
    by_cases h10:1<eM (sx.extract 5 9)
    .
     refine U ?_
     refine R.s O (s.st (us:=[iV 0,iV 0,iV 0,iV 0]) (cs':=[iV 0,iV 0,iV 0,iV 0]) 1 _ O O O O (.inl bA) O O O O) fun _=>U ?_
     have hz:cG sx=(⟨0,0,0,0⟩:dP):=by (rw [dR (by unfold fX;(rw [aQ hy3]);omega)];done)
     rw [hz]
     exact R.w1 () [2] [] O Tryz.results78 (RV.cell 1 O O bA) O O O O
    refine U ?_
    by_cases h11:2400<eM (sx.extract 9 13)
    .
     refine U ?_
     refine R.s O (s.st (us:=[iV 0,iV 0,iV 0,iV 0]) (cs':=[iV 0,iV 0,iV 0,iV 0]) 1 _ O O O O (.inl bA) O O O O) fun _=>U ?_
     have hz:cG sx=(⟨0,0,0,0⟩:dP):=by (rw [dR (by unfold fX;(rw [aQ hy3]);omega)];done)
     rw [hz]
     exact R.w1 () [2] [] O Tryz.results78 (RV.cell 1 O O bA) O O O O
    refine U ?_
    by_cases h12:eM (sx.extract 13 17)<1
    .
     refine U ?_
     refine R.s O (s.st (us:=[iV 0,iV 0,iV 0,iV 0]) (cs':=[iV 0,iV 0,iV 0,iV 0]) 1 _ O O O O (.inl bA) O O O O) fun _=>U ?_
     have hz:cG sx=(⟨0,0,0,0⟩:dP):=by (rw [dR (by unfold fX;(rw [aQ hy3]);omega)];done)
     rw [hz]
     exact R.w1 () [2] [] O Tryz.results78 (RV.cell 1 O O bA) O O O O
    refine U ?_
    refine R.s O (s.st (us:=[iV (eM (sx.extract 1 5):Int),iV (eM (sx.extract 5 9):Int),iV (eM (sx.extract 9 13):Int),iV (eM (sx.extract 13 17):Int)]) (cs':=[iV (eM (sx.extract 1 5):Int),iV (eM (sx.extract 5 9):Int),iV (eM (sx.extract 9 13):Int),iV (eM (sx.extract 13 17):Int)]) 1 _ O O O O (.inl bA) O O O O) fun _=>U ?_
    have hz:cG sx=(⟨(eM (sx.extract 1 5):Int),(eM (sx.extract 5 9):Int),(eM (sx.extract 9 13):Int),(eM (sx.extract 13 17):Int)⟩:dP):=by (rw [ng (by unfold fX;(rw [aQ hy3]);omega)];rfl)
    rw [hz]
    exact R.w1 () [2] [] O Tryz.results78 (RV.cell 1 O O bA) O O O O
   refine U ?_
   refine R.s O (s.st (us:=[iV 0,iV 0,iV 0,iV 0]) (cs':=[iV 0,iV 0,iV 0,iV 0]) 1 _ O O O O (.inl bA) O O O O) fun _=>U ?_
   have hz:cG sx=(⟨0,0,0,0⟩:dP):=by (rw [dR (by unfold fX;(rw [aQ hy3]);omega)];done)
   rw [hz]
   exact R.w1 () [2] [] O Tryz.results78 (RV.cell 1 O O bA) O O O O
  refine Do.s (s.alloc (cs:=[iV 0,iV 0,iV 0,iV 0]) jw O O) (fun _=>(aN [1,2] [] O)) O fun b5=>?_
  refine D.one (i:=5) O ?_
  refine Do.s (s.c (q.call kD O O (fun w hw=>(e8 (sx.extract 5 9) w me))) O) (fun _=>(aN [1,2] [] O)) O fun _=>?_
  refine D.one (i:=8) O ?_
  refine Do.s (s.c (q.call kD O O (fun w hw=>(e8 (sx.extract 9 13) w me))) O) (fun _=>(aN [1,2] [] O)) O fun _=>?_
  refine D.one (i:=11) O ?_
  refine Do.s (s.c (q.call kD O O (fun w hw=>(e8 (sx.extract 13 17) w me))) O) (fun _=>(aN [1,2] [] O)) O fun _=>?_
  refine D.l [12] [1,2] [] O<|U ?_
  refine D.one (i:=14) O ?_
  refine Do.s (s.st (us:=[iV (eM (sx.extract 1 5):Int),iV (eM (sx.extract 5 9):Int),iV (eM (sx.extract 9 13):Int),iV (eM (sx.extract 13 17):Int)]) (cs':=[iV (eM (sx.extract 1 5):Int),iV (eM (sx.extract 5 9):Int),iV (eM (sx.extract 9 13):Int),iV (eM (sx.extract 13 17):Int)]) 0 _ O O O O (.inl bA) O O O O) (fun _=>(aN [1,2] [] O)) O fun _=>?_
  refine D.done<|U ?_
  obtain ⟨y4,hy4⟩:∃z,sx.data[0]? = some z:=⟨_,Array.getElem?_eq_getElem (show 0<sx.size from by omega)⟩
  have ZW:=y4.toNat_lt
  refine R.q (q.iU (i:=0) O O Tryz.underlying9 O hy4) O ?_
  by_cases VG:y4.toNat=72
  .
   refine U ?_
   by_cases Yt:1<eM (sx.extract 5 9)
   .
    refine U ?_
    refine R.s O (s.st (us:=[iV 0,iV 0,iV 0,iV 0]) (cs':=[iV 0,iV 0,iV 0,iV 0]) 1 _ O O O O (.inl bA) O O O O) fun _=>U ?_
    have hz:cG sx=(⟨0,0,0,0⟩:dP):=by (rw [dR (by unfold fX;(rw [aQ hy4]);omega)];done)
    rw [hz]
    exact R.w1 () [2] [] O Tryz.results78 (RV.cell 1 O O bA) O O O O
   refine U ?_
   by_cases Zb:2400<eM (sx.extract 9 13)
   .
    refine U ?_
    refine R.s O (s.st (us:=[iV 0,iV 0,iV 0,iV 0]) (cs':=[iV 0,iV 0,iV 0,iV 0]) 1 _ O O O O (.inl bA) O O O O) fun _=>U ?_
    have hz:cG sx=(⟨0,0,0,0⟩:dP):=by (rw [dR (by unfold fX;(rw [aQ hy4]);omega)];done)
    rw [hz]
    exact R.w1 () [2] [] O Tryz.results78 (RV.cell 1 O O bA) O O O O
   refine U ?_
   by_cases h16:eM (sx.extract 13 17)<1
   .
    refine U ?_
    refine R.s O (s.st (us:=[iV 0,iV 0,iV 0,iV 0]) (cs':=[iV 0,iV 0,iV 0,iV 0]) 1 _ O O O O (.inl bA) O O O O) fun _=>U ?_
    have hz:cG sx=(⟨0,0,0,0⟩:dP):=by (rw [dR (by unfold fX;(rw [aQ hy4]);omega)];done)
    rw [hz]
    exact R.w1 () [2] [] O Tryz.results78 (RV.cell 1 O O bA) O O O O
   refine U ?_
   refine R.s O (s.st (us:=[iV (eM (sx.extract 1 5):Int),iV (eM (sx.extract 5 9):Int),iV (eM (sx.extract 9 13):Int),iV (eM (sx.extract 13 17):Int)]) (cs':=[iV (eM (sx.extract 1 5):Int),iV (eM (sx.extract 5 9):Int),iV (eM (sx.extract 9 13):Int),iV (eM (sx.extract 13 17):Int)]) 1 _ O O O O (.inl bA) O O O O) fun _=>U ?_
   have hz:cG sx=(⟨(eM (sx.extract 1 5):Int),(eM (sx.extract 5 9):Int),(eM (sx.extract 9 13):Int),(eM (sx.extract 13 17):Int)⟩:dP):=by (rw [ng (by unfold fX;(rw [aQ hy4]);omega)];rfl)
   rw [hz]
   exact R.w1 () [2] [] O Tryz.results78 (RV.cell 1 O O bA) O O O O
  refine U ?_
  refine R.s O (s.st (us:=[iV 0,iV 0,iV 0,iV 0]) (cs':=[iV 0,iV 0,iV 0,iV 0]) 1 _ O O O O (.inl bA) O O O O) fun _=>U ?_
  have hz:cG sx=(⟨0,0,0,0⟩:dP):=by (rw [dR (by unfold fX;(rw [aQ hy4]);omega)];done)
  rw [hz]
  exact R.w1 () [2] [] O Tryz.results78 (RV.cell 1 O O bA) O O O O
 refine Do.s (s.alloc (cs:=[iV 0,iV 0,iV 0,iV 0]) jw O O) (fun _=>(aN [1,2] [] O)) O fun b6=>?_
 refine D.one (i:=2) O ?_
 refine Do.s (s.c (q.call kD O O (fun w hw=>(e8 (sx.extract 1 5) w me))) O) (fun _=>(aN [1,2] [] O)) O fun _=>?_
 refine D.one (i:=5) O ?_
 refine Do.s (s.c (q.call kD O O (fun w hw=>(e8 (sx.extract 5 9) w me))) O) (fun _=>(aN [1,2] [] O)) O fun _=>?_
 refine D.one (i:=8) O ?_
 refine Do.s (s.c (q.call kD O O (fun w hw=>(e8 (sx.extract 9 13) w me))) O) (fun _=>(aN [1,2] [] O)) O fun _=>?_
 refine D.one (i:=11) O ?_
 refine Do.s (s.c (q.call kD O O (fun w hw=>(e8 (sx.extract 13 17) w me))) O) (fun _=>(aN [1,2] [] O)) O fun _=>?_
 refine D.l [12] [1,2] [] O<|U ?_
 refine D.one (i:=14) O ?_
 refine Do.s (s.st (us:=[iV (eM (sx.extract 1 5):Int),iV (eM (sx.extract 5 9):Int),iV (eM (sx.extract 9 13):Int),iV (eM (sx.extract 13 17):Int)]) (cs':=[iV (eM (sx.extract 1 5):Int),iV (eM (sx.extract 5 9):Int),iV (eM (sx.extract 9 13):Int),iV (eM (sx.extract 13 17):Int)]) 0 _ O O O O (.inl bA) O O O O) (fun _=>(aN [1,2] [] O)) O fun _=>?_
 refine D.done<|U ?_
 obtain ⟨y5,IC⟩:∃z,sx.data[0]? = some z:=⟨_,Array.getElem?_eq_getElem (show 0<sx.size from by omega)⟩
 have by5:=y5.toNat_lt
 refine R.q (q.iU (i:=0) O O Tryz.underlying9 O IC) O ?_
 by_cases Xr:y5.toNat=72
 .
  refine U ?_
  by_cases h18:1<eM (sx.extract 5 9)
  .
   refine U ?_
   refine R.s O (s.st (us:=[iV 0,iV 0,iV 0,iV 0]) (cs':=[iV 0,iV 0,iV 0,iV 0]) 1 _ O O O O (.inl bA) O O O O) fun _=>U ?_
   have hz:cG sx=(⟨0,0,0,0⟩:dP):=by (rw [dR (by unfold fX;(rw [aQ IC]);omega)];done)
   rw [hz]
   exact R.w1 () [2] [] O Tryz.results78 (RV.cell 1 O O bA) O O O O
  refine U ?_
  by_cases h19:2400<eM (sx.extract 9 13)
  .
   refine U ?_
   refine R.s O (s.st (us:=[iV 0,iV 0,iV 0,iV 0]) (cs':=[iV 0,iV 0,iV 0,iV 0]) 1 _ O O O O (.inl bA) O O O O) fun _=>U ?_
   have hz:cG sx=(⟨0,0,0,0⟩:dP):=by (rw [dR (by unfold fX;(rw [aQ IC]);omega)];done)
   rw [hz]
   exact R.w1 () [2] [] O Tryz.results78 (RV.cell 1 O O bA) O O O O
  refine U ?_
  by_cases h20:eM (sx.extract 13 17)<1
  .
   refine U ?_
   refine R.s O (s.st (us:=[iV 0,iV 0,iV 0,iV 0]) (cs':=[iV 0,iV 0,iV 0,iV 0]) 1 _ O O O O (.inl bA) O O O O) fun _=>U ?_
   have hz:cG sx=(⟨0,0,0,0⟩:dP):=by (rw [dR (by unfold fX;(rw [aQ IC]);omega)];done)
   rw [hz]
   exact R.w1 () [2] [] O Tryz.results78 (RV.cell 1 O O bA) O O O O
  refine U ?_
  refine R.s O (s.st (us:=[iV (eM (sx.extract 1 5):Int),iV (eM (sx.extract 5 9):Int),iV (eM (sx.extract 9 13):Int),iV (eM (sx.extract 13 17):Int)]) (cs':=[iV (eM (sx.extract 1 5):Int),iV (eM (sx.extract 5 9):Int),iV (eM (sx.extract 9 13):Int),iV (eM (sx.extract 13 17):Int)]) 1 _ O O O O (.inl bA) O O O O) fun _=>U ?_
  have hz:cG sx=(⟨(eM (sx.extract 1 5):Int),(eM (sx.extract 5 9):Int),(eM (sx.extract 9 13):Int),(eM (sx.extract 13 17):Int)⟩:dP):=by (rw [ng (by unfold fX;(rw [aQ IC]);omega)];rfl)
  rw [hz]
  exact R.w1 () [2] [] O Tryz.results78 (RV.cell 1 O O bA) O O O O
 refine U ?_
 refine R.s O (s.st (us:=[iV 0,iV 0,iV 0,iV 0]) (cs':=[iV 0,iV 0,iV 0,iV 0]) 1 _ O O O O (.inl bA) O O O O) fun _=>U ?_
 have hz:cG sx=(⟨0,0,0,0⟩:dP):=by (rw [dR (by unfold fX;(rw [aQ IC]);omega)];done)
 rw [hz]
 exact R.w1 () [2] [] O Tryz.results78 (RV.cell 1 O O bA) O O O O
structure jK where
  Epoch:Int
  Side:Int
  Size:Int
  First:Int
  Rows:List Change
def p6.c (st:p6):jK:=⟨st.Epoch,st.Side,st.Size,st.First,st.Rows⟩
theorem Gl {t:ByteArray}{x y z:UInt8}(hx:t.data[0]? = some x)(hy:t.data[1]? = some y)(hz:t.data[2]? = some z):rz t=3+x.toNat+y.toNat+256*z.toNat:=by
 unfold rz;rw [aQ hx,aQ hy,aQ hz]
theorem Ox {t:ByteArray}{x y z:UInt8}{c:Change}(hx:t.data[0]? = some x)(hy:t.data[1]? = some y)(hz:t.data[2]? = some z)(hc:c=⟨t.extract 3 (3+x.toNat),t.extract (3+x.toNat) (3+x.toNat+y.toNat+256*z.toNat),false⟩):zW t=c:=by
 rw [hc];unfold zW;rw [Gl hx hy hz,aQ hx]
theorem Lp (sx:ByteArray)(w:World)(own:List Nat)(H:HN w own [] [])(hs:sx.size<=2400):RC Tryz.prog 79 #[.string sx] H (fun z:Value => .tuple #[z,.bool (fJ sx).2]) (fun z=>[aj.row 115 z (fJ sx).1]) (fun _=>[]):=by
 refine R.bE [(0,.string sx)] Tryz.func79 O O O O H<|U ?_
 refine R.row0 (α:=Change) 115<|R.loop (fun g_:ByteArray×Nat×Value×(List Change)=>[(0,.string g_.1),(4,g_.2.2.1)]) (fun g_=>[aj.row 115 g_.2.2.1 g_.2.2.2,aj.held w own]) (fun g_=>[]) (fun g_=>g_.1.size+g_.2.2.2.length<=2400/\g_.1.size<g_.2.1/\qx g_.2.1 g_.1 g_.2.2.2=fJ sx) (fun g_=>g_.2.1) (sx,sx.size+1,nS,[]) O (by dsimp only;exact ⟨az,ae,rfl⟩) (sF O) (eI [0,1] [] O) ?_
 rintro ⟨tt,k,u,rs⟩ ⟨hl,hk,HP⟩
 dsimp only at *
 refine U ?_
 by_cases h1:tt=⟨#[]⟩
 .
  refine R.q (q.ql O O h1) O<|U ?_
  have hz:fJ sx=(rs,true):=by (exact (QR HP hk af))
  rw [hz]
  exact R.w2 u [0,1] [] O Tryz.results79 (RV.tmp O) (RV.tmp O) O O O (cq O O)
 refine R.q (q.sL O O h1) O<|U ?_
 by_cases h2:tt.size<3
 .
  refine R.dA O mixed ai<|U ?_
  refine R.row0 (α:=Change) 115 ?_
  have hz:fJ sx=([],false):=by (exact (Kc HP hk af (.inl ae)))
  rw [hz]
  exact R.w2 (nS) [0,2] [] O Tryz.results79 (RV.tmp O) (RV.tmp O) O O O (cq O O)
 obtain ⟨y1,hy1⟩:∃z,tt.data[0]? = some z:=⟨_,Array.getElem?_eq_getElem (show 0<tt.size from by omega)⟩
 have Xs:=y1.toNat_lt
 obtain ⟨y2,hy2⟩:∃z,tt.data[1]? = some z:=⟨_,Array.getElem?_eq_getElem (show 1<tt.size from by omega)⟩
 have Xt:=y2.toNat_lt
 obtain ⟨y3,hy3⟩:∃z,tt.data[2]? = some z:=⟨_,Array.getElem?_eq_getElem (show 2<tt.size from by omega)⟩
 have Yu:=y3.toNat_lt
 by_cases h3:tt.size<(((3+y1.toNat)+y2.toNat)+(256*y3.toNat))
 .
  refine R.dA O mixed ai<|U ?_
  refine Q.qg O (q.iU (i:=0) O O Tryz.underlying9 O hy1) O<|Q.qg O (q.nG (r:=((y1.toNat:Nat):Int)) O (by rw [Tryz.underlying5];rfl) Tryz.underlying3 (wr ae)) O<|Q.qg O (q.aL (r:=((3+y1.toNat:Nat):Int)) O O) O<|U ?_
  refine Q.qg O (q.iU (i:=1) O O Tryz.underlying9 O hy2) O<|Q.qg O (q.nG (r:=((y2.toNat:Nat):Int)) O (by rw [Tryz.underlying5];rfl) Tryz.underlying3 (wr ae)) O<|Q.qg O (q.aL (r:=(((3+y1.toNat)+y2.toNat:Nat):Int)) O O) O<|U ?_
  refine Q.qg O (q.iU (i:=2) O O Tryz.underlying9 O hy3) O<|Q.qg O (q.nG (r:=((y3.toNat:Nat):Int)) O (by rw [Tryz.underlying5];rfl) Tryz.underlying3 (wr ae)) O<|Q.qg O (q.vm (r:=((256*y3.toNat:Nat):Int)) O O) O<|Q.qg O (q.aL (r:=((((3+y1.toNat)+y2.toNat)+(256*y3.toNat):Nat):Int)) O O) O<|U ?_
  refine R.row0 (α:=Change) 115 ?_
  have hz:fJ sx=([],false):=by (exact (Kc HP hk af (.inr (by rw [Gl hy1 hy2 hy3];omega))))
  rw [hz]
  exact R.w2 (nS) [0,2] [] O Tryz.results79 (RV.tmp O) (RV.tmp O) O O O (cq O O)
 refine R.dA O mixed ai<|U ?_
 refine Q.qg O (q.iU (i:=0) O O Tryz.underlying9 O hy1) O<|Q.qg O (q.nG (r:=((y1.toNat:Nat):Int)) O (by rw [Tryz.underlying5];rfl) Tryz.underlying3 (wr ae)) O<|Q.qg O (q.aL (r:=((3+y1.toNat:Nat):Int)) O O) O<|U ?_
 refine Q.qg O (q.iU (i:=1) O O Tryz.underlying9 O hy2) O<|Q.qg O (q.nG (r:=((y2.toNat:Nat):Int)) O (by rw [Tryz.underlying5];rfl) Tryz.underlying3 (wr ae)) O<|Q.qg O (q.aL (r:=(((3+y1.toNat)+y2.toNat:Nat):Int)) O O) O<|U ?_
 refine Q.qg O (q.iU (i:=2) O O Tryz.underlying9 O hy3) O<|Q.qg O (q.nG (r:=((y3.toNat:Nat):Int)) O (by rw [Tryz.underlying5];rfl) Tryz.underlying3 (wr ae)) O<|Q.qg O (q.vm (r:=((256*y3.toNat:Nat):Int)) O O) O<|Q.qg O (q.aL (r:=((((3+y1.toNat)+y2.toNat)+(256*y3.toNat):Nat):Int)) O O) O<|U ?_
 refine R.q (q.iU (i:=0) O O Tryz.underlying9 O hy1) O<|R.q (q.nG (r:=((y1.toNat:Nat):Int)) O (by rw [Tryz.underlying5];rfl) Tryz.underlying3 (wr ae)) O<|R.q (q.aL (r:=((3+y1.toNat:Nat):Int)) O O) O<|U ?_
 refine R.dA O mixed ai<|U ?_
 refine Q.q (q.iU (i:=1) O O Tryz.underlying9 O hy2) O<|Q.q (q.nG (r:=((y2.toNat:Nat):Int)) O (by rw [Tryz.underlying5];rfl) Tryz.underlying3 (wr ae)) O<|Q.q (q.aL (r:=(((3+y1.toNat)+y2.toNat:Nat):Int)) O O) O<|U ?_
 refine Q.q (q.iU (i:=2) O O Tryz.underlying9 O hy3) O<|Q.q (q.nG (r:=((y3.toNat:Nat):Int)) O (by rw [Tryz.underlying5];rfl) Tryz.underlying3 (wr ae)) O<|Q.q (q.vm (r:=((256*y3.toNat:Nat):Int)) O O) O<|Q.q (q.aL (r:=((((3+y1.toNat)+y2.toNat)+(256*y3.toNat):Nat):Int)) O O) O<|U ?_
 refine R.eA (fuel:=10) [0,1] O O mixed O<|D.l cu [0,1] [] O<|U ?_
 refine Dm.yy O O (q.EO (i:=3) (j:=(3+y1.toNat)) O O O Tryz.underlying9 O O ae ae) O<|U ?_
 refine Dm.yy O O (q.EO (i:=(3+y1.toNat)) (j:=(((3+y1.toNat)+y2.toNat)+(256*y3.toNat))) O O O Tryz.underlying9 O O ae ae) O<|U ?_
 refine D.one (i:=8) O<|Do.s (s.alloc bR O O) (fun _=>(aN [1,2] [] O)) O fun b1=>?_
 refine D.one (i:=9) O<|Do.s (s.st 0 _ O O O O (.inl bK) O O O O) (fun _=>(aN [1,2] [] O)) O fun _=>?_
 refine D.done<|U ?_
 refine R.c (q.call vV O O (fun w hw=>(jx (⟨tt.extract 3 (3+y1.toNat),tt.extract (3+y1.toNat) (((3+y1.toNat)+y2.toNat)+(256*y3.toNat)),false⟩:Change) w ))) O ?_
 by_cases h4:gY (⟨tt.extract 3 (3+y1.toNat),tt.extract (3+y1.toNat) (((3+y1.toNat)+y2.toNat)+(256*y3.toNat)),false⟩:Change)=0
 .
  refine U ?_
  refine R.s O (s.bs (l:=([(⟨tt.extract 3 (3+y1.toNat),tt.extract (3+y1.toNat) (((3+y1.toNat)+y2.toNat)+(256*y3.toNat)),false⟩:Change)]:List Change)) bj bR O O O O O O O) fun b2=>?_
  refine R.s O (s.pre (fun _ hw=>hw.bu 2 _ O O) (s.pre (fun _ hw=>hw.bu 0 _ O O) (s.aT [0,1] [1,0] _ _ _ O O O NL O O (fun w own hw H=>pZ u rs (.slice (some ⟨b2,0,none⟩) 1 1) ([(⟨tt.extract 3 (3+y1.toNat),tt.extract (3+y1.toNat) (((3+y1.toNat)+y2.toNat)+(256*y3.toNat)),false⟩:Change)]) w own H az) O))) fun z1=>U ?_
  refine R.q (q.EP (i:=(((3+y1.toNat)+y2.toNat)+(256*y3.toNat))) O O Tryz.underlying9 O ae) O<|U ?_
  refine R.back ((tt.extract (((3+y1.toNat)+y2.toNat)+(256*y3.toNat)) tt.size),k-1,z1,cm rs ([(⟨tt.extract 3 (3+y1.toNat),tt.extract (3+y1.toNat) (((3+y1.toNat)+y2.toNat)+(256*y3.toNat)),false⟩:Change)])) O (by ((try dsimp only);have g:=UM HP hk af (by rw [Gl hy1 hy2 hy3];omega) (by rw [Ox hy1 hy2 hy3 O];assumption);rw [Gl hy1 hy2 hy3,Ox hy1 hy2 hy3 O] at g;have ha:=lr [(⟨tt.extract 3 (3+y1.toNat),tt.extract (3+y1.toNat) (((3+y1.toNat)+y2.toNat)+(256*y3.toNat)),false⟩:Change)] rs;rw [List.length_singleton] at ha;exact ⟨by rw [ByteArray.size_extract];omega,g.2,g.1⟩)) aO (sF O) (aN [0,2] [] O)
 refine U ?_
 refine R.row0 (α:=Change) 115 ?_
 have hz:fJ sx=([],false):=by (exact (Ll HP hk af (by rw [Gl hy1 hy2 hy3];omega) (by rw [Ox hy1 hy2 hy3 rfl];assumption)))
 rw [hz]
 exact R.w2 (nS) [0,3] [] O Tryz.results79 (RV.tmp O) (RV.tmp O) O O O (cq O O)
theorem Oy {k i:Nat}{m:cU}{e:Int}{Z:cU×Int}(h:kF k i (m,e)=Z)(he:e=0)(hk:0<k):kF (k-1) (i+1) (aC m (i:Int) ⟨#[]⟩)=Z:=by
 cases k with
 | zero=>omega
 | succ k=>rw [kF,if_pos he] at h;exact h
theorem Gm {k i:Nat}{m:cU}{e:Int}{Z:cU×Int}(h:kF k i (m,e)=Z)(he:¬ e=0):Z=(m,e):=by
 cases k with
 | zero=>exact h.symm
 | succ k=>rw [kF,if_neg he] at h;exact h.symm
theorem wu {k i:Nat}{m:cU}{e:Int}{Z:cU×Int}(h:kF k i (m,e)=Z)(hk:k=0):Z=(m,e):=by subst hk;exact h.symm
theorem II (aI:Nat)(aE aG aF:Value)(dk:cU)(w:World)(own:List Nat)(H:HN w own [aj.box aI [aE,aG,aF,iV dk.Fuse,.bool dk.Down] 120,aj.row 9 aE dk.Kept,aj.row 9 aG dk.Now,aj.row 196 aF dk.Wait] [])(hD:gy dk.Now.length 80000 dk/\dk.Now.length<=1000):RC Tryz.prog 61 #[.pointer (some ⟨aI,0,none⟩)] H (fun _:Value×Value×Value=>cD (ey dk).2) (fun z=>[aj.box aI [z.1,z.2.1,z.2.2,iV (ey dk).1.Fuse,.bool (ey dk).1.Down] 120,aj.row 9 z.1 (ey dk).1.Kept,aj.row 9 z.2.1 (ey dk).1.Now,aj.row 196 z.2.2 (ey dk).1.Wait]) (fun _=>[]):=by
 have fc:=H.cap 1 rfl;have fe:=H.dr 1 rfl
 have fV:=H.cap 2 rfl;have fW:=H.dr 2 rfl
 have ff:=H.cap 3 rfl;have fh:=H.dr 3 rfl
 have p0:=hD.1.fine ae ae
 refine R.bE [(0,.pointer (some ⟨aI,0,none⟩))] Tryz.func61 O O O O H<|U ?_
 refine R.c (q.call xd O O (fun w hw=>(gM aI aE aG aF dk w (hw.b 0 O) (hw.row 1 O) (hw.row 2 O) (hw.row 3 O) ))) O ?_
 by_cases h1:dk.Now.length<166
 .
  refine U ?_
  have hz:ey dk=(dk,9):=by (exact Ln ae)
  rw [hz]
  exact R.w1 (aE,aG,aF) da [] O Tryz.results61 (RV.tmp O) O O O (dU aD O)
 refine U ?_
 refine R.s O (s.aT da [] _ _ _ O O O xc O O (fun w own hw H=>jo aI aE aG aF dk 0 (⟨#[]⟩) w own H af) O) ?_
 rintro ⟨z1,z2,z3⟩
 dsimp only
 refine U ?_
 refine R.loop (fun g_:Nat×Int×cU×Value×Value×Value=>[(0,.pointer (some ⟨aI,0,none⟩)),(3,cD g_.2.1),(4,iV ((102+g_.1):Int))]) (fun g_=>[aj.box aI [g_.2.2.2.1,g_.2.2.2.2.1,g_.2.2.2.2.2,iV g_.2.2.1.Fuse,.bool g_.2.2.1.Down] 120,aj.row 9 g_.2.2.2.1 g_.2.2.1.Kept,aj.row 9 g_.2.2.2.2.1 g_.2.2.1.Now,aj.row 196 g_.2.2.2.2.2 g_.2.2.1.Wait,aj.held w own]) (fun g_=>[]) (fun g_=>102+g_.1<=dk.Now.length/\kF (dk.Now.length-102-g_.1) (102+g_.1) (g_.2.2.1,g_.2.1)=AW dk/\gy dk.Now.length (80001+g_.1) g_.2.2.1) (fun g_=>dk.Now.length-g_.1) (0,(aC dk 0 (⟨#[]⟩)).2,(aC dk 0 (⟨#[]⟩)).1,z1,z2,z3) O (by (try dsimp only);exact ⟨ae,rfl,hD.1.write _ _⟩) (sF O) (eI da [] O) ?_
 rintro ⟨j,e,dm,eR,gk,eS⟩ ⟨hj,HB,hO⟩
 dsimp only at *
 have enl:=hO.nl;have p1:=hO.fine ae ae
 refine U ?_
 refine R.c (q.call xd O O (fun w hw=>(gM aI eR gk eS dm w (hw.b 0 O) (hw.row 1 O) (hw.row 2 O) (hw.row 3 O) ))) O ?_
 by_cases h2:(102+j)<dm.Now.length
 .
  refine U ?_
  by_cases h3:e=0
  .
   refine U ?_
   refine R.s O (s.aT da [] _ _ _ O O O xc O O (fun w own hw H=>jo aI eR gk eS dm ((102+j):Int) (⟨#[]⟩) w own H af) O) ?_
   rintro ⟨z4,z5,z6⟩
   dsimp only
   refine U ?_
   refine R.q (q.aL (r:=(((102+j)+1:Nat):Int)) O O) O<|U ?_
   refine R.back (j+1,(aC dm ((102+j):Int) (⟨#[]⟩)).2,(aC dm ((102+j):Int) (⟨#[]⟩)).1,z4,z5,z6) O (by ((try dsimp only);exact ⟨ae,by have g:=Oy HB af ae;rwa [show dk.Now.length-102-(j+1)=dk.Now.length-102-j-1 by omega],hO.write _ _⟩)) aO (sF O) (aN da [] O)
  refine U ?_
  have hz:ey dk=(dm,e):=by (exact SL ae (by exact (Gm HB af)) af)
  rw [hz]
  exact R.w1 (eR,gk,eS) da [] O Tryz.results61 (RV.tmp O) O O O O
 refine U ?_
 by_cases h4:e=0
 .
  refine U ?_
  refine R.s O (s.aT da [] _ _ _ O O O Cn O O (fun w own hw H=>lz aI eR gk eS dm w own H af) O) ?_
  rintro ⟨z7,z8,z9⟩
  dsimp only
  refine U ?_
  by_cases h5:(au dm).2=0
  .
   refine U ?_
   have p2:=hO.flush.fine ae ae
   refine U ?_
   refine R.c (q.call SA O O (fun w hw=>(Cy (⟨1,0,0,1⟩:dP) w aO))) O ?_
   refine R.s O (s.aT da [] _ _ _ O O O xc O O (fun w own hw H=>jo aI z7 z8 z9 (au dm).1 1 (aS (⟨1,0,0,1⟩:dP)) w own H af) O) ?_
   rintro ⟨l7,mh,z12⟩
   dsimp only
   refine U ?_
   by_cases h6:(aC (au dm).1 1 (aS (⟨1,0,0,1⟩:dP))).2=0
   .
    refine U ?_
    have p3:=(hO.flush.write 1 (aS ⟨1,0,0,1⟩)).fine ae ae
    refine U ?_
    refine R.s O (s.aT da [] _ _ _ O O O Cn O O (fun w own hw H=>lz aI l7 mh z12 (aC (au dm).1 1 (aS (⟨1,0,0,1⟩:dP))).1 w own H af) O) ?_
    rintro ⟨o6,xX,Hb⟩
    dsimp only
    refine U ?_
    have hz:ey dk=(((au (aC (au dm).1 1 (aS (⟨1,0,0,1⟩:dP))).1).1),(au (aC (au dm).1 1 (aS (⟨1,0,0,1⟩:dP))).1).2):=by (exact SQ ae (by exact (wu HB ae)) af af af)
    rw [hz]
    exact R.w1 (o6,xX,Hb) da [] O Tryz.results61 (RV.tmp O) O O O O
   refine U ?_
   have hz:ey dk=(((aC (au dm).1 1 (aS (⟨1,0,0,1⟩:dP))).1),(aC (au dm).1 1 (aS (⟨1,0,0,1⟩:dP))).2):=by (exact XF ae (by exact (wu HB ae)) af af af)
   rw [hz]
   exact R.w1 (l7,mh,z12) da [] O Tryz.results61 (RV.tmp O) O O O O
  refine U ?_
  have hz:ey dk=(((au dm).1),(au dm).2):=by (exact XE ae (by exact (wu HB ae)) af af)
  rw [hz]
  exact R.w1 (z7,z8,z9) da [] O Tryz.results61 (RV.tmp O) O O O O
 refine U ?_
 have hz:ey dk=(dm,e):=by (exact SL ae (by exact (Gm HB af)) af)
 rw [hz]
 exact R.w1 (eR,gk,eS) da [] O Tryz.results61 (RV.tmp O) O O O O
structure xC where
  Buf:List UInt8
structure QS where
  Used:Bool
  Buf:List UInt8
theorem AY (jq:Nat)(fQ:Value)(bd:xC)(w:World)(own:List Nat)(H:HN w own [aj.box jq [.pointer none,fQ] 189,aj.row 5 fQ bd.Buf] []):RC Tryz.prog 193 #[.pointer (some ⟨jq,0,none⟩)] H (fun _:Value => .tuple #[]) (fun z=>[aj.box jq [.pointer (some ⟨jq,0,none⟩),z] 189,aj.row 5 z bd.Buf]) (fun _=>[]):=by
 have Ab:=H.cap 1 rfl;have Ac:=H.dr 1 rfl
 refine R.bE [(0,.pointer (some ⟨jq,0,none⟩))] Tryz.func193 O O O O H<|U ?_
 refine R.q (q.toU (i:=0) O O Tryz.underlying187 Tryz.underlying271 O aD bW) O<|R.q (q.Xv Tryz.func234 (by decide +kernel) O O O O O) O<|R.q (q.frU (i:=0) O O Tryz.underlying271 Tryz.underlying187 O 2 O (by decide +kernel)) O<|U ?_
 refine R.s O (s.st 0 _ O O O O (.inr ⟨FU,rfl⟩) O O O O) fun _=>U ?_
 exact R.w0 fQ [0,1,2] [] (by exact .inl O) Tryz.results193 O O O O
theorem AZ (jq:Nat)(fQ:Value)(bd:xC)(sx:ByteArray)(w:World)(own:List Nat)(H:HN w own [aj.box jq [.pointer none,fQ] 189,aj.row 5 fQ bd.Buf] [])(hl:bd.Buf.length+sx.size<=1000000):RC Tryz.prog 126 #[.pointer (some ⟨jq,0,none⟩),.string sx] H (fun _:Value => .tuple #[iV (sx.size:Int),.nilIface]) (fun z=>[aj.box jq [.pointer (some ⟨jq,0,none⟩),z] 189,aj.row 5 z ((⟨bd.Buf++sx.data.toList⟩:xC).Buf:List UInt8)]) (fun _=>[]):=by
 have Ab:=H.cap 1 rfl;have Ac:=H.dr 1 rfl
 refine R.bE [(0,.pointer (some ⟨jq,0,none⟩)),(1,.string sx)] Tryz.func126 O O O O H<|U ?_
 refine R.s O (s.aT [0,1,2] [] _ _ _ O O O N1 O O (fun w own hw H=>AY jq fQ bd w own H ) O) fun z1=>U ?_
 refine R.s O (s.Ou 1 O O O Tryz.underlying137 Tryz.underlying9 O O O O ae O) fun v1=>U ?_
 refine R.s O (s.dE 0 _ O O O (fun w hw=>Sl.bF (hw.row 1 O)) (.inr ⟨oZ,rfl⟩) (fun w hw=>(aJ (Sl.one (hw.row 1 O)) bq)) O O O) fun _=>U ?_
 have hz:((⟨bd.Buf++sx.data.toList⟩:xC),sx.size)=((⟨bd.Buf++sx.data.toList⟩:xC),sx.size):=by (rfl)
 exact R.w2 v1 [0,1,2] [] O Tryz.results126 (RV.tmp O) (RV.tmp O) O O O (cq O O)
theorem A8 (jq:Nat)(fQ:Value)(bd:xC)(w:World)(own:List Nat)(H:HN w own [aj.box jq [.pointer (some ⟨jq,0,none⟩),fQ] 189,aj.row 5 fQ bd.Buf] []):RC Tryz.prog 193 #[.pointer (some ⟨jq,0,none⟩)] H (fun _:Value => .tuple #[]) (fun z=>[aj.box jq [.pointer (some ⟨jq,0,none⟩),z] 189,aj.row 5 z bd.Buf]) (fun _=>[]):=by
 have Ab:=H.cap 1 rfl;have Ac:=H.dr 1 rfl
 refine R.bE [(0,.pointer (some ⟨jq,0,none⟩))] Tryz.func193 O O O O H<|U ?_
 refine R.q (q.same O O Tryz.underlying187 O) O<|U ?_
 exact R.w0 fQ [0,1,2] [] (by exact .inl O) Tryz.results193 O O O O
theorem A9 (jq:Nat)(fQ:Value)(bd:xC)(sx:ByteArray)(w:World)(own:List Nat)(H:HN w own [aj.box jq [.pointer (some ⟨jq,0,none⟩),fQ] 189,aj.row 5 fQ bd.Buf] [])(hl:bd.Buf.length+sx.size<=1000000):RC Tryz.prog 126 #[.pointer (some ⟨jq,0,none⟩),.string sx] H (fun _:Value => .tuple #[iV (sx.size:Int),.nilIface]) (fun z=>[aj.box jq [.pointer (some ⟨jq,0,none⟩),z] 189,aj.row 5 z ((⟨bd.Buf++sx.data.toList⟩:xC).Buf:List UInt8)]) (fun _=>[]):=by
 have Ab:=H.cap 1 rfl;have Ac:=H.dr 1 rfl
 refine R.bE [(0,.pointer (some ⟨jq,0,none⟩)),(1,.string sx)] Tryz.func126 O O O O H<|U ?_
 refine R.s O (s.aT [0,1,2] [] _ _ _ O O O N1 O O (fun w own hw H=>A8 jq fQ bd w own H ) O) fun z1=>U ?_
 refine R.s O (s.Ou 1 O O O Tryz.underlying137 Tryz.underlying9 O O O O ae O) fun v1=>U ?_
 refine R.s O (s.dE 0 _ O O O (fun w hw=>Sl.bF (hw.row 1 O)) (.inr ⟨oZ,rfl⟩) (fun w hw=>(aJ (Sl.one (hw.row 1 O)) bq)) O O O) fun _=>U ?_
 have hz:((⟨bd.Buf++sx.data.toList⟩:xC),sx.size)=((⟨bd.Buf++sx.data.toList⟩:xC),sx.size):=by (rfl)
 exact R.w2 v1 [0,1,2] [] O Tryz.results126 (RV.tmp O) (RV.tmp O) O O O (cq O O)
theorem Ed (jq:Nat)(fQ:Value)(bd:QS)(sx:ByteArray)(w:World)(own:List Nat)(H:HN w own [aj.box jq [zX jq bd.Used,fQ] 189,aj.row 5 fQ (bd.Buf:List UInt8)] [])(hl:bd.Buf.length+sx.size<=1000000):RC Tryz.prog 126 #[.pointer (some ⟨jq,0,none⟩),.string sx] H (fun _:Value => .tuple #[.int .i64 (sx.size:Int),.nilIface]) (fun z=>[aj.box jq [zX jq (((⟨true,bd.Buf++sx.data.toList⟩:QS)).Used),z] 189,aj.row 5 z (((⟨true,bd.Buf++sx.data.toList⟩:QS)).Buf:List UInt8)]) (fun _=>[]):=by
 obtain ⟨u_,l_⟩:=bd
 cases u_ with
 | true=>exact A9 jq fQ (⟨l_⟩:xC) sx w own H hl
 | false=>exact AZ jq fQ (⟨l_⟩:xC) sx w own H hl
theorem QT (bL:Value)(l:List Change)(w:World)(dK:Sl w bL l)(hl:l.length<=1000)(hF:∀c∈l,gY c=0):Calls Tryz.prog 68 #[bL] w fun e w'=>e = .returned (.string (aK l))/\Ext w w':=by
 have wk:=dK.eV
 refine R.enter [] [(0,bL)] Tryz.func68 O O O O<|R.qH dK<|U ?_
 refine R.s O (s.alloc Le O O) fun b1=>U ?_
 refine R.row0 (α:=UInt8) 5<|R.loop (fun g_:Nat×Bool×Value×(List UInt8)=>[(3,.pointer (some ⟨b1,0,none⟩)),(6,bL),(7,iV (l.length:Int)),(8,iV (g_.1:Int))]) (fun g_=>[aj.row 5 g_.2.2.1 g_.2.2.2,aj.box b1 [zX b1 g_.2.1,g_.2.2.1] 189]) (fun g_=>[aj.ls bL l]) (fun g_=>g_.1<=l.length/\g_.2.2.2=(aK (l.take g_.1)).data.toList) (fun g_=>l.length-g_.1) (0,false,nS,[]) O (by exact ⟨ae,rfl⟩) (sF O) (eI [0,1] [0] O) ?_
 rintro ⟨k,u,qb,bb⟩ ⟨hk,HB⟩
 dsimp only at *
 have hbl:bb.length<=35*k:=by have:=xY (l:=l.take k) (fun c hc=>hF c (List.mem_of_mem_take hc));rw [List.length_take] at this;rw [HB,Array.length_toList];show (aK (l.take k)).size<=_;omega
 refine U ?_
 by_cases h1:k<l.length
 .
  refine U ?_
  obtain ⟨x1,hx1⟩:=gE l k
  obtain ⟨QN,ZX,ix1,jx1⟩:=ig (hF x1 (List.mem_of_getElem? hx1))
  refine R.q (q.idx (i:=k) (cb 0 O) O O bj O hx1) O<|R.q (q.dj (ds:=dS x1) (cb 0 O) hx1 O bK O) O<|R.s O (s.alloc bR O O) fun b2=>?_
  refine R.s O (s.st 0 _ O O O O (.inl bK) O O O O) fun _=>U ?_
  refine R.q (q.nG (r:=((x1.Key.size:Nat):Int)) O (by rw [Tryz.underlying3];rfl) Tryz.underlying5 (uk ae)) O<|U ?_
  refine R.q (q.nG (r:=((x1.Val.size:Nat):Int)) O (by rw [Tryz.underlying3];rfl) Tryz.underlying5 (uk ae)) O<|U ?_
  refine R.q (q.shr (r:=(((x1.Val.size / 256):Nat):Int)) O O aD (P1 aD)) O<|R.q (q.nG (r:=(((x1.Val.size / 256):Nat):Int)) O (by rw [Tryz.underlying3];rfl) Tryz.underlying5 (uk ae)) O<|R.s O (s.bs (l:=([UInt8.ofNat x1.Key.size,UInt8.ofNat x1.Val.size,UInt8.ofNat (x1.Val.size / 256)]:List UInt8)) bf eE O O O O O (cy (eu ae) (cy (eu ae) (cy (eu ae) fI))) O) fun b3=>?_
  refine R.q (q.jR (bH 0 O) O bf Tryz.underlying5 Tryz.underlying9) O<|U ?_
  refine R.q (q.cJ O O) O<|U ?_
  refine R.q (q.cJ O O) O<|R.s O (s.aT [3,2,0,1] [] _ _ _ O O O T3 O O (fun w own hw H=>Ed b1 qb (⟨u,bb⟩:QS) (((⟨([UInt8.ofNat x1.Key.size,UInt8.ofNat x1.Val.size,UInt8.ofNat (x1.Val.size / 256)]).toArray⟩:ByteArray)++x1.Key)++x1.Val) w own H (by (simp only [ByteArray.size_append,dW,List.length_cons,List.length_nil];omega))) O) fun z1=>U ?_
  refine R.q (q.aL (r:=((k+1:Nat):Int)) O O) O<|U ?_
  refine R.back (k+1,true,z1,(bb++(((⟨([UInt8.ofNat x1.Key.size,UInt8.ofNat x1.Val.size,UInt8.ofNat (x1.Val.size / 256)]).toArray⟩:ByteArray)++x1.Key)++x1.Val).data.toList)) O (by (exact ⟨ae,by rw [Lk hx1,HB];simp [jy]⟩)) aO (sF O) (aN [1,0] [0] O)
 refine U ?_
 refine R.s O (s.Zd (i:=1) (j:=0) (u:=u) (l:=bb) T4 O O aD O O (fun W h hW=>Tryz.Builder_String_any _ _ _ W h hW) O) fun _=>U ?_
 exact R.rv O Tryz.results68 O (rS (by (rw [HB,List.take_of_length_le ae])))
end
end Go.Proofs.YtnmpibjlnninjaaGreatDoor
