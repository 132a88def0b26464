import Derived.Test.YtnmpibjlnninjaaGreatDoorKT14
import Derived.Lib.AppendStr
import Derived.Lib.Builder
import Derived.Lib.UnsafeStr
namespace Go.Proofs.YtnmpibjlnninjaaGreatDoor
set_option linter.unusedVariables false
set_option linter.unusedSimpArgs false
set_option maxRecDepth 100000
set_option maxHeartbeats 90000000
section
open Go
section
variable {l:List Change} {k:Nat} {x y:Change}
theorem OL {a b:ByteArray}(h:(fR a b||decide (a=b))=true):fR b a=false:=by
 rcases Bool.or_eq_true_iff.1 h with h|h
 .exact qN h
 have e:=of_decide_eq_true h;grind [eQ]
theorem Sv {a b:ByteArray}(h:(fR a b||decide (a=b))=false):fR b a=true:=by
 grind [Bool.or_eq_false_iff,Ro,of_decide_eq_false]
end
end
section
open Go Go.RowKit
structure zB where
  Epoch:Int
  Side:Int
  Size:Int
  First:Int
  deriving DecidableEq
structure oW where
  Epoch:Int
  Side:Int
  Size:Int
  First:Int
  L:Lg
  Rows:List Change
def cK (h:zB):ByteArray:=⟨#[72]⟩++bW h.Epoch++bW h.Side++bW h.Size++bW h.First
def iH (s:ByteArray):Nat:=bq s 0+bq s 1*256+bq s 2*65536+bq s 3*16777216
theorem Sw (s:ByteArray):iH s<4294967296:=by
 grind [iH,Jf]
def Iw (s:ByteArray):zB:=⟨(iH (s.extract 1 5):Int),(iH (s.extract 5 9):Int),(iH (s.extract 9 13):Int),(iH (s.extract 13 17):Int)⟩
def fa (s:ByteArray):Prop:= ¬ bq s 0=72∨1<iH (s.extract 5 9)∨2400<iH (s.extract 9 13)∨iH (s.extract 13 17)<1
instance (s:ByteArray):Decidable (fa s):=by unfold fa;infer_instance
def cY (s:ByteArray):zB:=if fa s then ⟨0,0,0,0⟩ else Iw s
theorem cZ {s:ByteArray}(h:fa s):cY s=⟨0,0,0,0⟩:=if_pos h
theorem me {s:ByteArray}(h:¬ fa s):cY s=Iw s:=if_neg h
theorem yJ (s:ByteArray):0<=(cY s).Epoch/\(cY s).Epoch<4294967296/\0<=(cY s).Side/\(cY s).Side<=1/\0<=(cY s).Size/\(cY s).Size<=2400/\0<=(cY s).First/\(cY s).First<4294967296/\(¬ (cY s).Epoch=0->1<=(cY s).First):=by
 by_cases h:fa s
 .grind [cZ]
 grind [fa,Iw,me,Sw]
def rN (s:bZ×Int)(f:bZ->bZ×Int):bZ×Int:=if s.2=0 then f s.1 else s
theorem mg {s:bZ×Int}{f:bZ->bZ×Int}(h:s.2=0):rN s f=f s.1:=if_pos h
theorem nY {s:bZ×Int}{f:bZ->bZ×Int}(h:¬ s.2=0):rN s f=s:=if_neg h
def jT:Nat->Nat->bZ×Int->bZ×Int
  | 0,_,s=>s
  | k+1,i,s=>if s.2=0 then jT k (i+1) (aP s.1 (i:Int) ⟨#[]⟩) else s
def zG (d:bZ):bZ×Int:=jT (d.Now.length-102) 102 (aP d 0 ⟨#[]⟩)
def Mz (d:bZ):bZ×Int:=rN (zG d) aN
def MA (d:bZ):bZ×Int:=rN (Mz d) fun e=>aP e 1 (cK ⟨1,0,0,1⟩)
def MB (d:bZ):bZ×Int:=rN (MA d) aN
def dM (d:bZ):bZ×Int:=if d.Now.length<166 then (d,9) else MB d
def iI (c:Change):ByteArray:=⟨#[UInt8.ofNat c.Key.size,UInt8.ofNat c.Val.size,UInt8.ofNat (c.Val.size / 256)]⟩++c.Key++c.Val
def bB (l:List Change):ByteArray:=l.foldl (fun b c=>b++iI c) ⟨#[]⟩
theorem JB {l:List Change}{k:Nat}{c:Change}(h:l[k]? = some c):bB (l.take (k+1))=bB (l.take k)++iI c:=by
 grind [bB,List.take_add_one]
theorem qV (c:Change):(iI c).size=3+c.Key.size+c.Val.size:=by
 unfold iI;simp only [ByteArray.size_append];rfl
theorem AV {b:ByteArray}{m:Nat}:∀ (l:List Change) (b:ByteArray),(∀c∈l,gu c=0)->(l.foldl (fun b c=>b++iI c) b).size<=b.size+35*l.length
 | [],b,h=>by simp
 | c::l,b,h=>by
  rw [List.foldl_cons,List.length_cons]
  have h1:=AV (b:=b) (m:=m) l (b++iI c) (fun x hx=>h x (List.mem_cons_of_mem _ hx))
  grind [gv,List.mem_cons_self,ByteArray.size_append,qV]
theorem wL {l:List Change}(h:∀c∈l,gu c=0):(bB l).size<=35*l.length:=by
 have:=AV (b:=⟨#[]⟩) (m:=0) l ⟨#[]⟩ h
 rw [show (⟨#[]⟩:ByteArray).size=0 from rfl,Nat.zero_add] at this
 exact this
def qq (t:ByteArray):Nat:=3+bq t 0+bq t 1+256*bq t 2
def yK (t:ByteArray):Change:=⟨t.extract 3 (3+bq t 0),t.extract (3+bq t 0) (qq t),false⟩
def pF:Nat->ByteArray->List Change->List Change×Bool
  | 0,_,l=>(l,true)
  | k+1,t,l =>
    if t=⟨#[]⟩ then (l,true)
    else if t.size<3∨t.size<qq t then ([],false)
    else if gu (yK t)=0 then pF k (t.extract (qq t) t.size) (bI l [yK t]) else ([],false)
def eP (t:ByteArray):List Change×Bool:=pF (t.size+1) t []
section
variable {t:ByteArray} {l:List Change} {Z:List Change×Bool} {k:Nat}
theorem OM (h:pF k t l=Z)(hk:t.size<k)(ht:t=⟨#[]⟩):Z=(l,true):=by
 cases k with
 | zero=>omega
 | succ k=>simp_all [pF,if_pos]
theorem Ix (h:pF k t l=Z)(hk:t.size<k)(ht:¬ t=⟨#[]⟩)(hb:t.size<3∨t.size<qq t):Z=([],false):=by
 cases k with
 | zero=>omega
 | succ k=>simp_all [pF,if_neg,if_pos]
theorem JC (h:pF k t l=Z)(hk:t.size<k)(ht:¬ t=⟨#[]⟩)(hb:¬ (t.size<3∨t.size<qq t))(hf:¬ gu (yK t)=0):Z=([],false):=by
 cases k with
 | zero=>omega
 | succ k=>simp_all [pF,if_neg]
theorem Sx (h:pF k t l=Z)(hk:t.size<k)(ht:¬ t=⟨#[]⟩)(hb:¬ (t.size<3∨t.size<qq t))(hf:gu (yK t)=0) :
 pF (k-1) (t.extract (qq t) t.size) (bI l [yK t])=Z/\(t.extract (qq t) t.size).size<k-1:=by
 cases k with
 | zero=>omega
 | succ k =>
  rw [pF,if_neg ht,if_neg hb,if_pos hf] at h
  grind [qq,ByteArray.size_extract]
end
def nZ (a b:zB):zB:=if a.Epoch<b.Epoch then b else a
def headD (d:bZ):zB:=nZ (nZ ⟨0,0,0,0⟩ (cY (cC d 0).1)) (cY (cC d 1).1)
def bU (d:bZ)(f:Int):Nat->ByteArray
  | 0=>⟨#[]⟩
  | k+1=>bU d f k++(cC d (f+(k:Int))).1
def rO (d:bZ):ByteArray:=(bU d (2+(headD d).Side*50) 50).extract 0 (headD d).Size.toNat
def jE (d:bZ):Int:=if d.Now.length<166 then 4 else if (headD d).Epoch=0 then 4 else if (eP (rO d)).2=true then 0 else 4
def jU (rows:List Change)(W:List (List Change)):List Change:=W.foldl bI rows
theorem EU {rows:List Change}{W:List (List Change)}{k:Nat}{c:List Change}(h:W[k]? = some c):jU rows (W.take (k+1))=bI (jU rows (W.take k)) c:=by
 grind [jU,List.take_add_one]
def bg (d:bZ):oW :=
  ⟨(headD d).Epoch,(headD d).Side,(headD d).Size,(headD d).First,⟨102,(d.Now.length:Int)-102,(headD d).First,(eZ d 102 ((d.Now.length:Int)-102).toNat (headD d).First:Int)⟩,
    jU (eP (rO d)).1 (kZ d 102 ((d.Now.length:Int)-102).toNat (headD d).First)⟩
def gY (f:Int)(t:ByteArray):Nat->Nat->bZ->bZ×Int
  | 0,_,d=>(d,0)
  | k+1,i,d =>
    if i*48<t.size then
      (if (aP d (f+(i:Int)) (t.extract (i*48) (i*48+min 48 (t.size-i*48)))).2=0 then gY f t k (i+1) (aP d (f+(i:Int)) (t.extract (i*48) (i*48+min 48 (t.size-i*48)))).1
       else aP d (f+(i:Int)) (t.extract (i*48) (i*48+min 48 (t.size-i*48))))
    else (d,0)
def vI (st:oW):zB:=⟨st.Epoch+1,1-st.Side,((bB st.Rows).size:Int),st.L.First+st.L.Many⟩
def ck1 (st:oW)(d:bZ):bZ×Int:=gY (2+(1-st.Side)*50) (bB st.Rows) ((bB st.Rows).size+1) 0 d
def ck2 (st:oW)(d:bZ):bZ×Int:=rN (ck1 st d) aN
def Sy (st:oW)(d:bZ):bZ×Int:=rN (ck2 st d) fun e=>aP e ((st.Epoch+1) % 2) (cK (vI st))
def JD (st:oW)(d:bZ):bZ×Int:=rN (Sy st d) aN
def Vk (st:oW)(d:bZ):oW :=
  ⟨st.Epoch+1,1-st.Side,((bB st.Rows).size:Int),st.L.First+st.L.Many,⟨102,(d.Now.length:Int)-102,st.L.First+st.L.Many,(eZ d 102 ((d.Now.length:Int)-102).toNat (st.L.First+st.L.Many):Int)⟩,st.Rows⟩
def cj (st:oW)(d:bZ):oW×bZ×Int:=if (JD st d).2=0 then (Vk st (JD st d).1,(JD st d).1,0) else (st,JD st d)
def mh (st:oW)(n:Nat)(l:List Change):Int :=
  if 62<l.length then 2 else if ¬ gI l=0 then gI l else if 60<(bI st.Rows l).length∨(n:Int)-102<(l.length:Int)+1 then 9 else 0
def CC (st:oW)(d:bZ)(l:List Change):oW×bZ×Int:=if st.L.Many-st.L.Next<(l.length:Int)+1 then cj st d else (st,d,0)
def tT (st:oW)(lg:Lg)(rows:List Change):oW:=⟨st.Epoch,st.Side,st.Size,st.First,lg,rows⟩
def MC (st st0:oW)(d:bZ)(l:List Change):oW×bZ×Int :=
  if (cw st.L d l).2.2=0 then (tT st (cw st.L d l).1 (bI st0.Rows l),(cw st.L d l).2.1,0) else (tT st (cw st.L d l).1 st.Rows,(cw st.L d l).2.1,(cw st.L d l).2.2)
def bF (st:oW)(d:bZ)(l:List Change):oW×bZ×Int :=
  if ¬ mh st d.Now.length l=0 then (st,d,mh st d.Now.length l)
  else if ¬ (CC st d l).2.2=0 then CC st d l
  else MC (CC st d l).1 st (CC st d l).2.1 l
end
section
open Go Go.RowKit
theorem SA {a b:Nat}(D:Nat)(hD:2 ^ (min b IntKind.i64.bits)=D)(h:a*D<9223372036854775808):IntKind.i64.wrap (((a:Nat):Int)*2 ^ (min b IntKind.i64.bits))=((a*D:Nat):Int):=by
 have e:((2:Int) ^ (min b IntKind.i64.bits))=(D:Int):=au
 rw [e,<- Int.natCast_mul]
 exact wr ae
theorem SB {a b:Nat}(k:Nat)(ha:a<2 ^ k):a ||| (b*2 ^ k)=a+b*2 ^ k:=by
 have h:=Nat.shiftLeft_add_eq_or_of_lt ha b
 grind [Nat.shiftLeft_eq,Nat.add_comm]
theorem W5 {a b:Nat}(k:Nat)(D:Nat)(hD:2 ^ k=D)(ha:a<D)(h:a+b*D<9223372036854775808):bits .or .i64 ((a:Nat):Int) ((b*D:Nat):Int)=((a+b*D:Nat):Int):=by
 subst hD
 have e:=SB (b:=b) k ha
 have key:∀x:Nat,x<9223372036854775808->(BitVec.ofInt 64 (x:Int)).toNat=x:=fun x hx=>by
  grind
 unfold bits
 show IntKind.i64.wrap ((BitVec.ofInt 64 (a:Int) ||| BitVec.ofInt 64 ((b*2 ^ k:Nat):Int)).toNat:Int)=_
 rw [BitVec.toNat_or,key a ae,key (b*2 ^ k) ae,e]
 exact wr ae
end
section
open Go Go.RowKit
abbrev yL (b:Nat)(u:Bool):Value:= .pointer (if u=true then some ⟨b,0,none⟩ else none)
theorem zH (s:ByteArray):Lib.strCells s=s.data.toList.flatMap Enc.cells:=by
 unfold Lib.strCells;rw [List.map_eq_flatMap];rfl
theorem yM (l:List UInt8):Lib.byteCells l=l.flatMap Enc.cells:=by
 unfold Lib.byteCells;rw [List.map_eq_flatMap];rfl
section
variable {P:Program}
theorem MD {w:World}{e t u ty:TypeId}{i:TypeInfo}(ht:P.underlying t=some (.slice e))(hu:P.underlying u=some .string)(hi:P.info? e=some i)(hz:i.zero=some (.int .u8 0))(hsize:i.size=1)(hby:i.bytes=1)
 {v:Value} {l:List UInt8} (hown:Own 0 e w v l) (s:ByteArray) (hlen:l.length+s.size<=140737488355328) :
 ∃v' w',(Builtin.append_ #[t,u] ty #[v,.string s]).run P w = .ok v' w'/\Own 0 e w' v' (l++s.data.toList)/\w.grownBy w' v.ownBlock /\ ∀k∈eA v',k∈eA v∨w.heap.size<=k:=by
 have hfl:=dL l
 have hown':w.ownsRow 0 e 1 v l.length (l.flatMap Enc.cells):=hown
 obtain ⟨v',w',g1,g2,g3,g4⟩:=Lib.run_append_own_string (P:=P) w 0 t u ty e i ht hu hi hz hsize hby v l.length (l.flatMap Enc.cells) hown' s (by grind [maxLen]) hlen (Nat.zero_le _)
 refine ⟨v',w',g1,?_,g3,?_⟩
 .
  rw [zH] at g2
  unfold Own
  rw [List.flatMap_append,List.length_append,show s.data.toList.length=s.size from by rfl]
  omega
 rcases hown'.2 with ⟨rfl,h0⟩ | ⟨g,cap,cur,rfl,_,hg,hnc,hcm,hcs,htake⟩
 .
  by_cases hm:s.size=0
  .grind
  have hr:=run_append_nil_string (P:=P) w t u ty e i (.int .u8 0) ht hu hi hz s ae ae au
  rw [hr] at g1
  injection g1 with g1 _
  subst g1
  simp_all [eA,Nat.le_refl]
 by_cases hroom:l.length+s.size<=cap
 .
  have hr:=Lib.run_append_room_string (P:=P) w t u ty e i ht hu hi hsize g l.length cap cur hg s hroom ae
  rw [hr] at g1
  injection g1 with g1 _
  subst g1
  intro k hk;exact .inl hk
 have holds:∀j u,(l.flatMap Enc.cells)[j]? = some u->w.cell? ((⟨g,0,none⟩:Addr).add j)=some u:=World.ownsRow.cells hown' (g:=g) rfl
 have hr:=Lib.run_append_grow_string (P:=P) w t u ty e i (.int .u8 0) ht hu hi hz ⟨g,0,none⟩ l.length cap (l.flatMap Enc.cells) au holds s ae ae (by rw [hby];exact growslice_fits ae ae)
 rw [hr] at g1
 injection g1 with g1 _
 subst g1
 simp_all [eA,Nat.le_refl]
variable {n:Nat} {we:World} {X:List Nat} {L:Fm} {B F:List ah} {x y c:Operand} {xT yT ty:TypeId} {d:Nat} {pos:String} {dr:Array Edge} {g:Option (Nat×Bool)} {e:TypeId} {v:Value}
theorem s.ME {t u:TypeId}{ti:TypeInfo}{l:List UInt8}{s:ByteArray}(i:Nat)(hB:B[i]? = some (ah.row e v l))(hx:ev L x=some v)(hy:ev L y=some (.string s))
 (ht:P.underlying t=some (.slice e)) (hu:P.underlying u=some .string) (hi:P.info? e=some ti) (hz:ti.zero=some (.int .u8 0)) (hsize:ti.size=1) (hby:ti.bytes=1) (hlen:l.length+s.size<=140737488355328) (hd:Nat.blt d n=true) :
 Stp P n we X L B F ⟨some d,.call { callee:= .builtin .append,args:= #[x,y],argTypes:= #[t,u]},ty,pos,dr,g⟩ (fun z:Value=>(d,z)::L) (fun z=>B.set i (ah.row e z (l++s.data.toList))) (fun _=>F):=by
 intro K Q' a w ha hw hK
 have hown:Own 0 e w v l:=hw.b i hB
 obtain ⟨v',w',h1,h2,h3,h4⟩:=MD (P:=P) (ty:=ty) ht hu hi hz hsize hby hown s hlen
 unfold Oper.wp
 have hrun:(execOp a.eval ⟨some d,.call { callee:= .builtin .append,args:= #[x,y],argTypes:= #[t,u]},ty,pos,dr,g⟩).run P w = .ok (.value v') w':=by
  simp [execOp,resolve,invoke,builtin,ha.ev hx,ha.ev hy,h1]
 rw [hrun,Oper.upon_value]
 refine hK v' _ _ (ha.put d _ hd) (hw.turn hB (Hb (α:=UInt8) h3) h2 (ot h2).1 fun k hk=>⟨((ot h2).2 k hk).2,h4 k hk⟩)
theorem AW {w:World}{b:Nat}{cs:List Value}{T:TypeId}(h:(ah.box b cs T).ok w):w.shape? b=some (T,cs.length):=by
 have h':w.heap[b]? = some (.cells cs.toArray T (0,0)):=h
 grind [World.shape?]
theorem q.Y5 {b i:Nat}{cs:List Value}{T t:TypeId}{j:TypeInfo}(hB:B[i]? = some (ah.box b cs T))(hx:ev L x=some (.pointer (some ⟨b,0,none⟩)))(hs:P.underlying xT=some (.pointer t))(hd:P.underlying yT=some .unsafePointer)(ht:P.info? t=some j)(hj:¬ j.size=0)(hc:0<cs.length) :
 Qt P n we X L B F (.convert xT yT x) ty (.pointer (some ⟨b,0,none⟩)):=fun _ _ _ _ a w ha hw=>by
 have h:=Lib.run_to_unsafe (P:=P) w ⟨b,0,none⟩ hs hd ht hj (AW (hw.b i hB)) hc
 simp [execOp,ha.ev hx,h]
theorem q.Y6 {b i:Nat}{cs:List Value}{T t:TypeId}{j:TypeInfo}(hB:B[i]? = some (ah.box b cs T))(hx:ev L x=some (.pointer (some ⟨b,0,none⟩)))(hs:P.underlying xT=some .unsafePointer)(hd:P.underlying yT=some (.pointer t))(ht:P.info? t=some j)(m:Nat)(hm:cs.length=m)(hl:liesAt P P.depth T (m / P.cellsOf T) 0 t 1=true) :
 Qt P n we X L B F (.convert xT yT x) ty (.pointer (some ⟨b,0,none⟩)):=fun _ _ _ _ a w ha hw=>by
 subst hm
 have h:=Lib.run_from_unsafe (P:=P) w ⟨b,0,none⟩ hs hd ht (AW (hw.b i hB)) hl
 simp [execOp,ha.ev hx,h]
theorem q.same {pT:TypeId}{a:Addr}{j:TypeInfo}(hx:ev L x=some (.pointer (some a)))(hy:ev L y=some (.pointer (some a)))(ht:P.underlying xT=some (.pointer pT))(hj:P.info? pT=some j):Qt P n we X L B F (.binOp .neq xT x y yT) ty (.bool false):=fun _ _ _ _ q w ha hw=>by
 simp only [execOp,ha.ev hx,ha.ev hy,eqGuard_at_pointer,Sem.run_bind,Sem.run_pure,Result.andThen_ok,Lib.run_neq_ptr_same w a ht hj]
theorem q.Vl {f:Nat}{fn:Func}{ts:Array TypeId}(hf:P.funcs[f]? = some fn)(hname:(fn.name == "runtime.NumGoroutine")=false)(hb:fn.body.isNone=true)(hn:Extern.findNext fn=none)(he:Extern.find fn=some Extern.AbiNoEscape.same)
 (hc:ev L c=some (.func (.func f) #[] #[])) (hx:ev L x=some v):Qt P n we X L B F (.call { callee:= .value c,args:= #[x],argTypes:=ts}) ty v:=fun _ _ _ _ a w ha hw=>by
 simp [execOp,resolve,ha.ev hc,Deferred.ofValue,invoke,ha.ev hx,run_callFunc_extern hf hname hb hn he,Lib.run_noEscape,Result.andThen]
theorem s.W6 {i j b f T:Nat}{u:Bool}{l:List UInt8}{ts:Array TypeId}(eg:∀args w,(callFunc f args).run P w = .ok (.enter f args) w)(hb:B[i]? = some (ah.box b [yL b u,v] T))(hr:B[j]? = some (ah.row e v l))(hij:¬ i=j)
 (hc:ev L c=some (.func (.func f) #[] #[])) (hx:ev L x=some (.pointer (some ⟨b,0,none⟩)))
 (hcall:∀w,Lib.IsBuilder T e we.heap.size b (Lib.byteCells l) w->we.heap.size<=w.heap.size->Calls P f #[.pointer (some ⟨b,0,none⟩)] w fun en w'=>en = .returned (.string ⟨l.toArray⟩)/\Below we.heap.size w w') (hd:Nat.blt d n=true) :
 Stp P n we [] L B F ⟨some d,.call { callee:= .value c,args:= #[x],argTypes:=ts},ty,pos,dr,g⟩ (fun _:Unit=>(d,.string ⟨l.toArray⟩)::L) (fun _=>[]) (fun _=>[]):=by
 intro K Q' a w ha hw hK
 have Vm:w.heap[b]? = some (.cells #[yL b u,v] T (0,0)):=hw.b i hb
 have hown:Own 0 e w v l:=hw.b j hr
 have X5:b∈blks B:=bD.2 ⟨_,List.mem_of_getElem? hb,by simp [ah.box]⟩
 have hge:∀k∈blks B,we.heap.size<=k:=fun k hk=>by
  rcases Nat.lt_or_ge k we.heap.size with h|h
  .have:=(hw.own k hk).2 h;grind
  omega
 have hown2:w.ownsRow we.heap.size e 1 v (Lib.byteCells l).length (Lib.byteCells l):=by
  rw [Lib.byteCells_length,yM]
  have h':w.ownsRow 0 e 1 v l.length (l.flatMap Enc.cells):=hown
  refine ⟨h'.1,?_⟩
  rcases h'.2 with h0|⟨gg,cap,cur,hv,_,rest⟩
  .grind
  refine .inr ⟨gg,cap,cur,hv,hge gg (bD.2 ⟨_,List.mem_of_getElem? hr,by grind [ah.row,eA]⟩),rest⟩
 have hne:v.ownBlock≠some b:=fun h=>by
  have hkv:b∈(ah.row e v l).blk:=by
   show b∈eA v
   unfold Value.ownBlock at h
   grind [eA]
  have hs:=hw.sep
  obtain ⟨l1,l2,e1⟩:∃l1 l2,B=l1++l2/\((ah.box b [yL b u,v] T∈l1/\ah.row e v l∈l2)∨(ah.row e v l∈l1/\ah.box b [yL b u,v] T∈l2)):=by
   rcases Nat.lt_or_gt_of_ne hij with h1|h1
   .exact ⟨B.take j,B.drop j,(List.take_append_drop j B).symm,.inl ⟨List.mem_of_getElem? (i:=i) au,List.mem_of_getElem? (i:=0) au⟩⟩
   exact ⟨B.take i,B.drop i,(List.take_append_drop i B).symm,.inr ⟨List.mem_of_getElem? (i:=j) au,List.mem_of_getElem? (i:=0) au⟩⟩
  rw [e1.1,bf] at hs
  have hd':=(List.nodup_append.1 hs).2.2
  rcases e1.2 with ⟨h1,h2⟩ | ⟨h1,h2⟩
  .exact hd' b (bD.2 ⟨_,h1,by simp [ah.box]⟩) b (bD.2 ⟨_,h2,hkv⟩) rfl
  exact hd' b (bD.2 ⟨_,h1,hkv⟩) b (bD.2 ⟨_,h2,by simp [ah.box]⟩) rfl
 have hIs:Lib.IsBuilder T e we.heap.size b (Lib.byteCells l) w:=by
  cases u with
  | true=>exact .inr ⟨hge b X5,v,Vm,hown2,hne⟩
  | false=>exact .inl ⟨hge b X5,v,Vm,hown2,hne⟩
 have SC:=hcall w hIs hw.upd.size
 unfold Oper.wp
 have hrun:(execOp a.eval ⟨some d,.call { callee:= .value c,args:= #[x],argTypes:=ts},ty,pos,dr,g⟩).run P w = .ok (.enter f #[.pointer (some ⟨b,0,none⟩)]) w:=by
  simp [execOp,resolve,ha.ev hc,Deferred.ofValue,invoke,ha.ev hx,eg]
 rw [hrun,Oper.upon_enter]
 refine SC.mono fun en w' h=>?_
 obtain ⟨rfl,h⟩:=h
 refine hK () _ _ (ha.put d _ hd) ⟨⟨h.os.trans hw.upd.os,h.tape.trans hw.upd.tape,h.output.trans hw.upd.output,Nat.le_trans hw.upd.size h.size,fun k hk hn=>(h.block k hk).trans (hw.upd.block k hk hn)⟩,bC,bC,by simp [blks],by simp [blks],by simp [blks]⟩
end
end
end Go.Proofs.YtnmpibjlnninjaaGreatDoor
section
set_option maxRecDepth 100000
namespace Go.Proofs
open Go.Shelf
def Tryz.lays169_ren:Go.Shelf.Ren:=⟨fun|169=>127|n=>n,fun|70=>187|9=>9|0=>0|72=>189|37=>137|127=>244|3=>3|5=>5|n=>n,fun|n=>n⟩
theorem Tryz.lays169:Go.Proofs.Lays.n169 Tryz.prog Tryz.lays169_ren:={
 mixed:=by kernel_rfl
 f169:=Tryz.func127.trans (congrArg some (by kernel_rfl))
 t0:=Tryz.underlying0
 a0:=Tryz.isAgg0
 z0:=Tryz.sizeOf0
 v0:=Tryz.zeroValue0
 t3:=Tryz.underlying3
 a3:=Tryz.isAgg3
 z3:=Tryz.sizeOf3
 v3:=Tryz.zeroValue3
 t9:=Tryz.underlying9
 a9:=Tryz.isAgg9
 z9:=Tryz.sizeOf9
 v9:=Tryz.zeroValue9
 t37:=Tryz.underlying137
 a37:=Tryz.isAgg137
 z37:=Tryz.sizeOf137
 v37:=Tryz.zeroValue137
 t70:=Tryz.underlying187
 a70:=Tryz.isAgg187
 z70:=Tryz.sizeOf187
 v70:=Tryz.zeroValue187
 t72:=Tryz.underlying189
 a72:=Tryz.isAgg189
 z72:=Tryz.sizeOf189
 v72:=Tryz.zeroValue189
 t127:=Tryz.underlying244
 a127:=Tryz.isAgg244
 z127:=Tryz.sizeOf244
 v127:=Tryz.zeroValue244}
theorem Tryz.Builder_Extra_169:Builder.Extra Tryz.prog Tryz.lays169_ren:={
 sizeBuilder:=by kernel_rfl
 liesBuilder:=by kernel_rfl
 t5:=Tryz.underlying5
 a5:=Tryz.isAgg5
 z5:=Tryz.sizeOf5
 v5:=Tryz.zeroValue5
 infoByte:=by kernel_rfl
 cellsByte:=by kernel_rfl
 sizeByte:=by kernel_rfl
 neB5:=by decide}
open Go.RowKit in
theorem Tryz.Builder_String_any (B b:Nat)(l:List UInt8)(w:World)(h:Lib.IsBuilder 189 5 B b (Lib.byteCells l) w)(hBw:B<=w.heap.size) :
    Calls Tryz.prog 127 #[.pointer (some ⟨b,0,none⟩)] w fun e w'=>e = .returned (.string ⟨l.toArray⟩)/\Below B w w':=Any.Builder_String_any Tryz.lays169 Tryz.Builder_Extra_169 B b l w h hBw
end Go.Proofs
end
namespace Go.Proofs.YtnmpibjlnninjaaGreatDoor
set_option linter.unusedVariables false
set_option linter.unusedSimpArgs false
set_option maxRecDepth 100000
set_option maxHeartbeats 90000000
section
open Go Go.RowKit
section
variable {s:oW} {d m:bZ} {e:Int}
theorem Vn (h:ck1 s d=(m,e))(he:¬ e=0):cj s d=(s,m,e):=by
 simp_all [JD,Sy,ck2,aN,cj,nY,if_neg]
theorem Vo (h:ck1 s d=(m,e))(he:e=0)(h2:¬ (aN m).2=0):cj s d=(s,aN m):=by
 simp_all [JD,aN,Sy,ck2,cj,mg,nY,if_neg]
theorem Vp (h:ck1 s d=(m,e))(he:e=0)(h2:(aN m).2=0)(h3:¬ (aP (aN m).1 ((s.Epoch+1) % 2) (cK (vI s))).2=0):cj s d=(s,aP (aN m).1 ((s.Epoch+1) % 2) (cK (vI s))):=by
 have h4:JD s d=aP (aN m).1 ((s.Epoch+1) % 2) (cK (vI s)):=by
  grind [JD,Sy,ck2,aN,mg,nY]
 simp_all [cj,if_neg]
theorem Vq (h:ck1 s d=(m,e))(he:e=0)(h2:(aN m).2=0)(h3:(aP (aN m).1 ((s.Epoch+1) % 2) (cK (vI s))).2=0)(h5:¬ (aN (aP (aN m).1 ((s.Epoch+1) % 2) (cK (vI s))).1).2=0) :
 cj s d=(s,aN (aP (aN m).1 ((s.Epoch+1) % 2) (cK (vI s))).1):=by
 have h4:JD s d=aN (aP (aN m).1 ((s.Epoch+1) % 2) (cK (vI s))).1:=by
  grind [JD,Sy,ck2,aN,mg]
 simp_all [cj,if_neg]
theorem Vr (h:ck1 s d=(m,e))(he:e=0)(h2:(aN m).2=0)(h3:(aP (aN m).1 ((s.Epoch+1) % 2) (cK (vI s))).2=0)(h5:(aN (aP (aN m).1 ((s.Epoch+1) % 2) (cK (vI s))).1).2=0) :
 cj s d=(Vk s (aN (aP (aN m).1 ((s.Epoch+1) % 2) (cK (vI s))).1).1,(aN (aP (aN m).1 ((s.Epoch+1) % 2) (cK (vI s))).1).1,0):=by
 have h4:JD s d=aN (aP (aN m).1 ((s.Epoch+1) % 2) (cK (vI s))).1:=by
  grind [JD,Sy,ck2,aN,mg]
 simp_all [cj,if_pos]
theorem MF (h:(aN d).2=0):(aN d).1.Down=false:=by
 unfold aN at h ⊢
 split
 .
  rename_i h0
  by_cases hd:d.Down=true
  .grind [xZ]
  grind [sq,tK]
 grind
end
section
variable {s:oW} {d:bZ} {l:List Change} {e:Int} {n m:Nat}
theorem uR {f:Int}{t:ByteArray}:∀ (k i:Nat) (d:bZ) (m:Nat),fx n m d->fx n (m+k) (gY f t k i d).1
 | 0,i,d,m,h=>h
 | k+1,i,d,m,h=>by
  rw [gY]
  split
  .
   split
   .
    have:=uR (f:=f) (t:=t) k (i+1) _ (m+1) (h.write (f+(i:Int)) (t.extract (i*48) (i*48+min 48 (t.size-i*48))))
    grind
   exact (h.write _ _).up ae
  exact h.up ae
theorem yN {x:bZ×Int}{f:bZ->bZ×Int}{a b:Nat}(h:fx n a x.1)(hab:a<=b)(hf:∀e,fx n a e->fx n b (f e).1):fx n b (rN x f).1:=by
 unfold rN;split
 .grind
 exact h.up hab
theorem MG (h:fx n m d)(ht:(bB s.Rows).size<=2400):fx n (m+2500) (cj s d).2.1:=by
 have h1:fx n (m+2401) (ck1 s d).1:=(uR _ 0 d m h).up ae
 have h2:fx n (m+2401) (ck2 s d).1:=yN h1 (Nat.le_refl _) fun e he=>he.flush
 have h3:fx n (m+2402) (Sy s d).1:=yN h2 ae fun e he=>he.write _ _
 have h4:fx n (m+2402) (JD s d).1:=yN h3 (Nat.le_refl _) fun e he=>he.flush
 unfold cj;split <;> exact h4.up ae
theorem SD (h:(cj s d).2.2=0):(cj s d).1=Vk s (cj s d).2.1:=by
 unfold cj at h ⊢
 grind
end
section
variable {s:oW} {d:bZ} {l:List Change} {e:Int} {n m:Nat}
theorem Vs (h:62<l.length):bF s d l=(s,d,2):=by
 simp_all [mh,bF,if_pos]
theorem Vt (h0:¬ 62<l.length)(he:gI l=e)(h:¬ e=0):bF s d l=(s,d,e):=by
 simp_all [mh,bF,if_neg,if_pos]
theorem QA (h0:¬ 62<l.length)(h1:gI l=0)(h:60<(bI s.Rows l).length∨(d.Now.length:Int)-102<(l.length:Int)+1):bF s d l=(s,d,9):=by
 simp_all [mh,bF,if_neg,if_pos]
theorem yO (h0:¬ 62<l.length)(h1:gI l=0)(h:¬ (60<(bI s.Rows l).length∨(d.Now.length:Int)-102<(l.length:Int)+1)):mh s d.Now.length l=0:=by
 simp_all [mh,if_neg]
theorem QB (hf:mh s d.Now.length l=0)(hr:s.L.Many-s.L.Next<(l.length:Int)+1)(he:¬ (cj s d).2.2=0):bF s d l=cj s d:=by
 simp_all [CC,cj,bF,if_pos,if_neg]
theorem QC (hf:mh s d.Now.length l=0)(hr:s.L.Many-s.L.Next<(l.length:Int)+1)(he:(cj s d).2.2=0)(ha:(cw (cj s d).1.L (cj s d).2.1 l).2.2=0) :
 bF s d l=(tT (cj s d).1 (cw (cj s d).1.L (cj s d).2.1 l).1 (bI s.Rows l),(cw (cj s d).1.L (cj s d).2.1 l).2.1,(cw (cj s d).1.L (cj s d).2.1 l).2.2):=by
 simp_all [CC,cj,bF,MC,if_pos,if_neg]
theorem QD (hf:mh s d.Now.length l=0)(hr:s.L.Many-s.L.Next<(l.length:Int)+1)(he:(cj s d).2.2=0)(ha:¬ (cw (cj s d).1.L (cj s d).2.1 l).2.2=0) :
 bF s d l=(tT (cj s d).1 (cw (cj s d).1.L (cj s d).2.1 l).1 (cj s d).1.Rows,(cw (cj s d).1.L (cj s d).2.1 l).2.1,(cw (cj s d).1.L (cj s d).2.1 l).2.2):=by
 simp_all [CC,cj,bF,MC,if_pos,if_neg]
theorem QE (hf:mh s d.Now.length l=0)(hr:¬ s.L.Many-s.L.Next<(l.length:Int)+1)(ha:(cw s.L d l).2.2=0) :
 bF s d l=(tT s (cw s.L d l).1 (bI s.Rows l),(cw s.L d l).2.1,(cw s.L d l).2.2):=by
 have hp:CC s d l=(s,d,0):=if_neg hr
 unfold bF;rw [hf,if_neg aD,hp,if_neg (fun hh=>hh rfl)];simp_all [MC,if_pos]
theorem QF (hf:mh s d.Now.length l=0)(hr:¬ s.L.Many-s.L.Next<(l.length:Int)+1)(ha:¬ (cw s.L d l).2.2=0) :
 bF s d l=(tT s (cw s.L d l).1 s.Rows,(cw s.L d l).2.1,(cw s.L d l).2.2):=by
 have hp:CC s d l=(s,d,0):=if_neg hr
 unfold bF;rw [hf,if_neg aD,hp,if_neg (fun hh=>hh rfl)];simp_all [MC,if_neg]
end
section
variable {d m:bZ} {e:Int}
theorem JE (h:d.Now.length<166):dM d=(d,9):=if_pos h
theorem QG (h0:¬ d.Now.length<166)(h:zG d=(m,e))(he:¬ e=0):dM d=(m,e):=by
 simp_all [dM,MB,MA,Mz,aN,if_neg,nY]
theorem Vu (h0:¬ d.Now.length<166)(h:zG d=(m,e))(he:e=0)(h2:¬ (aN m).2=0):dM d=aN m:=by
 simp_all [dM,MB,MA,Mz,aN,if_neg,mg,nY]
theorem Vv (h0:¬ d.Now.length<166)(h:zG d=(m,e))(he:e=0)(h2:(aN m).2=0)(h3:¬ (aP (aN m).1 1 (cK ⟨1,0,0,1⟩)).2=0):dM d=aP (aN m).1 1 (cK ⟨1,0,0,1⟩):=by
 simp_all [dM,MB,MA,Mz,aN,if_neg,mg,nY]
theorem QH (h0:¬ d.Now.length<166)(h:zG d=(m,e))(he:e=0)(h2:(aN m).2=0)(h3:(aP (aN m).1 1 (cK ⟨1,0,0,1⟩)).2=0):dM d=aN (aP (aN m).1 1 (cK ⟨1,0,0,1⟩)).1:=by
 unfold dM;rw [if_neg h0];grind [MB,MA,Mz,aN,mg]
end
theorem SE {d m:bZ}{e:Int}(h0:¬ d.Now.length<166)(h:zG d=(m,e))(he:e=0)(h2:(aN m).2=0)(h3:(aP (aN m).1 1 (cK ⟨1,0,0,1⟩)).2=0):dM d=aN (aP (aN m).1 1 (cK ⟨1,0,0,1⟩)).1:=QH h0 h he h2 h3
end
section
open Go Go.RowKit
attribute [local irreducible] Run Rg Rq Qt Qa Stp Dg Do Dm bN
theorem qW (n:Int)(w:World)(hn:0<=n/\n<=9000000000000000000):Calls Tryz.prog 130 #[iV n] w fun e w'=>e = .returned (.string (bW n))/\Ext w w':=by
 refine R.eV ?_
 refine R.q (q.mJ O (by rw [Tryz.underlying3];rfl) Tryz.underlying5 pR) O<|U ?_
 refine R.q (q.shr (r:=n / 256) O O aD (IW (D:=256) aD aD)) O<|R.q (q.mJ O (by rw [Tryz.underlying3];rfl) Tryz.underlying5 pR) O<|U ?_
 refine R.q (q.shr (r:=n / 65536) O O aD (IW (D:=65536) aD aD)) O<|R.q (q.mJ O (by rw [Tryz.underlying3];rfl) Tryz.underlying5 pR) O<|U ?_
 refine R.q (q.shr (r:=n / 16777216) O O aD (IW (D:=16777216) aD aD)) O<|R.q (q.mJ O (by rw [Tryz.underlying3];rfl) Tryz.underlying5 pR) O<|R.s O (s.bs (l:=([u8 (n % 256),u8 ((n / 256) % 256),u8 ((n / 65536) % 256),u8 ((n / 16777216) % 256)]:List UInt8)) aM dH O O O O O (bO (eR ae) (bO (eR ae) (bO (eR ae) (bO (eR ae) eM)))) O) fun b1=>?_
 refine R.q (q.jg (cm 0 O) O aM Tryz.underlying5 Tryz.underlying9) O<|U ?_
 refine R.rt ?_
 rfl
theorem ef (sx:ByteArray)(w:World)(hs:4<=sx.size):Calls Tryz.prog 134 #[.string sx] w fun e w'=>e = .returned (iV (iH sx:Int))/\Ext w w':=by
 refine R.eV ?_
 obtain ⟨y1,hy1⟩:∃z,sx.data[0]? = some z:=⟨_,Array.getElem?_eq_getElem (show 0<sx.size from by omega)⟩
 have Vi:=y1.toNat_lt
 obtain ⟨y2,hy2⟩:∃z,sx.data[1]? = some z:=⟨_,Array.getElem?_eq_getElem (show 1<sx.size from by omega)⟩
 have Vj:=y2.toNat_lt
 obtain ⟨y3,hy3⟩:∃z,sx.data[2]? = some z:=⟨_,Array.getElem?_eq_getElem (show 2<sx.size from by omega)⟩
 have Wc:=y3.toNat_lt
 obtain ⟨y4,hy4⟩:∃z,sx.data[3]? = some z:=⟨_,Array.getElem?_eq_getElem (show 3<sx.size from by omega)⟩
 have X3:=y4.toNat_lt
 refine R.cG O mixed ao<|U ?_
 refine Q.q (q.gW (i:=0) O O Tryz.underlying9 O hy1) O<|Q.q (q.mJ (r:=((y1.toNat:Nat):Int)) O (by rw [Tryz.underlying5];rfl) Tryz.underlying3 (wr ae)) O<|U ?_
 refine Q.q (q.gW (i:=1) O O Tryz.underlying9 O hy2) O<|Q.q (q.mJ (r:=((y2.toNat:Nat):Int)) O (by rw [Tryz.underlying5];rfl) Tryz.underlying3 (wr ae)) O<|Q.q (q.shl (r:=(((y2.toNat*256):Nat):Int)) O O aD (SA 256 aD (by have:=y2.toNat_lt;omega))) O<|Q.q (q.or (r:=(((y1.toNat+(y2.toNat*256)):Nat):Int)) O O (W5 8 256 O (by have:=y1.toNat_lt;have:=y2.toNat_lt;omega) (by have:=y1.toNat_lt;have:=y2.toNat_lt;omega))) O<|U ?_
 refine Q.q (q.gW (i:=2) O O Tryz.underlying9 O hy3) O<|Q.q (q.mJ (r:=((y3.toNat:Nat):Int)) O (by rw [Tryz.underlying5];rfl) Tryz.underlying3 (wr ae)) O<|Q.q (q.shl (r:=(((y3.toNat*65536):Nat):Int)) O O aD (SA 65536 aD (by have:=y3.toNat_lt;omega))) O<|Q.q (q.or (r:=((((y1.toNat+(y2.toNat*256))+(y3.toNat*65536)):Nat):Int)) O O (W5 16 65536 O (by have:=y1.toNat_lt;have:=y2.toNat_lt;have:=y3.toNat_lt;omega) (by have:=y1.toNat_lt;have:=y2.toNat_lt;have:=y3.toNat_lt;omega))) O<|U ?_
 refine Q.q (q.gW (i:=3) O O Tryz.underlying9 O hy4) O<|Q.q (q.mJ (r:=((y4.toNat:Nat):Int)) O (by rw [Tryz.underlying5];rfl) Tryz.underlying3 (wr ae)) O<|Q.q (q.shl (r:=(((y4.toNat*16777216):Nat):Int)) O O aD (SA 16777216 aD (by have:=y4.toNat_lt;omega))) O<|Q.q (q.or (r:=(((((y1.toNat+(y2.toNat*256))+(y3.toNat*65536))+(y4.toNat*16777216)):Nat):Int)) O O (W5 24 16777216 O (by have:=y1.toNat_lt;have:=y2.toNat_lt;have:=y3.toNat_lt;have:=y4.toNat_lt;omega) (by have:=y1.toNat_lt;have:=y2.toNat_lt;have:=y3.toNat_lt;have:=y4.toNat_lt;omega))) O<|U ?_
 refine R.rt ?_
 (unfold iH;rw [aH hy1,aH hy2,aH hy3,aH hy4])
theorem AX (h:zB)(w:World)(hn:0<=h.Epoch/\h.Epoch<=9000000000000000000/\0<=h.Side/\h.Side<=9000000000000000000/\0<=h.Size/\h.Size<=9000000000000000000/\0<=h.First/\h.First<=9000000000000000000):Calls Tryz.prog 73 #[.agg #[iV h.Epoch,iV h.Side,iV h.Size,iV h.First]] w fun e w'=>e = .returned (.string (cK h))/\Ext w w':=by
 refine R.eV ?_
 refine R.nb fun b1=>?_
 refine R.cG O mixed ao<|U ?_
 refine Q.c (q.call Cn O O (fun w hw=>qW h.Epoch w ae)) O<|Q.q (q.bU O O) O<|U ?_
 refine Q.c (q.call Cn O O (fun w hw=>qW h.Side w ae)) O<|Q.q (q.bU O O) O<|U ?_
 refine Q.c (q.call Cn O O (fun w hw=>qW h.Size w ae)) O<|Q.q (q.bU O O) O<|U ?_
 refine Q.c (q.call Cn O O (fun w hw=>qW h.First w ae)) O<|Q.q (q.bU O O) O<|U ?_
 refine R.rt ?_
 rfl
theorem GA (sx:ByteArray)(w:World)(own:List Nat)(H:HN w own [] [])(hs:sx.size=48):RS Tryz.prog 78 #[.string sx] H (cY sx) (fun s (_:Unit) => .agg #[iV s.Epoch,iV s.Side,iV s.Size,iV s.First]) (fun _ _=>[]) (fun _ _=>[]):=by
 refine R.eN H ?_
 refine R.nb fun b1=>?_
 refine R.dC (fuel:=15) [0,1] O O mixed O ?_
 refine D.l [0,1,3,4,6,7,9,10] [0,1] [] O<|U ?_
 refine Dm.yy O O (q.Dq (i:=1) (j:=5) O O O Tryz.underlying9 O O ae ae) O<|U ?_
 refine Dm.yy O O (q.Dq (i:=5) (j:=9) O O O Tryz.underlying9 O O ae ae) O<|U ?_
 refine Dm.yy O O (q.Dq (i:=9) (j:=13) O O O Tryz.underlying9 O O ae ae) O<|U ?_
 refine Dm.yy O O (q.Dq (i:=13) (j:=17) O O O Tryz.underlying9 O O ae ae) O<|U ?_
 refine D.two (i:=2) (j:=13) O O ?_ ?_
 .
  refine Do.p [0,1] [] (s.c (q.call jR O O (fun w hw=>ef (sx.extract 1 5) w (by rw [ByteArray.size_extract];omega))) O) fun _=>?_
  refine D.two (i:=5) (j:=13) O O ?_ ?_
  .
   refine Do.p [0,1] [] (s.c (q.call jR O O (fun w hw=>ef (sx.extract 5 9) w (by rw [ByteArray.size_extract];omega))) O) fun _=>?_
   refine D.two (i:=8) (j:=13) O O ?_ ?_
   .
    refine Do.p [0,1] [] (s.c (q.call jR O O (fun w hw=>ef (sx.extract 9 13) w (by rw [ByteArray.size_extract];omega))) O) fun _=>?_
    refine D.two (i:=11) (j:=13) O O ?_ ?_
    .
     refine Do.p [0,1] [] (s.c (q.call jR O O (fun w hw=>ef (sx.extract 13 17) w (by rw [ByteArray.size_extract];omega))) O) fun _=>?_
     refine D.l [12] [0,1] [] O<|U ?_
     refine D.p 13 O [1,2] [] (s.alloc (cs:=[iV 0,iV 0,iV 0,iV 0]) kx O O) fun b2=>?_
     refine D.p 14 O [1,2] [] (s.st (us:=[iV (iH (sx.extract 1 5):Int),iV (iH (sx.extract 5 9):Int),iV (iH (sx.extract 9 13):Int),iV (iH (sx.extract 13 17):Int)]) (cs':=[iV (iH (sx.extract 1 5):Int),iV (iH (sx.extract 5 9):Int),iV (iH (sx.extract 9 13):Int),iV (iH (sx.extract 13 17):Int)]) 0 _ O O O O (.inl iW) O O O O) fun _=>?_
     refine D.done<|U ?_
     obtain ⟨y1,hy1⟩:∃z,sx.data[0]? = some z:=⟨_,Array.getElem?_eq_getElem (show 0<sx.size from by omega)⟩
     have Vi:=y1.toNat_lt
     refine R.q (q.gW (i:=0) O O Tryz.underlying9 O hy1) O ?_
     refine C (y1.toNat=72) ?_ ?_ <;> intro h1
     .
      refine C (1<iH (sx.extract 5 9)) ?_ ?_ <;> intro h2
      .
       rw [show cY sx=_ from by (rewrite [cZ (by unfold fa;(rewrite [aH hy1]);omega)]) <;> rfl]
       exact R.x1 () [2] []
      refine C (2400<iH (sx.extract 9 13)) ?_ ?_ <;> intro h3
      .
       rw [show cY sx=_ from by (rewrite [cZ (by unfold fa;(rewrite [aH hy1]);omega)]) <;> rfl]
       exact R.x1 () [2] []
      refine C (iH (sx.extract 13 17)<1) ?_ ?_ <;> intro h4
      .
       rw [show cY sx=_ from by (rewrite [cZ (by unfold fa;(rewrite [aH hy1]);omega)]) <;> rfl]
       exact R.x1 () [2] []
      rw [show cY sx=_ from by (rewrite [me (by unfold fa;(rewrite [aH hy1]);omega)]) <;> rfl]
      exact R.x1 () [2] []
     rw [show cY sx=_ from by (rewrite [cZ (by unfold fa;(rewrite [aH hy1]);omega)]) <;> rfl]
     exact R.x1 () [2] []
    refine Do.p [1,2] [] (s.alloc (cs:=[iV 0,iV 0,iV 0,iV 0]) kx O O) fun b3=>?_
    refine D.p 11 O [1,2] [] (s.c (q.call jR O O (fun w hw=>ef (sx.extract 13 17) w (by rw [ByteArray.size_extract];omega))) O) fun _=>?_
    refine D.l [12] [1,2] [] O<|U ?_
    refine D.p 14 O [1,2] [] (s.st (us:=[iV (iH (sx.extract 1 5):Int),iV (iH (sx.extract 5 9):Int),iV (iH (sx.extract 9 13):Int),iV (iH (sx.extract 13 17):Int)]) (cs':=[iV (iH (sx.extract 1 5):Int),iV (iH (sx.extract 5 9):Int),iV (iH (sx.extract 9 13):Int),iV (iH (sx.extract 13 17):Int)]) 0 _ O O O O (.inl iW) O O O O) fun _=>?_
    refine D.done<|U ?_
    obtain ⟨y2,hy2⟩:∃z,sx.data[0]? = some z:=⟨_,Array.getElem?_eq_getElem (show 0<sx.size from by omega)⟩
    have Vj:=y2.toNat_lt
    refine R.q (q.gW (i:=0) O O Tryz.underlying9 O hy2) O ?_
    refine C (y2.toNat=72) ?_ ?_ <;> intro h5
    .
     refine C (1<iH (sx.extract 5 9)) ?_ ?_ <;> intro h6
     .
      rw [show cY sx=_ from by (rewrite [cZ (by unfold fa;(rewrite [aH hy2]);omega)]) <;> rfl]
      exact R.x1 () [2] []
     refine C (2400<iH (sx.extract 9 13)) ?_ ?_ <;> intro h7
     .
      rw [show cY sx=_ from by (rewrite [cZ (by unfold fa;(rewrite [aH hy2]);omega)]) <;> rfl]
      exact R.x1 () [2] []
     refine C (iH (sx.extract 13 17)<1) ?_ ?_ <;> intro h8
     .
      rw [show cY sx=_ from by (rewrite [cZ (by unfold fa;(rewrite [aH hy2]);omega)]) <;> rfl]
      exact R.x1 () [2] []
     rw [show cY sx=_ from by (rewrite [me (by unfold fa;(rewrite [aH hy2]);omega)]) <;> rfl]
     exact R.x1 () [2] []
    rw [show cY sx=_ from by (rewrite [cZ (by unfold fa;(rewrite [aH hy2]);omega)]) <;> rfl]
    exact R.x1 () [2] []
   refine Do.p [1,2] [] (s.alloc (cs:=[iV 0,iV 0,iV 0,iV 0]) kx O O) fun b4=>?_
   refine D.p 8 O [1,2] [] (s.c (q.call jR O O (fun w hw=>ef (sx.extract 9 13) w (by rw [ByteArray.size_extract];omega))) O) fun _=>?_
   refine D.p 11 O [1,2] [] (s.c (q.call jR O O (fun w hw=>ef (sx.extract 13 17) w (by rw [ByteArray.size_extract];omega))) O) fun _=>?_
   refine D.l [12] [1,2] [] O<|U ?_
   refine D.p 14 O [1,2] [] (s.st (us:=[iV (iH (sx.extract 1 5):Int),iV (iH (sx.extract 5 9):Int),iV (iH (sx.extract 9 13):Int),iV (iH (sx.extract 13 17):Int)]) (cs':=[iV (iH (sx.extract 1 5):Int),iV (iH (sx.extract 5 9):Int),iV (iH (sx.extract 9 13):Int),iV (iH (sx.extract 13 17):Int)]) 0 _ O O O O (.inl iW) O O O O) fun _=>?_
   refine D.done<|U ?_
   obtain ⟨y3,hy3⟩:∃z,sx.data[0]? = some z:=⟨_,Array.getElem?_eq_getElem (show 0<sx.size from by omega)⟩
   have Wc:=y3.toNat_lt
   refine R.q (q.gW (i:=0) O O Tryz.underlying9 O hy3) O ?_
   refine C (y3.toNat=72) ?_ ?_ <;> intro h9
   .
    refine C (1<iH (sx.extract 5 9)) ?_ ?_ <;> intro h10
    .
     rw [show cY sx=_ from by (rewrite [cZ (by unfold fa;(rewrite [aH hy3]);omega)]) <;> rfl]
     exact R.x1 () [2] []
    refine C (2400<iH (sx.extract 9 13)) ?_ ?_ <;> intro h11
    .
     rw [show cY sx=_ from by (rewrite [cZ (by unfold fa;(rewrite [aH hy3]);omega)]) <;> rfl]
     exact R.x1 () [2] []
    refine C (iH (sx.extract 13 17)<1) ?_ ?_ <;> intro h12
    .
     rw [show cY sx=_ from by (rewrite [cZ (by unfold fa;(rewrite [aH hy3]);omega)]) <;> rfl]
     exact R.x1 () [2] []
    rw [show cY sx=_ from by (rewrite [me (by unfold fa;(rewrite [aH hy3]);omega)]) <;> rfl]
    exact R.x1 () [2] []
   rw [show cY sx=_ from by (rewrite [cZ (by unfold fa;(rewrite [aH hy3]);omega)]) <;> rfl]
   exact R.x1 () [2] []
  refine Do.p [1,2] [] (s.alloc (cs:=[iV 0,iV 0,iV 0,iV 0]) kx O O) fun b5=>?_
  refine D.p 5 O [1,2] [] (s.c (q.call jR O O (fun w hw=>ef (sx.extract 5 9) w (by rw [ByteArray.size_extract];omega))) O) fun _=>?_
  refine D.p 8 O [1,2] [] (s.c (q.call jR O O (fun w hw=>ef (sx.extract 9 13) w (by rw [ByteArray.size_extract];omega))) O) fun _=>?_
  refine D.p 11 O [1,2] [] (s.c (q.call jR O O (fun w hw=>ef (sx.extract 13 17) w (by rw [ByteArray.size_extract];omega))) O) fun _=>?_
  refine D.l [12] [1,2] [] O<|U ?_
  refine D.p 14 O [1,2] [] (s.st (us:=[iV (iH (sx.extract 1 5):Int),iV (iH (sx.extract 5 9):Int),iV (iH (sx.extract 9 13):Int),iV (iH (sx.extract 13 17):Int)]) (cs':=[iV (iH (sx.extract 1 5):Int),iV (iH (sx.extract 5 9):Int),iV (iH (sx.extract 9 13):Int),iV (iH (sx.extract 13 17):Int)]) 0 _ O O O O (.inl iW) O O O O) fun _=>?_
  refine D.done<|U ?_
  obtain ⟨y4,hy4⟩:∃z,sx.data[0]? = some z:=⟨_,Array.getElem?_eq_getElem (show 0<sx.size from by omega)⟩
  have X3:=y4.toNat_lt
  refine R.q (q.gW (i:=0) O O Tryz.underlying9 O hy4) O ?_
  refine C (y4.toNat=72) ?_ ?_ <;> intro Tr
  .
   refine C (1<iH (sx.extract 5 9)) ?_ ?_ <;> intro Wb
   .
    rw [show cY sx=_ from by (rewrite [cZ (by unfold fa;(rewrite [aH hy4]);omega)]) <;> rfl]
    exact R.x1 () [2] []
   refine C (2400<iH (sx.extract 9 13)) ?_ ?_ <;> intro W4
   .
    rw [show cY sx=_ from by (rewrite [cZ (by unfold fa;(rewrite [aH hy4]);omega)]) <;> rfl]
    exact R.x1 () [2] []
   refine C (iH (sx.extract 13 17)<1) ?_ ?_ <;> intro h16
   .
    rw [show cY sx=_ from by (rewrite [cZ (by unfold fa;(rewrite [aH hy4]);omega)]) <;> rfl]
    exact R.x1 () [2] []
   rw [show cY sx=_ from by (rewrite [me (by unfold fa;(rewrite [aH hy4]);omega)]) <;> rfl]
   exact R.x1 () [2] []
  rw [show cY sx=_ from by (rewrite [cZ (by unfold fa;(rewrite [aH hy4]);omega)]) <;> rfl]
  exact R.x1 () [2] []
 refine Do.p [1,2] [] (s.alloc (cs:=[iV 0,iV 0,iV 0,iV 0]) kx O O) fun b6=>?_
 refine D.p 2 O [1,2] [] (s.c (q.call jR O O (fun w hw=>ef (sx.extract 1 5) w (by rw [ByteArray.size_extract];omega))) O) fun _=>?_
 refine D.p 5 O [1,2] [] (s.c (q.call jR O O (fun w hw=>ef (sx.extract 5 9) w (by rw [ByteArray.size_extract];omega))) O) fun _=>?_
 refine D.p 8 O [1,2] [] (s.c (q.call jR O O (fun w hw=>ef (sx.extract 9 13) w (by rw [ByteArray.size_extract];omega))) O) fun _=>?_
 refine D.p 11 O [1,2] [] (s.c (q.call jR O O (fun w hw=>ef (sx.extract 13 17) w (by rw [ByteArray.size_extract];omega))) O) fun _=>?_
 refine D.l [12] [1,2] [] O<|U ?_
 refine D.p 14 O [1,2] [] (s.st (us:=[iV (iH (sx.extract 1 5):Int),iV (iH (sx.extract 5 9):Int),iV (iH (sx.extract 9 13):Int),iV (iH (sx.extract 13 17):Int)]) (cs':=[iV (iH (sx.extract 1 5):Int),iV (iH (sx.extract 5 9):Int),iV (iH (sx.extract 9 13):Int),iV (iH (sx.extract 13 17):Int)]) 0 _ O O O O (.inl iW) O O O O) fun _=>?_
 refine D.done<|U ?_
 obtain ⟨y5,Gw⟩:∃z,sx.data[0]? = some z:=⟨_,Array.getElem?_eq_getElem (show 0<sx.size from by omega)⟩
 have Y3:=y5.toNat_lt
 refine R.q (q.gW (i:=0) O O Tryz.underlying9 O Gw) O ?_
 refine C (y5.toNat=72) ?_ ?_ <;> intro Vh
 .
  refine C (1<iH (sx.extract 5 9)) ?_ ?_ <;> intro h18
  .
   rw [show cY sx=_ from by (rewrite [cZ (by unfold fa;(rewrite [aH Gw]);omega)]) <;> rfl]
   exact R.x1 () [2] []
  refine C (2400<iH (sx.extract 9 13)) ?_ ?_ <;> intro h19
  .
   rw [show cY sx=_ from by (rewrite [cZ (by unfold fa;(rewrite [aH Gw]);omega)]) <;> rfl]
   exact R.x1 () [2] []
  refine C (iH (sx.extract 13 17)<1) ?_ ?_ <;> intro h20
  .
   rw [show cY sx=_ from by (rewrite [cZ (by unfold fa;(rewrite [aH Gw]);omega)]) <;> rfl]
   exact R.x1 () [2] []
  rw [show cY sx=_ from by (rewrite [me (by unfold fa;(rewrite [aH Gw]);omega)]) <;> rfl]
  exact R.x1 () [2] []
 rw [show cY sx=_ from by (rewrite [cZ (by unfold fa;(rewrite [aH Gw]);omega)]) <;> rfl]
 exact R.x1 () [2] []
structure gZ where
  Epoch:Int
  Side:Int
  Size:Int
  First:Int
  Rows:List Change
def oW.c (st:oW):gZ:=⟨st.Epoch,st.Side,st.Size,st.First,st.Rows⟩
theorem EV {t:ByteArray}{x y z:UInt8}(hx:t.data[0]? = some x)(hy:t.data[1]? = some y)(hz:t.data[2]? = some z):qq t=3+x.toNat+y.toNat+256*z.toNat:=by
 unfold qq;rw [aH hx,aH hy,aH hz]
theorem MH {t:ByteArray}{x y z:UInt8}{c:Change}(hx:t.data[0]? = some x)(hy:t.data[1]? = some y)(hz:t.data[2]? = some z)(hc:c=⟨t.extract 3 (3+x.toNat),t.extract (3+x.toNat) (3+x.toNat+y.toNat+256*z.toNat),false⟩):yK t=c:=by
 rw [hc];unfold yK;rw [EV hx hy hz,aH hx]
theorem JF (sx:ByteArray)(w:World)(own:List Nat)(H:HN w own [] [])(hs:sx.size<=2400):RC Tryz.prog 79 #[.string sx] H (fun z:Value => .tuple #[z,.bool (eP sx).2]) (fun z=>[ah.row 115 z (eP sx).1]) (fun _=>[]):=by
 refine R.eN H ?_
 refine R.row0 (α:=Change) 115<|R.loop (fun g_:ByteArray×Nat×Value×(List Change)=>[(0,.string g_.1),(4,g_.2.2.1)]) (fun g_=>[ah.row 115 g_.2.2.1 g_.2.2.2,ah.held w own]) (fun g_=>[]) (fun g_=>g_.1.size+g_.2.2.2.length<=2400/\g_.1.size<g_.2.1/\pF g_.2.1 g_.1 g_.2.2.2=eP sx) (fun g_=>g_.2.1) (sx,sx.size+1,nS,[]) O (by dsimp only;exact ⟨aE,ae,rfl⟩) (sF O) (dE [0,1] [] O) ?_
 rintro ⟨tt,k,u,rs⟩ ⟨hl,hk,HP⟩
 dsimp only at *
 refine U ?_
 refine C (tt=⟨#[]⟩) ?_ ?_ <;> intro h1
 .
  refine R.q (q.pw O O h1) O<|U ?_
  rw [show eP sx=_ from (OM HP hk af)]
  exact R.x2 u [0,1] []
 refine R.q (q.rG O O h1) O<|U ?_
 refine C (tt.size<3) ?_ ?_ <;> intro h2
 .
  refine R.cG O mixed ao<|U ?_
  refine R.row0 (α:=Change) 115 ?_
  rw [show eP sx=_ from (Ix HP hk af (.inl ae))]
  exact R.x2 nS [0,2] []
 obtain ⟨y1,hy1⟩:∃z,tt.data[0]? = some z:=⟨_,Array.getElem?_eq_getElem (show 0<tt.size from by omega)⟩
 have Vi:=y1.toNat_lt
 obtain ⟨y2,hy2⟩:∃z,tt.data[1]? = some z:=⟨_,Array.getElem?_eq_getElem (show 1<tt.size from by omega)⟩
 have Vj:=y2.toNat_lt
 obtain ⟨y3,hy3⟩:∃z,tt.data[2]? = some z:=⟨_,Array.getElem?_eq_getElem (show 2<tt.size from by omega)⟩
 have Wc:=y3.toNat_lt
 refine C (tt.size<(((3+y1.toNat)+y2.toNat)+(256*y3.toNat))) ?_ ?_ <;> intro h3
 .
  refine R.cG O mixed ao<|U ?_
  refine Q.qg O (q.gW (i:=0) O O Tryz.underlying9 O hy1) O<|Q.qg O (q.mJ (r:=((y1.toNat:Nat):Int)) O (by rw [Tryz.underlying5];rfl) Tryz.underlying3 (wr ae)) O<|U ?_
  refine Q.qg O (q.gW (i:=1) O O Tryz.underlying9 O hy2) O<|Q.qg O (q.mJ (r:=((y2.toNat:Nat):Int)) O (by rw [Tryz.underlying5];rfl) Tryz.underlying3 (wr ae)) O<|U ?_
  refine Q.qg O (q.gW (i:=2) O O Tryz.underlying9 O hy3) O<|Q.qg O (q.mJ (r:=((y3.toNat:Nat):Int)) O (by rw [Tryz.underlying5];rfl) Tryz.underlying3 (wr ae)) O<|Q.qg O (q.ug (r:=((256*y3.toNat:Nat):Int)) O O) O<|U ?_
  refine R.row0 (α:=Change) 115 ?_
  rw [show eP sx=_ from by (exact (Ix HP hk af (.inr (by rewrite [EV hy1 hy2 hy3];omega)))) <;> rfl]
  exact R.x2 nS [0,2] []
 refine R.cG O mixed ao<|U ?_
 refine Q.qg O (q.gW (i:=0) O O Tryz.underlying9 O hy1) O<|Q.qg O (q.mJ (r:=((y1.toNat:Nat):Int)) O (by rw [Tryz.underlying5];rfl) Tryz.underlying3 (wr ae)) O<|U ?_
 refine Q.qg O (q.gW (i:=1) O O Tryz.underlying9 O hy2) O<|Q.qg O (q.mJ (r:=((y2.toNat:Nat):Int)) O (by rw [Tryz.underlying5];rfl) Tryz.underlying3 (wr ae)) O<|U ?_
 refine Q.qg O (q.gW (i:=2) O O Tryz.underlying9 O hy3) O<|Q.qg O (q.mJ (r:=((y3.toNat:Nat):Int)) O (by rw [Tryz.underlying5];rfl) Tryz.underlying3 (wr ae)) O<|Q.qg O (q.ug (r:=((256*y3.toNat:Nat):Int)) O O) O<|U ?_
 refine R.q (q.gW (i:=0) O O Tryz.underlying9 O hy1) O<|R.q (q.mJ (r:=((y1.toNat:Nat):Int)) O (by rw [Tryz.underlying5];rfl) Tryz.underlying3 (wr ae)) O<|U ?_
 refine R.cG O mixed ao<|U ?_
 refine Q.q (q.gW (i:=1) O O Tryz.underlying9 O hy2) O<|Q.q (q.mJ (r:=((y2.toNat:Nat):Int)) O (by rw [Tryz.underlying5];rfl) Tryz.underlying3 (wr ae)) O<|U ?_
 refine Q.q (q.gW (i:=2) O O Tryz.underlying9 O hy3) O<|Q.q (q.mJ (r:=((y3.toNat:Nat):Int)) O (by rw [Tryz.underlying5];rfl) Tryz.underlying3 (wr ae)) O<|Q.q (q.ug (r:=((256*y3.toNat:Nat):Int)) O O) O<|U ?_
 refine R.dC (fuel:=10) [0,1] O O mixed O<|D.l bL [0,1] [] O<|U ?_
 refine Dm.yy O O (q.Dq (i:=3) (j:=(3+y1.toNat)) O O O Tryz.underlying9 O O ae ae) O<|U ?_
 refine Dm.yy O O (q.Dq (i:=(3+y1.toNat)) (j:=(((3+y1.toNat)+y2.toNat)+(256*y3.toNat))) O O O Tryz.underlying9 O O ae ae) O<|U ?_
 refine D.p 8 O [1,2] [] (s.alloc bR O O) fun b1=>?_
 refine D.p 9 O [1,2] [] (s.st 0 _ O O O O (.inl iz) O O O O) fun _=>?_
 refine D.done<|U ?_
 refine R.kc O O (fun w hw=>iG (⟨tt.extract 3 (3+y1.toNat),tt.extract (3+y1.toNat) (((3+y1.toNat)+y2.toNat)+(256*y3.toNat)),false⟩:Change) w)<|C (gu (⟨tt.extract 3 (3+y1.toNat),tt.extract (3+y1.toNat) (((3+y1.toNat)+y2.toNat)+(256*y3.toNat)),false⟩:Change)=0) ?_ ?_ <;> intro h4
 .
  refine R.s O (s.bs (l:=([(⟨tt.extract 3 (3+y1.toNat),tt.extract (3+y1.toNat) (((3+y1.toNat)+y2.toNat)+(256*y3.toNat)),false⟩:Change)]:List Change)) bX bR O O O O O O O) fun b2=>?_
  refine R.s O (s.pre (fun _ hw=>hw.aR 2 _ O O) (s.pre (fun _ hw=>hw.aR 0 _ O O) (s.aJ [0,1] [1,0] _ _ _ O O O Ma O O (fun w own hw H=>oU u rs (.slice (some ⟨b2,0,none⟩) 1 1) ([(⟨tt.extract 3 (3+y1.toNat),tt.extract (3+y1.toNat) (((3+y1.toNat)+y2.toNat)+(256*y3.toNat)),false⟩:Change)]) w own H aE) O))) fun z1=>U ?_
  refine R.q (q.Dr (i:=(((3+y1.toNat)+y2.toNat)+(256*y3.toNat))) O O Tryz.underlying9 O ae) O<|U ?_
  refine R.back ((tt.extract (((3+y1.toNat)+y2.toNat)+(256*y3.toNat)) tt.size),k-1,z1,bI rs ([(⟨tt.extract 3 (3+y1.toNat),tt.extract (3+y1.toNat) (((3+y1.toNat)+y2.toNat)+(256*y3.toNat)),false⟩:Change)])) O (by ((try dsimp only);have g:=Sx HP hk af (by rw [EV hy1 hy2 hy3];omega) (by rw [MH hy1 hy2 hy3 O];assumption);rw [EV hy1 hy2 hy3,MH hy1 hy2 hy3 O] at g;have ha:=ko [(⟨tt.extract 3 (3+y1.toNat),tt.extract (3+y1.toNat) (((3+y1.toNat)+y2.toNat)+(256*y3.toNat)),false⟩:Change)] rs;rw [List.length_singleton] at ha;exact ⟨by rw [ByteArray.size_extract];omega,g.2,g.1⟩)) aG (sF O) (ck [0,2] [] O)
 refine R.row0 (α:=Change) 115 ?_
 rw [show eP sx=_ from by (exact (JC HP hk af (by rewrite [EV hy1 hy2 hy3];omega) (by rewrite [MH hy1 hy2 hy3 rfl];assumption))) <;> rfl]
 exact R.x2 nS [0,3] []
theorem MI {k i:Nat}{m:bZ}{e:Int}{Z:bZ×Int}(h:jT k i (m,e)=Z)(he:e=0)(hk:0<k):jT (k-1) (i+1) (aP m (i:Int) ⟨#[]⟩)=Z:=by
 cases k with
 | zero=>omega
 | succ k=>rw [jT,if_pos he] at h;exact h
theorem EW {k i:Nat}{m:bZ}{e:Int}{Z:bZ×Int}(h:jT k i (m,e)=Z)(he:¬ e=0):Z=(m,e):=by
 cases k with
 | zero=>exact h.symm
 | succ k=>rw [jT,if_neg he] at h;exact h.symm
theorem uS {k i:Nat}{m:bZ}{e:Int}{Z:bZ×Int}(h:jT k i (m,e)=Z)(hk:k=0):Z=(m,e):=by subst hk;exact h.symm
theorem GB (aF:Nat)(ay aC az:Value)(dk:bZ)(w:World)(own:List Nat)(H:HN w own [ah.box aF [ay,aC,az,iV dk.Fuse,.bool dk.Down] 120,ah.row 9 ay dk.Kept,ah.row 9 aC dk.Now,ah.row 196 az dk.Wait] [])(hD:fx dk.Now.length 80000 dk/\dk.Now.length<=1000):RS Tryz.prog 61 #[pV aF] H (dM dk) (fun s (_:Value×Value×Value)=>bN s.2) (fun s z=>[ah.box aF [z.1,z.2.1,z.2.2,iV s.1.Fuse,.bool s.1.Down] 120,ah.row 9 z.1 s.1.Kept,ah.row 9 z.2.1 s.1.Now,ah.row 196 z.2.2 s.1.Wait]) (fun _ _=>[]):=by
 have eo:=H.cap 1 rfl;have eu:=H.cz 1 rfl
 have e8:=H.cap 2 rfl;have e9:=H.cz 2 rfl
 have ew:=H.cap 3 rfl;have ey:=H.cz 3 rfl
 have p0:=hD.1.fine ae ae
 refine R.eN H ?_
 refine R.kc O O (fun w hw=>fN aF ay aC az dk w (hw.b 0 O) (hw.row 1 O) (hw.row 2 O) (hw.row 3 O))<|C (dk.Now.length<166) ?_ ?_ <;> intro h1
 .
  rw [show dM dk=_ from JE ae]
  exact R.x1 (ay,aC,az) ct []
 refine R.s O (s.aJ ct [] _ _ _ O O O vF O O (fun w own hw H=>iA aF ay aC az dk 0 (⟨#[]⟩) w own H af) O) ?_
 rintro ⟨z1,z2,z3⟩
 dsimp only
 refine U ?_
 refine R.loop (fun g_:Nat×Int×bZ×Value×Value×Value=>[(0,pV aF),(3,bN g_.2.1),(4,iV ((102+g_.1):Int))]) (fun g_=>[ah.box aF [g_.2.2.2.1,g_.2.2.2.2.1,g_.2.2.2.2.2,iV g_.2.2.1.Fuse,.bool g_.2.2.1.Down] 120,ah.row 9 g_.2.2.2.1 g_.2.2.1.Kept,ah.row 9 g_.2.2.2.2.1 g_.2.2.1.Now,ah.row 196 g_.2.2.2.2.2 g_.2.2.1.Wait,ah.held w own]) (fun g_=>[]) (fun g_=>102+g_.1<=dk.Now.length/\jT (dk.Now.length-102-g_.1) (102+g_.1) (g_.2.2.1,g_.2.1)=zG dk/\fx dk.Now.length (80001+g_.1) g_.2.2.1) (fun g_=>dk.Now.length-g_.1) (0,(aP dk 0 (⟨#[]⟩)).2,(aP dk 0 (⟨#[]⟩)).1,z1,z2,z3) O (by (try dsimp only);exact ⟨ae,rfl,hD.1.write _ _⟩) (sF O) (dE ct [] O) ?_
 rintro ⟨j,e,dm,dU,fh,dV⟩ ⟨hj,HB,hO⟩
 dsimp only at *
 have ZN:=hO.nl;have p1:=hO.fine ae ae
 refine U ?_
 refine R.kc O O (fun w hw=>fN aF dU fh dV dm w (hw.b 0 O) (hw.row 1 O) (hw.row 2 O) (hw.row 3 O))<|C ((102+j)<dm.Now.length) ?_ ?_ <;> intro h2
 .
  refine C (e=0) ?_ ?_ <;> intro h3
  .
   refine R.s O (s.aJ ct [] _ _ _ O O O vF O O (fun w own hw H=>iA aF dU fh dV dm ((102+j):Int) (⟨#[]⟩) w own H af) O) ?_
   rintro ⟨z4,z5,z6⟩
   dsimp only
   refine U ?_
   refine R.back (j+1,(aP dm ((102+j):Int) (⟨#[]⟩)).2,(aP dm ((102+j):Int) (⟨#[]⟩)).1,z4,z5,z6) O (by (try dsimp only);exact ⟨ae,by have g:=MI HB af ae;rwa [show dk.Now.length-102-(j+1)=dk.Now.length-102-j-1 by omega],hO.write _ _⟩) aG (sF O) (ck ct [] O)
  rw [show dM dk=_ from QG ae (by exact (EW HB af)) af]
  exact R.x1 (dU,fh,dV) ct []
 refine C (e=0) ?_ ?_ <;> intro h4
 .
  refine R.s O (s.aJ ct [] _ _ _ O O O AL O O (fun w own hw H=>kA aF dU fh dV dm w own H af) O) ?_
  rintro ⟨z7,z8,z9⟩
  dsimp only
  refine U ?_
  refine C ((aN dm).2=0) ?_ ?_ <;> intro h5
  .
   have p2:=hO.flush.fine ae ae
   refine U ?_
   refine R.kc O O (fun w hw=>AX (⟨1,0,0,1⟩:zB) w aG)<|R.s O (s.aJ ct [] _ _ _ O O O vF O O (fun w own hw H=>iA aF z7 z8 z9 (aN dm).1 1 (cK (⟨1,0,0,1⟩:zB)) w own H af) O) ?_
   rintro ⟨lu,mG,z12⟩
   dsimp only
   refine U ?_
   refine C ((aP (aN dm).1 1 (cK (⟨1,0,0,1⟩:zB))).2=0) ?_ ?_ <;> intro h6
   .
    have p3:=(hO.flush.write 1 (cK ⟨1,0,0,1⟩)).fine ae ae
    refine U ?_
    refine R.s O (s.aJ ct [] _ _ _ O O O AL O O (fun w own hw H=>kA aF lu mG z12 (aP (aN dm).1 1 (cK (⟨1,0,0,1⟩:zB))).1 w own H af) O) ?_
    rintro ⟨nX,zA,FM⟩
    dsimp only
    refine U ?_
    rw [show dM dk=_ from QH ae (by exact (uS HB ae)) af af af]
    exact R.x1 (nX,zA,FM) ct []
   rw [show dM dk=_ from Vv ae (by exact (uS HB ae)) af af af]
   exact R.x1 (lu,mG,z12) ct []
  rw [show dM dk=_ from Vu ae (by exact (uS HB ae)) af af]
  exact R.x1 (z7,z8,z9) ct []
 rw [show dM dk=_ from QG ae (by exact (EW HB af)) af]
 exact R.x1 (dU,fh,dV) ct []
structure wh where
  Buf:List UInt8
structure OO where
  Used:Bool
  Buf:List UInt8
theorem zI (jt:Nat)(eS:Value)(bd:wh)(w:World)(own:List Nat)(H:HN w own [ah.box jt [.pointer none,eS] 189,ah.row 5 eS bd.Buf] []):RC Tryz.prog 193 #[pV jt] H (fun _:Value => .tuple #[]) (fun z=>[ah.box jt [pV jt,z] 189,ah.row 5 z bd.Buf]) (fun _=>[]):=by
 have yP:=H.cap 1 rfl;have yQ:=H.cz 1 rfl
 refine R.eN H ?_
 refine R.q (q.Y5 (i:=0) O O Tryz.underlying187 Tryz.underlying271 O aD bC) O<|R.q (q.Vl Tryz.func234 (by decide +kernel) O O O O O) O<|R.q (q.Y6 (i:=0) O O Tryz.underlying271 Tryz.underlying187 O 2 O (by decide +kernel)) O<|U ?_
 exact R.x0 eS [0,1,2] []
theorem zJ (jt:Nat)(eS:Value)(bd:wh)(sx:ByteArray)(w:World)(own:List Nat)(H:HN w own [ah.box jt [.pointer none,eS] 189,ah.row 5 eS bd.Buf] [])(hl:bd.Buf.length+sx.size<=1000000):RC Tryz.prog 126 #[pV jt,.string sx] H (fun _:Value => .tuple #[iV (sx.size:Int),.nilIface]) (fun z=>[ah.box jt [pV jt,z] 189,ah.row 5 z ((⟨bd.Buf++sx.data.toList⟩:wh).Buf:List UInt8)]) (fun _=>[]):=by
 have yP:=H.cap 1 rfl;have yQ:=H.cz 1 rfl
 refine R.eN H ?_
 refine R.s O (s.aJ [0,1,2] [] _ _ _ O O O Mm O O (fun w own hw H=>zI jt eS bd w own H) O) fun z1=>U ?_
 refine R.s O (s.ME 1 O O O Tryz.underlying137 Tryz.underlying9 O O O O ae O) fun v1=>U ?_
 have hz:((⟨bd.Buf++sx.data.toList⟩:wh),sx.size)=((⟨bd.Buf++sx.data.toList⟩:wh),sx.size):=by (rfl)
 exact R.x2 v1 [0,1,2] []
theorem zK (jt:Nat)(eS:Value)(bd:wh)(w:World)(own:List Nat)(H:HN w own [ah.box jt [pV jt,eS] 189,ah.row 5 eS bd.Buf] []):RC Tryz.prog 193 #[pV jt] H (fun _:Value => .tuple #[]) (fun z=>[ah.box jt [pV jt,z] 189,ah.row 5 z bd.Buf]) (fun _=>[]):=by
 have yP:=H.cap 1 rfl;have yQ:=H.cz 1 rfl
 refine R.eN H ?_
 refine R.q (q.same O O Tryz.underlying187 O) O<|U ?_
 exact R.x0 eS [0,1,2] []
theorem zL (jt:Nat)(eS:Value)(bd:wh)(sx:ByteArray)(w:World)(own:List Nat)(H:HN w own [ah.box jt [pV jt,eS] 189,ah.row 5 eS bd.Buf] [])(hl:bd.Buf.length+sx.size<=1000000):RC Tryz.prog 126 #[pV jt,.string sx] H (fun _:Value => .tuple #[iV (sx.size:Int),.nilIface]) (fun z=>[ah.box jt [pV jt,z] 189,ah.row 5 z ((⟨bd.Buf++sx.data.toList⟩:wh).Buf:List UInt8)]) (fun _=>[]):=by
 have yP:=H.cap 1 rfl;have yQ:=H.cz 1 rfl
 refine R.eN H ?_
 refine R.s O (s.aJ [0,1,2] [] _ _ _ O O O Mm O O (fun w own hw H=>zK jt eS bd w own H) O) fun z1=>U ?_
 refine R.s O (s.ME 1 O O O Tryz.underlying137 Tryz.underlying9 O O O O ae O) fun v1=>U ?_
 have hz:((⟨bd.Buf++sx.data.toList⟩:wh),sx.size)=((⟨bd.Buf++sx.data.toList⟩:wh),sx.size):=by (rfl)
 exact R.x2 v1 [0,1,2] []
theorem CF (jt:Nat)(eS:Value)(bd:OO)(sx:ByteArray)(w:World)(own:List Nat)(H:HN w own [ah.box jt [yL jt bd.Used,eS] 189,ah.row 5 eS (bd.Buf:List UInt8)] [])(hl:bd.Buf.length+sx.size<=1000000):RC Tryz.prog 126 #[.pointer (some ⟨jt,0,none⟩),.string sx] H (fun _:Value => .tuple #[.int .i64 (sx.size:Int),.nilIface]) (fun z=>[ah.box jt [yL jt (((⟨true,bd.Buf++sx.data.toList⟩:OO)).Used),z] 189,ah.row 5 z (((⟨true,bd.Buf++sx.data.toList⟩:OO)).Buf:List UInt8)]) (fun _=>[]):=by
 obtain ⟨u_,l_⟩:=bd
 cases u_ with
 | true=>exact zL jt eS (⟨l_⟩:wh) sx w own H hl
 | false=>exact zJ jt eS (⟨l_⟩:wh) sx w own H hl
theorem OP (bA:Value)(l:List Change)(w:World)(fC:Sl w bA l)(hl:l.length<=1000)(hF:∀c∈l,gu c=0):Calls Tryz.prog 68 #[bA] w fun e w'=>e = .returned (.string (bB l))/\Ext w w':=by
 have uO:=fC.dY
 refine R.enter [] [(0,bA)] Tryz.func68 O O O O<|R.pQ fC<|U ?_
 refine R.nb fun b1=>?_
 refine R.row0 (α:=UInt8) 5<|R.loop (fun g_:Nat×Bool×Value×(List UInt8)=>[(3,pV b1),(6,bA),(7,iV (l.length:Int)),(8,iV (g_.1:Int))]) (fun g_=>[ah.row 5 g_.2.2.1 g_.2.2.2,ah.box b1 [yL b1 g_.2.1,g_.2.2.1] 189]) (fun g_=>[ah.ls bA l]) (fun g_=>g_.1<=l.length/\g_.2.2.2=(bB (l.take g_.1)).data.toList) (fun g_=>l.length-g_.1) (0,false,nS,[]) O (by exact ⟨ae,rfl⟩) (sF O) (dE [0,1] [0] O) ?_
 rintro ⟨k,u,qb,bb⟩ ⟨hk,HB⟩
 dsimp only at *
 have hbl:bb.length<=35*k:=by have:=wL (l:=l.take k) (fun c hc=>hF c (List.mem_of_mem_take hc));rw [List.length_take] at this;rw [HB,Array.length_toList];show (bB (l.take k)).size<=_;omega
 refine U ?_
 refine C (k<l.length) ?_ ?_ <;> intro h1
 .
  obtain ⟨x1,hx1⟩:=gE l k
  obtain ⟨OJ,X4,ZO,ZP⟩:=gv (hF x1 (List.mem_of_getElem? hx1))
  refine U ?_
  refine R.nb fun b2=>?_
  refine R.q (q.mJ (r:=((x1.Key.size:Nat):Int)) O (by rw [Tryz.underlying3];rfl) Tryz.underlying5 (sZ ae)) O<|U ?_
  refine R.q (q.mJ (r:=((x1.Val.size:Nat):Int)) O (by rw [Tryz.underlying3];rfl) Tryz.underlying5 (sZ ae)) O<|U ?_
  refine R.q (q.shr (r:=(((x1.Val.size / 256):Nat):Int)) O O aD (NR aD)) O<|R.q (q.mJ (r:=(((x1.Val.size / 256):Nat):Int)) O (by rw [Tryz.underlying3];rfl) Tryz.underlying5 (sZ ae)) O<|R.s O (s.bs (l:=([UInt8.ofNat x1.Key.size,UInt8.ofNat x1.Val.size,UInt8.ofNat (x1.Val.size / 256)]:List UInt8)) aM dH O O O O O (bO (dy ae) (bO (dy ae) (bO (dy ae) eM))) O) fun b3=>?_
  refine R.q (q.jg (cm 0 O) O aM Tryz.underlying5 Tryz.underlying9) O<|U ?_
  refine R.q (q.bU O O) O<|U ?_
  refine R.q (q.bU O O) O<|R.s O (s.aJ [3,2,0,1] [] _ _ _ O O O RP O O (fun w own hw H=>CF b1 qb (⟨u,bb⟩:OO) (((⟨([UInt8.ofNat x1.Key.size,UInt8.ofNat x1.Val.size,UInt8.ofNat (x1.Val.size / 256)]).toArray⟩:ByteArray)++x1.Key)++x1.Val) w own H (by simp only [ByteArray.size_append,da,List.length_cons,List.length_nil];omega)) O) fun z1=>U ?_
  refine R.back (k+1,true,z1,(bb++(((⟨([UInt8.ofNat x1.Key.size,UInt8.ofNat x1.Val.size,UInt8.ofNat (x1.Val.size / 256)]).toArray⟩:ByteArray)++x1.Key)++x1.Val).data.toList)) O (by exact ⟨ae,by rw [JB hx1,HB];simp [iI]⟩) aG (sF O) (ck [1,0] [0] O)
 refine R.s O (s.W6 (i:=1) (j:=0) (u:=u) (l:=bb) RQ O O aD O O (fun W h hW=>Tryz.Builder_String_any _ _ _ W h hW) O) fun _=>U ?_
 refine R.rt ?_
 (rw [HB,List.take_of_length_le ae])
end
end Go.Proofs.YtnmpibjlnninjaaGreatDoor
