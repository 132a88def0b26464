import Derived.Test.YtnmpibjlnninjaaGreatDoorCT14
import Derived.Lib.AppendStr
import Derived.Lib.Builder
import Derived.Lib.UnsafeStr
namespace Go.Proofs.YtnmpibjlnninjaaGreatDoor
set_option linter.unusedVariables false
set_option linter.unusedSimpArgs false
set_option maxRecDepth 100000
set_option maxHeartbeats 90000000
section
open Go
section
variable {l:List Change} {k:Nat} {x y:Change}
theorem Sm {a b:ByteArray}(h:(hY a b||decide (a=b))=true):hY b a=false:=by
 rcases Bool.or_eq_true_iff.1 h with h|h
 .exact ta h
 have e:=of_decide_eq_true h;grind [fL]
theorem Wx {a b:ByteArray}(h:(hY a b||decide (a=b))=false):hY b a=true:=by
 grind [Bool.or_eq_false_iff,Vi,of_decide_eq_false]
end
end
section
open Go Go.RowKit
structure BW where
  Epoch:Int
  Side:Int
  Size:Int
  First:Int
  deriving DecidableEq
structure qN where
  Epoch:Int
  Side:Int
  Size:Int
  First:Int
  L:Lg
  Rows:List Change
def c8 (h:BW):ByteArray:=⟨#[72]⟩++cB h.Epoch++cB h.Side++cB h.Size++cB h.First
def jY (s:ByteArray):Nat:=bC s 0+bC s 1*256+bC s 2*65536+bC s 3*16777216
theorem Wy (s:ByteArray):jY s<4294967296:=by
 grind [jY,LH]
def KR (s:ByteArray):BW:=⟨(jY (s.extract 1 5):Int),(jY (s.extract 5 9):Int),(jY (s.extract 9 13):Int),(jY (s.extract 13 17):Int)⟩
def fU (s:ByteArray):Prop:= ¬ bC s 0=72∨1<jY (s.extract 5 9)∨2400<jY (s.extract 9 13)∨jY (s.extract 13 17)<1
instance (s:ByteArray):Decidable (fU s):=by unfold fU;infer_instance
def dJ (s:ByteArray):BW:=if fU s then ⟨0,0,0,0⟩ else KR s
theorem dM {s:ByteArray}(h:fU s):dJ s=⟨0,0,0,0⟩:=if_pos h
theorem oq {s:ByteArray}(h:¬ fU s):dJ s=KR s:=if_neg h
theorem A8 (s:ByteArray):0<=(dJ s).Epoch/\(dJ s).Epoch<4294967296/\0<=(dJ s).Side/\(dJ s).Side<=1/\0<=(dJ s).Size/\(dJ s).Size<=2400/\0<=(dJ s).First/\(dJ s).First<4294967296/\(¬ (dJ s).Epoch=0->1<=(dJ s).First):=by
 by_cases h:fU s
 .grind [dM]
 grind [fU,KR,oq,Wy]
def uf (s:cq×Int)(f:cq->cq×Int):cq×Int:=if s.2=0 then f s.1 else s
theorem ot {s:cq×Int}{f:cq->cq×Int}(h:s.2=0):uf s f=f s.1:=if_pos h
theorem pX {s:cq×Int}{f:cq->cq×Int}(h:¬ s.2=0):uf s f=s:=if_neg h
def lB:Nat->Nat->cq×Int->cq×Int
  | 0,_,s=>s
  | k+1,i,s=>if s.2=0 then lB k (i+1) (aU s.1 (i:Int) ⟨#[]⟩) else s
def B6 (d:cq):cq×Int:=lB (d.Now.length-102) 102 (aU d 0 ⟨#[]⟩)
def Pk (d:cq):cq×Int:=uf (B6 d) aQ
def Pm (d:cq):cq×Int:=uf (Pk d) fun e=>aU e 1 (c8 ⟨1,0,0,1⟩)
def Pn (d:cq):cq×Int:=uf (Pm d) aQ
def eA (d:cq):cq×Int:=if d.Now.length<166 then (d,9) else Pn d
def jZ (c:Change):ByteArray:=⟨#[UInt8.ofNat c.Key.size,UInt8.ofNat c.Val.size,UInt8.ofNat (c.Val.size / 256)]⟩++c.Key++c.Val
def bM (l:List Change):ByteArray:=l.foldl (fun b c=>b++jZ c) ⟨#[]⟩
theorem Ma {l:List Change}{k:Nat}{c:Change}(h:l[k]? = some c):bM (l.take (k+1))=bM (l.take k)++jZ c:=by
 grind [bM,List.take_add_one]
theorem tv (c:Change):(jZ c).size=3+c.Key.size+c.Val.size:=by
 unfold jZ;simp only [ByteArray.size_append];rfl
theorem Dp {b:ByteArray}{m:Nat}:∀ (l:List Change) (b:ByteArray),(∀c∈l,iT c=0)->(l.foldl (fun b c=>b++jZ c) b).size<=b.size+35*l.length
 | [],b,h=>by simp
 | c::l,b,h=>by
  rw [List.foldl_cons,List.length_cons]
  have h1:=Dp (b:=b) (m:=m) l (b++jZ c) (fun x hx=>h x (List.mem_cons_of_mem _ hx))
  grind [iM,List.mem_cons_self,ByteArray.size_append,tv]
theorem yX {l:List Change}(h:∀c∈l,iT c=0):(bM l).size<=35*l.length:=by
 have:=Dp (b:=⟨#[]⟩) (m:=0) l ⟨#[]⟩ h
 rw [show (⟨#[]⟩:ByteArray).size=0 from rfl,Nat.zero_add] at this
 exact this
def sH (t:ByteArray):Nat:=3+bC t 0+bC t 1+256*bC t 2
def A9 (t:ByteArray):Change:=⟨t.extract 3 (3+bC t 0),t.extract (3+bC t 0) (sH t),false⟩
def rF:Nat->ByteArray->List Change->List Change×Bool
  | 0,_,l=>(l,true)
  | k+1,t,l =>
    if t=⟨#[]⟩ then (l,true)
    else if t.size<3∨t.size<sH t then ([],false)
    else if iT (A9 t)=0 then rF k (t.extract (sH t) t.size) (bX l [A9 t]) else ([],false)
def fH (t:ByteArray):List Change×Bool:=rF (t.size+1) t []
section
variable {t:ByteArray} {l:List Change} {Z:List Change×Bool} {k:Nat}
theorem Sn (h:rF k t l=Z)(hk:t.size<k)(ht:t=⟨#[]⟩):Z=(l,true):=by
 cases k with
 | zero=>omega
 | succ k=>simp_all [rF,if_pos]
theorem KS (h:rF k t l=Z)(hk:t.size<k)(ht:¬ t=⟨#[]⟩)(hb:t.size<3∨t.size<sH t):Z=([],false):=by
 cases k with
 | zero=>omega
 | succ k=>simp_all [rF,if_neg,if_pos]
theorem Mb (h:rF k t l=Z)(hk:t.size<k)(ht:¬ t=⟨#[]⟩)(hb:¬ (t.size<3∨t.size<sH t))(hf:¬ iT (A9 t)=0):Z=([],false):=by
 cases k with
 | zero=>omega
 | succ k=>simp_all [rF,if_neg]
theorem Wz (h:rF k t l=Z)(hk:t.size<k)(ht:¬ t=⟨#[]⟩)(hb:¬ (t.size<3∨t.size<sH t))(hf:iT (A9 t)=0) :
 rF (k-1) (t.extract (sH t) t.size) (bX l [A9 t])=Z/\(t.extract (sH t) t.size).size<k-1:=by
 cases k with
 | zero=>omega
 | succ k =>
  rw [rF,if_neg ht,if_neg hb,if_pos hf] at h
  grind [sH,ByteArray.size_extract]
end
def pY (a b:BW):BW:=if a.Epoch<b.Epoch then b else a
def headD (d:cq):BW:=pY (pY ⟨0,0,0,0⟩ (dJ (cW d 0).1)) (dJ (cW d 1).1)
def cu (d:cq)(f:Int):Nat->ByteArray
  | 0=>⟨#[]⟩
  | k+1=>cu d f k++(cW d (f+(k:Int))).1
def ug (d:cq):ByteArray:=(cu d (2+(headD d).Side*50) 50).extract 0 (headD d).Size.toNat
def jE (d:cq):Int:=if d.Now.length<166 then 4 else if (headD d).Epoch=0 then 4 else if (fH (ug d)).2=true then 0 else 4
def lC (rows:List Change)(W:List (List Change)):List Change:=W.foldl bX rows
theorem Hb {rows:List Change}{W:List (List Change)}{k:Nat}{c:List Change}(h:W[k]? = some c):lC rows (W.take (k+1))=bX (lC rows (W.take k)) c:=by
 grind [lC,List.take_add_one]
def bf (d:cq):qN :=
  ⟨(headD d).Epoch,(headD d).Side,(headD d).Size,(headD d).First,⟨102,(d.Now.length:Int)-102,(headD d).First,(fT d 102 ((d.Now.length:Int)-102).toNat (headD d).First:Int)⟩,
    lC (fH (ug d)).1 (mI d 102 ((d.Now.length:Int)-102).toNat (headD d).First)⟩
def jz (f:Int)(t:ByteArray):Nat->Nat->cq->cq×Int
  | 0,_,d=>(d,0)
  | k+1,i,d =>
    if i*48<t.size then
      (if (aU d (f+(i:Int)) (t.extract (i*48) (i*48+min 48 (t.size-i*48)))).2=0 then jz f t k (i+1) (aU d (f+(i:Int)) (t.extract (i*48) (i*48+min 48 (t.size-i*48)))).1
       else aU d (f+(i:Int)) (t.extract (i*48) (i*48+min 48 (t.size-i*48))))
    else (d,0)
def ya (st:qN):BW:=⟨st.Epoch+1,1-st.Side,((bM st.Rows).size:Int),st.L.First+st.L.Many⟩
def ck1 (st:qN)(d:cq):cq×Int:=jz (2+(1-st.Side)*50) (bM st.Rows) ((bM st.Rows).size+1) 0 d
def ck2 (st:qN)(d:cq):cq×Int:=uf (ck1 st d) aQ
def WA (st:qN)(d:cq):cq×Int:=uf (ck2 st d) fun e=>aU e ((st.Epoch+1) % 2) (c8 (ya st))
def Mc (st:qN)(d:cq):cq×Int:=uf (WA st d) aQ
def Zj (st:qN)(d:cq):qN :=
  ⟨st.Epoch+1,1-st.Side,((bM st.Rows).size:Int),st.L.First+st.L.Many,⟨102,(d.Now.length:Int)-102,st.L.First+st.L.Many,(fT d 102 ((d.Now.length:Int)-102).toNat (st.L.First+st.L.Many):Int)⟩,st.Rows⟩
def cC (st:qN)(d:cq):qN×cq×Int:=if (Mc st d).2=0 then (Zj st (Mc st d).1,(Mc st d).1,0) else (st,Mc st d)
def ou (st:qN)(n:Nat)(l:List Change):Int :=
  if 62<l.length then 2 else if ¬ jh l=0 then jh l else if 60<(bX st.Rows l).length∨(n:Int)-102<(l.length:Int)+1 then 9 else 0
def E4 (st:qN)(d:cq)(l:List Change):qN×cq×Int:=if st.L.Many-st.L.Next<(l.length:Int)+1 then cC st d else (st,d,0)
def wb (st:qN)(lg:Lg)(rows:List Change):qN:=⟨st.Epoch,st.Side,st.Size,st.First,lg,rows⟩
def Po (st st0:qN)(d:cq)(l:List Change):qN×cq×Int :=
  if (cQ st.L d l).2.2=0 then (wb st (cQ st.L d l).1 (bX st0.Rows l),(cQ st.L d l).2.1,0) else (wb st (cQ st.L d l).1 st.Rows,(cQ st.L d l).2.1,(cQ st.L d l).2.2)
def bL (st:qN)(d:cq)(l:List Change):qN×cq×Int :=
  if ¬ ou st d.Now.length l=0 then (st,d,ou st d.Now.length l)
  else if ¬ (E4 st d l).2.2=0 then E4 st d l
  else Po (E4 st d l).1 st (E4 st d l).2.1 l
end
section
open Go Go.RowKit
theorem WB {a b:Nat}(D:Nat)(hD:2 ^ (min b IntKind.i64.bits)=D)(h:a*D<9223372036854775808):IntKind.i64.wrap (((a:Nat):Int)*2 ^ (min b IntKind.i64.bits))=((a*D:Nat):Int):=by
 have e:((2:Int) ^ (min b IntKind.i64.bits))=(D:Int):=az
 rw [e,<- Int.natCast_mul]
 exact wr ae
theorem WC {a b:Nat}(k:Nat)(ha:a<2 ^ k):a ||| (b*2 ^ k)=a+b*2 ^ k:=by
 have h:=Nat.shiftLeft_add_eq_or_of_lt ha b
 grind [Nat.shiftLeft_eq,Nat.add_comm]
theorem orN {a b:Nat}(k:Nat)(D:Nat)(hD:2 ^ k=D)(ha:a<D)(h:a+b*D<9223372036854775808):bits .or .i64 ((a:Nat):Int) ((b*D:Nat):Int)=((a+b*D:Nat):Int):=by
 subst hD
 have e:=WC (b:=b) k ha
 have key:∀x:Nat,x<9223372036854775808->(BitVec.ofInt 64 (x:Int)).toNat=x:=fun x hx=>by
  grind
 unfold bits
 show IntKind.i64.wrap ((BitVec.ofInt 64 (a:Int) ||| BitVec.ofInt 64 ((b*2 ^ k:Nat):Int)).toNat:Int)=_
 rw [BitVec.toNat_or,key a ae,key (b*2 ^ k) ae,e]
 exact wr ae
end
section
open Go Go.RowKit
abbrev Ba (b:Nat)(u:Bool):Value:= .pointer (if u=true then some ⟨b,0,none⟩ else none)
theorem Ca (s:ByteArray):Lib.strCells s=s.data.toList.flatMap Enc.cells:=by
 unfold Lib.strCells;rw [List.map_eq_flatMap];rfl
theorem Bb (l:List UInt8):Lib.byteCells l=l.flatMap Enc.cells:=by
 unfold Lib.byteCells;rw [List.map_eq_flatMap];rfl
section
variable {P:Program}
theorem Pp {w:World}{e t u ty:TypeId}{i:TypeInfo}(ht:P.underlying t=some (.slice e))(hu:P.underlying u=some .string)(hi:P.info? e=some i)(hz:i.zero=some (.int .u8 0))(hsize:i.size=1)(hby:i.bytes=1)
 {v:Value} {l:List UInt8} (hown:Own 0 e w v l) (s:ByteArray) (hlen:l.length+s.size<=140737488355328) :
 ∃v' w',(Builtin.append_ #[t,u] ty #[v,.string s]).run P w = .ok v' w'/\Own 0 e w' v' (l++s.data.toList)/\w.grownBy w' v.ownBlock /\ ∀k∈eB v',k∈eB v∨w.heap.size<=k:=by
 have hfl:=eI l
 have hown':w.ownsRow 0 e 1 v l.length (l.flatMap Enc.cells):=hown
 obtain ⟨v',w',g1,g2,g3,g4⟩:=Lib.run_append_own_string (P:=P) w 0 t u ty e i ht hu hi hz hsize hby v l.length (l.flatMap Enc.cells) hown' s (by grind [maxLen]) hlen (Nat.zero_le _)
 refine ⟨v',w',g1,?_,g3,?_⟩
 .
  rw [Ca] at g2
  unfold Own
  rw [List.flatMap_append,List.length_append,show s.data.toList.length=s.size from by rfl]
  omega
 rcases hown'.2 with ⟨rfl,h0⟩ | ⟨g,cap,cur,rfl,_,hg,hnc,hcm,hcs,htake⟩
 .
  by_cases hm:s.size=0
  .grind
  have hr:=run_append_nil_string (P:=P) w t u ty e i (.int .u8 0) ht hu hi hz s ae ae az
  rw [hr] at g1
  injection g1 with g1 _
  subst g1
  simp_all [eB,Nat.le_refl]
 by_cases hroom:l.length+s.size<=cap
 .
  have hr:=Lib.run_append_room_string (P:=P) w t u ty e i ht hu hi hsize g l.length cap cur hg s hroom ae
  rw [hr] at g1
  injection g1 with g1 _
  subst g1
  intro k hk;exact .inl hk
 have holds:∀j u,(l.flatMap Enc.cells)[j]? = some u->w.cell? ((⟨g,0,none⟩:Addr).add j)=some u:=World.ownsRow.cells hown' (g:=g) rfl
 have hr:=Lib.run_append_grow_string (P:=P) w t u ty e i (.int .u8 0) ht hu hi hz ⟨g,0,none⟩ l.length cap (l.flatMap Enc.cells) az holds s ae ae (by rw [hby];exact growslice_fits ae ae)
 rw [hr] at g1
 injection g1 with g1 _
 subst g1
 simp_all [eB,Nat.le_refl]
variable {n:Nat} {we:World} {X:List Nat} {L:Fm} {B F:List ag} {x y c:Operand} {xT yT ty:TypeId} {d:Nat} {pos:String} {dV:Array Edge} {g:Option (Nat×Bool)} {e:TypeId} {v:Value}
theorem s.Pq {t u:TypeId}{ti:TypeInfo}{l:List UInt8}{s:ByteArray}(i:Nat)(hB:B[i]? = some (ag.row e v l))(hx:ev L x=some v)(hy:ev L y=some (.string s))
 (ht:P.underlying t=some (.slice e)) (hu:P.underlying u=some .string) (hi:P.info? e=some ti) (hz:ti.zero=some (.int .u8 0)) (hsize:ti.size=1) (hby:ti.bytes=1) (hlen:l.length+s.size<=140737488355328) (hd:Nat.blt d n=true) :
 Stp P n we X L B F ⟨some d,.call { callee:= .builtin .append,args:= #[x,y],argTypes:= #[t,u]},ty,pos,dV,g⟩ (fun z:Value=>(d,z)::L) (fun z=>B.set i (ag.row e z (l++s.data.toList))) (fun _=>F):=by
 intro K Q' a w ha hw hK
 have hown:Own 0 e w v l:=hw.b i hB
 obtain ⟨v',w',h1,h2,h3,h4⟩:=Pp (P:=P) (ty:=ty) ht hu hi hz hsize hby hown s hlen
 unfold Oper.wp
 have hrun:(execOp a.eval ⟨some d,.call { callee:= .builtin .append,args:= #[x,y],argTypes:= #[t,u]},ty,pos,dV,g⟩).run P w = .ok (.value v') w':=by
  simp [execOp,resolve,invoke,builtin,ha.ev hx,ha.ev hy,h1]
 rw [hrun,Oper.upon_value]
 refine hK v' _ _ (ha.put d _ hd) (hw.turn hB (JW (α:=UInt8) h3) h2 (qi h2).1 fun k hk=>⟨((qi h2).2 k hk).2,h4 k hk⟩)
theorem Dq {w:World}{b:Nat}{cs:List Value}{T:TypeId}(h:(ag.box b cs T).ok w):w.shape? b=some (T,cs.length):=by
 have h':w.heap[b]? = some (.cells cs.toArray T (0,0)):=h
 grind [World.shape?]
theorem q.toU {b i:Nat}{cs:List Value}{T t:TypeId}{j:TypeInfo}(hB:B[i]? = some (ag.box b cs T))(hx:ev L x=some (.pointer (some ⟨b,0,none⟩)))(hs:P.underlying xT=some (.pointer t))(hd:P.underlying yT=some .unsafePointer)(ht:P.info? t=some j)(hj:¬ j.size=0)(hc:0<cs.length) :
 Qt P n we X L B F (.convert xT yT x) ty (.pointer (some ⟨b,0,none⟩)):=fun _ _ _ _ a w ha hw=>by
 have h:=Lib.run_to_unsafe (P:=P) w ⟨b,0,none⟩ hs hd ht hj (Dq (hw.b i hB)) hc
 simp [execOp,ha.ev hx,h]
theorem q.frU {b i:Nat}{cs:List Value}{T t:TypeId}{j:TypeInfo}(hB:B[i]? = some (ag.box b cs T))(hx:ev L x=some (.pointer (some ⟨b,0,none⟩)))(hs:P.underlying xT=some .unsafePointer)(hd:P.underlying yT=some (.pointer t))(ht:P.info? t=some j)(m:Nat)(hm:cs.length=m)(hl:liesAt P P.depth T (m / P.cellsOf T) 0 t 1=true) :
 Qt P n we X L B F (.convert xT yT x) ty (.pointer (some ⟨b,0,none⟩)):=fun _ _ _ _ a w ha hw=>by
 subst hm
 have h:=Lib.run_from_unsafe (P:=P) w ⟨b,0,none⟩ hs hd ht (Dq (hw.b i hB)) hl
 simp [execOp,ha.ev hx,h]
theorem q.same {pT:TypeId}{a:Addr}{j:TypeInfo}(hx:ev L x=some (.pointer (some a)))(hy:ev L y=some (.pointer (some a)))(ht:P.underlying xT=some (.pointer pT))(hj:P.info? pT=some j):Qt P n we X L B F (.binOp .neq xT x y yT) ty (.bool false):=fun _ _ _ _ q w ha hw=>by
 simp only [execOp,ha.ev hx,ha.ev hy,eqGuard_at_pointer,Sem.run_bind,Sem.run_pure,Result.andThen_ok,Lib.run_neq_ptr_same w a ht hj]
theorem q.Zk {f:Nat}{fn:Func}{ts:Array TypeId}(hf:P.funcs[f]? = some fn)(hname:(fn.name == "runtime.NumGoroutine")=false)(hb:fn.body.isNone=true)(hn:Extern.findNext fn=none)(he:Extern.find fn=some Extern.AbiNoEscape.same)
 (hc:ev L c=some (.func (.func f) #[] #[])) (hx:ev L x=some v):Qt P n we X L B F (.call { callee:= .value c,args:= #[x],argTypes:=ts}) ty v:=fun _ _ _ _ a w ha hw=>by
 simp [execOp,resolve,ha.ev hc,Deferred.ofValue,invoke,ha.ev hx,run_callFunc_extern hf hname hb hn he,Lib.run_noEscape,Result.andThen]
theorem s.aa0 {i j b f T:Nat}{u:Bool}{l:List UInt8}{ts:Array TypeId}(eg:∀args w,(callFunc f args).run P w = .ok (.enter f args) w)(hb:B[i]? = some (ag.box b [Ba b u,v] T))(hr:B[j]? = some (ag.row e v l))(hij:¬ i=j)
 (hc:ev L c=some (.func (.func f) #[] #[])) (hx:ev L x=some (.pointer (some ⟨b,0,none⟩)))
 (hcall:∀w,Lib.IsBuilder T e we.heap.size b (Lib.byteCells l) w->we.heap.size<=w.heap.size->Calls P f #[.pointer (some ⟨b,0,none⟩)] w fun en w'=>en = .returned (.string ⟨l.toArray⟩)/\Below we.heap.size w w') (hd:Nat.blt d n=true) :
 Stp P n we [] L B F ⟨some d,.call { callee:= .value c,args:= #[x],argTypes:=ts},ty,pos,dV,g⟩ (fun _:Unit=>(d,.string ⟨l.toArray⟩)::L) (fun _=>[]) (fun _=>[]):=by
 intro K Q' a w ha hw hK
 have Zl:w.heap[b]? = some (.cells #[Ba b u,v] T (0,0)):=hw.b i hb
 have hown:Own 0 e w v l:=hw.b j hr
 have hbm:b∈blks B:=bK.2 ⟨_,List.mem_of_getElem? hb,by simp [ag.box]⟩
 have hge:∀k∈blks B,we.heap.size<=k:=fun k hk=>by
  rcases Nat.lt_or_ge k we.heap.size with h|h
  .have:=(hw.own k hk).2 h;grind
  omega
 have hown2:w.ownsRow we.heap.size e 1 v (Lib.byteCells l).length (Lib.byteCells l):=by
  rw [Lib.byteCells_length,Bb]
  have h':w.ownsRow 0 e 1 v l.length (l.flatMap Enc.cells):=hown
  refine ⟨h'.1,?_⟩
  rcases h'.2 with h0|⟨gg,cap,cur,hv,_,rest⟩
  .grind
  refine .inr ⟨gg,cap,cur,hv,hge gg (bK.2 ⟨_,List.mem_of_getElem? hr,by grind [ag.row,eB]⟩),rest⟩
 have hne:v.ownBlock≠some b:=fun h=>by
  have hkv:b∈(ag.row e v l).blk:=by
   show b∈eB v
   unfold Value.ownBlock at h
   grind [eB]
  have hs:=hw.sep
  obtain ⟨l1,l2,e1⟩:∃l1 l2,B=l1++l2/\((ag.box b [Ba b u,v] T∈l1/\ag.row e v l∈l2)∨(ag.row e v l∈l1/\ag.box b [Ba b u,v] T∈l2)):=by
   rcases Nat.lt_or_gt_of_ne hij with h1|h1
   .exact ⟨B.take j,B.drop j,(List.take_append_drop j B).symm,.inl ⟨List.mem_of_getElem? (i:=i) az,List.mem_of_getElem? (i:=0) az⟩⟩
   exact ⟨B.take i,B.drop i,(List.take_append_drop i B).symm,.inr ⟨List.mem_of_getElem? (i:=j) az,List.mem_of_getElem? (i:=0) az⟩⟩
  rw [e1.1,bz] at hs
  have hd':=(List.nodup_append.1 hs).2.2
  rcases e1.2 with ⟨h1,h2⟩ | ⟨h1,h2⟩
  .exact hd' b (bK.2 ⟨_,h1,by simp [ag.box]⟩) b (bK.2 ⟨_,h2,hkv⟩) rfl
  exact hd' b (bK.2 ⟨_,h1,hkv⟩) b (bK.2 ⟨_,h2,by simp [ag.box]⟩) rfl
 have hIs:Lib.IsBuilder T e we.heap.size b (Lib.byteCells l) w:=by
  cases u with
  | true=>exact .inr ⟨hge b hbm,v,Zl,hown2,hne⟩
  | false=>exact .inl ⟨hge b hbm,v,Zl,hown2,hne⟩
 have WE:=hcall w hIs hw.upd.size
 unfold Oper.wp
 have hrun:(execOp a.eval ⟨some d,.call { callee:= .value c,args:= #[x],argTypes:=ts},ty,pos,dV,g⟩).run P w = .ok (.enter f #[.pointer (some ⟨b,0,none⟩)]) w:=by
  simp [execOp,resolve,ha.ev hc,Deferred.ofValue,invoke,ha.ev hx,eg]
 rw [hrun,Oper.upon_enter]
 refine WE.mono fun en w' h=>?_
 obtain ⟨rfl,h⟩:=h
 refine hK () _ _ (ha.put d _ hd) ⟨⟨h.os.trans hw.upd.os,h.tape.trans hw.upd.tape,h.output.trans hw.upd.output,Nat.le_trans hw.upd.size h.size,fun k hk hn=>(h.block k hk).trans (hw.upd.block k hk hn)⟩,bA,bA,by simp [blks],by simp [blks],by simp [blks]⟩
end
end
end Go.Proofs.YtnmpibjlnninjaaGreatDoor
section
set_option maxRecDepth 100000
namespace Go.Proofs
open Go.Shelf
def Tryz.lays169_ren:Go.Shelf.Ren:=⟨fun|169=>127|n=>n,fun|70=>187|9=>9|0=>0|72=>189|37=>137|127=>244|3=>3|5=>5|n=>n,fun|n=>n⟩
theorem Tryz.lays169:Go.Proofs.Lays.n169 Tryz.prog Tryz.lays169_ren:={
 mixed:=by kernel_rfl
 f169:=Tryz.func127.trans (congrArg some (by kernel_rfl))
 t0:=Tryz.underlying0
 a0:=Tryz.isAgg0
 z0:=Tryz.sizeOf0
 v0:=Tryz.zeroValue0
 t3:=Tryz.underlying3
 a3:=Tryz.isAgg3
 z3:=Tryz.sizeOf3
 v3:=Tryz.zeroValue3
 t9:=Tryz.underlying9
 a9:=Tryz.isAgg9
 z9:=Tryz.sizeOf9
 v9:=Tryz.zeroValue9
 t37:=Tryz.underlying137
 a37:=Tryz.isAgg137
 z37:=Tryz.sizeOf137
 v37:=Tryz.zeroValue137
 t70:=Tryz.underlying187
 a70:=Tryz.isAgg187
 z70:=Tryz.sizeOf187
 v70:=Tryz.zeroValue187
 t72:=Tryz.underlying189
 a72:=Tryz.isAgg189
 z72:=Tryz.sizeOf189
 v72:=Tryz.zeroValue189
 t127:=Tryz.underlying244
 a127:=Tryz.isAgg244
 z127:=Tryz.sizeOf244
 v127:=Tryz.zeroValue244}
theorem Tryz.Builder_Extra_169:Builder.Extra Tryz.prog Tryz.lays169_ren:={
 sizeBuilder:=by kernel_rfl
 liesBuilder:=by kernel_rfl
 t5:=Tryz.underlying5
 a5:=Tryz.isAgg5
 z5:=Tryz.sizeOf5
 v5:=Tryz.zeroValue5
 infoByte:=by kernel_rfl
 cellsByte:=by kernel_rfl
 sizeByte:=by kernel_rfl
 neB5:=by decide}
open Go.RowKit in
theorem Tryz.Builder_String_any (B b:Nat)(l:List UInt8)(w:World)(h:Lib.IsBuilder 189 5 B b (Lib.byteCells l) w)(hBw:B<=w.heap.size) :
    Calls Tryz.prog 127 #[.pointer (some ⟨b,0,none⟩)] w fun e w'=>e = .returned (.string ⟨l.toArray⟩)/\Below B w w':=Any.Builder_String_any Tryz.lays169 Tryz.Builder_Extra_169 B b l w h hBw
end Go.Proofs
end
namespace Go.Proofs.YtnmpibjlnninjaaGreatDoor
set_option linter.unusedVariables false
set_option linter.unusedSimpArgs false
set_option maxRecDepth 100000
set_option maxHeartbeats 90000000
section
open Go Go.RowKit
section
variable {s:qN} {d m:cq} {e:Int}
theorem Zm (h:ck1 s d=(m,e))(he:¬ e=0):cC s d=(s,m,e):=by
 simp_all [Mc,WA,ck2,aQ,cC,pX,if_neg]
theorem Zn (h:ck1 s d=(m,e))(he:e=0)(h2:¬ (aQ m).2=0):cC s d=(s,aQ m):=by
 simp_all [Mc,aQ,WA,ck2,cC,ot,pX,if_neg]
theorem Zo (h:ck1 s d=(m,e))(he:e=0)(h2:(aQ m).2=0)(h3:¬ (aU (aQ m).1 ((s.Epoch+1) % 2) (c8 (ya s))).2=0):cC s d=(s,aU (aQ m).1 ((s.Epoch+1) % 2) (c8 (ya s))):=by
 have h4:Mc s d=aU (aQ m).1 ((s.Epoch+1) % 2) (c8 (ya s)):=by
  grind [Mc,WA,ck2,aQ,ot,pX]
 simp_all [cC,if_neg]
theorem Zp (h:ck1 s d=(m,e))(he:e=0)(h2:(aQ m).2=0)(h3:(aU (aQ m).1 ((s.Epoch+1) % 2) (c8 (ya s))).2=0)(h5:¬ (aQ (aU (aQ m).1 ((s.Epoch+1) % 2) (c8 (ya s))).1).2=0) :
 cC s d=(s,aQ (aU (aQ m).1 ((s.Epoch+1) % 2) (c8 (ya s))).1):=by
 have h4:Mc s d=aQ (aU (aQ m).1 ((s.Epoch+1) % 2) (c8 (ya s))).1:=by
  grind [Mc,WA,ck2,aQ,ot]
 simp_all [cC,if_neg]
theorem Zq (h:ck1 s d=(m,e))(he:e=0)(h2:(aQ m).2=0)(h3:(aU (aQ m).1 ((s.Epoch+1) % 2) (c8 (ya s))).2=0)(h5:(aQ (aU (aQ m).1 ((s.Epoch+1) % 2) (c8 (ya s))).1).2=0) :
 cC s d=(Zj s (aQ (aU (aQ m).1 ((s.Epoch+1) % 2) (c8 (ya s))).1).1,(aQ (aU (aQ m).1 ((s.Epoch+1) % 2) (c8 (ya s))).1).1,0):=by
 have h4:Mc s d=aQ (aU (aQ m).1 ((s.Epoch+1) % 2) (c8 (ya s))).1:=by
  grind [Mc,WA,ck2,aQ,ot]
 simp_all [cC,if_pos]
theorem Pr (h:(aQ d).2=0):(aQ d).1.Down=false:=by
 unfold aQ at h ⊢
 split
 .
  rename_i h0
  by_cases hd:d.Down=true
  .grind [Ao]
  grind [uM,vU]
 grind
end
section
variable {s:qN} {d:cq} {l:List Change} {e:Int} {n m:Nat}
theorem xj {f:Int}{t:ByteArray}:∀ (k i:Nat) (d:cq) (m:Nat),gw n m d->gw n (m+k) (jz f t k i d).1
 | 0,i,d,m,h=>h
 | k+1,i,d,m,h=>by
  rw [jz]
  split
  .
   split
   .
    have:=xj (f:=f) (t:=t) k (i+1) _ (m+1) (h.write (f+(i:Int)) (t.extract (i*48) (i*48+min 48 (t.size-i*48))))
    grind
   exact (h.write _ _).up ae
  exact h.up ae
theorem Bc {x:cq×Int}{f:cq->cq×Int}{a b:Nat}(h:gw n a x.1)(hab:a<=b)(hf:∀e,gw n a e->gw n b (f e).1):gw n b (uf x f).1:=by
 unfold uf;split
 .grind
 exact h.up hab
theorem Ps (h:gw n m d)(ht:(bM s.Rows).size<=2400):gw n (m+2500) (cC s d).2.1:=by
 have h1:gw n (m+2401) (ck1 s d).1:=(xj _ 0 d m h).up ae
 have h2:gw n (m+2401) (ck2 s d).1:=Bc h1 (Nat.le_refl _) fun e he=>he.flush
 have h3:gw n (m+2402) (WA s d).1:=Bc h2 ae fun e he=>he.write _ _
 have h4:gw n (m+2402) (Mc s d).1:=Bc h3 (Nat.le_refl _) fun e he=>he.flush
 unfold cC;split <;> exact h4.up ae
theorem WG (h:(cC s d).2.2=0):(cC s d).1=Zj s (cC s d).2.1:=by
 unfold cC at h ⊢
 grind
end
section
variable {s:qN} {d:cq} {l:List Change} {e:Int} {n m:Nat}
theorem Zr (h:62<l.length):bL s d l=(s,d,2):=by
 simp_all [ou,bL,if_pos]
theorem Zs (h0:¬ 62<l.length)(he:jh l=e)(h:¬ e=0):bL s d l=(s,d,e):=by
 simp_all [ou,bL,if_neg,if_pos]
theorem Um (h0:¬ 62<l.length)(h1:jh l=0)(h:60<(bX s.Rows l).length∨(d.Now.length:Int)-102<(l.length:Int)+1):bL s d l=(s,d,9):=by
 simp_all [ou,bL,if_neg,if_pos]
theorem Bd (h0:¬ 62<l.length)(h1:jh l=0)(h:¬ (60<(bX s.Rows l).length∨(d.Now.length:Int)-102<(l.length:Int)+1)):ou s d.Now.length l=0:=by
 simp_all [ou,if_neg]
theorem Un (hf:ou s d.Now.length l=0)(hr:s.L.Many-s.L.Next<(l.length:Int)+1)(he:¬ (cC s d).2.2=0):bL s d l=cC s d:=by
 simp_all [E4,cC,bL,if_pos,if_neg]
theorem Uo (hf:ou s d.Now.length l=0)(hr:s.L.Many-s.L.Next<(l.length:Int)+1)(he:(cC s d).2.2=0)(ha:(cQ (cC s d).1.L (cC s d).2.1 l).2.2=0) :
 bL s d l=(wb (cC s d).1 (cQ (cC s d).1.L (cC s d).2.1 l).1 (bX s.Rows l),(cQ (cC s d).1.L (cC s d).2.1 l).2.1,(cQ (cC s d).1.L (cC s d).2.1 l).2.2):=by
 simp_all [E4,cC,bL,Po,if_pos,if_neg]
theorem Up (hf:ou s d.Now.length l=0)(hr:s.L.Many-s.L.Next<(l.length:Int)+1)(he:(cC s d).2.2=0)(ha:¬ (cQ (cC s d).1.L (cC s d).2.1 l).2.2=0) :
 bL s d l=(wb (cC s d).1 (cQ (cC s d).1.L (cC s d).2.1 l).1 (cC s d).1.Rows,(cQ (cC s d).1.L (cC s d).2.1 l).2.1,(cQ (cC s d).1.L (cC s d).2.1 l).2.2):=by
 simp_all [E4,cC,bL,Po,if_pos,if_neg]
theorem Ur (hf:ou s d.Now.length l=0)(hr:¬ s.L.Many-s.L.Next<(l.length:Int)+1)(ha:(cQ s.L d l).2.2=0) :
 bL s d l=(wb s (cQ s.L d l).1 (bX s.Rows l),(cQ s.L d l).2.1,(cQ s.L d l).2.2):=by
 have hp:E4 s d l=(s,d,0):=if_neg hr
 unfold bL;rw [hf,if_neg aC,hp,if_neg (fun hh=>hh rfl)];simp_all [Po,if_pos]
theorem Ut (hf:ou s d.Now.length l=0)(hr:¬ s.L.Many-s.L.Next<(l.length:Int)+1)(ha:¬ (cQ s.L d l).2.2=0) :
 bL s d l=(wb s (cQ s.L d l).1 s.Rows,(cQ s.L d l).2.1,(cQ s.L d l).2.2):=by
 have hp:E4 s d l=(s,d,0):=if_neg hr
 unfold bL;rw [hf,if_neg aC,hp,if_neg (fun hh=>hh rfl)];simp_all [Po,if_neg]
end
section
variable {d m:cq} {e:Int}
theorem Md (h:d.Now.length<166):eA d=(d,9):=if_pos h
theorem Uu (h0:¬ d.Now.length<166)(h:B6 d=(m,e))(he:¬ e=0):eA d=(m,e):=by
 simp_all [eA,Pn,Pm,Pk,aQ,if_neg,pX]
theorem Zt (h0:¬ d.Now.length<166)(h:B6 d=(m,e))(he:e=0)(h2:¬ (aQ m).2=0):eA d=aQ m:=by
 simp_all [eA,Pn,Pm,Pk,aQ,if_neg,ot,pX]
theorem Zu (h0:¬ d.Now.length<166)(h:B6 d=(m,e))(he:e=0)(h2:(aQ m).2=0)(h3:¬ (aU (aQ m).1 1 (c8 ⟨1,0,0,1⟩)).2=0):eA d=aU (aQ m).1 1 (c8 ⟨1,0,0,1⟩):=by
 simp_all [eA,Pn,Pm,Pk,aQ,if_neg,ot,pX]
theorem Uv (h0:¬ d.Now.length<166)(h:B6 d=(m,e))(he:e=0)(h2:(aQ m).2=0)(h3:(aU (aQ m).1 1 (c8 ⟨1,0,0,1⟩)).2=0):eA d=aQ (aU (aQ m).1 1 (c8 ⟨1,0,0,1⟩)).1:=by
 unfold eA;rw [if_neg h0];grind [Pn,Pm,Pk,aQ,ot]
end
theorem WH {d m:cq}{e:Int}(h0:¬ d.Now.length<166)(h:B6 d=(m,e))(he:e=0)(h2:(aQ m).2=0)(h3:(aU (aQ m).1 1 (c8 ⟨1,0,0,1⟩)).2=0):eA d=aQ (aU (aQ m).1 1 (c8 ⟨1,0,0,1⟩)).1:=Uv h0 h he h2 h3
end
section
open Go Go.RowKit
attribute [local irreducible] Run Rg Rq Qt Qa Stp Dg Do Dm bQ
theorem tA (n:Int)(w:World)(hn:0<=n/\n<=9000000000000000000):Calls Tryz.prog 130 #[iV n] w fun e w'=>e = .returned (.string (cB n))/\Ext w w':=by
 refine R.eV ?_
 refine R.q (q.ny O (by rw [Tryz.underlying3];rfl) Tryz.underlying5 rV) O<|U ?_
 refine R.q (q.shr (r:=n / 256) O O aC (Lp (D:=256) aC aC)) O<|R.q (q.ny O (by rw [Tryz.underlying3];rfl) Tryz.underlying5 rV) O<|U ?_
 refine R.q (q.shr (r:=n / 65536) O O aC (Lp (D:=65536) aC aC)) O<|R.q (q.ny O (by rw [Tryz.underlying3];rfl) Tryz.underlying5 rV) O<|U ?_
 refine R.q (q.shr (r:=n / 16777216) O O aC (Lp (D:=16777216) aC aC)) O<|R.q (q.ny O (by rw [Tryz.underlying3];rfl) Tryz.underlying5 rV) O<|R.s O (s.bs (l:=([u8 (n % 256),u8 ((n / 256) % 256),u8 ((n / 65536) % 256),u8 ((n / 16777216) % 256)]:List UInt8)) aP eD O O O O O (cp (fM ae) (cp (fM ae) (cp (fM ae) (cp (fM ae) fF)))) O) fun b1=>?_
 refine R.q (q.kA (cI 0 O) O aP Tryz.underlying5 Tryz.underlying9) O<|U ?_
 refine R.rt ?_
 rfl
theorem e9 (sx:ByteArray)(w:World)(hs:4<=sx.size):Calls Tryz.prog 134 #[.string sx] w fun e w'=>e = .returned (iV (jY sx:Int))/\Ext w w':=by
 refine R.eV ?_
 obtain ⟨y1,hy1⟩:∃z,sx.data[0]? = some z:=⟨_,Array.getElem?_eq_getElem (show 0<sx.size from by omega)⟩
 have Wt:=y1.toNat_lt
 obtain ⟨y2,hy2⟩:∃z,sx.data[1]? = some z:=⟨_,Array.getElem?_eq_getElem (show 1<sx.size from by omega)⟩
 have XK:=y2.toNat_lt
 obtain ⟨y3,hy3⟩:∃z,sx.data[2]? = some z:=⟨_,Array.getElem?_eq_getElem (show 2<sx.size from by omega)⟩
 have Zi:=y3.toNat_lt
 obtain ⟨y4,hy4⟩:∃z,sx.data[3]? = some z:=⟨_,Array.getElem?_eq_getElem (show 3<sx.size from by omega)⟩
 have by4:=y4.toNat_lt
 refine R.c6 O mixed ay<|U ?_
 refine Q.q (q.gN (i:=0) O O Tryz.underlying9 O hy1) O<|Q.q (q.ny (r:=((y1.toNat:Nat):Int)) O (by rw [Tryz.underlying5];rfl) Tryz.underlying3 (wr ae)) O<|U ?_
 refine Q.q (q.gN (i:=1) O O Tryz.underlying9 O hy2) O<|Q.q (q.ny (r:=((y2.toNat:Nat):Int)) O (by rw [Tryz.underlying5];rfl) Tryz.underlying3 (wr ae)) O<|Q.q (q.shl (r:=(((y2.toNat*256):Nat):Int)) O O aC (WB 256 aC (by have:=y2.toNat_lt;omega))) O<|Q.q (q.or (r:=(((y1.toNat+(y2.toNat*256)):Nat):Int)) O O (orN 8 256 O (by have:=y1.toNat_lt;have:=y2.toNat_lt;omega) (by have:=y1.toNat_lt;have:=y2.toNat_lt;omega))) O<|U ?_
 refine Q.q (q.gN (i:=2) O O Tryz.underlying9 O hy3) O<|Q.q (q.ny (r:=((y3.toNat:Nat):Int)) O (by rw [Tryz.underlying5];rfl) Tryz.underlying3 (wr ae)) O<|Q.q (q.shl (r:=(((y3.toNat*65536):Nat):Int)) O O aC (WB 65536 aC (by have:=y3.toNat_lt;omega))) O<|Q.q (q.or (r:=((((y1.toNat+(y2.toNat*256))+(y3.toNat*65536)):Nat):Int)) O O (orN 16 65536 O (by have:=y1.toNat_lt;have:=y2.toNat_lt;have:=y3.toNat_lt;omega) (by have:=y1.toNat_lt;have:=y2.toNat_lt;have:=y3.toNat_lt;omega))) O<|U ?_
 refine Q.q (q.gN (i:=3) O O Tryz.underlying9 O hy4) O<|Q.q (q.ny (r:=((y4.toNat:Nat):Int)) O (by rw [Tryz.underlying5];rfl) Tryz.underlying3 (wr ae)) O<|Q.q (q.shl (r:=(((y4.toNat*16777216):Nat):Int)) O O aC (WB 16777216 aC (by have:=y4.toNat_lt;omega))) O<|Q.q (q.or (r:=(((((y1.toNat+(y2.toNat*256))+(y3.toNat*65536))+(y4.toNat*16777216)):Nat):Int)) O O (orN 24 16777216 O (by have:=y1.toNat_lt;have:=y2.toNat_lt;have:=y3.toNat_lt;have:=y4.toNat_lt;omega) (by have:=y1.toNat_lt;have:=y2.toNat_lt;have:=y3.toNat_lt;have:=y4.toNat_lt;omega))) O<|U ?_
 refine R.rt ?_
 (unfold jY;rw [aK hy1,aK hy2,aK hy3,aK hy4])
theorem Dr (h:BW)(w:World)(hn:0<=h.Epoch/\h.Epoch<=9000000000000000000/\0<=h.Side/\h.Side<=9000000000000000000/\0<=h.Size/\h.Size<=9000000000000000000/\0<=h.First/\h.First<=9000000000000000000):Calls Tryz.prog 73 #[.agg #[iV h.Epoch,iV h.Side,iV h.Size,iV h.First]] w fun e w'=>e = .returned (.string (c8 h))/\Ext w w':=by
 refine R.eV ?_
 refine R.nb fun b1=>?_
 refine R.c6 O mixed ay<|U ?_
 refine Q.c (q.call EP O O (fun w hw=>tA h.Epoch w ae)) O<|Q.q (q.cu O O) O<|U ?_
 refine Q.c (q.call EP O O (fun w hw=>tA h.Side w ae)) O<|Q.q (q.cu O O) O<|U ?_
 refine Q.c (q.call EP O O (fun w hw=>tA h.Size w ae)) O<|Q.q (q.cu O O) O<|U ?_
 refine Q.c (q.call EP O O (fun w hw=>tA h.First w ae)) O<|Q.q (q.cu O O) O<|U ?_
 refine R.rt ?_
 rfl
theorem Jl (sx:ByteArray)(w:World)(own:List Nat)(H:HN w own [] [])(hs:sx.size=48):RS Tryz.prog 78 #[.string sx] H (dJ sx) (fun s (_:Unit) => .agg #[iV s.Epoch,iV s.Side,iV s.Size,iV s.First]) (fun _ _=>[]) (fun _ _=>[]):=by
 refine R.eN H ?_
 refine R.nb fun b1=>?_
 refine R.cO (fuel:=15) [0,1] O O mixed O ?_
 refine D.l [0,1,3,4,6,7,9,10] [0,1] [] O<|U ?_
 refine Dm.yy O O (q.Fv (i:=1) (j:=5) O O O Tryz.underlying9 O O ae ae) O<|U ?_
 refine Dm.yy O O (q.Fv (i:=5) (j:=9) O O O Tryz.underlying9 O O ae ae) O<|U ?_
 refine Dm.yy O O (q.Fv (i:=9) (j:=13) O O O Tryz.underlying9 O O ae ae) O<|U ?_
 refine Dm.yy O O (q.Fv (i:=13) (j:=17) O O O Tryz.underlying9 O O ae ae) O<|U ?_
 refine D.two (i:=2) (j:=13) O O ?_ ?_
 .
  refine Do.p [0,1] [] (s.c (q.call ly O O (fun w hw=>e9 (sx.extract 1 5) w (by rw [ByteArray.size_extract];omega))) O) fun _=>?_
  refine D.two (i:=5) (j:=13) O O ?_ ?_
  .
   refine Do.p [0,1] [] (s.c (q.call ly O O (fun w hw=>e9 (sx.extract 5 9) w (by rw [ByteArray.size_extract];omega))) O) fun _=>?_
   refine D.two (i:=8) (j:=13) O O ?_ ?_
   .
    refine Do.p [0,1] [] (s.c (q.call ly O O (fun w hw=>e9 (sx.extract 9 13) w (by rw [ByteArray.size_extract];omega))) O) fun _=>?_
    refine D.two (i:=11) (j:=13) O O ?_ ?_
    .
     refine Do.p [0,1] [] (s.c (q.call ly O O (fun w hw=>e9 (sx.extract 13 17) w (by rw [ByteArray.size_extract];omega))) O) fun _=>?_
     refine D.l [12] [0,1] [] O<|U ?_
     refine D.p 13 O [1,2] [] (s.alloc (cs:=[iV 0,iV 0,iV 0,iV 0]) l4 O O) fun b2=>?_
     refine D.p 14 O [1,2] [] (s.st (us:=[iV (jY (sx.extract 1 5):Int),iV (jY (sx.extract 5 9):Int),iV (jY (sx.extract 9 13):Int),iV (jY (sx.extract 13 17):Int)]) (cs':=[iV (jY (sx.extract 1 5):Int),iV (jY (sx.extract 5 9):Int),iV (jY (sx.extract 9 13):Int),iV (jY (sx.extract 13 17):Int)]) 0 _ O O O O (.inl ki) O O O O) fun _=>?_
     refine D.done<|U ?_
     obtain ⟨y1,hy1⟩:∃z,sx.data[0]? = some z:=⟨_,Array.getElem?_eq_getElem (show 0<sx.size from by omega)⟩
     have Wt:=y1.toNat_lt
     refine R.q (q.gN (i:=0) O O Tryz.underlying9 O hy1) O ?_
     refine C (y1.toNat=72) ?_ ?_ <;> intro h1
     .
      refine C (1<jY (sx.extract 5 9)) ?_ ?_ <;> intro h2
      .
       rw [show dJ sx=_ from by (rewrite [dM (by unfold fU;(rewrite [aK hy1]);omega)]) <;> rfl]
       exact R.x1 () [2] []
      refine C (2400<jY (sx.extract 9 13)) ?_ ?_ <;> intro h3
      .
       rw [show dJ sx=_ from by (rewrite [dM (by unfold fU;(rewrite [aK hy1]);omega)]) <;> rfl]
       exact R.x1 () [2] []
      refine C (jY (sx.extract 13 17)<1) ?_ ?_ <;> intro h4
      .
       rw [show dJ sx=_ from by (rewrite [dM (by unfold fU;(rewrite [aK hy1]);omega)]) <;> rfl]
       exact R.x1 () [2] []
      rw [show dJ sx=_ from by (rewrite [oq (by unfold fU;(rewrite [aK hy1]);omega)]) <;> rfl]
      exact R.x1 () [2] []
     rw [show dJ sx=_ from by (rewrite [dM (by unfold fU;(rewrite [aK hy1]);omega)]) <;> rfl]
     exact R.x1 () [2] []
    refine Do.p [1,2] [] (s.alloc (cs:=[iV 0,iV 0,iV 0,iV 0]) l4 O O) fun b3=>?_
    refine D.p 11 O [1,2] [] (s.c (q.call ly O O (fun w hw=>e9 (sx.extract 13 17) w (by rw [ByteArray.size_extract];omega))) O) fun _=>?_
    refine D.l [12] [1,2] [] O<|U ?_
    refine D.p 14 O [1,2] [] (s.st (us:=[iV (jY (sx.extract 1 5):Int),iV (jY (sx.extract 5 9):Int),iV (jY (sx.extract 9 13):Int),iV (jY (sx.extract 13 17):Int)]) (cs':=[iV (jY (sx.extract 1 5):Int),iV (jY (sx.extract 5 9):Int),iV (jY (sx.extract 9 13):Int),iV (jY (sx.extract 13 17):Int)]) 0 _ O O O O (.inl ki) O O O O) fun _=>?_
    refine D.done<|U ?_
    obtain ⟨y2,hy2⟩:∃z,sx.data[0]? = some z:=⟨_,Array.getElem?_eq_getElem (show 0<sx.size from by omega)⟩
    have XK:=y2.toNat_lt
    refine R.q (q.gN (i:=0) O O Tryz.underlying9 O hy2) O ?_
    refine C (y2.toNat=72) ?_ ?_ <;> intro h5
    .
     refine C (1<jY (sx.extract 5 9)) ?_ ?_ <;> intro h6
     .
      rw [show dJ sx=_ from by (rewrite [dM (by unfold fU;(rewrite [aK hy2]);omega)]) <;> rfl]
      exact R.x1 () [2] []
     refine C (2400<jY (sx.extract 9 13)) ?_ ?_ <;> intro h7
     .
      rw [show dJ sx=_ from by (rewrite [dM (by unfold fU;(rewrite [aK hy2]);omega)]) <;> rfl]
      exact R.x1 () [2] []
     refine C (jY (sx.extract 13 17)<1) ?_ ?_ <;> intro h8
     .
      rw [show dJ sx=_ from by (rewrite [dM (by unfold fU;(rewrite [aK hy2]);omega)]) <;> rfl]
      exact R.x1 () [2] []
     rw [show dJ sx=_ from by (rewrite [oq (by unfold fU;(rewrite [aK hy2]);omega)]) <;> rfl]
     exact R.x1 () [2] []
    rw [show dJ sx=_ from by (rewrite [dM (by unfold fU;(rewrite [aK hy2]);omega)]) <;> rfl]
    exact R.x1 () [2] []
   refine Do.p [1,2] [] (s.alloc (cs:=[iV 0,iV 0,iV 0,iV 0]) l4 O O) fun b4=>?_
   refine D.p 8 O [1,2] [] (s.c (q.call ly O O (fun w hw=>e9 (sx.extract 9 13) w (by rw [ByteArray.size_extract];omega))) O) fun _=>?_
   refine D.p 11 O [1,2] [] (s.c (q.call ly O O (fun w hw=>e9 (sx.extract 13 17) w (by rw [ByteArray.size_extract];omega))) O) fun _=>?_
   refine D.l [12] [1,2] [] O<|U ?_
   refine D.p 14 O [1,2] [] (s.st (us:=[iV (jY (sx.extract 1 5):Int),iV (jY (sx.extract 5 9):Int),iV (jY (sx.extract 9 13):Int),iV (jY (sx.extract 13 17):Int)]) (cs':=[iV (jY (sx.extract 1 5):Int),iV (jY (sx.extract 5 9):Int),iV (jY (sx.extract 9 13):Int),iV (jY (sx.extract 13 17):Int)]) 0 _ O O O O (.inl ki) O O O O) fun _=>?_
   refine D.done<|U ?_
   obtain ⟨y3,hy3⟩:∃z,sx.data[0]? = some z:=⟨_,Array.getElem?_eq_getElem (show 0<sx.size from by omega)⟩
   have Zi:=y3.toNat_lt
   refine R.q (q.gN (i:=0) O O Tryz.underlying9 O hy3) O ?_
   refine C (y3.toNat=72) ?_ ?_ <;> intro h9
   .
    refine C (1<jY (sx.extract 5 9)) ?_ ?_ <;> intro h10
    .
     rw [show dJ sx=_ from by (rewrite [dM (by unfold fU;(rewrite [aK hy3]);omega)]) <;> rfl]
     exact R.x1 () [2] []
    refine C (2400<jY (sx.extract 9 13)) ?_ ?_ <;> intro h11
    .
     rw [show dJ sx=_ from by (rewrite [dM (by unfold fU;(rewrite [aK hy3]);omega)]) <;> rfl]
     exact R.x1 () [2] []
    refine C (jY (sx.extract 13 17)<1) ?_ ?_ <;> intro h12
    .
     rw [show dJ sx=_ from by (rewrite [dM (by unfold fU;(rewrite [aK hy3]);omega)]) <;> rfl]
     exact R.x1 () [2] []
    rw [show dJ sx=_ from by (rewrite [oq (by unfold fU;(rewrite [aK hy3]);omega)]) <;> rfl]
    exact R.x1 () [2] []
   rw [show dJ sx=_ from by (rewrite [dM (by unfold fU;(rewrite [aK hy3]);omega)]) <;> rfl]
   exact R.x1 () [2] []
  refine Do.p [1,2] [] (s.alloc (cs:=[iV 0,iV 0,iV 0,iV 0]) l4 O O) fun b5=>?_
  refine D.p 5 O [1,2] [] (s.c (q.call ly O O (fun w hw=>e9 (sx.extract 5 9) w (by rw [ByteArray.size_extract];omega))) O) fun _=>?_
  refine D.p 8 O [1,2] [] (s.c (q.call ly O O (fun w hw=>e9 (sx.extract 9 13) w (by rw [ByteArray.size_extract];omega))) O) fun _=>?_
  refine D.p 11 O [1,2] [] (s.c (q.call ly O O (fun w hw=>e9 (sx.extract 13 17) w (by rw [ByteArray.size_extract];omega))) O) fun _=>?_
  refine D.l [12] [1,2] [] O<|U ?_
  refine D.p 14 O [1,2] [] (s.st (us:=[iV (jY (sx.extract 1 5):Int),iV (jY (sx.extract 5 9):Int),iV (jY (sx.extract 9 13):Int),iV (jY (sx.extract 13 17):Int)]) (cs':=[iV (jY (sx.extract 1 5):Int),iV (jY (sx.extract 5 9):Int),iV (jY (sx.extract 9 13):Int),iV (jY (sx.extract 13 17):Int)]) 0 _ O O O O (.inl ki) O O O O) fun _=>?_
  refine D.done<|U ?_
  obtain ⟨y4,hy4⟩:∃z,sx.data[0]? = some z:=⟨_,Array.getElem?_eq_getElem (show 0<sx.size from by omega)⟩
  have by4:=y4.toNat_lt
  refine R.q (q.gN (i:=0) O O Tryz.underlying9 O hy4) O ?_
  refine C (y4.toNat=72) ?_ ?_ <;> intro Pf
  .
   refine C (1<jY (sx.extract 5 9)) ?_ ?_ <;> intro Si
   .
    rw [show dJ sx=_ from by (rewrite [dM (by unfold fU;(rewrite [aK hy4]);omega)]) <;> rfl]
    exact R.x1 () [2] []
   refine C (2400<jY (sx.extract 9 13)) ?_ ?_ <;> intro XJ
   .
    rw [show dJ sx=_ from by (rewrite [dM (by unfold fU;(rewrite [aK hy4]);omega)]) <;> rfl]
    exact R.x1 () [2] []
   refine C (jY (sx.extract 13 17)<1) ?_ ?_ <;> intro h16
   .
    rw [show dJ sx=_ from by (rewrite [dM (by unfold fU;(rewrite [aK hy4]);omega)]) <;> rfl]
    exact R.x1 () [2] []
   rw [show dJ sx=_ from by (rewrite [oq (by unfold fU;(rewrite [aK hy4]);omega)]) <;> rfl]
   exact R.x1 () [2] []
  rw [show dJ sx=_ from by (rewrite [dM (by unfold fU;(rewrite [aK hy4]);omega)]) <;> rfl]
  exact R.x1 () [2] []
 refine Do.p [1,2] [] (s.alloc (cs:=[iV 0,iV 0,iV 0,iV 0]) l4 O O) fun b6=>?_
 refine D.p 2 O [1,2] [] (s.c (q.call ly O O (fun w hw=>e9 (sx.extract 1 5) w (by rw [ByteArray.size_extract];omega))) O) fun _=>?_
 refine D.p 5 O [1,2] [] (s.c (q.call ly O O (fun w hw=>e9 (sx.extract 5 9) w (by rw [ByteArray.size_extract];omega))) O) fun _=>?_
 refine D.p 8 O [1,2] [] (s.c (q.call ly O O (fun w hw=>e9 (sx.extract 9 13) w (by rw [ByteArray.size_extract];omega))) O) fun _=>?_
 refine D.p 11 O [1,2] [] (s.c (q.call ly O O (fun w hw=>e9 (sx.extract 13 17) w (by rw [ByteArray.size_extract];omega))) O) fun _=>?_
 refine D.l [12] [1,2] [] O<|U ?_
 refine D.p 14 O [1,2] [] (s.st (us:=[iV (jY (sx.extract 1 5):Int),iV (jY (sx.extract 5 9):Int),iV (jY (sx.extract 9 13):Int),iV (jY (sx.extract 13 17):Int)]) (cs':=[iV (jY (sx.extract 1 5):Int),iV (jY (sx.extract 5 9):Int),iV (jY (sx.extract 9 13):Int),iV (jY (sx.extract 13 17):Int)]) 0 _ O O O O (.inl ki) O O O O) fun _=>?_
 refine D.done<|U ?_
 obtain ⟨y5,Jh⟩:∃z,sx.data[0]? = some z:=⟨_,Array.getElem?_eq_getElem (show 0<sx.size from by omega)⟩
 have by5:=y5.toNat_lt
 refine R.q (q.gN (i:=0) O O Tryz.underlying9 O Jh) O ?_
 refine C (y5.toNat=72) ?_ ?_ <;> intro Zh
 .
  refine C (1<jY (sx.extract 5 9)) ?_ ?_ <;> intro h18
  .
   rw [show dJ sx=_ from by (rewrite [dM (by unfold fU;(rewrite [aK Jh]);omega)]) <;> rfl]
   exact R.x1 () [2] []
  refine C (2400<jY (sx.extract 9 13)) ?_ ?_ <;> intro h19
  .
   rw [show dJ sx=_ from by (rewrite [dM (by unfold fU;(rewrite [aK Jh]);omega)]) <;> rfl]
   exact R.x1 () [2] []
  refine C (jY (sx.extract 13 17)<1) ?_ ?_ <;> intro h20
  .
   rw [show dJ sx=_ from by (rewrite [dM (by unfold fU;(rewrite [aK Jh]);omega)]) <;> rfl]
   exact R.x1 () [2] []
  rw [show dJ sx=_ from by (rewrite [oq (by unfold fU;(rewrite [aK Jh]);omega)]) <;> rfl]
  exact R.x1 () [2] []
 rw [show dJ sx=_ from by (rewrite [dM (by unfold fU;(rewrite [aK Jh]);omega)]) <;> rfl]
 exact R.x1 () [2] []
structure fu where
  Epoch:Int
  Side:Int
  Size:Int
  First:Int
  Rows:List Change
def qN.c (st:qN):fu:=⟨st.Epoch,st.Side,st.Size,st.First,st.Rows⟩
theorem Hc {t:ByteArray}{x y z:UInt8}(hx:t.data[0]? = some x)(hy:t.data[1]? = some y)(hz:t.data[2]? = some z):sH t=3+x.toNat+y.toNat+256*z.toNat:=by
 unfold sH;rw [aK hx,aK hy,aK hz]
theorem Pt {t:ByteArray}{x y z:UInt8}{c:Change}(hx:t.data[0]? = some x)(hy:t.data[1]? = some y)(hz:t.data[2]? = some z)(hc:c=⟨t.extract 3 (3+x.toNat),t.extract (3+x.toNat) (3+x.toNat+y.toNat+256*z.toNat),false⟩):A9 t=c:=by
 rw [hc];unfold A9;rw [Hc hx hy hz,aK hx]
theorem Me (sx:ByteArray)(w:World)(own:List Nat)(H:HN w own [] [])(hs:sx.size<=2400):RC Tryz.prog 79 #[.string sx] H (fun z:Value => .tuple #[z,.bool (fH sx).2]) (fun z=>[ag.row 115 z (fH sx).1]) (fun _=>[]):=by
 refine R.eN H ?_
 refine R.row0 (α:=Change) 115<|R.loop (fun g_:ByteArray×Nat×Value×(List Change)=>[(0,.string g_.1),(4,g_.2.2.1)]) (fun g_=>[ag.row 115 g_.2.2.1 g_.2.2.2,ag.held w own]) (fun g_=>[]) (fun g_=>g_.1.size+g_.2.2.2.length<=2400/\g_.1.size<g_.2.1/\rF g_.2.1 g_.1 g_.2.2.2=fH sx) (fun g_=>g_.2.1) (sx,sx.size+1,nS,[]) O (by dsimp only;exact ⟨aG,ae,rfl⟩) (sF O) (dX [0,1] [] O) ?_
 rintro ⟨tt,k,u,rs⟩ ⟨hl,hk,HP⟩
 dsimp only at *
 refine U ?_
 refine C (tt=⟨#[]⟩) ?_ ?_ <;> intro h1
 .
  refine R.q (q.oO O O h1) O<|U ?_
  rw [show fH sx=_ from (Sn HP hk af)]
  exact R.x2 u [0,1] []
 refine R.q (q.rh O O h1) O<|U ?_
 refine C (tt.size<3) ?_ ?_ <;> intro h2
 .
  refine R.c6 O mixed ay<|U ?_
  refine R.row0 (α:=Change) 115 ?_
  rw [show fH sx=_ from (KS HP hk af (.inl ae))]
  exact R.x2 nS [0,2] []
 obtain ⟨y1,hy1⟩:∃z,tt.data[0]? = some z:=⟨_,Array.getElem?_eq_getElem (show 0<tt.size from by omega)⟩
 have Wt:=y1.toNat_lt
 obtain ⟨y2,hy2⟩:∃z,tt.data[1]? = some z:=⟨_,Array.getElem?_eq_getElem (show 1<tt.size from by omega)⟩
 have XK:=y2.toNat_lt
 obtain ⟨y3,hy3⟩:∃z,tt.data[2]? = some z:=⟨_,Array.getElem?_eq_getElem (show 2<tt.size from by omega)⟩
 have Zi:=y3.toNat_lt
 refine C (tt.size<(((3+y1.toNat)+y2.toNat)+(256*y3.toNat))) ?_ ?_ <;> intro h3
 .
  refine R.c6 O mixed ay<|U ?_
  refine Q.qg O (q.gN (i:=0) O O Tryz.underlying9 O hy1) O<|Q.qg O (q.ny (r:=((y1.toNat:Nat):Int)) O (by rw [Tryz.underlying5];rfl) Tryz.underlying3 (wr ae)) O<|U ?_
  refine Q.qg O (q.gN (i:=1) O O Tryz.underlying9 O hy2) O<|Q.qg O (q.ny (r:=((y2.toNat:Nat):Int)) O (by rw [Tryz.underlying5];rfl) Tryz.underlying3 (wr ae)) O<|U ?_
  refine Q.qg O (q.gN (i:=2) O O Tryz.underlying9 O hy3) O<|Q.qg O (q.ny (r:=((y3.toNat:Nat):Int)) O (by rw [Tryz.underlying5];rfl) Tryz.underlying3 (wr ae)) O<|Q.qg O (q.ut (r:=((256*y3.toNat:Nat):Int)) O O) O<|U ?_
  refine R.row0 (α:=Change) 115 ?_
  rw [show fH sx=_ from by (exact (KS HP hk af (.inr (by rewrite [Hc hy1 hy2 hy3];omega)))) <;> rfl]
  exact R.x2 nS [0,2] []
 refine R.c6 O mixed ay<|U ?_
 refine Q.qg O (q.gN (i:=0) O O Tryz.underlying9 O hy1) O<|Q.qg O (q.ny (r:=((y1.toNat:Nat):Int)) O (by rw [Tryz.underlying5];rfl) Tryz.underlying3 (wr ae)) O<|U ?_
 refine Q.qg O (q.gN (i:=1) O O Tryz.underlying9 O hy2) O<|Q.qg O (q.ny (r:=((y2.toNat:Nat):Int)) O (by rw [Tryz.underlying5];rfl) Tryz.underlying3 (wr ae)) O<|U ?_
 refine Q.qg O (q.gN (i:=2) O O Tryz.underlying9 O hy3) O<|Q.qg O (q.ny (r:=((y3.toNat:Nat):Int)) O (by rw [Tryz.underlying5];rfl) Tryz.underlying3 (wr ae)) O<|Q.qg O (q.ut (r:=((256*y3.toNat:Nat):Int)) O O) O<|U ?_
 refine R.q (q.gN (i:=0) O O Tryz.underlying9 O hy1) O<|R.q (q.ny (r:=((y1.toNat:Nat):Int)) O (by rw [Tryz.underlying5];rfl) Tryz.underlying3 (wr ae)) O<|U ?_
 refine R.c6 O mixed ay<|U ?_
 refine Q.q (q.gN (i:=1) O O Tryz.underlying9 O hy2) O<|Q.q (q.ny (r:=((y2.toNat:Nat):Int)) O (by rw [Tryz.underlying5];rfl) Tryz.underlying3 (wr ae)) O<|U ?_
 refine Q.q (q.gN (i:=2) O O Tryz.underlying9 O hy3) O<|Q.q (q.ny (r:=((y3.toNat:Nat):Int)) O (by rw [Tryz.underlying5];rfl) Tryz.underlying3 (wr ae)) O<|Q.q (q.ut (r:=((256*y3.toNat:Nat):Int)) O O) O<|U ?_
 refine R.cO (fuel:=10) [0,1] O O mixed O<|D.l a8 [0,1] [] O<|U ?_
 refine Dm.yy O O (q.Fv (i:=3) (j:=(3+y1.toNat)) O O O Tryz.underlying9 O O ae ae) O<|U ?_
 refine Dm.yy O O (q.Fv (i:=(3+y1.toNat)) (j:=(((3+y1.toNat)+y2.toNat)+(256*y3.toNat))) O O O Tryz.underlying9 O O ae ae) O<|U ?_
 refine D.p 8 O [1,2] [] (s.alloc ct O O) fun b1=>?_
 refine D.p 9 O [1,2] [] (s.st 0 _ O O O O (.inl jO) O O O O) fun _=>?_
 refine D.done<|U ?_
 refine R.kc O O (fun w hw=>jX (⟨tt.extract 3 (3+y1.toNat),tt.extract (3+y1.toNat) (((3+y1.toNat)+y2.toNat)+(256*y3.toNat)),false⟩:Change) w)<|C (iT (⟨tt.extract 3 (3+y1.toNat),tt.extract (3+y1.toNat) (((3+y1.toNat)+y2.toNat)+(256*y3.toNat)),false⟩:Change)=0) ?_ ?_ <;> intro h4
 .
  refine R.s O (s.bs (l:=([(⟨tt.extract 3 (3+y1.toNat),tt.extract (3+y1.toNat) (((3+y1.toNat)+y2.toNat)+(256*y3.toNat)),false⟩:Change)]:List Change)) cD ct O O O O O O O) fun b2=>?_
  refine R.s O (s.pre (fun _ hw=>hw.aO 2 _ O O) (s.pre (fun _ hw=>hw.aO 0 _ O O) (s.aH [0,1] [1,0] _ _ _ O O O OO O O (fun w own hw H=>qL u rs (.slice (some ⟨b2,0,none⟩) 1 1) ([(⟨tt.extract 3 (3+y1.toNat),tt.extract (3+y1.toNat) (((3+y1.toNat)+y2.toNat)+(256*y3.toNat)),false⟩:Change)]) w own H aG) O))) fun z1=>U ?_
  refine R.q (q.Cy (i:=(((3+y1.toNat)+y2.toNat)+(256*y3.toNat))) O O Tryz.underlying9 O ae) O<|U ?_
  refine R.back ((tt.extract (((3+y1.toNat)+y2.toNat)+(256*y3.toNat)) tt.size),k-1,z1,bX rs ([(⟨tt.extract 3 (3+y1.toNat),tt.extract (3+y1.toNat) (((3+y1.toNat)+y2.toNat)+(256*y3.toNat)),false⟩:Change)])) O (by ((try dsimp only);have g:=Wz HP hk af (by rw [Hc hy1 hy2 hy3];omega) (by rw [Pt hy1 hy2 hy3 O];assumption);rw [Hc hy1 hy2 hy3,Pt hy1 hy2 hy3 O] at g;have ha:=lX [(⟨tt.extract 3 (3+y1.toNat),tt.extract (3+y1.toNat) (((3+y1.toNat)+y2.toNat)+(256*y3.toNat)),false⟩:Change)] rs;rw [List.length_singleton] at ha;exact ⟨by rw [ByteArray.size_extract];omega,g.2,g.1⟩)) aJ (sF O) (cw [0,2] [] O)
 refine R.row0 (α:=Change) 115 ?_
 rw [show fH sx=_ from by (exact (Mb HP hk af (by rewrite [Hc hy1 hy2 hy3];omega) (by rewrite [Pt hy1 hy2 hy3 rfl];assumption))) <;> rfl]
 exact R.x2 nS [0,3] []
theorem Pu {k i:Nat}{m:cq}{e:Int}{Z:cq×Int}(h:lB k i (m,e)=Z)(he:e=0)(hk:0<k):lB (k-1) (i+1) (aU m (i:Int) ⟨#[]⟩)=Z:=by
 cases k with
 | zero=>omega
 | succ k=>rw [lB,if_pos he] at h;exact h
theorem He {k i:Nat}{m:cq}{e:Int}{Z:cq×Int}(h:lB k i (m,e)=Z)(he:¬ e=0):Z=(m,e):=by
 cases k with
 | zero=>exact h.symm
 | succ k=>rw [lB,if_neg he] at h;exact h.symm
theorem xk {k i:Nat}{m:cq}{e:Int}{Z:cq×Int}(h:lB k i (m,e)=Z)(hk:k=0):Z=(m,e):=by subst hk;exact h.symm
theorem Jm (aF:Nat)(au av ao:Value)(dk:cq)(w:World)(own:List Nat)(H:HN w own [ag.box aF [au,av,ao,iV dk.Fuse,.bool dk.Down] 120,ag.row 9 au dk.Kept,ag.row 9 av dk.Now,ag.row 196 ao dk.Wait] [])(hD:gw dk.Now.length 80000 dk/\dk.Now.length<=1000):RS Tryz.prog 61 #[pV aF] H (eA dk) (fun s (_:Value×Value×Value)=>bQ s.2) (fun s z=>[ag.box aF [z.1,z.2.1,z.2.2,iV s.1.Fuse,.bool s.1.Down] 120,ag.row 9 z.1 s.1.Kept,ag.row 9 z.2.1 s.1.Now,ag.row 196 z.2.2 s.1.Wait]) (fun _ _=>[]):=by
 have dD:=H.cap 1 rfl;have dE:=H.ck 1 rfl
 have ew:=H.cap 2 rfl;have ey:=H.ck 2 rfl
 have dF:=H.cap 3 rfl;have dG:=H.ck 3 rfl
 have p0:=hD.1.fine ae ae
 refine R.eN H ?_
 refine R.kc O O (fun w hw=>gZ aF au av ao dk w (hw.b 0 O) (hw.row 1 O) (hw.row 2 O) (hw.row 3 O))<|C (dk.Now.length<166) ?_ ?_ <;> intro h1
 .
  rw [show eA dk=_ from Md ae]
  exact R.x1 (au,av,ao) bV []
 refine R.s O (s.aH bV [] _ _ _ O O O xX O O (fun w own hw H=>jP aF au av ao dk 0 (⟨#[]⟩) w own H af) O) ?_
 rintro ⟨z1,z2,z3⟩
 dsimp only
 refine U ?_
 refine R.loop (fun g_:Nat×Int×cq×Value×Value×Value=>[(0,pV aF),(3,bQ g_.2.1),(4,iV ((102+g_.1):Int))]) (fun g_=>[ag.box aF [g_.2.2.2.1,g_.2.2.2.2.1,g_.2.2.2.2.2,iV g_.2.2.1.Fuse,.bool g_.2.2.1.Down] 120,ag.row 9 g_.2.2.2.1 g_.2.2.1.Kept,ag.row 9 g_.2.2.2.2.1 g_.2.2.1.Now,ag.row 196 g_.2.2.2.2.2 g_.2.2.1.Wait,ag.held w own]) (fun g_=>[]) (fun g_=>102+g_.1<=dk.Now.length/\lB (dk.Now.length-102-g_.1) (102+g_.1) (g_.2.2.1,g_.2.1)=B6 dk/\gw dk.Now.length (80001+g_.1) g_.2.2.1) (fun g_=>dk.Now.length-g_.1) (0,(aU dk 0 (⟨#[]⟩)).2,(aU dk 0 (⟨#[]⟩)).1,z1,z2,z3) O (by (try dsimp only);exact ⟨ae,rfl,hD.1.write _ _⟩) (sF O) (dX bV [] O) ?_
 rintro ⟨j,e,dm,eT,gh,eU⟩ ⟨hj,HB,hO⟩
 dsimp only at *
 have enl:=hO.nl;have p1:=hO.fine ae ae
 refine U ?_
 refine R.kc O O (fun w hw=>gZ aF eT gh eU dm w (hw.b 0 O) (hw.row 1 O) (hw.row 2 O) (hw.row 3 O))<|C ((102+j)<dm.Now.length) ?_ ?_ <;> intro h2
 .
  refine C (e=0) ?_ ?_ <;> intro h3
  .
   refine R.s O (s.aH bV [] _ _ _ O O O xX O O (fun w own hw H=>jP aF eT gh eU dm ((102+j):Int) (⟨#[]⟩) w own H af) O) ?_
   rintro ⟨z4,z5,z6⟩
   dsimp only
   refine U ?_
   refine R.back (j+1,(aU dm ((102+j):Int) (⟨#[]⟩)).2,(aU dm ((102+j):Int) (⟨#[]⟩)).1,z4,z5,z6) O (by (try dsimp only);exact ⟨ae,by have g:=Pu HB af ae;rwa [show dk.Now.length-102-(j+1)=dk.Now.length-102-j-1 by omega],hO.write _ _⟩) aJ (sF O) (cw bV [] O)
  rw [show eA dk=_ from Uu ae (by exact (He HB af)) af]
  exact R.x1 (eT,gh,eU) bV []
 refine C (e=0) ?_ ?_ <;> intro h4
 .
  refine R.s O (s.aH bV [] _ _ _ O O O Df O O (fun w own hw H=>l7 aF eT gh eU dm w own H af) O) ?_
  rintro ⟨z7,z8,z9⟩
  dsimp only
  refine U ?_
  refine C ((aQ dm).2=0) ?_ ?_ <;> intro h5
  .
   have p2:=hO.flush.fine ae ae
   refine U ?_
   refine R.kc O O (fun w hw=>Dr (⟨1,0,0,1⟩:BW) w aJ)<|R.s O (s.aH bV [] _ _ _ O O O xX O O (fun w own hw H=>jP aF z7 z8 z9 (aQ dm).1 1 (c8 (⟨1,0,0,1⟩:BW)) w own H af) O) ?_
   rintro ⟨kM,lA,z12⟩
   dsimp only
   refine U ?_
   refine C ((aU (aQ dm).1 1 (c8 (⟨1,0,0,1⟩:BW))).2=0) ?_ ?_ <;> intro h6
   .
    have p3:=(hO.flush.write 1 (c8 ⟨1,0,0,1⟩)).fine ae ae
    refine U ?_
    refine R.s O (s.aH bV [] _ _ _ O O O Df O O (fun w own hw H=>l7 aF kM lA z12 (aU (aQ dm).1 1 (c8 (⟨1,0,0,1⟩:BW))).1 w own H af) O) ?_
    rintro ⟨mW,tQ,xl⟩
    dsimp only
    refine U ?_
    rw [show eA dk=_ from Uv ae (by exact (xk HB ae)) af af af]
    exact R.x1 (mW,tQ,xl) bV []
   rw [show eA dk=_ from Zu ae (by exact (xk HB ae)) af af af]
   exact R.x1 (kM,lA,z12) bV []
  rw [show eA dk=_ from Zt ae (by exact (xk HB ae)) af af]
  exact R.x1 (z7,z8,z9) bV []
 rw [show eA dk=_ from Uu ae (by exact (He HB af)) af]
 exact R.x1 (eT,gh,eU) bV []
structure yD where
  Buf:List UInt8
structure Sp where
  Used:Bool
  Buf:List UInt8
theorem Cb (kN:Nat)(fO:Value)(bd:yD)(w:World)(own:List Nat)(H:HN w own [ag.box kN [.pointer none,fO] 189,ag.row 5 fO bd.Buf] []):RC Tryz.prog 193 #[pV kN] H (fun _:Value => .tuple #[]) (fun z=>[ag.box kN [pV kN,z] 189,ag.row 5 z bd.Buf]) (fun _=>[]):=by
 have Bf:=H.cap 1 rfl;have Bg:=H.ck 1 rfl
 refine R.eN H ?_
 refine R.q (q.toU (i:=0) O O Tryz.underlying187 Tryz.underlying271 O aC bA) O<|R.q (q.Zk Tryz.func234 (by decide +kernel) O O O O O) O<|R.q (q.frU (i:=0) O O Tryz.underlying271 Tryz.underlying187 O 2 O (by decide +kernel)) O<|U ?_
 exact R.x0 fO [0,1,2] []
theorem Cc (kN:Nat)(fO:Value)(bd:yD)(sx:ByteArray)(w:World)(own:List Nat)(H:HN w own [ag.box kN [.pointer none,fO] 189,ag.row 5 fO bd.Buf] [])(hl:bd.Buf.length+sx.size<=1000000):RC Tryz.prog 126 #[pV kN,.string sx] H (fun _:Value => .tuple #[iV (sx.size:Int),.nilIface]) (fun z=>[ag.box kN [pV kN,z] 189,ag.row 5 z ((⟨bd.Buf++sx.data.toList⟩:yD).Buf:List UInt8)]) (fun _=>[]):=by
 have Bf:=H.cap 1 rfl;have Bg:=H.ck 1 rfl
 refine R.eN H ?_
 refine R.s O (s.aH [0,1,2] [] _ _ _ O O O O4 O O (fun w own hw H=>Cb kN fO bd w own H) O) fun z1=>U ?_
 refine R.s O (s.Pq 1 O O O Tryz.underlying137 Tryz.underlying9 O O O O ae O) fun v1=>U ?_
 have hz:((⟨bd.Buf++sx.data.toList⟩:yD),sx.size)=((⟨bd.Buf++sx.data.toList⟩:yD),sx.size):=by (rfl)
 exact R.x2 v1 [0,1,2] []
theorem Cd (kN:Nat)(fO:Value)(bd:yD)(w:World)(own:List Nat)(H:HN w own [ag.box kN [pV kN,fO] 189,ag.row 5 fO bd.Buf] []):RC Tryz.prog 193 #[pV kN] H (fun _:Value => .tuple #[]) (fun z=>[ag.box kN [pV kN,z] 189,ag.row 5 z bd.Buf]) (fun _=>[]):=by
 have Bf:=H.cap 1 rfl;have Bg:=H.ck 1 rfl
 refine R.eN H ?_
 refine R.q (q.same O O Tryz.underlying187 O) O<|U ?_
 exact R.x0 fO [0,1,2] []
theorem Ce (kN:Nat)(fO:Value)(bd:yD)(sx:ByteArray)(w:World)(own:List Nat)(H:HN w own [ag.box kN [pV kN,fO] 189,ag.row 5 fO bd.Buf] [])(hl:bd.Buf.length+sx.size<=1000000):RC Tryz.prog 126 #[pV kN,.string sx] H (fun _:Value => .tuple #[iV (sx.size:Int),.nilIface]) (fun z=>[ag.box kN [pV kN,z] 189,ag.row 5 z ((⟨bd.Buf++sx.data.toList⟩:yD).Buf:List UInt8)]) (fun _=>[]):=by
 have Bf:=H.cap 1 rfl;have Bg:=H.ck 1 rfl
 refine R.eN H ?_
 refine R.s O (s.aH [0,1,2] [] _ _ _ O O O O4 O O (fun w own hw H=>Cd kN fO bd w own H) O) fun z1=>U ?_
 refine R.s O (s.Pq 1 O O O Tryz.underlying137 Tryz.underlying9 O O O O ae O) fun v1=>U ?_
 have hz:((⟨bd.Buf++sx.data.toList⟩:yD),sx.size)=((⟨bd.Buf++sx.data.toList⟩:yD),sx.size):=by (rfl)
 exact R.x2 v1 [0,1,2] []
theorem E5 (kN:Nat)(fO:Value)(bd:Sp)(sx:ByteArray)(w:World)(own:List Nat)(H:HN w own [ag.box kN [Ba kN bd.Used,fO] 189,ag.row 5 fO (bd.Buf:List UInt8)] [])(hl:bd.Buf.length+sx.size<=1000000):RC Tryz.prog 126 #[.pointer (some ⟨kN,0,none⟩),.string sx] H (fun _:Value => .tuple #[.int .i64 (sx.size:Int),.nilIface]) (fun z=>[ag.box kN [Ba kN (((⟨true,bd.Buf++sx.data.toList⟩:Sp)).Used),z] 189,ag.row 5 z (((⟨true,bd.Buf++sx.data.toList⟩:Sp)).Buf:List UInt8)]) (fun _=>[]):=by
 obtain ⟨u_,l_⟩:=bd
 cases u_ with
 | true=>exact Ce kN fO (⟨l_⟩:yD) sx w own H hl
 | false=>exact Cc kN fO (⟨l_⟩:yD) sx w own H hl
theorem Sq (bR:Value)(l:List Change)(w:World)(ia:Sl w bR l)(hl:l.length<=1000)(hF:∀c∈l,iT c=0):Calls Tryz.prog 68 #[bR] w fun e w'=>e = .returned (.string (bM l))/\Ext w w':=by
 have yA:=ia.fS
 refine R.enter [] [(0,bR)] Tryz.func68 O O O O<|R.uz ia<|U ?_
 refine R.nb fun b1=>?_
 refine R.row0 (α:=UInt8) 5<|R.loop (fun g_:Nat×Bool×Value×(List UInt8)=>[(3,pV b1),(6,bR),(7,iV (l.length:Int)),(8,iV (g_.1:Int))]) (fun g_=>[ag.row 5 g_.2.2.1 g_.2.2.2,ag.box b1 [Ba b1 g_.2.1,g_.2.2.1] 189]) (fun g_=>[ag.ls bR l]) (fun g_=>g_.1<=l.length/\g_.2.2.2=(bM (l.take g_.1)).data.toList) (fun g_=>l.length-g_.1) (0,false,nS,[]) O (by exact ⟨ae,rfl⟩) (sF O) (dX [0,1] [0] O) ?_
 rintro ⟨k,u,qb,bb⟩ ⟨hk,HB⟩
 dsimp only at *
 have hbl:bb.length<=35*k:=by have:=yX (l:=l.take k) (fun c hc=>hF c (List.mem_of_mem_take hc));rw [List.length_take] at this;rw [HB,Array.length_toList];show (bM (l.take k)).size<=_;omega
 refine U ?_
 refine C (k<l.length) ?_ ?_ <;> intro h1
 .
  obtain ⟨x1,hx1⟩:=gE l k
  obtain ⟨Sk,gx1,ix1,jx1⟩:=iM (hF x1 (List.mem_of_getElem? hx1))
  refine U ?_
  refine R.nb fun b2=>?_
  refine R.q (q.ny (r:=((x1.Key.size:Nat):Int)) O (by rw [Tryz.underlying3];rfl) Tryz.underlying5 (rU ae)) O<|U ?_
  refine R.q (q.ny (r:=((x1.Val.size:Nat):Int)) O (by rw [Tryz.underlying3];rfl) Tryz.underlying5 (rU ae)) O<|U ?_
  refine R.q (q.shr (r:=(((x1.Val.size / 256):Nat):Int)) O O aC (Rm aC)) O<|R.q (q.ny (r:=(((x1.Val.size / 256):Nat):Int)) O (by rw [Tryz.underlying3];rfl) Tryz.underlying5 (rU ae)) O<|R.s O (s.bs (l:=([UInt8.ofNat x1.Key.size,UInt8.ofNat x1.Val.size,UInt8.ofNat (x1.Val.size / 256)]:List UInt8)) aP eD O O O O O (cp (eu ae) (cp (eu ae) (cp (eu ae) fF))) O) fun b3=>?_
  refine R.q (q.kA (cI 0 O) O aP Tryz.underlying5 Tryz.underlying9) O<|U ?_
  refine R.q (q.cu O O) O<|U ?_
  refine R.q (q.cu O O) O<|R.s O (s.aH [3,2,0,1] [] _ _ _ O O O VG O O (fun w own hw H=>E5 b1 qb (⟨u,bb⟩:Sp) (((⟨([UInt8.ofNat x1.Key.size,UInt8.ofNat x1.Val.size,UInt8.ofNat (x1.Val.size / 256)]).toArray⟩:ByteArray)++x1.Key)++x1.Val) w own H (by simp only [ByteArray.size_append,bg,List.length_cons,List.length_nil];omega)) O) fun z1=>U ?_
  refine R.back (k+1,true,z1,(bb++(((⟨([UInt8.ofNat x1.Key.size,UInt8.ofNat x1.Val.size,UInt8.ofNat (x1.Val.size / 256)]).toArray⟩:ByteArray)++x1.Key)++x1.Val).data.toList)) O (by exact ⟨ae,by rw [Ma hx1,HB];simp [jZ]⟩) aJ (sF O) (cw [1,0] [0] O)
 refine R.s O (s.aa0 (i:=1) (j:=0) (u:=u) (l:=bb) VH O O aC O O (fun W h hW=>Tryz.Builder_String_any _ _ _ W h hW) O) fun _=>U ?_
 refine R.rt ?_
 (rw [HB,List.take_of_length_le ae])
end
end Go.Proofs.YtnmpibjlnninjaaGreatDoor
