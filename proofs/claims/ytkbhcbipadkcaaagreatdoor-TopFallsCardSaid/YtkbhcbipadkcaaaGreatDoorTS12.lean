import Derived.Test.YtkbhcbipadkcaaaGreatDoorTS11
import Derived.Lib.AppendStr
import Derived.Lib.Builder
import Derived.Lib.UnsafeStr
namespace Go.Proofs.YtkbhcbipadkcaaaGreatDoor
set_option linter.unusedVariables false
set_option linter.unusedSimpArgs false
set_option maxRecDepth 100000
set_option maxHeartbeats 90000000
section
open Go
section
variable {l:List Change} {k:Nat} {x y:Change}
theorem Mp {a b:ByteArray}(h:(jy a b||decide (a=b))=true):jy b a=false:=by
 rcases Bool.or_eq_true_iff.1 h with h|h
 .exact tN h
 .have e:=of_decide_eq_true h;subst e;exact e8 _
theorem PX {a b:ByteArray}(h:(jy a b||decide (a=b))=false):jy b a=true:=by
 obtain ⟨h1,h2⟩:=Bool.or_eq_false_iff.1 h
 exact PG h1 (of_decide_eq_false h2)
end
end
section
open Go Go.RowKit
structure cY where
  Epoch:Int
  Side:Int
  Size:Int
  First:Int
  deriving DecidableEq
structure oE where
  Epoch:Int
  Side:Int
  Size:Int
  First:Int
  L:Lg
  Rows:List Change
def aL (h:cY):ByteArray:=⟨#[72]⟩++bY h.Epoch++bY h.Side++bY h.Size++bY h.First
def dB (s:ByteArray):Nat:=bj s 0+bj s 1*256+bj s 2*65536+bj s 3*16777216
theorem J4 (s:ByteArray):dB s<4294967296:=by
 have h0:=qB s 0;have h1:=qB s 1;have h2:=qB s 2;have h3:=qB s 3
 unfold dB;omega
def Gr (s:ByteArray):cY:=⟨(dB (s.extract 1 5):Int),(dB (s.extract 5 9):Int),(dB (s.extract 9 13):Int),(dB (s.extract 13 17):Int)⟩
def fF (s:ByteArray):Prop:= ¬ bj s 0=72∨1<dB (s.extract 5 9)∨2400<dB (s.extract 9 13)∨dB (s.extract 13 17)<1
instance (s:ByteArray):Decidable (fF s):=by unfold fF;infer_instance
def cm (s:ByteArray):cY:=if fF s then ⟨0,0,0,0⟩ else Gr s
theorem dc {s:ByteArray}(h:fF s):cm s=⟨0,0,0,0⟩:=if_pos h
theorem mo {s:ByteArray}(h:¬ fF s):cm s=Gr s:=if_neg h
theorem wZ (s:ByteArray):0<=(cm s).Epoch/\(cm s).Epoch<4294967296/\0<=(cm s).Side/\(cm s).Side<=1/\0<=(cm s).Size/\(cm s).Size<=2400/\0<=(cm s).First/\(cm s).First<4294967296/\(¬ (cm s).Epoch=0->1<=(cm s).First):=by
 by_cases h:fF s
 .rw [dc h];exact ⟨by decide,by decide,by decide,by decide,by decide,by decide,by decide,by decide,fun h=>absurd rfl h⟩
 .
  rw [mo h]
  unfold fF at h
  have h1:=J4 (s.extract 1 5);have h4:=J4 (s.extract 13 17)
  unfold Gr;dsimp only
  refine ⟨?_,?_,?_,?_,?_,?_,?_,?_,fun _=>?_⟩ <;> omega
def rz (s:cw×Int)(f:cw->cw×Int):cw×Int:=if s.2=0 then f s.1 else s
theorem fX {s:cw×Int}{f:cw->cw×Int}(h:s.2=0):rz s f=f s.1:=if_pos h
theorem iA {s:cw×Int}{f:cw->cw×Int}(h:¬ s.2=0):rz s f=s:=if_neg h
def kv:Nat->Nat->cw×Int->cw×Int
  | 0,_,s=>s
  | k+1,i,s=>if s.2=0 then kv k (i+1) (au s.1 (i:Int) ⟨#[]⟩) else s
def w9 (d:cw):cw×Int:=kv (d.Now.length-102) 102 (au d 0 ⟨#[]⟩)
def J5 (d:cw):cw×Int:=rz (w9 d) ai
def J6 (d:cw):cw×Int:=rz (J5 d) fun e=>au e 1 (aL ⟨1,0,0,1⟩)
def J7 (d:cw):cw×Int:=rz (J6 d) ai
def dH (d:cw):cw×Int:=if d.Now.length<166 then (d,9) else J7 d
def iQ (c:Change):ByteArray:=⟨#[UInt8.ofNat c.Key.size,UInt8.ofNat c.Val.size,UInt8.ofNat (c.Val.size / 256)]⟩++c.Key++c.Val
def aJ (l:List Change):ByteArray:=l.foldl (fun b c=>b++iQ c) ⟨#[]⟩
theorem HJ {l:List Change}{k:Nat}{c:Change}(h:l[k]? = some c):aJ (l.take (k+1))=aJ (l.take k)++iQ c:=by
 unfold aJ;rw [List.take_add_one,h];simp
theorem qE (c:Change):(iQ c).size=3+c.Key.size+c.Val.size:=by
 unfold iQ;simp only [ByteArray.size_append];rfl
theorem zr {b:ByteArray}{m:Nat}:∀ (l:List Change) (b:ByteArray),(∀c∈l,iL c=0)->(l.foldl (fun b c=>b++iQ c) b).size<=b.size+35*l.length
 | [],b,h=>by simp
 | c::l,b,h=>by
  rw [List.foldl_cons,List.length_cons]
  have h1:=zr (b:=b) (m:=m) l (b++iQ c) (fun x hx=>h x (List.mem_cons_of_mem _ hx))
  obtain ⟨_,_,h3,h4⟩:=gZ (h c (List.mem_cons_self ..))
  rw [ByteArray.size_append,qE] at h1
  omega
theorem vC {l:List Change}(h:∀c∈l,iL c=0):(aJ l).size<=35*l.length:=by
 have:=zr (b:=⟨#[]⟩) (m:=0) l ⟨#[]⟩ h
 rw [show (⟨#[]⟩:ByteArray).size=0 from rfl,Nat.zero_add] at this
 exact this
def p8 (t:ByteArray):Nat:=3+bj t 0+bj t 1+256*bj t 2
def xa (t:ByteArray):Change:=⟨t.extract 3 (3+bj t 0),t.extract (3+bj t 0) (p8 t),false⟩
def pd:Nat->ByteArray->List Change->List Change×Bool
  | 0,_,l=>(l,true)
  | k+1,t,l =>
    if t=⟨#[]⟩ then (l,true)
    else if t.size<3∨t.size<p8 t then ([],false)
    else if iL (xa t)=0 then pd k (t.extract (p8 t) t.size) (cb l [xa t]) else ([],false)
def eX (t:ByteArray):List Change×Bool:=pd (t.size+1) t []
section
variable {t:ByteArray} {l:List Change} {Z:List Change×Bool} {k:Nat}
theorem Mq (h:pd k t l=Z)(hk:t.size<k)(ht:t=⟨#[]⟩):Z=(l,true):=by
 cases k with
 | zero=>omega
 | succ k=>rw [pd,if_pos ht] at h;exact h.symm
theorem Gs (h:pd k t l=Z)(hk:t.size<k)(ht:¬ t=⟨#[]⟩)(hb:t.size<3∨t.size<p8 t):Z=([],false):=by
 cases k with
 | zero=>omega
 | succ k=>rw [pd,if_neg ht,if_pos hb] at h;exact h.symm
theorem HM (h:pd k t l=Z)(hk:t.size<k)(ht:¬ t=⟨#[]⟩)(hb:¬ (t.size<3∨t.size<p8 t))(hf:¬ iL (xa t)=0):Z=([],false):=by
 cases k with
 | zero=>omega
 | succ k=>rw [pd,if_neg ht,if_neg hb,if_neg hf] at h;exact h.symm
theorem PY (h:pd k t l=Z)(hk:t.size<k)(ht:¬ t=⟨#[]⟩)(hb:¬ (t.size<3∨t.size<p8 t))(hf:iL (xa t)=0) :
 pd (k-1) (t.extract (p8 t) t.size) (cb l [xa t])=Z/\(t.extract (p8 t) t.size).size<k-1:=by
 cases k with
 | zero=>omega
 | succ k =>
  rw [pd,if_neg ht,if_neg hb,if_pos hf] at h
  refine ⟨h,?_⟩
  rw [ByteArray.size_extract];unfold p8 at *;omega
end
def nQ (a b:cY):cY:=if a.Epoch<b.Epoch then b else a
def headD (d:cw):cY:=nQ (nQ ⟨0,0,0,0⟩ (cm (cj d 0).1)) (cm (cj d 1).1)
def vg (d:cw)(f:Int):Nat->ByteArray
  | 0=>⟨#[]⟩
  | k+1=>vg d f k++(cj d (f+(k:Int))).1
def rA (d:cw):ByteArray:=(vg d (2+(headD d).Side*50) 50).extract 0 (headD d).Size.toNat
def kx (d:cw):Int:=if d.Now.length<166 then 4 else if (headD d).Epoch=0 then 4 else if (eX (rA d)).2=true then 0 else 4
def ky (rows:List Change)(W:List (List Change)):List Change:=W.foldl cb rows
theorem C9 {rows:List Change}{W:List (List Change)}{k:Nat}{c:List Change}(h:W[k]? = some c):ky rows (W.take (k+1))=cb (ky rows (W.take k)) c:=by
 unfold ky;rw [List.take_add_one,h];simp
def aY (d:cw):oE :=
  ⟨(headD d).Epoch,(headD d).Side,(headD d).Size,(headD d).First,⟨102,(d.Now.length:Int)-102,(headD d).First,(fE d 102 ((d.Now.length:Int)-102).toNat (headD d).First:Int)⟩,
    ky (eX (rA d)).1 (lE d 102 ((d.Now.length:Int)-102).toNat (headD d).First)⟩
def iN (f:Int)(t:ByteArray):Nat->Nat->cw->cw×Int
  | 0,_,d=>(d,0)
  | k+1,i,d =>
    if i*48<t.size then
      (if (au d (f+(i:Int)) (t.extract (i*48) (i*48+min 48 (t.size-i*48)))).2=0 then iN f t k (i+1) (au d (f+(i:Int)) (t.extract (i*48) (i*48+min 48 (t.size-i*48)))).1
       else au d (f+(i:Int)) (t.extract (i*48) (i*48+min 48 (t.size-i*48))))
    else (d,0)
def uF (st:oE):cY:=⟨st.Epoch+1,1-st.Side,((aJ st.Rows).size:Int),st.L.First+st.L.Many⟩
def ck1 (st:oE)(d:cw):cw×Int:=iN (2+(1-st.Side)*50) (aJ st.Rows) ((aJ st.Rows).size+1) 0 d
def ck2 (st:oE)(d:cw):cw×Int:=rz (ck1 st d) ai
def PZ (st:oE)(d:cw):cw×Int:=rz (ck2 st d) fun e=>au e ((st.Epoch+1) % 2) (aL (uF st))
def EW (st:oE)(d:cw):cw×Int:=rz (PZ st d) ai
def Sq (st:oE)(d:cw):oE :=
  ⟨st.Epoch+1,1-st.Side,((aJ st.Rows).size:Int),st.L.First+st.L.Many,⟨102,(d.Now.length:Int)-102,st.L.First+st.L.Many,(fE d 102 ((d.Now.length:Int)-102).toNat (st.L.First+st.L.Many):Int)⟩,st.Rows⟩
def cU (st:oE)(d:cw):oE×cw×Int:=if (EW st d).2=0 then (Sq st (EW st d).1,(EW st d).1,0) else (st,EW st d)
def nj (st:oE)(n:Nat)(l:List Change):Int :=
  if 62<l.length then 2 else if ¬ jF l=0 then jF l else if 60<(cb st.Rows l).length∨(n:Int)-102<(l.length:Int)+1 then 9 else 0
def Bp (st:oE)(d:cw)(l:List Change):oE×cw×Int:=if st.L.Many-st.L.Next<(l.length:Int)+1 then cU st d else (st,d,0)
def sS (st:oE)(lg:Lg)(rows:List Change):oE:=⟨st.Epoch,st.Side,st.Size,st.First,lg,rows⟩
def J8 (st st0:oE)(d:cw)(l:List Change):oE×cw×Int :=
  if (cy st.L d l).2.2=0 then (sS st (cy st.L d l).1 (cb st0.Rows l),(cy st.L d l).2.1,0) else (sS st (cy st.L d l).1 st.Rows,(cy st.L d l).2.1,(cy st.L d l).2.2)
def bH (st:oE)(d:cw)(l:List Change):oE×cw×Int :=
  if ¬ nj st d.Now.length l=0 then (st,d,nj st d.Now.length l)
  else if ¬ (Bp st d l).2.2=0 then Bp st d l
  else J8 (Bp st d l).1 st (Bp st d l).2.1 l
end
section
open Go Go.RowKit
theorem P0 {a b:Nat}(D:Nat)(hD:2 ^ (min b IntKind.i64.bits)=D)(h:a*D<9223372036854775808):IntKind.i64.wrap (((a:Nat):Int)*2 ^ (min b IntKind.i64.bits))=((a*D:Nat):Int):=by
 have e:((2:Int) ^ (min b IntKind.i64.bits))=(D:Int):=by rw [<- hD];simp
 rw [e,<- Int.natCast_mul]
 exact wr (by omega)
theorem P1 {a b:Nat}(k:Nat)(ha:a<2 ^ k):a ||| (b*2 ^ k)=a+b*2 ^ k:=by
 have h:=Nat.shiftLeft_add_eq_or_of_lt ha b
 rw [Nat.shiftLeft_eq] at h
 rw [Nat.or_comm,<- h,Nat.add_comm]
theorem Uf {a b:Nat}(k:Nat)(D:Nat)(hD:2 ^ k=D)(ha:a<D)(h:a+b*D<9223372036854775808):bits .or .i64 ((a:Nat):Int) ((b*D:Nat):Int)=((a+b*D:Nat):Int):=by
 subst hD
 have e:=P1 (b:=b) k ha
 have key:∀x:Nat,x<9223372036854775808->(BitVec.ofInt 64 (x:Int)).toNat=x:=fun x hx=>by
  rw [BitVec.toNat_ofInt];omega
 unfold bits
 show IntKind.i64.wrap ((BitVec.ofInt 64 (a:Int) ||| BitVec.ofInt 64 ((b*2 ^ k:Nat):Int)).toNat:Int)=_
 rw [BitVec.toNat_or,key a (by omega),key (b*2 ^ k) (by omega),e]
 exact wr (by omega)
end
section
open Go Go.RowKit
abbrev xb (b:Nat)(u:Bool):Value:= .pointer (if u=true then some ⟨b,0,none⟩ else none)
theorem yz (s:ByteArray):Lib.strCells s=s.data.toList.flatMap Enc.cells:=by
 unfold Lib.strCells;rw [List.map_eq_flatMap];rfl
theorem xc (l:List UInt8):Lib.byteCells l=l.flatMap Enc.cells:=by
 unfold Lib.byteCells;rw [List.map_eq_flatMap];rfl
section
variable {P:Program}
theorem J9 {w:World}{e t u ty:TypeId}{i:TypeInfo}(ht:P.underlying t=some (.slice e))(hu:P.underlying u=some .string)(hi:P.info? e=some i)(hz:i.zero=some (.int .u8 0))(hsize:i.size=1)(hby:i.bytes=1)
 {v:Value} {l:List UInt8} (hown:Own 0 e w v l) (s:ByteArray) (hlen:l.length+s.size<=140737488355328) :
 ∃v' w',(Builtin.append_ #[t,u] ty #[v,.string s]).run P w = .ok v' w'/\Own 0 e w' v' (l++s.data.toList)/\w.grownBy w' v.ownBlock /\ ∀k∈dW v',k∈dW v∨w.heap.size<=k:=by
 have hfl:=di l
 have hown':w.ownsRow 0 e 1 v l.length (l.flatMap Enc.cells):=hown
 obtain ⟨v',w',g1,g2,g3,g4⟩:=Lib.run_append_own_string (P:=P) w 0 t u ty e i ht hu hi hz hsize hby v l.length (l.flatMap Enc.cells) hown' s (by unfold maxLen;omega) hlen (Nat.zero_le _)
 refine ⟨v',w',g1,?_,g3,?_⟩
 .
  rw [yz] at g2
  unfold Own
  rw [List.flatMap_append,List.length_append,show s.data.toList.length=s.size from by rw [Array.length_toList];rfl]
  exact g2
 .
  rcases hown'.2 with ⟨rfl,h0⟩ | ⟨g,cap,cur,rfl,_,hg,hnc,hcm,hcs,htake⟩
  .
   by_cases hm:s.size=0
   .
    have:=g4.2 ⟨rfl,hm⟩
    subst this;intro k hk;cases hk
   .
    have hr:=run_append_nil_string (P:=P) w t u ty e i (.int .u8 0) ht hu hi hz s (by omega) (by omega) (by rw [hby];omega)
    rw [hr] at g1
    injection g1 with g1 _
    subst g1
    intro k hk;simp [dW] at hk;subst hk;exact .inr (Nat.le_refl _)
  .
   by_cases hroom:l.length+s.size<=cap
   .
    have hr:=Lib.run_append_room_string (P:=P) w t u ty e i ht hu hi hsize g l.length cap cur hg s hroom (by omega)
    rw [hr] at g1
    injection g1 with g1 _
    subst g1
    intro k hk;exact .inl hk
   .
    have holds:∀j u,(l.flatMap Enc.cells)[j]? = some u->w.cell? ((⟨g,0,none⟩:Addr).add j)=some u:=World.ownsRow.cells hown' (g:=g) rfl
    have hr:=Lib.run_append_grow_string (P:=P) w t u ty e i (.int .u8 0) ht hu hi hz ⟨g,0,none⟩ l.length cap (l.flatMap Enc.cells) (by rw [hsize];exact hown'.1) holds s (by omega) (by omega) (by rw [hby];exact growslice_fits (by omega) (by omega))
    rw [hr] at g1
    injection g1 with g1 _
    subst g1
    intro k hk;simp [dW] at hk;subst hk;exact .inr (Nat.le_refl _)
variable {n:Nat} {we:World} {X:List Nat} {L:Fm} {B F:List ag} {x y c:Operand} {xT yT ty:TypeId} {d:Nat} {pos:String} {eh:Array Edge} {g:Option (Nat×Bool)} {e:TypeId} {v:Value}
theorem s.Ka {t u:TypeId}{ti:TypeInfo}{l:List UInt8}{s:ByteArray}(i:Nat)(hB:B[i]? = some (ag.row e v l))(hx:ev L x=some v)(hy:ev L y=some (.string s))
 (ht:P.underlying t=some (.slice e)) (hu:P.underlying u=some .string) (hi:P.info? e=some ti) (hz:ti.zero=some (.int .u8 0)) (hsize:ti.size=1) (hby:ti.bytes=1) (hlen:l.length+s.size<=140737488355328) (hd:Nat.blt d n=true) :
 Stp P n we X L B F ⟨some d,.call { callee:= .builtin .append,args:= #[x,y],argTypes:= #[t,u] },ty,pos,eh,g⟩ (fun z:Value=>(d,z)::L) (fun z=>B.set i (ag.row e z (l++s.data.toList))) (fun _=>F):=by
 intro K Q' a w ha hw hK
 have hown:Own 0 e w v l:=hw.b i hB
 obtain ⟨v',w',h1,h2,h3,h4⟩:=J9 (P:=P) (ty:=ty) ht hu hi hz hsize hby hown s hlen
 unfold Oper.wp
 have hrun:(execOp a.eval ⟨some d,.call { callee:= .builtin .append,args:= #[x,y],argTypes:= #[t,u] },ty,pos,eh,g⟩).run P w = .ok (.value v') w':=by
  simp [execOp,resolve,invoke,builtin,ha.ev hx,ha.ev hy,h1]
 rw [hrun,Oper.upon_value]
 refine hK v' _ _ (ha.put d _ hd) (hw.turn hB (FQ (α:=UInt8) h3) h2 (og h2).1 fun k hk=>⟨((og h2).2 k hk).2,h4 k hk⟩)
theorem zt {w:World}{b:Nat}{cs:List Value}{T:TypeId}(h:(ag.box b cs T).ok w):w.shape? b=some (T,cs.length):=by
 have h':w.heap[b]? = some (.cells cs.toArray T (0,0)):=h
 simp [World.shape?,h']
theorem q.VO {b i:Nat}{cs:List Value}{T t:TypeId}{j:TypeInfo}(hB:B[i]? = some (ag.box b cs T))(hx:ev L x=some (.pointer (some ⟨b,0,none⟩)))(hs:P.underlying xT=some (.pointer t))(hd:P.underlying yT=some .unsafePointer)(ht:P.info? t=some j)(hj:¬ j.size=0)(hc:0<cs.length) :
 Qt P n we X L B F (.convert xT yT x) ty (.pointer (some ⟨b,0,none⟩)):=fun _ _ _ _ a w ha hw=>by
 have h:=Lib.run_to_unsafe (P:=P) w ⟨b,0,none⟩ hs hd ht hj (zt (hw.b i hB)) hc
 simp [execOp,ha.ev hx,h]
theorem q.VP {b i:Nat}{cs:List Value}{T t:TypeId}{j:TypeInfo}(hB:B[i]? = some (ag.box b cs T))(hx:ev L x=some (.pointer (some ⟨b,0,none⟩)))(hs:P.underlying xT=some .unsafePointer)(hd:P.underlying yT=some (.pointer t))(ht:P.info? t=some j)(m:Nat)(hm:cs.length=m)(hl:liesAt P P.depth T (m / P.cellsOf T) 0 t 1=true) :
 Qt P n we X L B F (.convert xT yT x) ty (.pointer (some ⟨b,0,none⟩)):=fun _ _ _ _ a w ha hw=>by
 subst hm
 have h:=Lib.run_from_unsafe (P:=P) w ⟨b,0,none⟩ hs hd ht (zt (hw.b i hB)) hl
 simp [execOp,ha.ev hx,h]
theorem q.same {pT:TypeId}{a:Addr}{j:TypeInfo}(hx:ev L x=some (.pointer (some a)))(hy:ev L y=some (.pointer (some a)))(ht:P.underlying xT=some (.pointer pT))(hj:P.info? pT=some j):Qt P n we X L B F (.binOp .neq xT x y yT) ty (.bool false):=fun _ _ _ _ q w ha hw=>by
 simp only [execOp,ha.ev hx,ha.ev hy,eqGuard_at_pointer,Sem.run_bind,Sem.run_pure,Result.andThen_ok,Lib.run_neq_ptr_same w a ht hj]
theorem q.Sr {f:Nat}{fn:Func}{ts:Array TypeId}(hf:P.funcs[f]? = some fn)(hname:(fn.name == "runtime.NumGoroutine")=false)(hb:fn.body.isNone=true)(hn:Extern.findNext fn=none)(he:Extern.find fn=some Extern.AbiNoEscape.same)
 (hc:ev L c=some (.func (.func f) #[] #[])) (hx:ev L x=some v):Qt P n we X L B F (.call { callee:= .value c,args:= #[x],argTypes:=ts }) ty v:=fun _ _ _ _ a w ha hw=>by
 simp [execOp,resolve,ha.ev hc,Deferred.ofValue,invoke,ha.ev hx,run_callFunc_extern hf hname hb hn he,Lib.run_noEscape,Result.andThen]
theorem s.Ug {i j b f T:Nat}{u:Bool}{l:List UInt8}{ts:Array TypeId}(eg:∀args w,(callFunc f args).run P w = .ok (.enter f args) w)(hb:B[i]? = some (ag.box b [xb b u,v] T))(hr:B[j]? = some (ag.row e v l))(hij:¬ i=j)
 (hc:ev L c=some (.func (.func f) #[] #[])) (hx:ev L x=some (.pointer (some ⟨b,0,none⟩)))
 (hcall:∀w,Lib.IsBuilder T e we.heap.size b (Lib.byteCells l) w->we.heap.size<=w.heap.size->Calls P f #[.pointer (some ⟨b,0,none⟩)] w fun en w'=>en = .returned (.string ⟨l.toArray⟩)/\Below we.heap.size w w') (hd:Nat.blt d n=true) :
 Stp P n we [] L B F ⟨some d,.call { callee:= .value c,args:= #[x],argTypes:=ts },ty,pos,eh,g⟩ (fun _:Unit=>(d,.string ⟨l.toArray⟩)::L) (fun _=>[]) (fun _=>[]):=by
 intro K Q' a w ha hw hK
 have Ss:w.heap[b]? = some (.cells #[xb b u,v] T (0,0)):=hw.b i hb
 have hown:Own 0 e w v l:=hw.b j hr
 have UW:b∈blks B:=bB.2 ⟨_,List.mem_of_getElem? hb,by simp [ag.box]⟩
 have hge:∀k∈blks B,we.heap.size<=k:=fun k hk=>by
  rcases Nat.lt_or_ge k we.heap.size with h|h
  .have:=(hw.own k hk).2 h;cases this
  .exact h
 have hown2:w.ownsRow we.heap.size e 1 v (Lib.byteCells l).length (Lib.byteCells l):=by
  rw [Lib.byteCells_length,xc]
  have h':w.ownsRow 0 e 1 v l.length (l.flatMap Enc.cells):=hown
  refine ⟨h'.1,?_⟩
  rcases h'.2 with h0|⟨gg,cap,cur,hv,_,rest⟩
  .exact .inl h0
  .refine .inr ⟨gg,cap,cur,hv,hge gg (bB.2 ⟨_,List.mem_of_getElem? hr,by subst hv;simp [ag.row,dW]⟩),rest⟩
 have hne:v.ownBlock≠some b:=fun h=>by
  have hkv:b∈(ag.row e v l).blk:=by
   show b∈dW v
   unfold Value.ownBlock at h
   split at h
   .injection h with h;simp [dW,h]
   .cases h
  have hs:=hw.sep
  obtain ⟨l1,l2,e1⟩:∃l1 l2,B=l1++l2/\((ag.box b [xb b u,v] T∈l1/\ag.row e v l∈l2)∨(ag.row e v l∈l1/\ag.box b [xb b u,v] T∈l2)):=by
   rcases Nat.lt_or_gt_of_ne hij with h1|h1
   .exact ⟨B.take j,B.drop j,(List.take_append_drop j B).symm,.inl ⟨List.mem_of_getElem? (i:=i) (by rw [List.getElem?_take_of_lt h1];exact hb),List.mem_of_getElem? (i:=0) (by rw [List.getElem?_drop];exact hr)⟩⟩
   .exact ⟨B.take i,B.drop i,(List.take_append_drop i B).symm,.inr ⟨List.mem_of_getElem? (i:=j) (by rw [List.getElem?_take_of_lt h1];exact hr),List.mem_of_getElem? (i:=0) (by rw [List.getElem?_drop];exact hb)⟩⟩
  rw [e1.1,aW] at hs
  have hd':=(List.nodup_append.1 hs).2.2
  rcases e1.2 with ⟨h1,h2⟩ | ⟨h1,h2⟩
  .exact hd' b (bB.2 ⟨_,h1,by simp [ag.box]⟩) b (bB.2 ⟨_,h2,hkv⟩) rfl
  .exact hd' b (bB.2 ⟨_,h1,hkv⟩) b (bB.2 ⟨_,h2,by simp [ag.box]⟩) rfl
 have hIs:Lib.IsBuilder T e we.heap.size b (Lib.byteCells l) w:=by
  cases u with
  | true=>exact .inr ⟨hge b UW,v,Ss,hown2,hne⟩
  | false=>exact .inl ⟨hge b UW,v,Ss,hown2,hne⟩
 have P2:=hcall w hIs hw.upd.size
 unfold Oper.wp
 have hrun:(execOp a.eval ⟨some d,.call { callee:= .value c,args:= #[x],argTypes:=ts },ty,pos,eh,g⟩).run P w = .ok (.enter f #[.pointer (some ⟨b,0,none⟩)]) w:=by
  simp [execOp,resolve,ha.ev hc,Deferred.ofValue,invoke,ha.ev hx,eg]
 rw [hrun,Oper.upon_enter]
 refine P2.mono fun en w' h=>?_
 obtain ⟨rfl,h⟩:=h
 refine hK () _ _ (ha.put d _ hd) ⟨⟨h.os.trans hw.upd.os,h.tape.trans hw.upd.tape,h.output.trans hw.upd.output,Nat.le_trans hw.upd.size h.size,fun k hk hn=>(h.block k hk).trans (hw.upd.block k hk hn)⟩,by simp,by simp,by simp [blks],by simp [blks],by simp [blks]⟩
end
end
end Go.Proofs.YtkbhcbipadkcaaaGreatDoor
section
namespace Go.Proofs
open Go.Shelf
def Tryz.lays169_ren:Go.Shelf.Ren:=⟨fun|169=>137|n=>n,fun|70=>192|9=>9|0=>0|72=>194|37=>138|127=>239|3=>3|5=>5|n=>n,fun|n=>n⟩
theorem Tryz.lays169:Go.Proofs.Lays.n169 Tryz.prog Tryz.lays169_ren:={
 mixed:=by kernel_rfl
 f169:=Tryz.func137.trans (congrArg some (by kernel_rfl))
 t0:=Tryz.underlying0
 a0:=Tryz.isAgg0
 z0:=Tryz.sizeOf0
 v0:=Tryz.zeroValue0
 t3:=Tryz.underlying3
 a3:=Tryz.isAgg3
 z3:=Tryz.sizeOf3
 v3:=Tryz.zeroValue3
 t9:=Tryz.underlying9
 a9:=Tryz.isAgg9
 z9:=Tryz.sizeOf9
 v9:=Tryz.zeroValue9
 t37:=Tryz.underlying138
 a37:=Tryz.isAgg138
 z37:=Tryz.sizeOf138
 v37:=Tryz.zeroValue138
 t70:=Tryz.underlying192
 a70:=Tryz.isAgg192
 z70:=Tryz.sizeOf192
 v70:=Tryz.zeroValue192
 t72:=Tryz.underlying194
 a72:=Tryz.isAgg194
 z72:=Tryz.sizeOf194
 v72:=Tryz.zeroValue194
 t127:=Tryz.underlying239
 a127:=Tryz.isAgg239
 z127:=Tryz.sizeOf239
 v127:=Tryz.zeroValue239 }
theorem Tryz.Builder_Extra_169:Builder.Extra Tryz.prog Tryz.lays169_ren:={
 sizeBuilder:=by kernel_rfl
 liesBuilder:=by kernel_rfl
 t5:=Tryz.underlying5
 a5:=Tryz.isAgg5
 z5:=Tryz.sizeOf5
 v5:=Tryz.zeroValue5
 infoByte:=by kernel_rfl
 cellsByte:=by kernel_rfl
 sizeByte:=by kernel_rfl
 neB5:=by decide }
open Go.RowKit in
theorem Tryz.Builder_String_any (B b:Nat)(l:List UInt8)(w:World)(h:Lib.IsBuilder 194 5 B b (Lib.byteCells l) w)(hBw:B<=w.heap.size) :
    Calls Tryz.prog 137 #[.pointer (some ⟨b,0,none⟩)] w fun e w'=>e = .returned (.string ⟨l.toArray⟩)/\Below B w w':=Any.Builder_String_any Tryz.lays169 Tryz.Builder_Extra_169 B b l w h hBw
end Go.Proofs
end
namespace Go.Proofs.YtkbhcbipadkcaaaGreatDoor
set_option linter.unusedVariables false
set_option linter.unusedSimpArgs false
set_option maxRecDepth 100000
set_option maxHeartbeats 90000000
section
open Go Go.RowKit
section
variable {s:oE} {d m:cw} {e:Int}
theorem Sv (h:ck1 s d=(m,e))(he:¬ e=0):cU s d=(s,m,e):=by
 have h4:EW s d=(m,e):=by
  unfold EW PZ ck2;rw [h,iA (s:=(m,e)) (f:=ai) he,iA (s:=(m,e)) he,iA (s:=(m,e)) he]
 unfold cU;rw [h4,if_neg he]
theorem Sw (h:ck1 s d=(m,e))(he:e=0)(h2:¬ (ai m).2=0):cU s d=(s,ai m):=by
 have h4:EW s d=ai m:=by
  unfold EW PZ ck2;rw [h,fX (s:=(m,e)) (f:=ai) he,iA h2,iA h2]
 unfold cU;rw [h4,if_neg h2]
theorem Sx (h:ck1 s d=(m,e))(he:e=0)(h2:(ai m).2=0)(h3:¬ (au (ai m).1 ((s.Epoch+1) % 2) (aL (uF s))).2=0):cU s d=(s,au (ai m).1 ((s.Epoch+1) % 2) (aL (uF s))):=by
 have h4:EW s d=au (ai m).1 ((s.Epoch+1) % 2) (aL (uF s)):=by
  unfold EW PZ ck2;rw [h,fX (s:=(m,e)) (f:=ai) he,fX h2,iA h3]
 unfold cU;rw [h4,if_neg h3]
theorem Sy (h:ck1 s d=(m,e))(he:e=0)(h2:(ai m).2=0)(h3:(au (ai m).1 ((s.Epoch+1) % 2) (aL (uF s))).2=0)(h5:¬ (ai (au (ai m).1 ((s.Epoch+1) % 2) (aL (uF s))).1).2=0) :
 cU s d=(s,ai (au (ai m).1 ((s.Epoch+1) % 2) (aL (uF s))).1):=by
 have h4:EW s d=ai (au (ai m).1 ((s.Epoch+1) % 2) (aL (uF s))).1:=by
  unfold EW PZ ck2;rw [h,fX (s:=(m,e)) (f:=ai) he,fX h2,fX h3]
 unfold cU;rw [h4,if_neg h5]
theorem SA (h:ck1 s d=(m,e))(he:e=0)(h2:(ai m).2=0)(h3:(au (ai m).1 ((s.Epoch+1) % 2) (aL (uF s))).2=0)(h5:(ai (au (ai m).1 ((s.Epoch+1) % 2) (aL (uF s))).1).2=0) :
 cU s d=(Sq s (ai (au (ai m).1 ((s.Epoch+1) % 2) (aL (uF s))).1).1,(ai (au (ai m).1 ((s.Epoch+1) % 2) (aL (uF s))).1).1,0):=by
 have h4:EW s d=ai (au (ai m).1 ((s.Epoch+1) % 2) (aL (uF s))).1:=by
  unfold EW PZ ck2;rw [h,fX (s:=(m,e)) (f:=ai) he,fX h2,fX h3]
 unfold cU;rw [h4,if_pos h5]
theorem Kc (h:(ai d).2=0):(ai d).1.Down=false:=by
 unfold ai at h ⊢
 split
 .
  rename_i h0
  by_cases hd:d.Down=true
  .rw [wE hd] at h0;cases h0
  .
   have hd':d.Down=false:=by simpa using hd
   by_cases hf:d.Fuse=0
   .rw [rM hd' hf] at h0;cases h0
   .rw [sO hd' hf]
 .
  rename_i h0
  rw [if_neg h0] at h;exact absurd h h0
end
section
variable {s:oE} {d:cw} {l:List Change} {e:Int} {n m:Nat}
theorem tU {f:Int}{t:ByteArray}:∀ (k i:Nat) (d:cw) (m:Nat),fM n m d->fM n (m+k) (iN f t k i d).1
 | 0,i,d,m,h=>h
 | k+1,i,d,m,h=>by
  rw [iN]
  split
  .
   split
   .
    have:=tU (f:=f) (t:=t) k (i+1) _ (m+1) (h.write (f+(i:Int)) (t.extract (i*48) (i*48+min 48 (t.size-i*48))))
    exact this.up (by omega)
   .exact (h.write _ _).up (by omega)
  .exact h.up (by omega)
theorem xd {x:cw×Int}{f:cw->cw×Int}{a b:Nat}(h:fM n a x.1)(hab:a<=b)(hf:∀e,fM n a e->fM n b (f e).1):fM n b (rz x f).1:=by
 unfold rz;split
 .exact hf _ h
 .exact h.up hab
theorem Kd (h:fM n m d)(ht:(aJ s.Rows).size<=2400):fM n (m+2500) (cU s d).2.1:=by
 have h1:fM n (m+2401) (ck1 s d).1:=(tU _ 0 d m h).up (by omega)
 have h2:fM n (m+2401) (ck2 s d).1:=xd h1 (Nat.le_refl _) fun e he=>he.flush
 have h3:fM n (m+2402) (PZ s d).1:=xd h2 (by omega) fun e he=>he.write _ _
 have h4:fM n (m+2402) (EW s d).1:=xd h3 (Nat.le_refl _) fun e he=>he.flush
 unfold cU;split <;> exact h4.up (by omega)
theorem P3 (h:(cU s d).2.2=0):(cU s d).1=Sq s (cU s d).2.1:=by
 unfold cU at h ⊢
 split
 .rfl
 .rename_i h1;rw [if_neg h1] at h;exact absurd h h1
end
section
variable {s:oE} {d:cw} {l:List Change} {e:Int} {n m:Nat}
theorem SB (h:62<l.length):bH s d l=(s,d,2):=by
 have hf:nj s d.Now.length l=2:=by unfold nj;rw [if_pos h]
 unfold bH;rw [hf,if_pos (by decide)]
theorem SC (h0:¬ 62<l.length)(he:jF l=e)(h:¬ e=0):bH s d l=(s,d,e):=by
 have hf:nj s d.Now.length l=e:=by unfold nj;rw [if_neg h0,if_pos (by rw [he];exact h),he]
 unfold bH;rw [hf,if_pos h]
theorem N5 (h0:¬ 62<l.length)(h1:jF l=0)(h:60<(cb s.Rows l).length∨(d.Now.length:Int)-102<(l.length:Int)+1):bH s d l=(s,d,9):=by
 have hf:nj s d.Now.length l=9:=by unfold nj;rw [if_neg h0,if_neg (by rw [h1];decide),if_pos h]
 unfold bH;rw [hf,if_pos (by decide)]
theorem xe (h0:¬ 62<l.length)(h1:jF l=0)(h:¬ (60<(cb s.Rows l).length∨(d.Now.length:Int)-102<(l.length:Int)+1)):nj s d.Now.length l=0:=by
 unfold nj;rw [if_neg h0,if_neg (by rw [h1];decide),if_neg h]
theorem N6 (hf:nj s d.Now.length l=0)(hr:s.L.Many-s.L.Next<(l.length:Int)+1)(he:¬ (cU s d).2.2=0):bH s d l=cU s d:=by
 have hp:Bp s d l=cU s d:=if_pos hr
 unfold bH;rw [hf,if_neg (by decide),hp,if_pos he]
theorem N7 (hf:nj s d.Now.length l=0)(hr:s.L.Many-s.L.Next<(l.length:Int)+1)(he:(cU s d).2.2=0)(ha:(cy (cU s d).1.L (cU s d).2.1 l).2.2=0) :
 bH s d l=(sS (cU s d).1 (cy (cU s d).1.L (cU s d).2.1 l).1 (cb s.Rows l),(cy (cU s d).1.L (cU s d).2.1 l).2.1,(cy (cU s d).1.L (cU s d).2.1 l).2.2):=by
 have hp:Bp s d l=cU s d:=if_pos hr
 unfold bH;rw [hf,if_neg (by decide),hp,if_neg (by rw [he];decide)];unfold J8;rw [if_pos ha,ha]
theorem N8 (hf:nj s d.Now.length l=0)(hr:s.L.Many-s.L.Next<(l.length:Int)+1)(he:(cU s d).2.2=0)(ha:¬ (cy (cU s d).1.L (cU s d).2.1 l).2.2=0) :
 bH s d l=(sS (cU s d).1 (cy (cU s d).1.L (cU s d).2.1 l).1 (cU s d).1.Rows,(cy (cU s d).1.L (cU s d).2.1 l).2.1,(cy (cU s d).1.L (cU s d).2.1 l).2.2):=by
 have hp:Bp s d l=cU s d:=if_pos hr
 unfold bH;rw [hf,if_neg (by decide),hp,if_neg (by rw [he];decide)];unfold J8;rw [if_neg ha]
theorem N9 (hf:nj s d.Now.length l=0)(hr:¬ s.L.Many-s.L.Next<(l.length:Int)+1)(ha:(cy s.L d l).2.2=0) :
 bH s d l=(sS s (cy s.L d l).1 (cb s.Rows l),(cy s.L d l).2.1,(cy s.L d l).2.2):=by
 have hp:Bp s d l=(s,d,0):=if_neg hr
 unfold bH;rw [hf,if_neg (by decide),hp,if_neg (fun hh=>hh rfl)];unfold J8;rw [if_pos ha,ha]
theorem Oa (hf:nj s d.Now.length l=0)(hr:¬ s.L.Many-s.L.Next<(l.length:Int)+1)(ha:¬ (cy s.L d l).2.2=0) :
 bH s d l=(sS s (cy s.L d l).1 s.Rows,(cy s.L d l).2.1,(cy s.L d l).2.2):=by
 have hp:Bp s d l=(s,d,0):=if_neg hr
 unfold bH;rw [hf,if_neg (by decide),hp,if_neg (fun hh=>hh rfl)];unfold J8;rw [if_neg ha]
end
section
variable {d m:cw} {e:Int}
theorem HO (h:d.Now.length<166):dH d=(d,9):=if_pos h
theorem Ob (h0:¬ d.Now.length<166)(h:w9 d=(m,e))(he:¬ e=0):dH d=(m,e):=by
 unfold dH;rw [if_neg h0];unfold J7 J6 J5;rw [h]
 rw [iA (s:=(m,e)) (f:=ai) he,iA (s:=(m,e)) he,iA (s:=(m,e)) he]
theorem SD (h0:¬ d.Now.length<166)(h:w9 d=(m,e))(he:e=0)(h2:¬ (ai m).2=0):dH d=ai m:=by
 unfold dH;rw [if_neg h0];unfold J7 J6 J5;rw [h]
 rw [fX (s:=(m,e)) (f:=ai) he,iA h2,iA h2]
theorem SE (h0:¬ d.Now.length<166)(h:w9 d=(m,e))(he:e=0)(h2:(ai m).2=0)(h3:¬ (au (ai m).1 1 (aL ⟨1,0,0,1⟩)).2=0):dH d=au (ai m).1 1 (aL ⟨1,0,0,1⟩):=by
 unfold dH;rw [if_neg h0];unfold J7 J6 J5;rw [h]
 rw [fX (s:=(m,e)) (f:=ai) he,fX h2,iA h3]
theorem Oc (h0:¬ d.Now.length<166)(h:w9 d=(m,e))(he:e=0)(h2:(ai m).2=0)(h3:(au (ai m).1 1 (aL ⟨1,0,0,1⟩)).2=0):dH d=ai (au (ai m).1 1 (aL ⟨1,0,0,1⟩)).1:=by
 unfold dH;rw [if_neg h0];unfold J7 J6 J5;rw [h]
 rw [fX (s:=(m,e)) (f:=ai) he,fX h2,fX h3]
end
theorem P4 {d m:cw}{e:Int}(h0:¬ d.Now.length<166)(h:w9 d=(m,e))(he:e=0)(h2:(ai m).2=0)(h3:(au (ai m).1 1 (aL ⟨1,0,0,1⟩)).2=0):dH d=ai (au (ai m).1 1 (aL ⟨1,0,0,1⟩)).1:=Oc h0 h he h2 h3
end
end Go.Proofs.YtkbhcbipadkcaaaGreatDoor
