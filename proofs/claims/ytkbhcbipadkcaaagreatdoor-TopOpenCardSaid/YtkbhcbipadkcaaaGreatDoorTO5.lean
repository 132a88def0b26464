import Derived.Test.YtkbhcbipadkcaaaGreatDoorTO4
import Derived.WideLaws
import Derived.LaidEql
import Derived.LoopN
import Derived.Laws.BitsAllLaws
import Derived.Laws.Tables
namespace Go.Proofs.YtkbhcbipadkcaaaGreatDoor
set_option linter.unusedVariables false
set_option linter.unusedSimpArgs false
open Go Go.RowKit
theorem wr {n r:Int}(h:n=r /\ -9223372036854775808<=r/\r<=9223372036854775807):IntKind.i64.wrap n=r:=by
 obtain ⟨rfl,h1,h2⟩:=h
 rw [IntKind.wrap_i64];omega
theorem q.bA {P:Program}{n:Nat}{we:World}{X:List Nat}{L:Fm}{B F:List ag}{x y:Operand}{xT yT ty:TypeId}{m l r:Int}(hx:ev L x=some (.int .i64 m))(hy:ev L y=some (.int .i64 l))(h:m+l=r /\ -9223372036854775808<=r/\r<=9223372036854775807:=by omega):Qt P n we X L B F (.binOp .add xT x y yT) ty (.int .i64 r):=q.add hx hy (wr h)
theorem q.lT {P:Program}{n:Nat}{we:World}{X:List Nat}{L:Fm}{B F:List ag}{x y:Operand}{xT yT ty:TypeId}{m l r:Int}(hx:ev L x=some (.int .i64 m))(hy:ev L y=some (.int .i64 l))(h:m-l=r /\ -9223372036854775808<=r/\r<=9223372036854775807:=by omega):Qt P n we X L B F (.binOp .sub xT x y yT) ty (.int .i64 r):=q.sub hx hy (wr h)
theorem q.uZ {P:Program}{n:Nat}{we:World}{X:List Nat}{L:Fm}{B F:List ag}{x y:Operand}{xT yT ty:TypeId}{m l r:Int}(hx:ev L x=some (.int .i64 m))(hy:ev L y=some (.int .i64 l))(h:m*l=r /\ -9223372036854775808<=r/\r<=9223372036854775807:=by omega):Qt P n we X L B F (.binOp .mul xT x y yT) ty (.int .i64 r):=q.mul hx hy (wr h)
theorem TQ {m l:Int}(h:0<=m):m.tmod l=m % l:=Int.tmod_eq_emod_of_nonneg h
theorem Sl.fA {α:Type}[Enc α]{w:World}{v:Value}{l:List α}(h:Sl w v l):l.length<=9223372036854775807:=by
 obtain ⟨A,c,_,h1,h2,_⟩:=h
 unfold maxLen at h2;omega
theorem cv {V V':Value}{P:Program}{f:FuncId}{args:Array Value}{w:World}(h:V=V')(hc:Calls P f args w fun e w'=>e = .returned V/\Ext w w'):Calls P f args w fun e w'=>e = .returned V'/\Ext w w':=h▸hc
theorem iK {n:Int}(h:n=0):Value.nilIface=df n:=by subst h;rfl
theorem dj {n m:Int}(hm:m≠0)(h:n=m):Value.iface 93 (.int .i64 m)=df n:=by subst h;exact (vM hm).symm
theorem dy {a b a' b':Value}(h1:a=a')(h2:b=b'):Value.tuple #[a,b] = .tuple #[a',b']:=by rw [h1,h2]
theorem Es {a b c a' b' c':Value}(h1:a=a')(h2:b=b')(h3:c=c'):Value.tuple #[a,b,c] = .tuple #[a',b',c']:=by rw [h1,h2,h3]
theorem IV {a b c d a' b' c' d':Value}(h1:a=a')(h2:b=b')(h3:c=c')(h4:d=d'):Value.tuple #[a,b,c,d] = .tuple #[a',b',c',d']:=by rw [h1,h2,h3,h4]
section
variable {we w:World} {X:List Nat} {B F:List ag}
theorem Wd.ownRow {α:Type}[Enc α]{e:TypeId}{v:Value}{l l':List α}(i:Nat)(h:B[i]? = some (ag.row e v l))(hl:l=l')(hw:Wd we [] B F w):Own we.heap.size e w v l':=by
 subst hl
 have h1:Own 0 e w v l:=hw.b i h
 refine ⟨h1.1,?_⟩
 rcases h1.2 with h2|⟨g,cap,cur,rfl,hg,r⟩
 .exact .inl h2
 .
  refine .inr ⟨g,cap,cur,rfl,?_,r⟩
  have:=(hw.own g (bu.2 ⟨_,List.mem_of_getElem? h,by simp [ag.row,dY]⟩)).2
  rcases Nat.lt_or_ge g we.heap.size with h3|h3
  .cases this h3
  .exact h3
end
theorem Wd.tail {we w:World}{X:List Nat}{B F:List ag}{r:ag}(hw:Wd we X (r::B) F w):Wd we X B F w :=
 ⟨hw.upd,fun q hq=>hw.okB q (List.mem_cons_of_mem _ hq),hw.okF,(List.nodup_append.1 hw.sep).2.1,fun k hk=>hw.own k (List.mem_append.2 (.inr hk)),fun k hk=>⟨(hw.mj k hk).1,fun h=>(hw.mj k hk).2 (List.mem_append.2 (.inr h))⟩⟩
def kI (v:Value)(i:Nat):Value:=match v with | .slice A _ c => .slice A i c|_=>undef
theorem Sl.to {α:Type}[Enc α]{w:World}{v:Value}{l:List α}(h:Sl w v l){i:Nat}(hi:i<=l.length):Sl w (kI v i) (l.take i):=by
 obtain ⟨A,c,rfl,h1,h2,h3⟩:=h
 exact Sl.take (⟨A,c,rfl,h1,h2,h3⟩:Sl w (.slice A l.length c) l) hi
def dA (v:Value)(i k:Nat):Value:=match v with | .slice A n c => .slice (if c=i then A else A.map (·.add (i*k))) (n-i) (c-i)|_=>undef
theorem Sl.from {α:Type}[Enc α]{w:World}{v:Value}{l:List α}(h:Sl w v l){i:Nat}(hi:i<=l.length):Sl w (dA v i (Enc.k α)) (l.drop i):=by
 obtain ⟨A,c,rfl,h1,h2,h3⟩:=h
 refine ⟨if c=i then A else A.map (·.add (i*Enc.k α)),c-i,by simp only [dA,List.length_drop],by simp;omega,by omega,fun j x hx=>?_⟩
 rw [List.getElem?_drop] at hx
 obtain ⟨b,off,rfl,hb,hc⟩:=h3 (i+j) x hx
 have hlt:i+j<l.length:=(List.getElem?_eq_some_iff.1 hx).1
 refine ⟨b,off+i*Enc.k α,?_,hb,fun q u hu=>?_⟩
 .rw [if_neg (by omega)];simp [addr_add]
 .
  have:=hc q u hu
  rw [Nat.add_mul] at this
  rw [show off+i*Enc.k α+j*Enc.k α+q=off+(i*Enc.k α+j*Enc.k α)+q by omega];exact this
section
variable {P:Program} {n:Nat} {we:World} {X:List Nat} {Q:Exit->Act->World->Prop} {k k':List It} {L:Fm} {B F:List ag} {ops rest:List Oper}
variable {dst:Option Nat} {d:Nat} {op:Op} {ty:TypeId} {pos:String} {ea:Array Edge} {g:Option (Nat×Bool)} {g':Nat×Bool} {v:Value}
variable {x y:Operand} {xT yT e:TypeId} {kd:IntKind} {α:Type} [Enc α] {l:List α}
theorem R.row0 (e:TypeId)(h:Run P n we X Q k L (ag.row e (.slice none 0 0) ([]:List α)::B) F):Run P n we X Q k L B F :=
 fun a w ha hw=>h a w ha (hw.new (r:=ag.row e (.slice none 0 0) ([]:List α)) (Own.nil 0 e w) (by simp [ag.row,dY]) (by simp [ag.row,dY]))
theorem q.kI {m:Int}{i:Nat}(hs:∀w,Wd we X B F w->Sl w v l)(hx:ev L x=some v)(hy:ev L y=some (.int kd m))(ht:P.underlying xT=some (.slice e))(hz:((P.info? e).map (·.size)).isSome=true)(hm:m=(i:Int))(hi:i<=l.length) :
 Qt P n we X L B F (.slice xT x none (some y) none) ty (kI v i):=fun _ _ _ _ a w ha hw=>by
 obtain ⟨A,c,rfl,h1,h2,h3⟩:=hs w hw
 subst hm
 cases hq:P.info? e with
 | none=>simp [hq] at hz
 | some inf =>
  simp only [execOp,ha.ev hx,Option.map_some,Option.map_none,ha.ev hy,Instr.sliceAt,Sem.run_bind,run_underlying ht,Result.andThen_ok,Instr.slice,Instr.sliceBounds,Instr.sliceBound,asIntOf,Sem.run_pure]
  rw [if_pos ⟨by omega,by omega⟩]
  simp [sizeOf,typeInfo,hq,kI]
  cases A <;> simp [Addr.add_zero']
theorem LW {ms:Array (String×TypeId)}(ht:P.underlying xT=some (.interface ms)):P.underlying xT=some (.interface (P.methodsAt xT)):=by
 simp [Program.methodsAt,ht]
theorem q.vS {c:Value}{ms:Array (String×TypeId)}(hx:ev L x=some .nilIface)(hy:ev L (.const c)=some .nilIface)(ht:P.underlying xT=some (.interface ms)):Qt P n we X L B F (.binOp .neq xT x (.const c) yT) ty (.bool false):=fun _ _ _ _ a w ha hw=>by
 simp only [execOp,ha.ev hx,ha.ev hy,eqGuard_nil_constR,Sem.run_bind,Sem.run_pure,Result.andThen_ok,run_neq_nil_nil (P:=P) w xT (LW ht)]
theorem q.Ci {c:Value}{ms:Array (String×TypeId)}(hx:ev L x=some .nilIface)(hy:ev L (.const c)=some .nilIface)(ht:P.underlying xT=some (.interface ms)):Qt P n we X L B F (.binOp .eql xT x (.const c) yT) ty (.bool true):=fun _ _ _ _ a w ha hw=>by
 simp only [execOp,ha.ev hx,ha.ev hy,eqGuard_nil_constR,Sem.run_bind,Sem.run_pure,Result.andThen_ok,run_eql_nil_nil (P:=P) w xT (LW ht)]
theorem q.NF {t:TypeId}{u:Value}{ms:Array (String×TypeId)}(hx:ev L x=some (.iface t u))(hy:ev L y=some .nilIface)(ht:P.underlying xT=some (.interface ms)):Qt P n we X L B F (.binOp .neq xT x y yT) ty (.bool true):=fun _ _ _ _ a w ha hw=>by
 simp only [execOp,ha.ev hx,ha.ev hy,eqGuard_at_iface,Sem.run_bind,Sem.run_pure,Result.andThen_ok,run_neq_held_nil (P:=P) w xT t u (LW ht)]
theorem q.Rj {t:TypeId}{u:Value}{ms:Array (String×TypeId)}(hx:ev L x=some (.iface t u))(hy:ev L y=some .nilIface)(ht:P.underlying xT=some (.interface ms)):Qt P n we X L B F (.binOp .eql xT x y yT) ty (.bool false):=fun _ _ _ _ a w ha hw=>by
 simp only [execOp,ha.ev hx,ha.ev hy,eqGuard_at_iface,Sem.run_bind,Sem.run_pure,Result.andThen_ok,run_eql_held_nil (P:=P) w xT t u (LW ht)]
theorem q.dB {c:Value}{m:Int}{ms:Array (String×TypeId)}(hx:ev L x=some (df m))(hy:ev L (.const c)=some .nilIface)(ht:P.underlying xT=some (.interface ms))(hm:m=0:=by omega):Qt P n we X L B F (.binOp .neq xT x (.const c) yT) ty (.bool false):=by subst hm;exact q.vS hx hy ht
theorem q.mo {c:Value}{m:Int}{ms:Array (String×TypeId)}(hx:ev L x=some (df m))(hy:ev L (.const c)=some .nilIface)(ht:P.underlying xT=some (.interface ms))(hm:m=0:=by omega):Qt P n we X L B F (.binOp .eql xT x (.const c) yT) ty (.bool true):=by subst hm;exact q.Ci hx hy ht
theorem q.ej {m:Int}{ms:Array (String×TypeId)}(hx:ev L x=some (df m))(hy:ev L y=some .nilIface)(ht:P.underlying xT=some (.interface ms))(hm:¬ m=0:=by omega):Qt P n we X L B F (.binOp .neq xT x y yT) ty (.bool true):=by rw [vM hm] at hx;exact q.NF hx hy ht
theorem q.jG {m:Int}{ms:Array (String×TypeId)}(hx:ev L x=some (df m))(hy:ev L y=some .nilIface)(ht:P.underlying xT=some (.interface ms))(hm:¬ m=0:=by omega):Qt P n we X L B F (.binOp .eql xT x y yT) ty (.bool false):=by rw [vM hm] at hx;exact q.Rj hx hy ht
theorem lw (a b:ByteArray):(a.toList==b.toList)=decide (a=b):=by
 rw [Bool.eq_iff_iff]
 simp only [beq_iff_eq,decide_eq_true_eq,ByteArray.toList_eq]
 constructor
 .
  intro h
  cases a;cases b
  simp at h
  rw [h]
 .rintro rfl;rfl
theorem q.pI {a b:ByteArray}(hx:ev L x=some (.string a))(hy:ev L y=some (.string b))(h:a=b):Qt P n we X L B F (.binOp .eql xT x y yT) ty (.bool true):=fun _ _ _ _ q w ha hw=>by
 simp [execOp,ha.ev hx,ha.ev hy,eqGuard_at_string,binOp,Op.stringOp,lw,h]
theorem q.pJ {a b:ByteArray}(hx:ev L x=some (.string a))(hy:ev L y=some (.string b))(h:¬ a=b):Qt P n we X L B F (.binOp .eql xT x y yT) ty (.bool false):=fun _ _ _ _ q w ha hw=>by
 simp [execOp,ha.ev hx,ha.ev hy,eqGuard_at_string,binOp,Op.stringOp,lw,h]
theorem q.uA {a b:ByteArray}(hx:ev L x=some (.string a))(hy:ev L y=some (.string b))(h:a=b):Qt P n we X L B F (.binOp .neq xT x y yT) ty (.bool false):=fun _ _ _ _ q w ha hw=>by
 simp [execOp,ha.ev hx,ha.ev hy,eqGuard_at_string,binOp,Op.stringOp,lw,h]
theorem q.y9 {a b:ByteArray}(hx:ev L x=some (.string a))(hy:ev L y=some (.string b))(h:¬ a=b):Qt P n we X L B F (.binOp .neq xT x y yT) ty (.bool true):=fun _ _ _ _ q w ha hw=>by
 simp [execOp,ha.ev hx,ha.ev hy,eqGuard_at_string,binOp,Op.stringOp,lw,h]
def NG {β:Type}[DecidableEq β](P:Program)(t:TypeId)(val:β->Value):Prop :=
  (∀x y w (a b:Operand),(eqGuard .eql t a b (val x) (val y)).run P w = .ok () w/\(eqGuard .neq t a b (val x) (val y)).run P w = .ok () w) /\ ∀x y w,(binOp .eql t (val x) (val y)).run P w = .ok (.bool (decide (x=y))) w/\(binOp .neq t (val x) (val y)).run P w = .ok (.bool (!decide (x=y))) w
section
variable {β:Type} [DecidableEq β] {val:β->Value} {p q:β} {a b:Operand}
theorem q.vT {x y:β}(he:NG P xT val)(hx:ev L a=some (val x))(hy:ev L b=some (val y))(h:x=y):Qt P n we X L B F (.binOp .neq xT a b yT) ty (.bool false):=fun _ _ _ _ q w ha hw=>by
 simp only [execOp,ha.ev hx,ha.ev hy,Sem.run_bind,(he.1 x y w a b).2,Result.andThen_ok,(he.2 x y w).2,decide_eq_true h,Sem.run_pure,Bool.not_true]
theorem q.vU {x y:β}(he:NG P xT val)(hx:ev L a=some (val x))(hy:ev L b=some (val y))(h:¬ x=y):Qt P n we X L B F (.binOp .neq xT a b yT) ty (.bool true):=fun _ _ _ _ q w ha hw=>by
 simp only [execOp,ha.ev hx,ha.ev hy,Sem.run_bind,(he.1 x y w a b).2,Result.andThen_ok,(he.2 x y w).2,decide_eq_false h,Sem.run_pure,Bool.not_false]
end
theorem R.OO (m:Nat){c:Code}(h:norm 200 k = .c (.loop c)::k')(hr:Run P n we X Q (.c c :: .back (Code.rounds P c (pq P Q k') m)::k') L B F):Run P n we X Q k L B F:=by
 intro a w ha hw
 refine cT 200 (h ▸ ?_)
 refine wp_loop_rounds (m+1) ?_
 rw [rounds_succ]
 exact wp_mono (hr a w ha hw) (fun e a w q=>by cases e <;> exact q)
theorem R.again {m:Nat}{c:Code}{Q':Exit->Act->World->Prop}(hQ:Q'=pq P Q k')(h:norm 200 k = .back (Code.rounds P c Q' (m+1))::k')(hr:Run P n we X Q (.c c :: .back (Code.rounds P c Q' m)::k') L B F):Run P n we X Q k L B F:=by
 intro a w ha hw
 refine cT 200 (h ▸ ?_)
 show Code.rounds P c Q' (m+1) a w
 rw [rounds_succ]
 subst hQ
 exact wp_mono (hr a w ha hw) (fun e a w q=>by cases e <;> exact q)
variable {m q':Int}
theorem q.and {r:Int}(hx:ev L x=some (.int kd m))(hy:ev L y=some (.int kd q'))(hr:bits .and kd m q'=r):Qt P n we X L B F (.binOp .and xT x y yT) ty (.int kd r):=fun _ _ _ _ a w ha hw=>by
 subst hr;simp [execOp,ha.ev hx,ha.ev hy,binOp,eqGuard,Op.intBits,bits]
theorem q.or {r:Int}(hx:ev L x=some (.int kd m))(hy:ev L y=some (.int kd q'))(hr:bits .or kd m q'=r):Qt P n we X L B F (.binOp .or xT x y yT) ty (.int kd r):=fun _ _ _ _ a w ha hw=>by
 subst hr;simp [execOp,ha.ev hx,ha.ev hy,binOp,eqGuard,Op.intBits,bits]
theorem q.rem {r:Int}(hx:ev L x=some (.int kd m))(hy:ev L y=some (.int kd q'))(h0:¬ q'=0)(hr:m.tmod q'=r):Qt P n we X L B F (.binOp .rem xT x y yT) ty (.int kd r):=fun _ _ _ _ a w ha hw=>by
 simp [execOp,ha.ev hx,ha.ev hy,binOp,eqGuard,Op.intDiv,h0,hr]
theorem q.shr {r:Int}{kd':IntKind}(hx:ev L x=some (.int kd m))(hy:ev L y=some (.int kd' q'))(h0:¬ q'<0)(hr:m.fdiv (2 ^ (min q'.toNat kd.bits))=r):Qt P n we X L B F (.binOp .shr xT x y yT) ty (.int kd r):=fun _ _ _ _ a w ha hw=>by
 simp [execOp,ha.ev hx,ha.ev hy,binOp,eqGuard,Op.shift,h0,hr]
theorem q.shl {r:Int}{kd':IntKind}(hx:ev L x=some (.int kd m))(hy:ev L y=some (.int kd' q'))(h0:¬ q'<0)(hr:kd.wrap (m*2 ^ (min q'.toNat kd.bits))=r):Qt P n we X L B F (.binOp .shl xT x y yT) ty (.int kd r):=fun _ _ _ _ a w ha hw=>by
 simp [execOp,ha.ev hx,ha.ev hy,binOp,eqGuard,Op.shift,h0,hr]
theorem q.np {r:Int}{kd':IntKind}{dT:TypeId}(hx:ev L x=some (.int kd m))(hs:(P.underlying xT).isSome=true)(hd:P.underlying dT=some (.int kd'))(hr:kd'.wrap m=r):Qt P n we X L B F (.convert xT dT x) ty (.int kd' r):=fun _ _ _ _ a w ha hw=>by
 obtain ⟨dd,hdd⟩:=Option.isSome_iff_exists.mp hs
 simp [execOp,ha.ev hx,convert,run_underlying hdd,run_underlying hd,Conv.intToInt,hr]
def TR (P:Program)(t:TypeId)(f:Nat):Option (Nat×Option Nat) :=
  match P.underlying t with
  | some (.struct fs)=>match fs[f]? with
    | some fl=>match P.info? fl.type,P.underlying fl.type with
      | some i,some (.struct _)=>some (fl.offset,some i.size)
      | some _,some (.array _ _)=>none
      | some _,some _=>some (fl.offset,none)
      | _,_=>none
    | none=>none
  | _=>none
theorem q.field {f off:Nat}{cs:List Value}{u:Value}(hx:ev L x=some (.agg cs.toArray))(ht:TR P xT f=some (off,none))(hu:cs[off]? = some u):Qt P n we X L B F (.field xT x f) ty u:=fun _ _ _ _ a w ha hw=>by
 unfold TR at ht
 split at ht
 .
  rename_i fs h1
  split at ht
  .
   rename_i fl h2
   split at ht
   .cases ht
   .cases ht
   .
    rename_i dd h3 h4 h5 h6
    injection ht with ht;injection ht with ht _
    have hagg:(isAgg fl.type).run P w = .ok false w:=by
     simp only [isAgg,Sem.run_bind,run_underlying h6,Result.andThen_ok]
     rfl
    subst ht
    simp [execOp,ha.ev hx,Instr.field,run_underlying h1,h2,asAgg,part,hagg,hu]
   .cases ht
  .cases ht
 .cases ht
def tB (P:Program)(t:TypeId):Option (List (Nat×Nat)×List Value) :=
  match P.info? t,P.underlying t with
  | some it,some (.struct fields)=>match it.zero,fields.toList.mapM (fun f=>(P.info? f.type).map fun i=>(f.offset,i.size)) with
    | some z,some places=>some (places,z.cells.toList)
    | _,_=>none
  | _,_=>none
def vV (places:List (Nat×Nat)):List Value->List (Nat×Value)->Option (List Value)
  | cells,[]=>some cells
  | cells,(i,v)::rest=>match places[i]? with
    | none=>none
    | some (off,size)=>bif Nat.beq v.cells.toList.length size&&Nat.ble (off+size) cells.length then vV places (cells.take off++v.cells.toList++cells.drop (off+size)) rest else none
theorem vW (places:List (Nat×Nat)):∀ (parts:List (Nat×Value)) (cells cs:List Value),vV places cells parts=some cs->Instr.fill (fun x=>places.toArray[x]?) cells.toArray parts=some cs.toArray
 | [],cells,cs,h=>by simp [vV] at h;subst h;rfl
 | (i,v)::rest,cells,cs,h=>by
  simp only [vV] at h
  simp only [Instr.fill,List.getElem?_toArray]
  cases hp:places[i]? with
  | none=>simp [hp] at h
  | some q =>
   obtain ⟨off,size⟩:=q
   simp only [hp] at h ⊢
   cases hb:(Nat.beq v.cells.toList.length size&&Nat.ble (off+size) cells.length) with
   | false=>simp only [hb,cond_false] at h;cases h
   | true =>
    simp only [hb,cond_true] at h
    simp only [Bool.and_eq_true] at hb
    have h1:v.cells.toList.length=size:=Nat.eq_of_beq_eq_true hb.1
    have h2:off+size<=cells.length:=Nat.le_of_ble_eq_true hb.2
    have h1':v.cells.size=size:=by simpa using h1
    rw [if_neg (by simp [h1'];omega)]
    have ih:=vW places rest _ cs h
    simp only [List.getElem?_toArray] at ih
    refine Eq.trans (congrArg (fun x=>Instr.fill _ x rest) ?_) ih
    rw [<- Array.foldl_toList,Array.toList_zipIdx]
    have:=foldl_set off v.cells.toList 0 cells.toArray (by simp [h1'];omega)
    simp only [Nat.add_zero] at this
    rw [h1] at this
    exact this
theorem q.build {t:TypeId}{parts:Array (Nat×Operand)}{places:List (Nat×Nat)}{zs vs cs:List Value}(ht:tB P t=some (places,zs))(hp:evs L (parts.toList.map (·.2))=some vs)(hf:vV places zs ((parts.toList.map (·.1)).zip vs)=some cs) :
 Qt P n we X L B F (.build t parts) ty (.agg cs.toArray):=fun _ _ _ _ a w ha hw=>by
 have hparts:(parts.map fun p=>(p.1,a.eval p.2)).toList=(parts.toList.map (·.1)).zip vs:=by
  rw [<- ha.evs hp]
  simp only [Array.toList_map,List.map_map]
  generalize parts.toList=ps
  induction ps with
  | nil=>rfl
  | cons q ps ih=>simp [ih]
 have hb:P.built t (parts.map fun p=>(p.1,a.eval p.2)).toList=some cs.toArray:=by
  rw [hparts]
  unfold tB at ht
  unfold Program.built
  split at ht
  .
   rename_i it fields h1 h2
   split at ht
   .
    rename_i z pl h3 h4
    injection ht with ht;injection ht with ha hb;subst ha;subst hb
    simp only [h1,h2,h3,h4]
    exact vW pl _ _ _ hf
   .cases ht
  .cases ht
 simp only [execOp,Sem.run_bind,run_build (P:=P) w t _ _ hb,Result.andThen_ok,Sem.run_pure]
theorem q.LR {fn:FuncId}{fs cs:Array Operand}{cap:List Value}(hf:fs = #[])(hc:evs L cs.toList=some cap):Qt P n we X L B F (.makeFunc (.func fn) fs cs) ty (.func (.func fn) #[] cap.toArray):=fun _ _ _ _ a w ha hw=>by
 subst hf
 have hm:cs.map a.eval=cap.toArray:=by rw [<- ha.evs hc,<- Array.toList_map]
 simp [execOp,Instr.makeFunc,hm]
def QW (tmps:Array Value):ResultVar->Sem Value
  | .tmp t=>pure (tmps.getD t undef)
  | .cell p t=>do loadVar t (<- asAddr (tmps.getD p undef))
theorem lx (fn:Func)(tmps:Array Value):results fn tmps=(do let vs <- fn.results.mapM (QW tmps);pure (if h:vs.size=1 then vs[0] else .tuple vs)):=by
 unfold results
 have:(fun x:ResultVar=>match x with | .tmp t=>(pure (tmps.getD t undef):Sem Value) | .cell a t=>do loadVar t (<- asAddr (tmps.getD a undef)))=QW tmps:=by
  funext x;cases x <;> rfl
 rw [<- this]
 rfl
def RV (P:Program)(n:Nat)(we:World)(X:List Nat)(L:Fm)(B F:List ag)(r:ResultVar)(v:Value):Prop :=
  ∀a w,Fr n L a->Wd we X B F w->(QW a.tmps r).run P w = .ok v w
theorem RV.tmp {t:Nat}{v:Value}(h:lk L t=some v):RV P n we X L B F (.tmp t) v:=fun a w ha hw=>by
 simp [QW,Array.getD_eq_getD_getElem?,ha.get _ _ h]
theorem RV.cell {p b:Nat}{t t':TypeId}{cs:List Value}(i:Nat)(hB:B[i]? = some (ag.box b cs t'))(h:lk L p=some (.pointer (some ⟨b,0,none⟩)))(ht:nE P t=some cs.length):RV P n we X L B F (.cell p t) (.agg cs.toArray):=fun a w ha hw=>by
 have hl:=mV (P:=P) w ht (tF (hw.b i hB))
 have:a.tmps.getD p undef = .pointer (some ⟨b,0,none⟩):=by simp [Array.getD_eq_getD_getElem?,ha.get _ _ h]
 simp only [QW,this,asAddr,Sem.run_bind,Sem.run_pure,Result.andThen_ok]
 simpa [Instr.loadAt,Instr.sureAddr] using hl
theorem RV.cell1 {p b o:Nat}{t t':TypeId}{cs:List Value}{u:Value}(i:Nat)(hB:B[i]? = some (ag.box b cs t'))(h:lk L p=some (.pointer (some ⟨b,o,none⟩)))(ht:kg P t=true)(hu:cs[o]? = some u):RV P n we X L B F (.cell p t) u:=fun a w ha hw=>by
 have hc:=tF (hw.b i hB) o u hu
 rw [Nat.zero_add] at hc
 have hl:=mW (P:=P) w ht hc
 have:a.tmps.getD p undef = .pointer (some ⟨b,o,none⟩):=by simp [Array.getD_eq_getD_getElem?,ha.get _ _ h]
 simp only [QW,this,asAddr,Sem.run_bind,Sem.run_pure,Result.andThen_ok]
 simpa [Instr.loadAt,Instr.sureAddr] using hl
section
variable {fn:Func} {R:Ending->World->Prop} {r1 r2 r3 r4:ResultVar} {v1 v2 v3 v4:Value}
theorem R.Rk (h:norm 200 k = .c .ret::k')(hr:fn.results = #[r1])(h1:RV P n we X L B F r1 v1)(hR:∀w,Wd we X B F w->R (.returned v1) w):Run P n we X (bodyPost P fn R) k L B F :=
 fun a w ha hw=>cT 200 (h▸wp_ret (kf (bodyPost_ret (by
  have e1:=h1 a w ha hw
  rw [lx,hr,show (#[r1]:Array ResultVar)=[r1].toArray from rfl]
  simp only [List.mapM_toArray,List.mapM_cons,List.mapM_nil,bind_assoc,pure_bind,Sem.run_bind,map_eq_pure_bind,e1,Result.andThen_ok]
  rfl) ha.defers (hR w hw))))
theorem R.NH (h:norm 200 k = .c .ret::k')(hr:fn.results = #[r1,r2])(h1:RV P n we X L B F r1 v1)(h2:RV P n we X L B F r2 v2)(hR:∀w,Wd we X B F w->R (.returned (.tuple #[v1,v2])) w):Run P n we X (bodyPost P fn R) k L B F :=
 fun a w ha hw=>cT 200 (h▸wp_ret (kf (bodyPost_ret (by
  have e1:=h1 a w ha hw
  have e2:=h2 a w ha hw
  rw [lx,hr,show (#[r1,r2]:Array ResultVar)=[r1,r2].toArray from rfl]
  simp only [List.mapM_toArray,List.mapM_cons,List.mapM_nil,bind_assoc,pure_bind,Sem.run_bind,map_eq_pure_bind,e1,e2,Result.andThen_ok]
  rfl) ha.defers (hR w hw))))
theorem R.NI (h:norm 200 k = .c .ret::k')(hr:fn.results = #[r1,r2,r3])(h1:RV P n we X L B F r1 v1)(h2:RV P n we X L B F r2 v2)(h3:RV P n we X L B F r3 v3)(hR:∀w,Wd we X B F w->R (.returned (.tuple #[v1,v2,v3])) w):Run P n we X (bodyPost P fn R) k L B F :=
 fun a w ha hw=>cT 200 (h▸wp_ret (kf (bodyPost_ret (by
  have e1:=h1 a w ha hw
  have e2:=h2 a w ha hw
  have e3:=h3 a w ha hw
  rw [lx,hr,show (#[r1,r2,r3]:Array ResultVar)=[r1,r2,r3].toArray from rfl]
  simp only [List.mapM_toArray,List.mapM_cons,List.mapM_nil,bind_assoc,pure_bind,Sem.run_bind,map_eq_pure_bind,e1,e2,e3,Result.andThen_ok]
  rfl) ha.defers (hR w hw))))
theorem R.Rl (h:norm 200 k = .c .ret::k')(hr:fn.results = #[r1,r2,r3,r4])(h1:RV P n we X L B F r1 v1)(h2:RV P n we X L B F r2 v2)(h3:RV P n we X L B F r3 v3)(h4:RV P n we X L B F r4 v4)(hR:∀w,Wd we X B F w->R (.returned (.tuple #[v1,v2,v3,v4])) w):Run P n we X (bodyPost P fn R) k L B F :=
 fun a w ha hw=>cT 200 (h▸wp_ret (kf (bodyPost_ret (by
  have e1:=h1 a w ha hw
  have e2:=h2 a w ha hw
  have e3:=h3 a w ha hw
  have e4:=h4 a w ha hw
  rw [lx,hr,show (#[r1,r2,r3,r4]:Array ResultVar)=[r1,r2,r3,r4].toArray from rfl]
  simp only [List.mapM_toArray,List.mapM_cons,List.mapM_nil,bind_assoc,pure_bind,Sem.run_bind,map_eq_pure_bind,e1,e2,e3,e4,Result.andThen_ok]
  rfl) ha.defers (hR w hw))))
end
theorem R.nI {r:ag}(hr:r.ok we)(hlt:∀k∈r.blk,k<we.heap.size)(h:Run P n we [] Q k L B (r::F)):Run P n we [] Q k L B F:=fun a w ha hw =>
 h a w ha (hw.fact (r.loc we w (fun k hk=>hw.upd.block k (hlt k hk) (by simp)) hr) fun k hk=>⟨Nat.lt_of_lt_of_le (hlt k hk) hw.upd.size,fun hb=>by cases (hw.own k hb).2 (hlt k hk)⟩)
theorem jQ {w:World}{b:Nat}{cs:List Value}{t:TypeId}(h:(ag.box b cs t).ok w):∀k∈(ag.box b cs t).blk,k<w.heap.size:=fun k hk=>by
 simp [ag.box] at hk;subst hk
 exact (Array.getElem?_eq_some_iff.1 h).1
theorem sK {w W:World}{b:Nat}{cs:List Value}{t:TypeId}(h:(ag.box b cs t).ok w)(e:Ext w W):(ag.box b cs t).ok W :=
 (ag.box b cs t).loc w W (fun k hk=>e.heap (jQ h k hk)) h
theorem q.yx {b o:Nat}{cs:List Value}{t:TypeId}{u:Value}(i:Nat)(hB:F[i]? = some (ag.box b cs t))(hx:ev L x=some (.pointer (some ⟨b,o,none⟩)))(ht:kg P xT=true)(hu:cs[o]? = some u):Qt P n we X L B F (.load xT x) ty u:=fun _ _ _ _ a w ha hw=>by
 have h:=tF (hw.f i hB) o u hu
 rw [Nat.zero_add] at h
 simp [execOp,ha.ev hx,mW (P:=P) w ht h]
def auto (ops:List Oper)(n:Nat):Nat->List Oper->Fm->Option (List Oper×Fm)
  | 0,rest,L=>some (rest,L)
  | m+1,rest,L=>match rest with
    | []=>none
    | o::rest=>match o.dst with
      | none=>none
      | some d=>match Nat.blt d n with
        | false=>none
        | true=>match gd ops L o.guard with
          | none=>none
          | some false=>auto ops n m rest ((d,undef)::L)
          | some true=>match o.op with
            | .move x=>match ev L x with
              | some v=>auto ops n m rest ((d,v)::L)
              | none=>none
            | .assign x=>match ev L x with
              | some v=>auto ops n m rest ((d,v)::L)
              | none=>none
            | .pick c x y=>match ev L c with
              | some (.bool true)=>match ev L x with
                | some v=>auto ops n m rest ((d,v)::L)
                | none=>none
              | some (.bool false)=>match ev L y with
                | some v=>auto ops n m rest ((d,v)::L)
                | none=>none
              | _=>none
            | .unOp .not _ x=>match ev L x with
              | some (.bool true)=>auto ops n m rest ((d,.bool false)::L)
              | some (.bool false)=>auto ops n m rest ((d,.bool true)::L)
              | _=>none
            | .extract x i=>match ev L x with
              | some (.tuple vs)=>match vs[i]? with
                | some v=>auto ops n m rest ((d,v)::L)
                | none=>none
              | _=>none
            | _=>none
def pK (ops:List Oper)(L:Fm)(o:Oper):Option Value :=
  match gd ops L o.guard with
  | none=>none
  | some false=>some undef
  | some true=>match o.op with
    | .move x=>ev L x
    | .assign x=>ev L x
    | .pick c x y=>match ev L c with
      | some (.bool true)=>ev L x
      | some (.bool false)=>ev L y
      | _=>none
    | .unOp .not _ x=>match ev L x with
      | some (.bool b)=>some (.bool !b)
      | _=>none
    | .extract x i=>match ev L x with
      | some (.tuple vs)=>vs[i]?
      | _=>none
    | _=>none
theorem za {ops:List Oper}{n m:Nat}{o:Oper}{rest:List Oper}{L:Fm}{r:List Oper×Fm}(h:auto ops n (m+1) (o::rest) L=some r) :
 ∃d v,o.dst=some d/\Nat.blt d n=true/\pK ops L o=some v/\auto ops n m rest ((d,v)::L)=some r:=by
 simp only [auto] at h
 cases hd:o.dst with
 | none=>simp [hd] at h
 | some d =>
  simp only [hd] at h
  cases hb:Nat.blt d n with
  | false=>simp [hb] at h
  | true =>
   simp only [hb] at h
   cases hg:gd ops L o.guard with
   | none=>simp [hg] at h
   | some b =>
    cases b with
    | false=>simp only [hg] at h;exact ⟨d,undef,rfl,hb,by simp [pK,hg],h⟩
    | true =>
     simp only [hg] at h
     cases ho:o.op <;> simp only [ho] at h <;> try (cases h;done)
     case move x=>split at h;exact ⟨d,_,rfl,hb,by simp only [pK,hg,ho];assumption,h⟩;cases h
     case assign x=>split at h;exact ⟨d,_,rfl,hb,by simp only [pK,hg,ho];assumption,h⟩;cases h
     case pick c x y =>
      split at h
      .
       rename_i hc
       split at h
       .exact ⟨d,_,rfl,hb,by simp only [pK,hg,ho,hc];assumption,h⟩
       .cases h
      .
       rename_i hc
       split at h
       .exact ⟨d,_,rfl,hb,by simp only [pK,hg,ho,hc];assumption,h⟩
       .cases h
      .cases h
     case unOp u t x =>
      cases u <;> simp only [] at h <;> try (cases h;done)
      split at h
      .rename_i hc;exact ⟨d,_,rfl,hb,by simp only [pK,hg,ho,hc];rfl,h⟩
      .rename_i hc;exact ⟨d,_,rfl,hb,by simp only [pK,hg,ho,hc];rfl,h⟩
      .cases h
     case extract x i =>
      split at h
      .
       rename_i vs hc
       split at h
       .exact ⟨d,_,rfl,hb,by simp only [pK,hg,ho,hc];assumption,h⟩
       .cases h
      .cases h
theorem zb {ops:List Oper}{L:Fm}{o:Oper}{v:Value}(h:pK ops L o=some v){a:Act}(ha:Fr n L a) :
 (gd ops L o.guard=some false/\v=undef)∨(gd ops L o.guard=some true /\ ∀w,(execOp a.eval o).run P w = .ok (.value v) w):=by
 unfold pK at h
 split at h
 .cases h
 .rename_i hg;injection h with h;exact .inl ⟨hg,h.symm⟩
 .
  rename_i hg
  refine .inr ⟨hg,fun w=>?_⟩
  split at h
  .rename_i x ho;simp [execOp,ho,ha.ev h]
  .rename_i x ho;simp [execOp,ho,ha.ev h]
  .
   rename_i c x y ho
   split at h
   .rename_i hc;simp [execOp,ho,ha.ev hc,ha.ev h,asBool]
   .rename_i hc;simp [execOp,ho,ha.ev hc,ha.ev h,asBool]
   .cases h
  .
   rename_i t x ho
   split at h
   .rename_i b hc;injection h with h;subst h;simp [execOp,ho,ha.ev hc,Op.unary]
   .cases h
  .
   rename_i x i ho
   split at h
   .rename_i vs hc;simp [execOp,ho,ha.ev hc,Instr.extract,h]
   .cases h
  .cases h
theorem R.u:∀ (m:Nat) {rest rest':List Oper} {L L':Fm},auto ops n m rest L=some (rest',L')->Rg P n we X Q ops rest' k L' B F->Rg P n we X Q ops rest k L B F
 | 0,rest,rest',L,L',h,hr=>by simp [auto] at h;obtain ⟨rfl,rfl⟩:=h;exact hr
 | m+1,[],rest',L,L',h,hr=>by simp [auto] at h
 | m+1,o::rest,rest',L,L',h,hr=>by
  obtain ⟨d,v,hd,hb,h1,h2⟩:=za h
  have ih:=R.u m h2 hr
  intro a w ha hw
  refine wpList_step fun K hK=>?_
  rcases zb (P:=P) h1 ha with ⟨hg,rfl⟩ | ⟨hg,hrun⟩
  .
   rw [if_neg (by rw [dX ha hg];simp),hd]
   exact hK _ _ (ih _ w (ha.put d undef hb) hw)
  .
   rw [if_pos (dX ha hg)]
   unfold Oper.wp
   rw [hrun w,Oper.upon_value,hd]
   exact hK _ _ (ih _ w (ha.put d v hb) hw)
theorem Q.u:∀ (m:Nat) {rest rest':List Oper} {L L':Fm},auto ops n m rest L=some (rest',L')->Rq P n we X Q ops rest' k L' B F->Rq P n we X Q ops rest k L B F
 | 0,rest,rest',L,L',h,hr=>by simp [auto] at h;obtain ⟨rfl,rfl⟩:=h;exact hr
 | m+1,[],rest',L,L',h,hr=>by simp [auto] at h
 | m+1,o::rest,rest',L,L',h,hr=>by
  obtain ⟨d,v,hd,hb,h1,h2⟩:=za h
  have ih:=Q.u m h2 hr
  intro a ha
  refine wpQuiet_step fun K hK=>?_
  rcases zb (P:=P) h1 ha with ⟨hg,rfl⟩ | ⟨hg,hrun⟩
  .
   rw [if_neg (by rw [dX ha hg];simp),hd]
   exact hK _ (ih _ (ha.put d undef hb))
  .
   rw [if_pos (dX ha hg)]
   refine ⟨v,fun w hw=>?_,by rw [hd];exact hK _ (ih _ (ha.put d v hb))⟩
   unfold Oper.quietAt
   rw [hrun w];exact ⟨rfl,rfl⟩
section
variable {fn:Func} {V V' Tx V3:Value}
theorem rI {a b:Int}(h:a=b):Value.int .i64 a = .int .i64 b:=by rw [h]
theorem rB {a b:Bool}(h:a=b):Value.bool a = .bool b:=by rw [h]
theorem rS {a b:ByteArray}(h:a=b):Value.string a = .string b:=by rw [h]
theorem rE {a b:Int}(h:a=b):df a=df b:=by rw [h]
theorem R.rv {t:Nat}{v:Value}(h:norm 200 k = .c .ret::k')(hr:fn.results = #[.tmp t])(hv:lk L t=some v)(e:v=V):Run P n we [] (bodyPost P fn fun en w'=>en = .returned V/\Ext we w') k L B F :=
 R.Rf h hr hv fun w hw=>⟨by rw [e],hw.ext⟩
theorem R.FM {t u:Nat}{v v':Value}(h:norm 200 k = .c .ret::k')(hr:fn.results = #[.tmp t,.tmp u])(hv:lk L t=some v)(hv':lk L u=some v')(e:v=V)(e':v'=V'):Run P n we [] (bodyPost P fn fun en w'=>en = .returned (.tuple #[V,V'])/\Ext we w') k L B F :=
 R.TI h hr hv hv' fun w hw=>⟨by rw [e,e'],hw.ext⟩
theorem R.QX {t u x:Nat}{v v' v'':Value}(h:norm 200 k = .c .ret::k')(hr:fn.results = #[.tmp t,.tmp u,.tmp x])(hv:lk L t=some v)(hv':lk L u=some v')(OL:lk L x=some v'')(e:v=V)(e':v'=V')(e'':v''=Tx):Run P n we [] (bodyPost P fn fun en w'=>en = .returned (.tuple #[V,V',Tx])/\Ext we w') k L B F :=
 R.TJ h hr hv hv' OL fun w hw=>⟨by rw [e,e',e''],hw.ext⟩
theorem R.Ca {r1 r2:ResultVar}{v v':Value}(h:norm 200 k = .c .ret::k')(hr:fn.results = #[r1,r2])(h1:RV P n we [] L B F r1 v)(h2:RV P n we [] L B F r2 v')(e:v=V)(e':v'=V'):Run P n we [] (bodyPost P fn fun en w'=>en = .returned (.tuple #[V,V'])/\Ext we w') k L B F :=
 R.NH h hr h1 h2 fun w hw=>⟨by rw [e,e'],hw.ext⟩
theorem R.Rm {r1 r2 r3:ResultVar}{v v' v'':Value}(h:norm 200 k = .c .ret::k')(hr:fn.results = #[r1,r2,r3])(h1:RV P n we [] L B F r1 v)(h2:RV P n we [] L B F r2 v')(h3:RV P n we [] L B F r3 v'')(e:v=V)(e':v'=V')(e'':v''=Tx):Run P n we [] (bodyPost P fn fun en w'=>en = .returned (.tuple #[V,V',Tx])/\Ext we w') k L B F :=
 R.NI h hr h1 h2 h3 fun w hw=>⟨by rw [e,e',e''],hw.ext⟩
theorem R.ro {α:Type}[Enc α]{e:TypeId}{t:Nat}{v:Value}{l l':List α}(i:Nat)(h:norm 200 k = .c .ret::k')(hr:fn.results = #[.tmp t])(hv:lk L t=some v)(hB:B[i]? = some (ag.row e v l))(hl:l=l'):Run P n we [] (bodyPost P fn fun en w' => ∃u,en = .returned u/\Own we.heap.size e w' u l'/\Ext we w') k L B F :=
 R.Rf h hr hv fun w hw=>⟨v,rfl,hw.ownRow i hB hl,hw.ext⟩
end
def Cu {ι:Type}(n:Nat)(we:World)(X:List Nat)(LI:ι->Fm)(BI FI:ι->List ag)(PI:ι->Prop)(a:Act)(w:World):Prop:= ∃i,PI i/\Fr n (LI i) a/\Wd we X (BI i) (FI i) w
theorem fH {I:Act->World->Prop}{R:List It}(hI:∀a w,I a w->pq P Q R .normal a w):∀ (A:List It) (e:Exit) (a:Act) (w:World),pq P Q (A ++ .back I::R) e a w->pq P Q (A++R) e a w
 | [],e,a,w,h=>by
  cases e with
  | normal=>exact hI a w h
  | _=>exact h
 | .c x::A,e,a,w,h=>by
  cases e with
  | normal=>exact wp_mono h (fH hI A)
  | exit id=>exact fH hI A (.exit id) a w h
  | goto id=>exact fH hI A (.goto id) a w h
  | ret=>exact fH hI A .ret a w h
  | panic c=>exact fH hI A (.panic c) a w h
  | outgrown=>exact fH hI A .outgrown a w h
 | .b id::A,e,a,w,h=>by
  cases e with
  | normal=>exact fH hI A .normal a w h
  | exit id' =>
   simp only [List.cons_append,pq] at h ⊢
   cases hb:Nat.beq id' id with
   | true=>rw [hb] at h;exact fH hI A .normal a w h
   | false=>rw [hb] at h;exact fH hI A (.exit id') a w h
  | goto id=>exact fH hI A (.goto id) a w h
  | ret=>exact fH hI A .ret a w h
  | panic c=>exact fH hI A (.panic c) a w h
  | outgrown=>exact fH hI A .outgrown a w h
 | .back J::A,e,a,w,h=>by
  cases e with
  | normal=>exact h
  | exit id=>exact fH hI A (.exit id) a w h
  | goto id=>exact fH hI A (.goto id) a w h
  | ret=>exact fH hI A .ret a w h
  | panic c=>exact fH hI A (.panic c) a w h
  | outgrown=>exact fH hI A .outgrown a w h
theorem R.cut {ι:Type}(m:Nat)(LI:ι->Fm)(BI FI:ι->List ag)(PI:ι->Prop){k1 A R:List It}(hk:norm 200 k=k1)(hA:k1.take m=A)(hR:k1.drop m=R)(h1:Run P n we X Q (A ++ .back (Cu n we X LI BI FI PI)::R) L B F)
 (h2:∀i,PI i->Run P n we X Q R (LI i) (BI i) (FI i)):Run P n we X Q k L B F:=fun a w ha hw=>by
 refine cT 200 (hk ▸ ?_)
 have:k1=A++R:=by rw [<- hA,<- hR,List.take_append_drop]
 rw [this]
 exact fH (fun a w ⟨i,hP,ha,hw⟩=>h2 i hP a w ha hw) A _ a w (h1 a w ha hw)
theorem R.meet {ι:Type}{LI:ι->Fm}{BI FI:ι->List ag}{PI:ι->Prop}(i:ι)(h:norm 200 k = .back (Cu n we X LI BI FI PI)::k')(hP:PI i)(hL:Al (LI i) L)(hB:∀w,Wd we X B F w->Wd we X (BI i) (FI i) w):Run P n we X Q k L B F :=
 fun a w ha hw=>cT 200 (by rw [h];exact ⟨i,hP,ha.sub hL,hB w hw⟩)
end
end Go.Proofs.YtkbhcbipadkcaaaGreatDoor
