import Derived.Test.YtkbhcbipadkcaaaGreatDoorTS2
import Derived.WideLaws
import Derived.LaidEql
import Derived.LoopN
import Derived.Laws.BitsAllLaws
import Derived.Laws.Tables
import Derived.MapKept
import Derived.Laws.CopyRow
import Derived.Laws.MakeOwn
import Derived.Laws.IdiomStrings
namespace Go.Proofs.YtkbhcbipadkcaaaGreatDoor
set_option linter.unusedVariables false
set_option linter.unusedSimpArgs false
set_option maxRecDepth 100000
set_option maxHeartbeats 90000000
section
open Go Go.RowKit
theorem wr {n r:Int}(h:n=r /\ -9223372036854775808<=r/\r<=9223372036854775807):IntKind.i64.wrap n=r:=by
 obtain ⟨rfl,h1,h2⟩:=h
 rw [IntKind.wrap_i64];omega
theorem q.bA {P:Program}{n:Nat}{we:World}{X:List Nat}{L:Fm}{B F:List ag}{x y:Operand}{xT yT ty:TypeId}{m l r:Int}(hx:ev L x=some (.int .i64 m))(hy:ev L y=some (.int .i64 l))(h:m+l=r /\ -9223372036854775808<=r/\r<=9223372036854775807:=by omega):Qt P n we X L B F (.binOp .add xT x y yT) ty (.int .i64 r):=q.add hx hy (wr h)
theorem q.lS {P:Program}{n:Nat}{we:World}{X:List Nat}{L:Fm}{B F:List ag}{x y:Operand}{xT yT ty:TypeId}{m l r:Int}(hx:ev L x=some (.int .i64 m))(hy:ev L y=some (.int .i64 l))(h:m-l=r /\ -9223372036854775808<=r/\r<=9223372036854775807:=by omega):Qt P n we X L B F (.binOp .sub xT x y yT) ty (.int .i64 r):=q.sub hx hy (wr h)
theorem q.uZ {P:Program}{n:Nat}{we:World}{X:List Nat}{L:Fm}{B F:List ag}{x y:Operand}{xT yT ty:TypeId}{m l r:Int}(hx:ev L x=some (.int .i64 m))(hy:ev L y=some (.int .i64 l))(h:m*l=r /\ -9223372036854775808<=r/\r<=9223372036854775807:=by omega):Qt P n we X L B F (.binOp .mul xT x y yT) ty (.int .i64 r):=q.mul hx hy (wr h)
theorem T1 {m l:Int}(h:0<=m):m.tmod l=m % l:=Int.tmod_eq_emod_of_nonneg h
theorem Sl.gW {α:Type}[Enc α]{w:World}{v:Value}{l:List α}(h:Sl w v l):l.length<=9223372036854775807:=by
 obtain ⟨A,c,_,h1,h2,_⟩:=h
 unfold maxLen at h2;omega
theorem cv {V V':Value}{P:Program}{f:FuncId}{args:Array Value}{w:World}(h:V=V')(hc:Calls P f args w fun e w'=>e = .returned V/\Ext w w'):Calls P f args w fun e w'=>e = .returned V'/\Ext w w':=h▸hc
theorem iJ {n:Int}(h:n=0):Value.nilIface=df n:=by subst h;rfl
theorem dj {n m:Int}(hm:m≠0)(h:n=m):Value.iface 93 (.int .i64 m)=df n:=by subst h;exact (vP hm).symm
theorem dy {a b a' b':Value}(h1:a=a')(h2:b=b'):Value.tuple #[a,b] = .tuple #[a',b']:=by rw [h1,h2]
theorem IW {a b c a' b' c':Value}(h1:a=a')(h2:b=b')(h3:c=c'):Value.tuple #[a,b,c] = .tuple #[a',b',c']:=by rw [h1,h2,h3]
theorem IX {a b c d a' b' c' d':Value}(h1:a=a')(h2:b=b')(h3:c=c')(h4:d=d'):Value.tuple #[a,b,c,d] = .tuple #[a',b',c',d']:=by rw [h1,h2,h3,h4]
section
variable {we w:World} {X:List Nat} {B F:List ag}
theorem Wd.ownRow {α:Type}[Enc α]{e:TypeId}{v:Value}{l l':List α}(i:Nat)(h:B[i]? = some (ag.row e v l))(hl:l=l')(hw:Wd we [] B F w):Own we.heap.size e w v l':=by
 subst hl
 have h1:Own 0 e w v l:=hw.b i h
 refine ⟨h1.1,?_⟩
 rcases h1.2 with h2|⟨g,cap,cur,rfl,hg,r⟩
 .exact .inl h2
 .
  refine .inr ⟨g,cap,cur,rfl,?_,r⟩
  have:=(hw.own g (bB.2 ⟨_,List.mem_of_getElem? h,by simp [ag.row,dW]⟩)).2
  rcases Nat.lt_or_ge g we.heap.size with h3|h3
  .cases this h3
  .exact h3
end
theorem Wd.tail {we w:World}{X:List Nat}{B F:List ag}{r:ag}(hw:Wd we X (r::B) F w):Wd we X B F w :=
 ⟨hw.upd,fun q hq=>hw.okB q (List.mem_cons_of_mem _ hq),hw.okF,(List.nodup_append.1 hw.sep).2.1,fun k hk=>hw.own k (List.mem_append.2 (.inr hk)),fun k hk=>⟨(hw.mb k hk).1,fun h=>(hw.mb k hk).2 (List.mem_append.2 (.inr h))⟩⟩
def kG (v:Value)(i:Nat):Value:=match v with | .slice A _ c => .slice A i c|_=>undef
theorem Sl.to {α:Type}[Enc α]{w:World}{v:Value}{l:List α}(h:Sl w v l){i:Nat}(hi:i<=l.length):Sl w (kG v i) (l.take i):=by
 obtain ⟨A,c,rfl,h1,h2,h3⟩:=h
 exact Sl.take (⟨A,c,rfl,h1,h2,h3⟩:Sl w (.slice A l.length c) l) hi
def dA (v:Value)(i k:Nat):Value:=match v with | .slice A n c => .slice (if c=i then A else A.map (·.add (i*k))) (n-i) (c-i)|_=>undef
theorem Sl.from {α:Type}[Enc α]{w:World}{v:Value}{l:List α}(h:Sl w v l){i:Nat}(hi:i<=l.length):Sl w (dA v i (Enc.k α)) (l.drop i):=by
 obtain ⟨A,c,rfl,h1,h2,h3⟩:=h
 refine ⟨if c=i then A else A.map (·.add (i*Enc.k α)),c-i,by simp only [dA,List.length_drop],by simp;omega,by omega,fun j x hx=>?_⟩
 rw [List.getElem?_drop] at hx
 obtain ⟨b,off,rfl,hb,hc⟩:=h3 (i+j) x hx
 have hlt:i+j<l.length:=(List.getElem?_eq_some_iff.1 hx).1
 refine ⟨b,off+i*Enc.k α,?_,hb,fun q u hu=>?_⟩
 .rw [if_neg (by omega)];simp [addr_add]
 .
  have:=hc q u hu
  rw [Nat.add_mul] at this
  rw [show off+i*Enc.k α+j*Enc.k α+q=off+(i*Enc.k α+j*Enc.k α)+q by omega];exact this
section
variable {P:Program} {n:Nat} {we:World} {X:List Nat} {Q:Exit->Act->World->Prop} {k k':List It} {L:Fm} {B F:List ag} {ops rest:List Oper}
variable {dst:Option Nat} {d:Nat} {op:Op} {ty:TypeId} {pos:String} {eh:Array Edge} {g:Option (Nat×Bool)} {g':Nat×Bool} {v:Value}
variable {x y:Operand} {xT yT e:TypeId} {kd:IntKind} {α:Type} [Enc α] {l:List α}
theorem R.row0 (e:TypeId)(h:Run P n we X Q k L (ag.row e (.slice none 0 0) ([]:List α)::B) F):Run P n we X Q k L B F :=
 fun a w ha hw=>h a w ha (hw.new (r:=ag.row e (.slice none 0 0) ([]:List α)) (Own.nil 0 e w) (by simp [ag.row,dW]) (by simp [ag.row,dW]))
theorem q.kG {m:Int}{i:Nat}(hs:∀w,Wd we X B F w->Sl w v l)(hx:ev L x=some v)(hy:ev L y=some (.int kd m))(ht:P.underlying xT=some (.slice e))(hz:((P.info? e).map (·.size)).isSome=true)(hm:m=(i:Int))(hi:i<=l.length) :
 Qt P n we X L B F (.slice xT x none (some y) none) ty (kG v i):=fun _ _ _ _ a w ha hw=>by
 obtain ⟨A,c,rfl,h1,h2,h3⟩:=hs w hw
 subst hm
 cases hq:P.info? e with
 | none=>simp [hq] at hz
 | some inf =>
  simp only [execOp,ha.ev hx,Option.map_some,Option.map_none,ha.ev hy,Instr.sliceAt,Sem.run_bind,run_underlying ht,Result.andThen_ok,Instr.slice,Instr.sliceBounds,Instr.sliceBound,asIntOf,Sem.run_pure]
  rw [if_pos ⟨by omega,by omega⟩]
  simp [sizeOf,typeInfo,hq,kG]
  cases A <;> simp [Addr.add_zero']
theorem LR {ms:Array (String×TypeId)}(ht:P.underlying xT=some (.interface ms)):P.underlying xT=some (.interface (P.methodsAt xT)):=by
 simp [Program.methodsAt,ht]
theorem q.ux {c:Value}{ms:Array (String×TypeId)}(hx:ev L x=some .nilIface)(hy:ev L (.const c)=some .nilIface)(ht:P.underlying xT=some (.interface ms)):Qt P n we X L B F (.binOp .neq xT x (.const c) yT) ty (.bool false):=fun _ _ _ _ a w ha hw=>by
 simp only [execOp,ha.ev hx,ha.ev hy,eqGuard_nil_constR,Sem.run_bind,Sem.run_pure,Result.andThen_ok,run_neq_nil_nil (P:=P) w xT (LR ht)]
theorem q.FR {c:Value}{ms:Array (String×TypeId)}(hx:ev L x=some .nilIface)(hy:ev L (.const c)=some .nilIface)(ht:P.underlying xT=some (.interface ms)):Qt P n we X L B F (.binOp .eql xT x (.const c) yT) ty (.bool true):=fun _ _ _ _ a w ha hw=>by
 simp only [execOp,ha.ev hx,ha.ev hy,eqGuard_nil_constR,Sem.run_bind,Sem.run_pure,Result.andThen_ok,run_eql_nil_nil (P:=P) w xT (LR ht)]
theorem q.NG {t:TypeId}{u:Value}{ms:Array (String×TypeId)}(hx:ev L x=some (.iface t u))(hy:ev L y=some .nilIface)(ht:P.underlying xT=some (.interface ms)):Qt P n we X L B F (.binOp .neq xT x y yT) ty (.bool true):=fun _ _ _ _ a w ha hw=>by
 simp only [execOp,ha.ev hx,ha.ev hy,eqGuard_at_iface,Sem.run_bind,Sem.run_pure,Result.andThen_ok,run_neq_held_nil (P:=P) w xT t u (LR ht)]
theorem q.Rj {t:TypeId}{u:Value}{ms:Array (String×TypeId)}(hx:ev L x=some (.iface t u))(hy:ev L y=some .nilIface)(ht:P.underlying xT=some (.interface ms)):Qt P n we X L B F (.binOp .eql xT x y yT) ty (.bool false):=fun _ _ _ _ a w ha hw=>by
 simp only [execOp,ha.ev hx,ha.ev hy,eqGuard_at_iface,Sem.run_bind,Sem.run_pure,Result.andThen_ok,run_eql_held_nil (P:=P) w xT t u (LR ht)]
theorem q.dx {c:Value}{m:Int}{ms:Array (String×TypeId)}(hx:ev L x=some (df m))(hy:ev L (.const c)=some .nilIface)(ht:P.underlying xT=some (.interface ms))(hm:m=0:=by omega):Qt P n we X L B F (.binOp .neq xT x (.const c) yT) ty (.bool false):=by subst hm;exact q.ux hx hy ht
theorem q.lP {c:Value}{m:Int}{ms:Array (String×TypeId)}(hx:ev L x=some (df m))(hy:ev L (.const c)=some .nilIface)(ht:P.underlying xT=some (.interface ms))(hm:m=0:=by omega):Qt P n we X L B F (.binOp .eql xT x (.const c) yT) ty (.bool true):=by subst hm;exact q.FR hx hy ht
theorem q.dX {m:Int}{ms:Array (String×TypeId)}(hx:ev L x=some (df m))(hy:ev L y=some .nilIface)(ht:P.underlying xT=some (.interface ms))(hm:¬ m=0:=by omega):Qt P n we X L B F (.binOp .neq xT x y yT) ty (.bool true):=by rw [vP hm] at hx;exact q.NG hx hy ht
theorem q.jx {m:Int}{ms:Array (String×TypeId)}(hx:ev L x=some (df m))(hy:ev L y=some .nilIface)(ht:P.underlying xT=some (.interface ms))(hm:¬ m=0:=by omega):Qt P n we X L B F (.binOp .eql xT x y yT) ty (.bool false):=by rw [vP hm] at hx;exact q.Rj hx hy ht
theorem nB (a b:ByteArray):(a.toList==b.toList)=decide (a=b):=by
 rw [Bool.eq_iff_iff]
 simp only [beq_iff_eq,decide_eq_true_eq,ByteArray.toList_eq]
 constructor
 .
  intro h
  cases a;cases b
  simp at h
  rw [h]
 .rintro rfl;rfl
theorem q.ru {a b:ByteArray}(hx:ev L x=some (.string a))(hy:ev L y=some (.string b))(h:a=b):Qt P n we X L B F (.binOp .eql xT x y yT) ty (.bool true):=fun _ _ _ _ q w ha hw=>by
 simp [execOp,ha.ev hx,ha.ev hy,eqGuard_at_string,binOp,Op.stringOp,nB,h]
theorem q.rx {a b:ByteArray}(hx:ev L x=some (.string a))(hy:ev L y=some (.string b))(h:¬ a=b):Qt P n we X L B F (.binOp .eql xT x y yT) ty (.bool false):=fun _ _ _ _ q w ha hw=>by
 simp [execOp,ha.ev hx,ha.ev hy,eqGuard_at_string,binOp,Op.stringOp,nB,h]
theorem q.uy {a b:ByteArray}(hx:ev L x=some (.string a))(hy:ev L y=some (.string b))(h:a=b):Qt P n we X L B F (.binOp .neq xT x y yT) ty (.bool false):=fun _ _ _ _ q w ha hw=>by
 simp [execOp,ha.ev hx,ha.ev hy,eqGuard_at_string,binOp,Op.stringOp,nB,h]
theorem q.yU {a b:ByteArray}(hx:ev L x=some (.string a))(hy:ev L y=some (.string b))(h:¬ a=b):Qt P n we X L B F (.binOp .neq xT x y yT) ty (.bool true):=fun _ _ _ _ q w ha hw=>by
 simp [execOp,ha.ev hx,ha.ev hy,eqGuard_at_string,binOp,Op.stringOp,nB,h]
def Rk {β:Type}[DecidableEq β](P:Program)(t:TypeId)(val:β->Value):Prop :=
  (∀x y w (a b:Operand),(eqGuard .eql t a b (val x) (val y)).run P w = .ok () w/\(eqGuard .neq t a b (val x) (val y)).run P w = .ok () w) /\ ∀x y w,(binOp .eql t (val x) (val y)).run P w = .ok (.bool (decide (x=y))) w/\(binOp .neq t (val x) (val y)).run P w = .ok (.bool (!decide (x=y))) w
section
variable {β:Type} [DecidableEq β] {val:β->Value} {p q:β} {a b:Operand}
theorem q.FT {x y:β}(he:Rk P xT val)(hx:ev L a=some (val x))(hy:ev L b=some (val y))(h:x=y):Qt P n we X L B F (.binOp .neq xT a b yT) ty (.bool false):=fun _ _ _ _ q w ha hw=>by
 simp only [execOp,ha.ev hx,ha.ev hy,Sem.run_bind,(he.1 x y w a b).2,Result.andThen_ok,(he.2 x y w).2,decide_eq_true h,Sem.run_pure,Bool.not_true]
theorem q.FU {x y:β}(he:Rk P xT val)(hx:ev L a=some (val x))(hy:ev L b=some (val y))(h:¬ x=y):Qt P n we X L B F (.binOp .neq xT a b yT) ty (.bool true):=fun _ _ _ _ q w ha hw=>by
 simp only [execOp,ha.ev hx,ha.ev hy,Sem.run_bind,(he.1 x y w a b).2,Result.andThen_ok,(he.2 x y w).2,decide_eq_false h,Sem.run_pure,Bool.not_false]
end
theorem R.OI (m:Nat){c:Code}(h:norm 200 k = .c (.loop c)::k')(hr:Run P n we X Q (.c c :: .back (Code.rounds P c (o8 P Q k') m)::k') L B F):Run P n we X Q k L B F:=by
 intro a w ha hw
 refine cR 200 (h ▸ ?_)
 refine wp_loop_rounds (m+1) ?_
 rw [rounds_succ]
 exact wp_mono (hr a w ha hw) (fun e a w q=>by cases e <;> exact q)
theorem R.again {m:Nat}{c:Code}{Q':Exit->Act->World->Prop}(hQ:Q'=o8 P Q k')(h:norm 200 k = .back (Code.rounds P c Q' (m+1))::k')(hr:Run P n we X Q (.c c :: .back (Code.rounds P c Q' m)::k') L B F):Run P n we X Q k L B F:=by
 intro a w ha hw
 refine cR 200 (h ▸ ?_)
 show Code.rounds P c Q' (m+1) a w
 rw [rounds_succ]
 subst hQ
 exact wp_mono (hr a w ha hw) (fun e a w q=>by cases e <;> exact q)
variable {m q':Int}
theorem q.and {r:Int}(hx:ev L x=some (.int kd m))(hy:ev L y=some (.int kd q'))(hr:bits .and kd m q'=r):Qt P n we X L B F (.binOp .and xT x y yT) ty (.int kd r):=fun _ _ _ _ a w ha hw=>by
 subst hr;simp [execOp,ha.ev hx,ha.ev hy,binOp,eqGuard,Op.intBits,bits]
theorem q.or {r:Int}(hx:ev L x=some (.int kd m))(hy:ev L y=some (.int kd q'))(hr:bits .or kd m q'=r):Qt P n we X L B F (.binOp .or xT x y yT) ty (.int kd r):=fun _ _ _ _ a w ha hw=>by
 subst hr;simp [execOp,ha.ev hx,ha.ev hy,binOp,eqGuard,Op.intBits,bits]
theorem q.rem {r:Int}(hx:ev L x=some (.int kd m))(hy:ev L y=some (.int kd q'))(h0:¬ q'=0)(hr:m.tmod q'=r):Qt P n we X L B F (.binOp .rem xT x y yT) ty (.int kd r):=fun _ _ _ _ a w ha hw=>by
 simp [execOp,ha.ev hx,ha.ev hy,binOp,eqGuard,Op.intDiv,h0,hr]
theorem q.shr {r:Int}{kd':IntKind}(hx:ev L x=some (.int kd m))(hy:ev L y=some (.int kd' q'))(h0:¬ q'<0)(hr:m.fdiv (2 ^ (min q'.toNat kd.bits))=r):Qt P n we X L B F (.binOp .shr xT x y yT) ty (.int kd r):=fun _ _ _ _ a w ha hw=>by
 simp [execOp,ha.ev hx,ha.ev hy,binOp,eqGuard,Op.shift,h0,hr]
theorem q.shl {r:Int}{kd':IntKind}(hx:ev L x=some (.int kd m))(hy:ev L y=some (.int kd' q'))(h0:¬ q'<0)(hr:kd.wrap (m*2 ^ (min q'.toNat kd.bits))=r):Qt P n we X L B F (.binOp .shl xT x y yT) ty (.int kd r):=fun _ _ _ _ a w ha hw=>by
 simp [execOp,ha.ev hx,ha.ev hy,binOp,eqGuard,Op.shift,h0,hr]
theorem q.nf {r:Int}{kd':IntKind}{dT:TypeId}(hx:ev L x=some (.int kd m))(hs:(P.underlying xT).isSome=true)(hd:P.underlying dT=some (.int kd'))(hr:kd'.wrap m=r):Qt P n we X L B F (.convert xT dT x) ty (.int kd' r):=fun _ _ _ _ a w ha hw=>by
 obtain ⟨dd,hdd⟩:=Option.isSome_iff_exists.mp hs
 simp [execOp,ha.ev hx,convert,run_underlying hdd,run_underlying hd,Conv.intToInt,hr]
def T2 (P:Program)(t:TypeId)(f:Nat):Option (Nat×Option Nat) :=
  match P.underlying t with
  | some (.struct fs)=>match fs[f]? with
    | some fl=>match P.info? fl.type,P.underlying fl.type with
      | some i,some (.struct _)=>some (fl.offset,some i.size)
      | some _,some (.array _ _)=>none
      | some _,some _=>some (fl.offset,none)
      | _,_=>none
    | none=>none
  | _=>none
theorem q.field {f off:Nat}{cs:List Value}{u:Value}(hx:ev L x=some (.agg cs.toArray))(ht:T2 P xT f=some (off,none))(hu:cs[off]? = some u):Qt P n we X L B F (.field xT x f) ty u:=fun _ _ _ _ a w ha hw=>by
 unfold T2 at ht
 split at ht
 .
  rename_i fs h1
  split at ht
  .
   rename_i fl h2
   split at ht
   .cases ht
   .cases ht
   .
    rename_i dd h3 h4 h5 h6
    injection ht with ht;injection ht with ht _
    have hagg:(isAgg fl.type).run P w = .ok false w:=by
     simp only [isAgg,Sem.run_bind,run_underlying h6,Result.andThen_ok]
     rfl
    subst ht
    simp [execOp,ha.ev hx,Instr.field,run_underlying h1,h2,asAgg,part,hagg,hu]
   .cases ht
  .cases ht
 .cases ht
def tB (P:Program)(t:TypeId):Option (List (Nat×Nat)×List Value) :=
  match P.info? t,P.underlying t with
  | some it,some (.struct fields)=>match it.zero,fields.toList.mapM (fun f=>(P.info? f.type).map fun i=>(f.offset,i.size)) with
    | some z,some places=>some (places,z.cells.toList)
    | _,_=>none
  | _,_=>none
def vV (places:List (Nat×Nat)):List Value->List (Nat×Value)->Option (List Value)
  | cells,[]=>some cells
  | cells,(i,v)::rest=>match places[i]? with
    | none=>none
    | some (off,size)=>bif Nat.beq v.cells.toList.length size&&Nat.ble (off+size) cells.length then vV places (cells.take off++v.cells.toList++cells.drop (off+size)) rest else none
theorem vW (places:List (Nat×Nat)):∀ (parts:List (Nat×Value)) (cells cs:List Value),vV places cells parts=some cs->Instr.fill (fun x=>places.toArray[x]?) cells.toArray parts=some cs.toArray
 | [],cells,cs,h=>by simp [vV] at h;subst h;rfl
 | (i,v)::rest,cells,cs,h=>by
  simp only [vV] at h
  simp only [Instr.fill,List.getElem?_toArray]
  cases hp:places[i]? with
  | none=>simp [hp] at h
  | some q =>
   obtain ⟨off,size⟩:=q
   simp only [hp] at h ⊢
   cases hb:(Nat.beq v.cells.toList.length size&&Nat.ble (off+size) cells.length) with
   | false=>simp only [hb,cond_false] at h;cases h
   | true =>
    simp only [hb,cond_true] at h
    simp only [Bool.and_eq_true] at hb
    have h1:v.cells.toList.length=size:=Nat.eq_of_beq_eq_true hb.1
    have h2:off+size<=cells.length:=Nat.le_of_ble_eq_true hb.2
    have h1':v.cells.size=size:=by simpa using h1
    rw [if_neg (by simp [h1'];omega)]
    have ih:=vW places rest _ cs h
    simp only [List.getElem?_toArray] at ih
    refine Eq.trans (congrArg (fun x=>Instr.fill _ x rest) ?_) ih
    rw [<- Array.foldl_toList,Array.toList_zipIdx]
    have:=foldl_set off v.cells.toList 0 cells.toArray (by simp [h1'];omega)
    simp only [Nat.add_zero] at this
    rw [h1] at this
    exact this
theorem q.build {t:TypeId}{parts:Array (Nat×Operand)}{places:List (Nat×Nat)}{zs vs cs:List Value}(ht:tB P t=some (places,zs))(hp:evs L (parts.toList.map (·.2))=some vs)(hf:vV places zs ((parts.toList.map (·.1)).zip vs)=some cs) :
 Qt P n we X L B F (.build t parts) ty (.agg cs.toArray):=fun _ _ _ _ a w ha hw=>by
 have hparts:(parts.map fun p=>(p.1,a.eval p.2)).toList=(parts.toList.map (·.1)).zip vs:=by
  rw [<- ha.evs hp]
  simp only [Array.toList_map,List.map_map]
  generalize parts.toList=ps
  induction ps with
  | nil=>rfl
  | cons q ps ih=>simp [ih]
 have hb:P.built t (parts.map fun p=>(p.1,a.eval p.2)).toList=some cs.toArray:=by
  rw [hparts]
  unfold tB at ht
  unfold Program.built
  split at ht
  .
   rename_i it fields h1 h2
   split at ht
   .
    rename_i z pl h3 h4
    injection ht with ht;injection ht with ha hb;subst ha;subst hb
    simp only [h1,h2,h3,h4]
    exact vW pl _ _ _ hf
   .cases ht
  .cases ht
 simp only [execOp,Sem.run_bind,run_build (P:=P) w t _ _ hb,Result.andThen_ok,Sem.run_pure]
theorem q.LM {fn:FuncId}{fs cs:Array Operand}{cap:List Value}(hf:fs = #[])(hc:evs L cs.toList=some cap):Qt P n we X L B F (.makeFunc (.func fn) fs cs) ty (.func (.func fn) #[] cap.toArray):=fun _ _ _ _ a w ha hw=>by
 subst hf
 have hm:cs.map a.eval=cap.toArray:=by rw [<- ha.evs hc,<- Array.toList_map]
 simp [execOp,Instr.makeFunc,hm]
def QS (tmps:Array Value):ResultVar->Sem Value
  | .tmp t=>pure (tmps.getD t undef)
  | .cell p t=>do loadVar t (<- asAddr (tmps.getD p undef))
theorem ly (fn:Func)(tmps:Array Value):results fn tmps=(do let vs <- fn.results.mapM (QS tmps);pure (if h:vs.size=1 then vs[0] else .tuple vs)):=by
 unfold results
 have:(fun x:ResultVar=>match x with | .tmp t=>(pure (tmps.getD t undef):Sem Value) | .cell a t=>do loadVar t (<- asAddr (tmps.getD a undef)))=QS tmps:=by
  funext x;cases x <;> rfl
 rw [<- this]
 rfl
def RV (P:Program)(n:Nat)(we:World)(X:List Nat)(L:Fm)(B F:List ag)(r:ResultVar)(v:Value):Prop :=
  ∀a w,Fr n L a->Wd we X B F w->(QS a.tmps r).run P w = .ok v w
theorem RV.tmp {t:Nat}{v:Value}(h:lk L t=some v):RV P n we X L B F (.tmp t) v:=fun a w ha hw=>by
 simp [QS,Array.getD_eq_getD_getElem?,ha.get _ _ h]
theorem RV.cell {p b:Nat}{t t':TypeId}{cs:List Value}(i:Nat)(hB:B[i]? = some (ag.box b cs t'))(h:lk L p=some (.pointer (some ⟨b,0,none⟩)))(ht:m8 P t=some cs.length):RV P n we X L B F (.cell p t) (.agg cs.toArray):=fun a w ha hw=>by
 have hl:=mN (P:=P) w ht (tC (hw.b i hB))
 have:a.tmps.getD p undef = .pointer (some ⟨b,0,none⟩):=by simp [Array.getD_eq_getD_getElem?,ha.get _ _ h]
 simp only [QS,this,asAddr,Sem.run_bind,Sem.run_pure,Result.andThen_ok]
 simpa [Instr.loadAt,Instr.sureAddr] using hl
theorem RV.cell1 {p b o:Nat}{t t':TypeId}{cs:List Value}{u:Value}(i:Nat)(hB:B[i]? = some (ag.box b cs t'))(h:lk L p=some (.pointer (some ⟨b,o,none⟩)))(ht:j9 P t=true)(hu:cs[o]? = some u):RV P n we X L B F (.cell p t) u:=fun a w ha hw=>by
 have hc:=tC (hw.b i hB) o u hu
 rw [Nat.zero_add] at hc
 have hl:=mO (P:=P) w ht hc
 have:a.tmps.getD p undef = .pointer (some ⟨b,o,none⟩):=by simp [Array.getD_eq_getD_getElem?,ha.get _ _ h]
 simp only [QS,this,asAddr,Sem.run_bind,Sem.run_pure,Result.andThen_ok]
 simpa [Instr.loadAt,Instr.sureAddr] using hl
section
variable {fn:Func} {R:Ending->World->Prop} {r1 r2 r3 r4:ResultVar} {v1 v2 v3 v4:Value}
theorem R.Rl (h:norm 200 k = .c .ret::k')(hr:fn.results = #[r1])(h1:RV P n we X L B F r1 v1)(hR:∀w,Wd we X B F w->R (.returned v1) w):Run P n we X (bodyPost P fn R) k L B F :=
 fun a w ha hw=>cR 200 (h▸wp_ret (ke (bodyPost_ret (by
  have e1:=h1 a w ha hw
  rw [ly,hr,show (#[r1]:Array ResultVar)=[r1].toArray from rfl]
  simp only [List.mapM_toArray,List.mapM_cons,List.mapM_nil,bind_assoc,pure_bind,Sem.run_bind,map_eq_pure_bind,e1,Result.andThen_ok]
  rfl) ha.defers (hR w hw))))
theorem R.NH (h:norm 200 k = .c .ret::k')(hr:fn.results = #[r1,r2])(h1:RV P n we X L B F r1 v1)(h2:RV P n we X L B F r2 v2)(hR:∀w,Wd we X B F w->R (.returned (.tuple #[v1,v2])) w):Run P n we X (bodyPost P fn R) k L B F :=
 fun a w ha hw=>cR 200 (h▸wp_ret (ke (bodyPost_ret (by
  have e1:=h1 a w ha hw
  have e2:=h2 a w ha hw
  rw [ly,hr,show (#[r1,r2]:Array ResultVar)=[r1,r2].toArray from rfl]
  simp only [List.mapM_toArray,List.mapM_cons,List.mapM_nil,bind_assoc,pure_bind,Sem.run_bind,map_eq_pure_bind,e1,e2,Result.andThen_ok]
  rfl) ha.defers (hR w hw))))
theorem R.NI (h:norm 200 k = .c .ret::k')(hr:fn.results = #[r1,r2,r3])(h1:RV P n we X L B F r1 v1)(h2:RV P n we X L B F r2 v2)(h3:RV P n we X L B F r3 v3)(hR:∀w,Wd we X B F w->R (.returned (.tuple #[v1,v2,v3])) w):Run P n we X (bodyPost P fn R) k L B F :=
 fun a w ha hw=>cR 200 (h▸wp_ret (ke (bodyPost_ret (by
  have e1:=h1 a w ha hw
  have e2:=h2 a w ha hw
  have e3:=h3 a w ha hw
  rw [ly,hr,show (#[r1,r2,r3]:Array ResultVar)=[r1,r2,r3].toArray from rfl]
  simp only [List.mapM_toArray,List.mapM_cons,List.mapM_nil,bind_assoc,pure_bind,Sem.run_bind,map_eq_pure_bind,e1,e2,e3,Result.andThen_ok]
  rfl) ha.defers (hR w hw))))
theorem R.Rm (h:norm 200 k = .c .ret::k')(hr:fn.results = #[r1,r2,r3,r4])(h1:RV P n we X L B F r1 v1)(h2:RV P n we X L B F r2 v2)(h3:RV P n we X L B F r3 v3)(h4:RV P n we X L B F r4 v4)(hR:∀w,Wd we X B F w->R (.returned (.tuple #[v1,v2,v3,v4])) w):Run P n we X (bodyPost P fn R) k L B F :=
 fun a w ha hw=>cR 200 (h▸wp_ret (ke (bodyPost_ret (by
  have e1:=h1 a w ha hw
  have e2:=h2 a w ha hw
  have e3:=h3 a w ha hw
  have e4:=h4 a w ha hw
  rw [ly,hr,show (#[r1,r2,r3,r4]:Array ResultVar)=[r1,r2,r3,r4].toArray from rfl]
  simp only [List.mapM_toArray,List.mapM_cons,List.mapM_nil,bind_assoc,pure_bind,Sem.run_bind,map_eq_pure_bind,e1,e2,e3,e4,Result.andThen_ok]
  rfl) ha.defers (hR w hw))))
end
theorem R.nC {r:ag}(hr:r.ok we)(hlt:∀k∈r.blk,k<we.heap.size)(h:Run P n we [] Q k L B (r::F)):Run P n we [] Q k L B F:=fun a w ha hw =>
 h a w ha (hw.fact (r.loc we w (fun k hk=>hw.upd.block k (hlt k hk) (by simp)) hr) fun k hk=>⟨Nat.lt_of_lt_of_le (hlt k hk) hw.upd.size,fun hb=>by cases (hw.own k hb).2 (hlt k hk)⟩)
theorem jQ {w:World}{b:Nat}{cs:List Value}{t:TypeId}(h:(ag.box b cs t).ok w):∀k∈(ag.box b cs t).blk,k<w.heap.size:=fun k hk=>by
 simp [ag.box] at hk;subst hk
 exact (Array.getElem?_eq_some_iff.1 h).1
theorem sG {w W:World}{b:Nat}{cs:List Value}{t:TypeId}(h:(ag.box b cs t).ok w)(e:Ext w W):(ag.box b cs t).ok W :=
 (ag.box b cs t).loc w W (fun k hk=>e.heap (jQ h k hk)) h
theorem q.yu {b o:Nat}{cs:List Value}{t:TypeId}{u:Value}(i:Nat)(hB:F[i]? = some (ag.box b cs t))(hx:ev L x=some (.pointer (some ⟨b,o,none⟩)))(ht:j9 P xT=true)(hu:cs[o]? = some u):Qt P n we X L B F (.load xT x) ty u:=fun _ _ _ _ a w ha hw=>by
 have h:=tC (hw.f i hB) o u hu
 rw [Nat.zero_add] at h
 simp [execOp,ha.ev hx,mO (P:=P) w ht h]
def auto (ops:List Oper)(n:Nat):Nat->List Oper->Fm->Option (List Oper×Fm)
  | 0,rest,L=>some (rest,L)
  | m+1,rest,L=>match rest with
    | []=>none
    | o::rest=>match o.dst with
      | none=>none
      | some d=>match Nat.blt d n with
        | false=>none
        | true=>match gd ops L o.guard with
          | none=>none
          | some false=>auto ops n m rest ((d,undef)::L)
          | some true=>match o.op with
            | .move x=>match ev L x with
              | some v=>auto ops n m rest ((d,v)::L)
              | none=>none
            | .assign x=>match ev L x with
              | some v=>auto ops n m rest ((d,v)::L)
              | none=>none
            | .pick c x y=>match ev L c with
              | some (.bool true)=>match ev L x with
                | some v=>auto ops n m rest ((d,v)::L)
                | none=>none
              | some (.bool false)=>match ev L y with
                | some v=>auto ops n m rest ((d,v)::L)
                | none=>none
              | _=>none
            | .unOp .not _ x=>match ev L x with
              | some (.bool true)=>auto ops n m rest ((d,.bool false)::L)
              | some (.bool false)=>auto ops n m rest ((d,.bool true)::L)
              | _=>none
            | .extract x i=>match ev L x with
              | some (.tuple vs)=>match vs[i]? with
                | some v=>auto ops n m rest ((d,v)::L)
                | none=>none
              | _=>none
            | _=>none
def pH (ops:List Oper)(L:Fm)(o:Oper):Option Value :=
  match gd ops L o.guard with
  | none=>none
  | some false=>some undef
  | some true=>match o.op with
    | .move x=>ev L x
    | .assign x=>ev L x
    | .pick c x y=>match ev L c with
      | some (.bool true)=>ev L x
      | some (.bool false)=>ev L y
      | _=>none
    | .unOp .not _ x=>match ev L x with
      | some (.bool b)=>some (.bool !b)
      | _=>none
    | .extract x i=>match ev L x with
      | some (.tuple vs)=>vs[i]?
      | _=>none
    | _=>none
theorem yV {ops:List Oper}{n m:Nat}{o:Oper}{rest:List Oper}{L:Fm}{r:List Oper×Fm}(h:auto ops n (m+1) (o::rest) L=some r) :
 ∃d v,o.dst=some d/\Nat.blt d n=true/\pH ops L o=some v/\auto ops n m rest ((d,v)::L)=some r:=by
 simp only [auto] at h
 cases hd:o.dst with
 | none=>simp [hd] at h
 | some d =>
  simp only [hd] at h
  cases hb:Nat.blt d n with
  | false=>simp [hb] at h
  | true =>
   simp only [hb] at h
   cases hg:gd ops L o.guard with
   | none=>simp [hg] at h
   | some b =>
    cases b with
    | false=>simp only [hg] at h;exact ⟨d,undef,rfl,hb,by simp [pH,hg],h⟩
    | true =>
     simp only [hg] at h
     cases ho:o.op <;> simp only [ho] at h <;> try (cases h;done)
     case move x=>split at h;exact ⟨d,_,rfl,hb,by simp only [pH,hg,ho];assumption,h⟩;cases h
     case assign x=>split at h;exact ⟨d,_,rfl,hb,by simp only [pH,hg,ho];assumption,h⟩;cases h
     case pick c x y =>
      split at h
      .
       rename_i hc
       split at h
       .exact ⟨d,_,rfl,hb,by simp only [pH,hg,ho,hc];assumption,h⟩
       .cases h
      .
       rename_i hc
       split at h
       .exact ⟨d,_,rfl,hb,by simp only [pH,hg,ho,hc];assumption,h⟩
       .cases h
      .cases h
     case unOp u t x =>
      cases u <;> simp only [] at h <;> try (cases h;done)
      split at h
      .rename_i hc;exact ⟨d,_,rfl,hb,by simp only [pH,hg,ho,hc];rfl,h⟩
      .rename_i hc;exact ⟨d,_,rfl,hb,by simp only [pH,hg,ho,hc];rfl,h⟩
      .cases h
     case extract x i =>
      split at h
      .
       rename_i vs hc
       split at h
       .exact ⟨d,_,rfl,hb,by simp only [pH,hg,ho,hc];assumption,h⟩
       .cases h
      .cases h
theorem yW {ops:List Oper}{L:Fm}{o:Oper}{v:Value}(h:pH ops L o=some v){a:Act}(ha:Fr n L a) :
 (gd ops L o.guard=some false/\v=undef)∨(gd ops L o.guard=some true /\ ∀w,(execOp a.eval o).run P w = .ok (.value v) w):=by
 unfold pH at h
 split at h
 .cases h
 .rename_i hg;injection h with h;exact .inl ⟨hg,h.symm⟩
 .
  rename_i hg
  refine .inr ⟨hg,fun w=>?_⟩
  split at h
  .rename_i x ho;simp [execOp,ho,ha.ev h]
  .rename_i x ho;simp [execOp,ho,ha.ev h]
  .
   rename_i c x y ho
   split at h
   .rename_i hc;simp [execOp,ho,ha.ev hc,ha.ev h,asBool]
   .rename_i hc;simp [execOp,ho,ha.ev hc,ha.ev h,asBool]
   .cases h
  .
   rename_i t x ho
   split at h
   .rename_i b hc;injection h with h;subst h;simp [execOp,ho,ha.ev hc,Op.unary]
   .cases h
  .
   rename_i x i ho
   split at h
   .rename_i vs hc;simp [execOp,ho,ha.ev hc,Instr.extract,h]
   .cases h
  .cases h
theorem R.u:∀ (m:Nat) {rest rest':List Oper} {L L':Fm},auto ops n m rest L=some (rest',L')->Rg P n we X Q ops rest' k L' B F->Rg P n we X Q ops rest k L B F
 | 0,rest,rest',L,L',h,hr=>by simp [auto] at h;obtain ⟨rfl,rfl⟩:=h;exact hr
 | m+1,[],rest',L,L',h,hr=>by simp [auto] at h
 | m+1,o::rest,rest',L,L',h,hr=>by
  obtain ⟨d,v,hd,hb,h1,h2⟩:=yV h
  have ih:=R.u m h2 hr
  intro a w ha hw
  refine wpList_step fun K hK=>?_
  rcases yW (P:=P) h1 ha with ⟨hg,rfl⟩ | ⟨hg,hrun⟩
  .
   rw [if_neg (by rw [dV ha hg];simp),hd]
   exact hK _ _ (ih _ w (ha.put d undef hb) hw)
  .
   rw [if_pos (dV ha hg)]
   unfold Oper.wp
   rw [hrun w,Oper.upon_value,hd]
   exact hK _ _ (ih _ w (ha.put d v hb) hw)
theorem Q.u:∀ (m:Nat) {rest rest':List Oper} {L L':Fm},auto ops n m rest L=some (rest',L')->Rq P n we X Q ops rest' k L' B F->Rq P n we X Q ops rest k L B F
 | 0,rest,rest',L,L',h,hr=>by simp [auto] at h;obtain ⟨rfl,rfl⟩:=h;exact hr
 | m+1,[],rest',L,L',h,hr=>by simp [auto] at h
 | m+1,o::rest,rest',L,L',h,hr=>by
  obtain ⟨d,v,hd,hb,h1,h2⟩:=yV h
  have ih:=Q.u m h2 hr
  intro a ha
  refine wpQuiet_step fun K hK=>?_
  rcases yW (P:=P) h1 ha with ⟨hg,rfl⟩ | ⟨hg,hrun⟩
  .
   rw [if_neg (by rw [dV ha hg];simp),hd]
   exact hK _ (ih _ (ha.put d undef hb))
  .
   rw [if_pos (dV ha hg)]
   refine ⟨v,fun w hw=>?_,by rw [hd];exact hK _ (ih _ (ha.put d v hb))⟩
   unfold Oper.quietAt
   rw [hrun w];exact ⟨rfl,rfl⟩
section
variable {fn:Func} {V V' TJ V3:Value}
theorem rI {a b:Int}(h:a=b):Value.int .i64 a = .int .i64 b:=by rw [h]
theorem rB {a b:Bool}(h:a=b):Value.bool a = .bool b:=by rw [h]
theorem rS {a b:ByteArray}(h:a=b):Value.string a = .string b:=by rw [h]
theorem rE {a b:Int}(h:a=b):df a=df b:=by rw [h]
theorem R.rv {t:Nat}{v:Value}(h:norm 200 k = .c .ret::k')(hr:fn.results = #[.tmp t])(hv:lk L t=some v)(e:v=V):Run P n we [] (bodyPost P fn fun en w'=>en = .returned V/\Ext we w') k L B F :=
 R.Rf h hr hv fun w hw=>⟨by rw [e],hw.ext⟩
theorem R.FV {t u:Nat}{v v':Value}(h:norm 200 k = .c .ret::k')(hr:fn.results = #[.tmp t,.tmp u])(hv:lk L t=some v)(hv':lk L u=some v')(e:v=V)(e':v'=V'):Run P n we [] (bodyPost P fn fun en w'=>en = .returned (.tuple #[V,V'])/\Ext we w') k L B F :=
 R.TU h hr hv hv' fun w hw=>⟨by rw [e,e'],hw.ext⟩
theorem R.QT {t u x:Nat}{v v' v'':Value}(h:norm 200 k = .c .ret::k')(hr:fn.results = #[.tmp t,.tmp u,.tmp x])(hv:lk L t=some v)(hv':lk L u=some v')(OG:lk L x=some v'')(e:v=V)(e':v'=V')(e'':v''=TJ):Run P n we [] (bodyPost P fn fun en w'=>en = .returned (.tuple #[V,V',TJ])/\Ext we w') k L B F :=
 R.TV h hr hv hv' OG fun w hw=>⟨by rw [e,e',e''],hw.ext⟩
theorem R.Cc {r1 r2:ResultVar}{v v':Value}(h:norm 200 k = .c .ret::k')(hr:fn.results = #[r1,r2])(h1:RV P n we [] L B F r1 v)(h2:RV P n we [] L B F r2 v')(e:v=V)(e':v'=V'):Run P n we [] (bodyPost P fn fun en w'=>en = .returned (.tuple #[V,V'])/\Ext we w') k L B F :=
 R.NH h hr h1 h2 fun w hw=>⟨by rw [e,e'],hw.ext⟩
theorem R.Rn {r1 r2 r3:ResultVar}{v v' v'':Value}(h:norm 200 k = .c .ret::k')(hr:fn.results = #[r1,r2,r3])(h1:RV P n we [] L B F r1 v)(h2:RV P n we [] L B F r2 v')(h3:RV P n we [] L B F r3 v'')(e:v=V)(e':v'=V')(e'':v''=TJ):Run P n we [] (bodyPost P fn fun en w'=>en = .returned (.tuple #[V,V',TJ])/\Ext we w') k L B F :=
 R.NI h hr h1 h2 h3 fun w hw=>⟨by rw [e,e',e''],hw.ext⟩
theorem R.ro {α:Type}[Enc α]{e:TypeId}{t:Nat}{v:Value}{l l':List α}(i:Nat)(h:norm 200 k = .c .ret::k')(hr:fn.results = #[.tmp t])(hv:lk L t=some v)(hB:B[i]? = some (ag.row e v l))(hl:l=l'):Run P n we [] (bodyPost P fn fun en w' => ∃u,en = .returned u/\Own we.heap.size e w' u l'/\Ext we w') k L B F :=
 R.Rf h hr hv fun w hw=>⟨v,rfl,hw.ownRow i hB hl,hw.ext⟩
end
def Cu {ι:Type}(n:Nat)(we:World)(X:List Nat)(LI:ι->Fm)(BI FI:ι->List ag)(PI:ι->Prop)(a:Act)(w:World):Prop:= ∃i,PI i/\Fr n (LI i) a/\Wd we X (BI i) (FI i) w
theorem fL {I:Act->World->Prop}{R:List It}(hI:∀a w,I a w->o8 P Q R .normal a w):∀ (A:List It) (e:Exit) (a:Act) (w:World),o8 P Q (A ++ .back I::R) e a w->o8 P Q (A++R) e a w
 | [],e,a,w,h=>by
  cases e with
  | normal=>exact hI a w h
  | _=>exact h
 | .c x::A,e,a,w,h=>by
  cases e with
  | normal=>exact wp_mono h (fL hI A)
  | exit id=>exact fL hI A (.exit id) a w h
  | goto id=>exact fL hI A (.goto id) a w h
  | ret=>exact fL hI A .ret a w h
  | panic c=>exact fL hI A (.panic c) a w h
  | outgrown=>exact fL hI A .outgrown a w h
 | .b id::A,e,a,w,h=>by
  cases e with
  | normal=>exact fL hI A .normal a w h
  | exit id' =>
   simp only [List.cons_append,o8] at h ⊢
   cases hb:Nat.beq id' id with
   | true=>rw [hb] at h;exact fL hI A .normal a w h
   | false=>rw [hb] at h;exact fL hI A (.exit id') a w h
  | goto id=>exact fL hI A (.goto id) a w h
  | ret=>exact fL hI A .ret a w h
  | panic c=>exact fL hI A (.panic c) a w h
  | outgrown=>exact fL hI A .outgrown a w h
 | .back J::A,e,a,w,h=>by
  cases e with
  | normal=>exact h
  | exit id=>exact fL hI A (.exit id) a w h
  | goto id=>exact fL hI A (.goto id) a w h
  | ret=>exact fL hI A .ret a w h
  | panic c=>exact fL hI A (.panic c) a w h
  | outgrown=>exact fL hI A .outgrown a w h
theorem R.cut {ι:Type}(m:Nat)(LI:ι->Fm)(BI FI:ι->List ag)(PI:ι->Prop){k1 A R:List It}(hk:norm 200 k=k1)(hA:k1.take m=A)(hR:k1.drop m=R)(h1:Run P n we X Q (A ++ .back (Cu n we X LI BI FI PI)::R) L B F)
 (h2:∀i,PI i->Run P n we X Q R (LI i) (BI i) (FI i)):Run P n we X Q k L B F:=fun a w ha hw=>by
 refine cR 200 (hk ▸ ?_)
 have:k1=A++R:=by rw [<- hA,<- hR,List.take_append_drop]
 rw [this]
 exact fL (fun a w ⟨i,hP,ha,hw⟩=>h2 i hP a w ha hw) A _ a w (h1 a w ha hw)
theorem R.meet {ι:Type}{LI:ι->Fm}{BI FI:ι->List ag}{PI:ι->Prop}(i:ι)(h:norm 200 k = .back (Cu n we X LI BI FI PI)::k')(hP:PI i)(hL:Ah (LI i) L)(hB:∀w,Wd we X B F w->Wd we X (BI i) (FI i) w):Run P n we X Q k L B F :=
 fun a w ha hw=>cR 200 (by rw [h];exact ⟨i,hP,ha.sub hL,hB w hw⟩)
end
end
section
open Go Go.RowKit
def Cn (P:Program)(t:TypeId):Bool :=
  match P.underlying t with
  | some (.map k e)=>match P.underlying k,gi P e with
    | some (.int .i64),some (.bool false)=>true
    | _,_=>false
  | _=>false
theorem FW {P:Program}{t:TypeId}(h:Cn P t=true):∃k e,P.underlying t=some (.map k e)/\P.underlying k=some (.int .i64)/\gi P e=some (.bool false):=by
 unfold Cn at h
 split at h
 .
  rename_i k e h1
  split at h
  .rename_i h2 h3;exact ⟨k,e,h1,h2,h3⟩
  .cases h
 .cases h
def Ro (es:List MapEntry)(S:List Int):Prop:=(∀e∈es,∃x∈S,e.key = .int .i64 x/\e.val = .bool true) /\ ∀x∈S,∃e∈es,e.key = .int .i64 x
theorem pI (x:Int):∀ (es:List MapEntry) (i:Nat),(∀e∈es,∃y,e.key = .int .i64 y/\e.val = .bool true) ->
 ((∃e∈es,e.key = .int .i64 x) /\ ∃j,i<=j/\Instr.findNow (.int .i64) (.int .i64 x) es i=some (some (j,.bool true))/\(es[j-i]?).map (·.key)=some (.int .i64 x)) ∨
 ((¬ ∃e∈es,e.key = .int .i64 x)/\Instr.findNow (.int .i64) (.int .i64 x) es i=some none)
 | [],i,h => .inr ⟨by simp,rfl⟩
 | e::es,i,h=>by
  obtain ⟨y,hy,hv⟩:=h e (by simp)
  by_cases hxy:x=y
  .
   subst hxy
   refine .inl ⟨⟨e,by simp,hy⟩,i,Nat.le_refl _,?_,by simp [hy]⟩
   simp [Instr.findNow,Instr.sameNow,hy,hv]
  .
   have hne:(x==y)=false:=by simpa using hxy
   rcases pI x es (i+1) (fun e he=>h e (by simp [he])) with ⟨⟨e',he',hk⟩,j,hj,hf,hg⟩ | ⟨hn,hf⟩
   .
    refine .inl ⟨⟨e',by simp [he'],hk⟩,j,by omega,?_,?_⟩
    .simp [Instr.findNow,Instr.sameNow,hy,hne,hf]
    .
     have:j-i=(j-(i+1))+1:=by omega
     rw [this];simpa using hg
   .
    refine .inr ⟨?_,by simp [Instr.findNow,Instr.sameNow,hy,hne,hf]⟩
    rintro ⟨e',he',hk⟩
    rcases List.mem_cons.1 he' with rfl|he'
    .rw [hy] at hk;injection hk with _ hk;exact hxy hk.symm
    .exact hn ⟨e',he',hk⟩
def ag.om (b:Nat)(S:List Int):ag:=⟨[b],fun w => ∃es c,w.heap[b]? = some (.map es c)/\Ro es.toList S,fun w w' h=>fun ⟨es,c,h1,h2⟩=>⟨es,c,(h b (by simp)).trans h1,h2⟩⟩
section
variable {P:Program} {n:Nat} {we:World} {X:List Nat} {Q:Exit->Act->World->Prop} {k k':List It} {L:Fm} {B F:List ag} {ops rest:List Oper}
variable {dst:Option Nat} {d:Nat} {ty:TypeId} {pos:String} {eh:Array Edge} {g:Option (Nat×Bool)} {v:Value}
variable {x y m:Operand} {t:TypeId}
theorem Ai (em:Bool){kt:TypeId}{z:Int}(w:World)(h:P.underlying kt=some (.int .i64)):(Instr.checkKey em 10000 kt (.int .i64 z)).run P w = .ok () w:=MapKept.run_checkKey h (by simp [MapKept.IsKey]) em 9999
theorem LS {z:Int}(w:World):(Instr.keyThatStays (.int .i64 z) (.int .i64 z)).run P w = .ok (.int .i64 z) w:=MapKept.run_keyThatStays (d:= .int .i64) (by simp [MapKept.IsKey])
theorem q.look {b:Nat}{S:List Int}{z:Int}(i:Nat)(hB:B[i]? = some (ag.om b S))(hm:ev L m=some (.map (some b)))(hy:ev L y=some (.int .i64 z))(ht:Cn P t=true):Qt P n we X L B F (.lookup t m y false) ty (.bool (decide (z∈S))):=fun _ _ _ _ a w ha hw=>by
 obtain ⟨es,c,h1,h2,h3⟩:=hw.b i hB
 obtain ⟨kt,e,hu,hk,hz⟩:=FW ht
 have hf:∀e∈es.toList,∃y,e.key = .int .i64 y/\e.val = .bool true:=fun e he=>by obtain ⟨x,_,h⟩:=h2 e he;exact ⟨x,h⟩
 simp only [execOp,ha.ev hm,ha.ev hy,Instr.lookup,Sem.run_bind,run_underlying hu,Result.andThen_ok,MapKept.run_getObj_map h1,Sem.run_pure,Ai _ w hk,Instr.findKey,run_underlying hk]
 rcases pI z es.toList 0 hf with ⟨⟨e',he',hk'⟩,j,_,hf,_⟩ | ⟨hn,hf⟩
 .
  have hS:z∈S:=by obtain ⟨x,hx,hkx,_⟩:=h2 e' he';rw [hk'] at hkx;injection hkx with _ hkx;rw [hkx];exact hx
  rw [hf];simp [hS]
 .
  have hS:¬ z∈S:=fun hz=>hn (h3 z hz)
  rw [hf];simp [hS,nz (P:=P) w hz]
theorem q.NJ {b:Nat}{S:List Int}{z:Int}{r:Bool}(i:Nat)(hB:B[i]? = some (ag.om b S))(hm:ev L m=some (.map (some b)))(hy:ev L y=some (.int .i64 z))(ht:Cn P t=true)(hr:decide (z∈S)=r):Qt P n we X L B F (.lookup t m y false) ty (.bool r):=hr▸q.look i hB hm hy ht
theorem s.mk (hd:Nat.blt d n=true):Stp P n we X L B F ⟨some d,.makeMap t none,ty,pos,eh,g⟩ (fun b:Nat=>(d,.map (some b))::L) (fun b=>ag.om b []::B) (fun _=>F):=by
 intro K Q' a w ha hw hK
 unfold Oper.wp
 have hrun:(execOp a.eval ⟨some d,.makeMap t none,ty,pos,eh,g⟩).run P w = .ok (.value (.map (some w.heap.size))) (w.alloc (.map #[] 0)):=by
  simp only [execOp,Sem.run_bind,Instr.makeMap,newObj,Option.map_none];rfl
 rw [hrun,Oper.upon_value]
 exact hK _ _ _ (ha.put d _ hd) (hw.alloc (r:=ag.om w.heap.size []) ⟨#[],0,heap_alloc_new w _,by simp [Ro]⟩ rfl)
theorem Co (w:World)(b:Nat)(o:Obj):lR [b] w { w with heap:=w.heap.setIfInBounds b o }:=⟨rfl,rfl,rfl,by simp,fun k hk hn=>by
 have:b≠k:=fun e=>hn (by simp [e])
 simp [Array.getElem?_setIfInBounds,this]⟩
theorem FX {b:Nat}{S:List Int}{z:Int}{w:World}(ht:Cn P t=true)(h:(ag.om b S).ok w):∃w',(Instr.mapUpdate t (.map (some b)) (.int .i64 z) (.bool true)).run P w = .ok () w'/\lR [b] w w'/\(ag.om b (z::S)).ok w':=by
 obtain ⟨es,c,h1,h2,h3⟩:=h
 obtain ⟨kt,e,hu,hk,hz⟩:=FW ht
 have hlt:b<w.heap.size:=(Array.getElem?_eq_some_iff.1 h1).1
 have hf:∀e∈es.toList,∃y,e.key = .int .i64 y/\e.val = .bool true:=fun e he=>by obtain ⟨x,_,h⟩:=h2 e he;exact ⟨x,h⟩
 rcases pI z es.toList 0 hf with ⟨⟨e',he',hk'⟩,j,_,hf,hj⟩ | ⟨hn,hf⟩
 .
  have hj':(es[j]?).map (·.key)=some (.int .i64 z):=by simpa using hj
  refine ⟨_,?_,Co w b (.map (es.modify j fun e=>{ e with key:= .int .i64 z,val:= .bool true }) c),⟨_,_,(MapKept.heap_set h1).1,?_⟩⟩
  .simp only [Instr.mapUpdate,Sem.run_bind,run_underlying hu,Result.andThen_ok,MapKept.run_getObj_map h1,Ai _ w hk,Instr.findKey,run_underlying hk,hf,Sem.run_pure,hj',Option.getD_some,LS w,MapKept.run_setObj_map _ h1]
  .
   have hS:z∈S:=by obtain ⟨x,hx,hkx,_⟩:=h2 e' he';rw [hk'] at hkx;injection hkx with _ hkx;rw [hkx];exact hx
   have hg:∀e∈(es.modify j fun e=>{ e with key:= .int .i64 z,val:= .bool true }).toList,∃x∈z::S,e.key = .int .i64 x/\e.val = .bool true:=by
    intro e he
    obtain ⟨i,hi⟩:=List.mem_iff_getElem?.1 he
    simp only [Array.toList_modify,List.getElem?_modify] at hi
    cases hes:es.toList[i]? with
    | none=>rw [hes] at hi;simp at hi
    | some e0 =>
     rw [hes] at hi
     simp at hi
     split at hi
     .subst hi;exact ⟨z,by simp,rfl,rfl⟩
     .
      subst hi
      obtain ⟨x,hx,h⟩:=h2 e0 (List.mem_of_getElem? hes)
      exact ⟨x,by simp [hx],h⟩
   refine ⟨hg,fun x hx=>?_⟩
   have hx':x∈S:=by rcases List.mem_cons.1 hx with rfl|h;exact hS;exact h
   obtain ⟨e0,he0,hke⟩:=h3 x hx'
   obtain ⟨i,hi⟩:=List.mem_iff_getElem?.1 he0
   by_cases hij:j=i
   .
    subst hij
    have hxz:x=z:=by
     have:es[j]? = some e0:=by simpa using hi
     rw [this] at hj';simp at hj';rw [hke] at hj';injection hj'
    refine ⟨{ e0 with key:= .int .i64 z,val:= .bool true },List.mem_of_getElem? (i:=j) ?_,by rw [hxz]⟩
    simp only [Array.toList_modify,List.getElem?_modify,hi];simp
   .
    refine ⟨e0,List.mem_of_getElem? (i:=i) ?_,hke⟩
    simp only [Array.toList_modify,List.getElem?_modify,hi];simp [hij]
 .
  refine ⟨_,?_,Co w b (.map (es.push { key:= .int .i64 z,val:= .bool true,born:=c }) (c+1)),⟨_,_,(MapKept.heap_set h1).1,?_⟩⟩
  .simp only [Instr.mapUpdate,Sem.run_bind,run_underlying hu,Result.andThen_ok,MapKept.run_getObj_map h1,Ai _ w hk,Instr.findKey,run_underlying hk,hf,Sem.run_pure,MapKept.run_setObj_map _ h1]
  .
   constructor
   .
    intro e he
    simp at he
    rcases he with he|rfl
    .obtain ⟨x,hx,h⟩:=h2 e (by simpa using he);exact ⟨x,by simp [hx],h⟩
    .exact ⟨z,by simp,rfl,rfl⟩
   .
    intro x hx
    rcases List.mem_cons.1 hx with rfl|hx
    .exact ⟨{ key:= .int .i64 x,val:= .bool true,born:=c },by simp,rfl⟩
    .
     obtain ⟨e0,he0,hke⟩:=h3 x hx
     exact ⟨e0,by simp at he0 ⊢;exact .inl he0,hke⟩
theorem s.Vq {b:Nat}{S:List Int}{z:Int}(i:Nat)(B':List ag)(hB:B[i]? = some (ag.om b S))(hm:ev L m=some (.map (some b)))(hx:ev L x=some (.int .i64 z))(hy:ev L y=some (.bool true))(ht:Cn P t=true)(hB':B.set i (ag.om b (z::S))=B') :
 Stp P n we X L B F ⟨none,.mapUpdate t m x y,ty,pos,eh,g⟩ (fun _:Unit=>L) (fun _=>B') (fun _=>F):=by
 intro K Q' a w ha hw hK
 obtain ⟨w',hr,hu,hk⟩:=FX (P:=P) (z:=z) ht (hw.b i hB)
 unfold Oper.wp
 have hrun:(execOp a.eval ⟨none,.mapUpdate t m x y,ty,pos,eh,g⟩).run P w = .ok .skip w':=by
  simp [execOp,ha.ev hm,ha.ev hx,ha.ev hy,hr]
 rw [hrun,Oper.upon_skip]
 subst hB'
 refine hK () _ _ (by simpa [Act.put] using ha) (hw.turn hB hu hk (by simp [ag.om]) (fun k hk=>?_))
 simp [ag.om] at hk;subst hk
 exact ⟨Nat.lt_of_lt_of_le (hw.own _ (bB.2 ⟨_,List.mem_of_getElem? hB,by simp [ag.om]⟩)).1 hu.size,.inl (by simp [ag.om])⟩
theorem s.T3 {b:Nat}{S:List Int}{z:Int}(i:Nat)(B':List ag)(hB:B[i]? = some (ag.om b S))(hm:ev L m=some (.map (some b)))(hx:ev L x=some (.int .i64 z))(hy:ev L y=some (.bool true))(ht:Cn P t=true)(hB':B.set i (ag.om b (z::S))=B') :
 Stp P n we X L B F ⟨none,.insert t m x y,ty,pos,eh,g⟩ (fun _:Unit=>L) (fun _=>B') (fun _=>F):=by
 intro K Q' a w ha hw hK
 obtain ⟨w',hr,hu,hk⟩:=FX (P:=P) (z:=z) ht (hw.b i hB)
 unfold Oper.wp
 have hrun:(execOp a.eval ⟨none,.insert t m x y,ty,pos,eh,g⟩).run P w = .ok .skip w':=by
  simp [execOp,ha.ev hm,ha.ev hx,ha.ev hy,hr]
 rw [hrun,Oper.upon_skip]
 subst hB'
 refine hK () _ _ (by simpa [Act.put] using ha) (hw.turn hB hu hk (by simp [ag.om]) (fun k hk=>?_))
 simp [ag.om] at hk;subst hk
 exact ⟨Nat.lt_of_lt_of_le (hw.own _ (bB.2 ⟨_,List.mem_of_getElem? hB,by simp [ag.om]⟩)).1 hu.size,.inl (by simp [ag.om])⟩
end
end
section
open Go Go.RowKit
def ic:List Nat->Bool
  | []=>true
  | i::is => !(is.elem i)&&ic is
theorem G5 {B:List ag}{i:Nat}{r:ag}(hi:B[i]? = some r)(h:(blks B).Nodup):r.blk.Nodup:=by
 induction B generalizing i with
 | nil=>simp at hi
 | cons q B ih =>
  obtain ⟨h1,h2,_⟩:=List.nodup_append.1 h
  cases i with
  | zero=>simp at hi;subst hi;exact h1
  | succ i=>exact ih (by simpa using hi) h2
theorem vX {B B':List ag}{i:Nat}{is:List Nat}(h:cZ B (i::is)=some B'):∃r B'',B[i]? = some r/\cZ B is=some B''/\B'=r::B'':=by
 simp only [cZ] at h
 split at h
 .
  rename_i r B'' h1 h2
  injection h with h
  exact ⟨r,B'',h1,h2,h.symm⟩
 .cases h
theorem sH {B:List ag}:∀ {is:List Nat} {B':List ag},cZ B is=some B' -> ∀r∈B',∃i∈is,B[i]? = some r
 | [],B',h,r,hr=>by simp [cZ] at h;subst h;simp at hr
 | i::is,B',h,r,hr=>by
  obtain ⟨r0,B'',h1,h2,rfl⟩:=vX h
  rcases List.mem_cons.1 hr with rfl|hr
  .exact ⟨i,by simp,h1⟩
  .obtain ⟨j,hj,hq⟩:=sH h2 r hr;exact ⟨j,by simp [hj],hq⟩
theorem pJ {B:List ag}(hn:(blks B).Nodup):∀ {is:List Nat} {B':List ag},cZ B is=some B'->ic is=true->(blks B').Nodup
 | [],B',h,_=>by simp [cZ] at h;subst h;simp [blks]
 | i::is,B',h,ha=>by
  obtain ⟨r,B'',h1,h2,rfl⟩:=vX h
  simp only [ic,Bool.and_eq_true,Bool.not_eq_true'] at ha
  refine List.nodup_append.2 ⟨G5 h1 hn,pJ hn h2 ha.2,fun a ha' b hb e=>?_⟩
  subst e
  obtain ⟨q,hq,hqk⟩:=bB.1 hb
  obtain ⟨j,hj,hjq⟩:=sH h2 q hq
  refine iR h1 hjq (fun e=>?_) hn a ha' hqk
  subst e
  have:=ha.1;rw [List.elem_eq_contains] at this;simp at this;exact this hj
theorem Wd.fB {we w:World}{X:List Nat}{B F B' F':List ag}(is js:List Nat)(hi:cZ B is=some B')(hj:cZ F js=some F')(ha:ic is=true)(hw:Wd we X B F w):Wd we X B' F' w:=by
 have hm:∀r∈B',r∈B:=fun r hr=>by obtain ⟨i,_,h⟩:=sH hi r hr;exact List.mem_of_getElem? h
 have hF:=nA hj
 have hb:∀k∈blks B',k∈blks B:=fun k hk=>by obtain ⟨r,hr,hk⟩:=bB.1 hk;exact bB.2 ⟨r,hm r hr,hk⟩
 exact ⟨hw.upd,fun r h=>hw.okB r (hm r h),fun r h=>hw.okF r (hF r h),pJ hw.sep hi ha,fun k hk=>hw.own k (hb k hk),fun k hk=>by
  obtain ⟨r,hr,hk⟩:=bB.1 hk
  have:=hw.mb k (bB.2 ⟨r,hF r hr,hk⟩)
  exact ⟨this.1,fun h=>this.2 (hb k h)⟩⟩
theorem kF{we:World}{X:List Nat}{B F B' F':List ag}(is js:List Nat)(hi:cZ B is=some B')(hj:cZ F js=some F')(ha:ic is=true):∀w,Wd we X B F w->Wd we X B' F' w:=fun _=>Wd.fB is js hi hj ha
theorem Wd.pk {we w:World}{X:List Nat}{B F B' F':List ag}(is js:List Nat)(h:(cZ B is,cZ F js,ic is)=(some B',some F',true))(hw:Wd we X B F w):Wd we X B' F' w:=by
 injection h with h1 h2;injection h2 with h2 h3;exact hw.fB is js h1 h2 h3
theorem aA{we:World}{X:List Nat}{B F B' F':List ag}(is js:List Nat)(h:(cZ B is,cZ F js,ic is)=(some B',some F',true)):∀w,Wd we X B F w->Wd we X B' F' w:=fun _=>Wd.pk is js h
theorem Wd.LU {we w:World}{X:List Nat}{B F B':List ag}(is:List Nat)(hi:cZ B is=some B')(ha:ic is=true)(hw:Wd we X B F w):Wd we X B' F w:=by
 have hm:∀r∈B',r∈B:=fun r hr=>by obtain ⟨i,_,h⟩:=sH hi r hr;exact List.mem_of_getElem? h
 have hb:∀k∈blks B',k∈blks B:=fun k hk=>by obtain ⟨r,hr,hk⟩:=bB.1 hk;exact bB.2 ⟨r,hm r hr,hk⟩
 exact ⟨hw.upd,fun r h=>hw.okB r (hm r h),hw.okF,pJ hw.sep hi ha,fun k hk=>hw.own k (hb k hk),fun k hk=>⟨(hw.mb k hk).1,fun h=>(hw.mb k hk).2 (hb k h)⟩⟩
structure Hnd (B0:List ag)(w:World):Prop where
  ok:∀r∈B0,r.ok w
  sep:(blks B0).Nodup
  lt:∀k∈blks B0,k<w.heap.size
structure Turned (B0 B1:List ag)(w w':World):Prop where
  upd:lR (blks B0) w w'
  ok:∀r∈B1,r.ok w'
  sep:(blks B1).Nodup
  own:∀k∈blks B1,k<w'.heap.size/\(k∈blks B0∨w.heap.size<=k)
def ag.all (B:List ag):ag:=⟨blks B,fun w => ∀r∈B,r.ok w,fun w w' h ho r hr=>r.loc w w' (fun k hk=>h k (bB.2 ⟨r,hr,hk⟩)) (ho r hr)⟩
theorem Wd.gather {we w:World}{X:List Nat}{B0 Br F:List ag}(hw:Wd we X (B0++Br) F w):Wd we X (ag.all B0::Br) F w:=by
 have e:blks (ag.all B0::Br)=blks (B0++Br):=by rw [aW];rfl
 exact ⟨hw.upd,fun r hr=>(List.mem_cons.1 hr).elim (fun h=>h▸fun q hq=>hw.okB q (List.mem_append.2 (.inl hq))) fun h=>hw.okB r (List.mem_append.2 (.inr h)),hw.okF,e▸hw.sep,e▸hw.own,e▸hw.mb⟩
theorem Wd.LV {we w:World}{X:List Nat}{B0 Br F:List ag}(hw:Wd we X (ag.all B0::Br) F w):Wd we X (B0++Br) F w:=by
 have e:blks (ag.all B0::Br)=blks (B0++Br):=by rw [aW];rfl
 exact ⟨hw.upd,fun r hr=>(List.mem_append.1 hr).elim (fun h=>hw.okB (ag.all B0) (List.mem_cons_self ..) r h) fun h=>hw.okB r (List.mem_cons_of_mem _ h),hw.okF,e▸hw.sep,e▸hw.own,e▸hw.mb⟩
theorem Wd.turned {we w w':World}{X:List Nat}{B0 B1 Br F:List ag}(hw:Wd we X (B0++Br) F w)(h:Turned B0 B1 w w'):Wd we X (B1++Br) F w' :=
 (hw.gather.turn (i:=0) (r:=ag.all B0) (r':=ag.all B1) rfl h.upd h.ok h.sep h.own).LV
theorem Wd.held {we w:World}{X:List Nat}{B0 Br F:List ag}(hw:Wd we X (B0++Br) F w):Hnd B0 w :=
 ⟨fun r hr=>hw.okB r (List.mem_append.2 (.inl hr)),by have:=hw.sep;rw [aW] at this;exact (List.nodup_append.1 this).1,fun k hk=>(hw.own k (by rw [aW];exact List.mem_append.2 (.inl hk))).1⟩
theorem Wd.left {w w':World}{B0 B1 F:List ag}(hw:Wd w (blks B0) B1 F w'):Turned B0 B1 w w' :=
 ⟨hw.upd,hw.okB,hw.sep,fun k hk=>⟨(hw.own k hk).1,by
  by_cases h:k<w.heap.size
  .exact .inl ((hw.own k hk).2 h)
  .exact .inr (by omega)⟩⟩
theorem Hnd.start {B0:List ag}{w:World}(h:Hnd B0 w):Wd w (blks B0) B0 [] w :=
 ⟨lR.refl _ _,h.ok,by simp,h.sep,fun k hk=>⟨h.lt k hk,fun _=>hk⟩,by simp [blks]⟩
def ag.ls {α:Type}[Enc α](v:Value)(l:List α):ag:=⟨if l.isEmpty then [] else dW v,fun w=>Sl w v l,fun w w' h hs=>by
  cases l with
  | nil =>
    obtain ⟨A,c,rfl,h1,h2,h3⟩:=hs
    exact ⟨A,c,rfl,h1,h2,fun i x hx=>by simp at hx⟩
  | cons y l=>exact IU (by simpa using h) hs⟩
theorem Wd.bO {we w:World}{X:List Nat}{B F:List ag}{α:Type}[Enc α]{v:Value}{l:List α}(i:Nat)(h:F[i]? = some (ag.ls v l))(hw:Wd we X B F w):Sl w v l:=hw.f i h
theorem dh{we:World}{X:List Nat}{B F:List ag}{α:Type}[Enc α]{v:Value}{l:List α}(i:Nat)(h:F[i]? =some (ag.ls v l)):∀w,Wd we X B F w->Sl w v l:=fun _=>Wd.bO i h
theorem NK {w:World}{α:Type}[Enc α]{v:Value}{l:List α}(h:Sl w v l):∀k∈(ag.ls v l).blk,k<w.heap.size:=fun k hk=>by
 cases l with
 | nil=>simp [ag.ls] at hk
 | cons y l =>
  obtain ⟨A,c,rfl,h1,h2,h3⟩:=h
  obtain ⟨b,off,rfl,hb,_⟩:=h3 0 y rfl
  simp [ag.ls,dW] at hk;subst hk;exact hb
section
variable {P:Program} {n:Nat} {we:World} {X:List Nat} {Q:Exit->Act->World->Prop} {k k':List It} {L:Fm} {B F:List ag} {ops rest:List Oper}
variable {dst:Option Nat} {d:Nat} {ty:TypeId} {pos:String} {eh:Array Edge} {g:Option (Nat×Bool)} {v:Value}
variable {x y:Operand} {xT yT t e:TypeId} {α:Type} [Enc α] {l:List α}
theorem s.IY {β:Type}{f:FuncId}{c:Operand}{xs:Array Operand}{ts:Array TypeId}{vs:List Value}{cap:Array Value}{B0 Br:List ag}(is:List Nat)(G:β->Value)(B1:β->List ag)(hp:cZ B is=some (B0++Br))(ha':ic is=true)
 (eg:∀args w,(callFunc f args).run P w = .ok (.enter f args) w) (hargs:evs L xs.toList=some vs) (hc:ev L c=some (.func (.func f) #[] cap))
 (hcall:∀w,Wd we X B F w->Hnd B0 w->Calls P f (vs++cap.toList).toArray w fun e w' => ∃z,e = .returned (G z)/\Turned B0 (B1 z) w w') (hd:Nat.blt d n=true) :
 Stp P n we X L B F ⟨some d,.call { callee:= .value c,args:=xs,argTypes:=ts },ty,pos,eh,g⟩ (fun z=>(d,G z)::L) (fun z=>B1 z++Br) (fun _=>F):=by
 intro K Q' a w ha hw hK
 have hw2:=hw.LU is hp ha'
 unfold Oper.wp
 rw [pG ha hargs hc eg,Oper.upon_enter]
 refine (hcall w hw hw2.held).mono fun e w' he=>?_
 obtain ⟨z,rfl,ht⟩:=he
 exact hK z _ _ (ha.put d _ hd) (hw2.turned ht)
theorem q.bR {a:Addr}(hx:ev L x=some (.pointer (some a))):Qt P n we X L B F (.nilCheck x) ty (.pointer (some a)):=fun _ _ _ _ q w ha hw=>by
 simp [execOp,ha.ev hx]
theorem q.max {kd:IntKind}{a b r:Int}{ts:Array TypeId}(hx:ev L x=some (.int kd a))(hy:ev L y=some (.int kd b))(hr:max a b=r):Qt P n we X L B F (.call { callee:= .builtin .max,args:= #[x,y],argTypes:=ts }) ty (.int kd r):=fun _ _ _ _ q w ha hw=>by
 have e:(if b>a then b else a)=r:=by rw [<- hr];split <;> omega
 simp [execOp,resolve,invoke,builtin,ha.ev hx,ha.ev hy,Builtin.max_,Builtin.max2,e]
theorem q.cat {a b:ByteArray}(hx:ev L x=some (.string a))(hy:ev L y=some (.string b))(h:a.size+b.size<=9223372036854775807):Qt P n we X L B F (.binOp .add xT x y yT) ty (.string (a++b)):=fun _ _ _ _ q w ha hw=>by
 have:¬ ((a.size+b.size:Nat):Int)>IntKind.i64.max:=by
  have:IntKind.i64.max=9223372036854775807:=by decide
  omega
 simp only [execOp,ha.ev hx,ha.ev hy,binOp,Op.stringOp]
 rw [if_neg this]
 simp [eqGuard]
instance:Enc UInt8:=⟨1,fun b=>[.int .u8 (b.toNat:Int)],fun _=>rfl,fun _ u hu=>by simp at hu;subst hu;rfl,by decide⟩
theorem q.kf {l:List UInt8}(hs:∀w,Wd we X B F w->Sl w v l)(hx:ev L x=some v)(h1:o9 P xT=some (e,1))(h2:P.underlying e=some (.int .u8))(h3:P.underlying yT=some .string):Qt P n we X L B F (.convert xT yT x) ty (.string ⟨l.toArray⟩):=fun _ _ _ _ q w ha hw=>by
 obtain ⟨A,c,rfl,hl,hm,hc⟩:=hs w hw
 obtain ⟨hu,_⟩:=eR (P:=P) w h1
 cases l with
 | nil =>
  have:(convert xT yT (.slice A 0 c)).run P w = .ok (.string ⟨#[]⟩) w:=by
   cases A with
   | none=>rw [run_convert_bytes_string w xT yT e none 0 c hu h2 h3];rfl
   | some A=>exact run_convert_bytes_back (P:=P) w xT yT e A c [] hu h2 h3 (by simp)
  have hx':ev L x=some (.slice A 0 c):=hx
  simp only [execOp,ha.ev hx',Sem.run_bind,this,Result.andThen_ok,Sem.run_pure]
 | cons b l =>
  obtain ⟨bk,off,rfl,hb,_⟩:=hc 0 b rfl
  have:=run_convert_bytes_back (P:=P) w xT yT e ⟨bk,off,none⟩ c (b::l) hu h2 h3 (fun j hj=>by
   obtain ⟨b',off',hA,_,hcc⟩:=hc j (b::l)[j] (List.getElem?_eq_getElem hj)
   injection hA with hA;injection hA with hb1 ho1;subst hb1;subst ho1
   have:=hcc 0 _ (show (Enc.cells (b::l)[j])[0]? = some (.int .u8 ((b::l)[j].toNat:Int)) from rfl)
   rw [addr_add]
   simpa [Enc.k] using this)
  simp only [execOp,ha.ev hx,Sem.run_bind,this,Result.andThen_ok,Sem.run_pure]
theorem yX:∀m,(List.replicate m (0:UInt8)).flatMap Enc.cells=List.replicate m (Value.int .u8 0)
 | 0=>rfl
 | m+1=>by rw [List.replicate_succ,List.flatMap_cons,yX m];rfl
theorem s.T4 {m:Nat}{i0:TypeInfo}{kd:IntKind}{y:Operand}(ht:o9 P t=some (e,1))(hi:P.info? e=some i0)(hz:i0.zero=some (.int .u8 0))(hb:i0.bytes=1)(hx:ev L x=some (.int kd (m:Int)))(hy:ev L y=some (.int kd (m:Int)))(hm:m<=10000000)(hd:Nat.blt d n=true) :
 Stp P n we X L B F ⟨some d,.makeSlice t x y,ty,pos,eh,g⟩ (fun b:Nat=>(d,.slice (some ⟨b,0,none⟩) m m)::L) (fun b=>ag.row e (.slice (some ⟨b,0,none⟩) m m) (List.replicate m (0:UInt8))::B) (fun _=>F):=by
 intro K Q' a w ha hw hK
 obtain ⟨hu,hsz⟩:=eR (P:=P) w ht
 have hsize:i0.size=1:=by
  unfold o9 at ht;rw [hu] at ht;simp [hi] at ht;exact ht
 have hml:m<=maxLen:=by simp [maxLen];omega
 obtain ⟨w',hr,how,hg⟩:=run_makeSlice_full (P:=P) w 0 t e i0 (.int .u8 0) 1 hu hi hz hsize kd kd m (by omega) (by rw [hb];omega) hml (Nat.zero_le _)
 have hrun:(execOp a.eval ⟨some d,.makeSlice t x y,ty,pos,eh,g⟩).run P w = .ok (.value (.slice (some ⟨w.heap.size,0,none⟩) m m)) w':=by
  simp [execOp,ha.ev hx,ha.ev hy,hr]
 unfold Oper.wp
 rw [hrun,Oper.upon_value]
 have hcells:(madeCells (Value.cells (.int .u8 0)) (m*1)).toList=(List.replicate m (0:UInt8)).flatMap Enc.cells:=by
  have h1:=yX m
  rw [h1]
  simp only [madeCells,Nat.mul_one]
  refine List.ext_getElem (by simp) (fun i h1 h2=>?_)
  simp [Value.cells,Nat.mod_one]
 rw [hcells] at how
 have hup:lR [] w w':=⟨hg.os,hg.tape,hg.output,hg.size,fun k hk _=>hg.block k hk (by simp)⟩
 have hlt:w.heap.size<w'.heap.size:=by
  rcases how.2 with ⟨h,_⟩ | ⟨gb,cap,cur,h,_,hgg,_⟩
  .simp at h
  .injection h with h _ _;injection h with h;injection h with h1;rw [h1];exact (Array.getElem?_eq_some_iff.1 hgg).1
 refine hK _ _ _ (ha.put d _ hd) ((hw.grow hup).new (r:=ag.row e (.slice (some ⟨w.heap.size,0,none⟩) m m) (List.replicate m (0:UInt8))) ?_ (by simp [ag.row,dW]) (fun k hk=>?_))
 .
  show Own 0 e w' _ _
  unfold Own;rw [List.length_replicate];exact how
 .
  simp [ag.row,dW] at hk;subst hk
  exact ⟨hlt,hw.upd.size,fun h=>by have:=(hw.own _ h).1;omega,fun h=>by have:=(hw.mb _ h).1;omega⟩
theorem sI (cs us:List Value)(o m:Nat)(h:o+us.length<=m)(hm:m<=cs.length):(cs.take o++us++cs.drop (o+us.length)).take m=(cs.take m).take o++us++(cs.take m).drop (o+us.length):=by
 rw [List.take_take,Nat.min_eq_left (by omega),List.append_assoc,List.append_assoc,List.take_append,List.take_append,List.length_take,Nat.min_eq_left (by omega),List.take_of_length_le (l:=cs.take o) (by simp;omega),List.take_of_length_le (l:=us) (by omega),List.drop_take]
 congr 3;omega
theorem vY:∀ (l:List α) (j:Nat) (z:α),j<l.length->(l.set j z).flatMap Enc.cells=(l.flatMap Enc.cells).take (j*Enc.k α)++Enc.cells z++(l.flatMap Enc.cells).drop (j*Enc.k α+Enc.k α)
 | [],j,z,h=>by simp at h
 | y::l,0,z,h=>by
  have:=Enc.len y
  simp only [List.set_cons_zero,List.flatMap_cons,Nat.zero_mul,List.take_zero,List.nil_append,Nat.zero_add]
  rw [List.drop_append_of_le_length (by omega),List.drop_of_length_le (by omega)];simp
 | y::l,j+1,z,h=>by
  have hy:=Enc.len y
  have ih:=vY l j z (by simpa using h)
  simp only [List.set_cons_succ,List.flatMap_cons,ih]
  have e1:(j+1)*Enc.k α=Enc.k α+j*Enc.k α:=by rw [Nat.add_mul];omega
  rw [e1,<- hy,List.take_length_add_append]
  have e2:(Enc.cells y).length+j*(Enc.cells y).length+(Enc.cells y).length=(Enc.cells y).length+(j*(Enc.cells y).length+(Enc.cells y).length):=by omega
  rw [e2,List.drop_length_add_append];simp [List.append_assoc]
theorem s.OJ {j:Nat}{z z':α}{u:Value}{us:List Value}(i:Nat)(B':List ag)(hB:B[i]? = some (ag.row e v l))(hj:l[j]? = some z')(hx:ev L x=some (ep v j (Enc.k α) 0))(hy:ev L y=some u)(hu:u.cells=us.toArray)(Rp:us=Enc.cells z)
 (ht:(m8 P xT=some us.length∨j9 P xT=true/\us.length=1)) (hB':B.set i (ag.row e v (l.set j z))=B') :
 Stp P n we X L B F ⟨none,.store xT x y,ty,pos,eh,g⟩ (fun _:Unit=>L) (fun _=>B') (fun _=>F):=by
 intro K Q' a w ha hw hK
 have hjl:j<l.length:=(List.getElem?_eq_some_iff.1 hj).1
 have how:Own 0 e w v l:=hw.b i hB
 obtain ⟨hlen,hn|⟨gb,cap,cur,rfl,_,hgg,hnc,hcm,hcs,htk⟩⟩:=how
 .omega
 have hk:us.length=Enc.k α:=by rw [Rp,Enc.len]
 have hjk:j*Enc.k α+us.length<=l.length*Enc.k α:=by
  rw [hk];have:(j+1)*Enc.k α<=l.length*Enc.k α:=Nat.mul_le_mul_right _ hjl
  rw [Nat.add_mul] at this;omega
 have hlc:l.length*Enc.k α<=cap*Enc.k α:=Nat.mul_le_mul_right _ hnc
 have hsz:(sizeOf xT).run P w = .ok us.length w:=by
  rcases ht with h|⟨h,h'⟩
  .exact (vu (P:=P) w h).2
  .rw [h'];exact (vv (P:=P) w h).2
 have hst:=run_storeCells_at P gb (j*Enc.k α) e us 0 cur w hgg (by omega) (fun v hv=>Enc.one z v (Rp▸hv))
 have hrun:(execOp a.eval ⟨none,.store xT x y,ty,pos,eh,g⟩).run P w = .ok .skip (w.setRow gb (cur.toList.take (j*Enc.k α)++us++cur.toList.drop (j*Enc.k α+us.length)).toArray):=by
  simp only [execOp,ha.ev hx,ha.ev hy,ep,Instr.storeAt,Instr.sureAddr,storeVar,hu,Sem.run_bind,Sem.run_pure,Result.andThen_ok,hsz]
  simp only [List.size_toArray,ne_eq,not_true_eq_false,if_false,Nat.add_zero,Nat.zero_add] at hst ⊢
  simp only [hst,Result.andThen_ok]
 unfold Oper.wp
 rw [hrun,Oper.upon_skip]
 subst hB'
 refine hK () _ _ (by simpa [Act.put] using ha) (hw.turn hB (od w gb _) ?_ (by simp [ag.row,dW]) (fun k hk'=>?_))
 .
  have hfl:(l.set j z).flatMap Enc.cells=(l.flatMap Enc.cells).take (j*Enc.k α)++us++(l.flatMap Enc.cells).drop (j*Enc.k α+us.length):=by
   rw [Rp,Enc.len];exact vY l j z hjl
  refine ⟨by rw [di],.inr ⟨gb,cap,_,by simp,Nat.zero_le _,setRow_heap w gb _ _ e _ hgg,by simpa using hnc,hcm,?_,?_⟩⟩
  .simp;omega
  .
   rw [hfl]
   have h1:(l.flatMap Enc.cells).length=l.length*Enc.k α:=di l
   rw [<- htk]
   simp only [List.length_set]
   exact sI _ _ _ _ (by omega) (by simp;omega)
 .
  simp [ag.row,dW] at hk';subst hk'
  exact ⟨by simp [World.setRow];exact (Array.getElem?_eq_some_iff.1 hgg).1,.inl (by simp [ag.row,dW])⟩
theorem s.copy {u:Value}{l2:List α}{A:TypeId}(i:Nat)(B':List ag)(hB:B[i]? = some (ag.row e v l))(hs:∀w,Wd we X B F w->Sl w u l2)(hx:ev L x=some v)(hy:ev L y=some u)(hk:Enc.k α=1)(ht:o9 P t=some (e,1))(hlen:l.length=l2.length)(hB':B.set i (ag.row e v l2)=B')(hd:Nat.blt d n=true) :
 Stp P n we X L B F ⟨some d,.call { callee:= .builtin .copy,args:= #[x,y],argTypes:= #[t,A] },ty,pos,eh,g⟩ (fun _:Unit=>(d,.int .i64 l2.length)::L) (fun _=>B') (fun _=>F):=by
 intro K Q' a w ha hw hK
 obtain ⟨hu,hsz⟩:=eR (P:=P) w ht
 have hsize:(P.info? e).map (·.size)=some 1:=by
  unfold o9 at ht;rw [hu] at ht
  cases hi:P.info? e with
  | none=>simp [hi] at ht
  | some i0=>simp [hi] at ht;simp [ht]
 have how:Own 0 e w v l:=hw.b i hB
 obtain ⟨hl0,hn|⟨gb,cap,cur,rfl,_,hgg,hnc,hcm,hcs,htk⟩⟩:=how
 .
  obtain ⟨rfl,hl⟩:=hn
  have hl':l=[]:=List.eq_nil_of_length_eq_zero hl
  subst hl'
  have hl2:l2=[]:=List.eq_nil_of_length_eq_zero (by simpa using hlen.symm)
  subst hl2
  obtain ⟨A2,c,rfl,h1,h2,h3⟩:=hs w hw
  have hcp:=run_copy_none (P:=P) w t A ty e none A2 0 0 0 c hu hsize (by simp)
  have hrun:(execOp a.eval ⟨some d,.call { callee:= .builtin .copy,args:= #[x,y],argTypes:= #[t,A] },ty,pos,eh,g⟩).run P w = .ok (.value (.int .i64 0)) w:=by
   have hy':ev L y=some (.slice A2 0 c):=hy
   simp [execOp,resolve,invoke,builtin,ha.ev hx,ha.ev hy',hcp,goInt]
  unfold Oper.wp
  rw [hrun,Oper.upon_value]
  refine hK () _ _ (ha.put d _ hd) ?_
  have:B.set i (ag.row e (.slice none 0 0) ([]:List α))=B:=List.ext_getElem? fun j=>by
   rw [List.getElem?_set];split
   .rename_i hij;subst hij;rw [hB];simp;exact (List.getElem?_eq_some_iff.1 hB).1
   .rfl
  rw [<- hB',this];exact hw
 .
  have h2:=hs w hw
  obtain ⟨A2,c,rfl,h21,h22,h23⟩:=h2
  have hfl:(l2.flatMap Enc.cells).length=l2.length:=by rw [di,hk,Nat.mul_one]
  by_cases he:l2=[]
  .
   subst he
   have hl':l=[]:=List.eq_nil_of_length_eq_zero (by simpa using hlen)
   subst hl'
   have hcp:=run_copy_none (P:=P) w t A ty e (some ⟨gb,0,none⟩) A2 0 cap 0 c hu hsize (by simp)
   have hrun:(execOp a.eval ⟨some d,.call { callee:= .builtin .copy,args:= #[x,y],argTypes:= #[t,A] },ty,pos,eh,g⟩).run P w = .ok (.value (.int .i64 0)) w:=by
    have hy':ev L y=some (.slice A2 0 c):=hy
    have hx':ev L x=some (.slice (some ⟨gb,0,none⟩) 0 cap):=hx
    simp [execOp,resolve,invoke,builtin,ha.ev hx',ha.ev hy',hcp,goInt]
   unfold Oper.wp
   rw [hrun,Oper.upon_value]
   refine hK () _ _ (ha.put d _ hd) ?_
   have:B.set i (ag.row e (.slice (some ⟨gb,0,none⟩) ([]:List α).length cap) ([]:List α))=B:=List.ext_getElem? fun j=>by
    rw [List.getElem?_set];split
    .rename_i hij;subst hij;rw [hB];simp;exact (List.getElem?_eq_some_iff.1 hB).1
    .rfl
   rw [<- hB',this];exact hw
  .
   obtain ⟨y0,hy0⟩:∃y0,l2[0]? = some y0:=⟨_,List.getElem?_eq_getElem (by cases l2;exact absurd rfl he;simp)⟩
   obtain ⟨b2,off,rfl,hb2,_⟩:=h23 0 y0 hy0
   have hsrc:∀j u,(l2.flatMap Enc.cells)[j]? = some u->w.cell? ((⟨b2,off,none⟩:Addr).add j)=some u:=fun j u hj=>by
    obtain ⟨i',z,q,hi',hq,rfl⟩:=me l2 j u hj
    obtain ⟨b',o',hA,_,hc⟩:=h23 i' z hi'
    injection hA with hA;injection hA with hA1 hA2;subst hA1;subst hA2
    rw [addr_add,<- Nat.add_assoc];exact hc q u hq
   have hcap:cur.size=cap:=by rw [hcs,hk,Nat.mul_one]
   have hcp:=run_copy_row (P:=P) w t A ty e gb 0 l.length cap ⟨b2,off,none⟩ l2.length c cur e (l2.flatMap Enc.cells) hu hsize hgg (by rw [hfl,hlen];exact (Nat.min_self _).symm) hsrc (by rw [hfl];omega) (lx l2)
   have hrun:(execOp a.eval ⟨some d,.call { callee:= .builtin .copy,args:= #[x,y],argTypes:= #[t,A] },ty,pos,eh,g⟩).run P w = .ok (.value (.int .i64 l2.length)) (w.setRow gb (cur.toList.take 0++l2.flatMap Enc.cells++cur.toList.drop (0+(l2.flatMap Enc.cells).length)).toArray):=by
    simp only [execOp,Sem.run_bind,resolve,invoke,builtin,ha.ev hx,ha.ev hy,Sem.run_pure,Result.andThen_ok,List.map_toArray,List.map_cons,List.map_nil]
    rw [hcp];simp [goInt,hfl]
   unfold Oper.wp
   rw [hrun,Oper.upon_value]
   subst hB'
   refine hK () _ _ (ha.put d _ hd) (hw.turn hB (od w gb _) ?_ (by simp [ag.row,dW]) (fun k hk'=>?_))
   .
    refine ⟨by rw [di],.inr ⟨gb,cap,_,by rw [hlen],Nat.zero_le _,setRow_heap w gb _ _ e _ hgg,by omega,hcm,?_,?_⟩⟩
    .simp [hfl,hk];omega
    .rw [hk,Nat.mul_one,<- hfl];simp
   .
    simp [ag.row,dW] at hk';subst hk'
    exact ⟨by simp [World.setRow];exact (Array.getElem?_eq_some_iff.1 hgg).1,.inl (by simp [ag.row,dW])⟩
end
end
end Go.Proofs.YtkbhcbipadkcaaaGreatDoor
