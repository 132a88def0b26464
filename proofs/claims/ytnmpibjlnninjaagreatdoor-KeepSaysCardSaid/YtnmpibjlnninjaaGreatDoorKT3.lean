import Derived.Test.YtnmpibjlnninjaaGreatDoorKT2
import Derived.WideLaws
import Derived.LaidEql
import Derived.LoopN
import Derived.Laws.BitsAllLaws
import Derived.Laws.Tables
import Derived.MapKept
import Derived.Laws.CopyRow
import Derived.Laws.MakeOwn
import Derived.Laws.IdiomStrings
namespace Go.Proofs.YtnmpibjlnninjaaGreatDoor
set_option linter.unusedVariables false
set_option linter.unusedSimpArgs false
set_option maxRecDepth 100000
set_option maxHeartbeats 90000000
section
open Go Go.RowKit
theorem wr {n r:Int}(h:n=r /\ -9223372036854775808<=r/\r<=9223372036854775807):IntKind.i64.wrap n=r:=by
 grind [IntKind.wrap_i64]
theorem q.fX {P:Program}{n:Nat}{we:World}{X:List Nat}{L:Fm}{B F:List ah}{x y:Operand}{xT yT ty:TypeId}{m l r:Int}(hx:ev L x=some (.int .i64 m))(hy:ev L y=some (.int .i64 l))(h:m+l=r /\ -9223372036854775808<=r/\r<=9223372036854775807:=by omega):Qt P n we X L B F (.binOp .add xT x y yT) ty (.int .i64 r):=q.add hx hy (wr h)
theorem q.jY {P:Program}{n:Nat}{we:World}{X:List Nat}{L:Fm}{B F:List ah}{x y:Operand}{xT yT ty:TypeId}{m l r:Int}(hx:ev L x=some (.int .i64 m))(hy:ev L y=some (.int .i64 l))(h:m-l=r /\ -9223372036854775808<=r/\r<=9223372036854775807:=by omega):Qt P n we X L B F (.binOp .sub xT x y yT) ty (.int .i64 r):=q.sub hx hy (wr h)
theorem q.ug {P:Program}{n:Nat}{we:World}{X:List Nat}{L:Fm}{B F:List ah}{x y:Operand}{xT yT ty:TypeId}{m l r:Int}(hx:ev L x=some (.int .i64 m))(hy:ev L y=some (.int .i64 l))(h:m*l=r /\ -9223372036854775808<=r/\r<=9223372036854775807:=by omega):Qt P n we X L B F (.binOp .mul xT x y yT) ty (.int .i64 r):=q.mul hx hy (wr h)
theorem rR {m l:Int}(h:0<=m/\0<l/\m<=9223372036854775807):IntKind.i64.wrap (m.tdiv l)=m / l:=by
 obtain ⟨h1,h2,h3⟩:=h
 rw [Int.tdiv_eq_ediv_of_nonneg h1,IntKind.wrap_i64]
 have h4:0<=m / l:=Int.ediv_nonneg h1 ae
 have h5:m / l<=m:=Int.ediv_le_self l h1
 omega
theorem rm {m l:Int}(h:0<=m):m.tmod l=m % l:=Int.tmod_eq_emod_of_nonneg h
theorem Sl.dY {α:Type}[Enc α]{w:World}{v:Value}{l:List α}(h:Sl w v l):l.length<=9223372036854775807:=by
 obtain ⟨A,c,_,h1,h2,_⟩:=h
 grind [maxLen]
theorem cv {V V':Value}{P:Program}{f:FuncId}{args:Array Value}{w:World}(h:V=V')(hc:Calls P f args w fun e w'=>e = .returned V/\Ext w w'):Calls P f args w fun e w'=>e = .returned V'/\Ext w w':=h▸hc
theorem uh {n:Int}(h:n=0):Value.nilIface=bN n:=by subst h;rfl
theorem pD {n m:Int}(hm:m≠0)(h:n=m):Value.iface 95 (.int .i64 m)=bN n:=by grind [sS]
theorem TR {a b a' b':Value}(h1:a=a')(h2:b=b'):Value.tuple #[a,b] = .tuple #[a',b']:=au
theorem Wv {a b c a' b' c':Value}(h1:a=a')(h2:b=b')(h3:c=c'):Value.tuple #[a,b,c] = .tuple #[a',b',c']:=au
theorem Ww {a b c d a' b' c' d':Value}(h1:a=a')(h2:b=b')(h3:c=c')(h4:d=d'):Value.tuple #[a,b,c,d] = .tuple #[a',b',c',d']:=au
section
variable {we w:World} {X:List Nat} {B F:List ah}
theorem Wd.ownRow {α:Type}[Enc α]{e:TypeId}{v:Value}{l l':List α}(i:Nat)(h:B[i]? = some (ah.row e v l))(hl:l=l')(hw:Wd we [] B F w):Own we.heap.size e w v l':=by
 subst hl
 have h1:Own 0 e w v l:=hw.b i h
 refine ⟨h1.1,?_⟩
 rcases h1.2 with h2|⟨g,cap,cur,rfl,hg,r⟩
 .grind
 refine .inr ⟨g,cap,cur,rfl,?_,r⟩
 have:=(hw.own g (bD.2 ⟨_,List.mem_of_getElem? h,by simp [ah.row,eA]⟩)).2
 grind
end
theorem Wd.tail {we w:World}{X:List Nat}{B F:List ah}{r:ah}(hw:Wd we X (r::B) F w):Wd we X B F w :=
 ⟨hw.upd,fun q hq=>hw.okB q (List.mem_cons_of_mem _ hq),hw.okF,(List.nodup_append.1 hw.sep).2.1,fun k hk=>hw.own k (List.mem_append.2 (.inr hk)),fun k hk=>⟨(hw.lU k hk).1,fun h=>(hw.lU k hk).2 (List.mem_append.2 (.inr h))⟩⟩
def jJ (v:Value)(i:Nat):Value:=match v with | .slice A _ c => .slice A i c|_=>undef
theorem Sl.to {α:Type}[Enc α]{w:World}{v:Value}{l:List α}(h:Sl w v l){i:Nat}(hi:i<=l.length):Sl w (jJ v i) (l.take i):=by
 obtain ⟨A,c,rfl,h1,h2,h3⟩:=h
 exact Sl.take (⟨A,c,rfl,h1,h2,h3⟩:Sl w (.slice A l.length c) l) hi
def cR (v:Value)(i k:Nat):Value:=match v with | .slice A n c => .slice (if c=i then A else A.map (·.add (i*k))) (n-i) (c-i)|_=>undef
theorem Sl.from {α:Type}[Enc α]{w:World}{v:Value}{l:List α}(h:Sl w v l){i:Nat}(hi:i<=l.length):Sl w (cR v i (Enc.k α)) (l.drop i):=by
 obtain ⟨A,c,rfl,h1,h2,h3⟩:=h
 refine ⟨if c=i then A else A.map (·.add (i*Enc.k α)),c-i,by grind [cR,List.length_drop],au,ae,fun j x hx=>?_⟩
 rw [List.getElem?_drop] at hx
 obtain ⟨b,off,rfl,hb,hc⟩:=h3 (i+j) x hx
 have hlt:i+j<l.length:=(List.getElem?_eq_some_iff.1 hx).1
 refine ⟨b,off+i*Enc.k α,?_,hb,fun q u hu=>?_⟩
 .rw [if_neg ae];simp [addr_add]
 grind
section
variable {P:Program} {n:Nat} {we:World} {X:List Nat} {Q:Exit->Act->World->Prop} {k k':List It} {L:Fm} {B F:List ah} {ops rest:List Oper}
variable {dst:Option Nat} {d:Nat} {op:Op} {ty:TypeId} {pos:String} {dr:Array Edge} {g:Option (Nat×Bool)} {g':Nat×Bool} {v:Value}
variable {x y:Operand} {xT yT e:TypeId} {kd:IntKind} {α:Type} [Enc α] {l:List α}
theorem R.row0 (e:TypeId)(h:Run P n we X Q k L (ah.row e (.slice none 0 0) ([]:List α)::B) F):Run P n we X Q k L B F :=
 fun a w ha hw=>h a w ha (hw.new (r:=ah.row e (.slice none 0 0) ([]:List α)) (Own.nil 0 e w) (by simp [ah.row,eA]) (by simp [ah.row,eA]))
theorem s.app0 {t e:TypeId}{bytes:Nat}{u:Value}{l2:List α}(hx:ev L x=some (.slice none 0 0))(hy:ev L y=some u)(hs:∀w,Wd we X B F w->Sl w u l2)
 (ht:mI P t (Enc.k α)=some (e,bytes)) (hlen:l2.length*bytes<=140737488355328) (hml:l2.length<=9223372036854775807) (hd:Nat.blt d n=true) :
 Stp P n we X L B F ⟨some d,.call { callee:= .builtin .append,args:= #[x,y],argTypes:= #[t,t]},ty,pos,dr,g⟩ (fun z:Value=>(d,z)::L) (fun z=>ah.row e z l2::B) (fun _=>F):=by
 intro K Q' a w ha hw hK
 have hw':Wd we X (ah.row e (.slice none 0 0) ([]:List α)::B) F w:=hw.new (r:=ah.row e (.slice none 0 0) ([]:List α)) (Own.nil 0 e w) (by simp [ah.row,eA]) (by simp [ah.row,eA])
 refine s.app (v:= .slice none 0 0) (l:=([]:List α)) (l2:=l2) (u:=u) (B:=ah.row e (.slice none 0 0) ([]:List α)::B) (F:=F) 0 (fun z=>ah.row e z l2::B) rfl hx hy (fun w h=>hs w h.tail) ht au au (fun z=>rfl) hd K Q' a w ha hw' hK
theorem q.jJ {m:Int}{i:Nat}(hs:∀w,Wd we X B F w->Sl w v l)(hx:ev L x=some v)(hy:ev L y=some (.int kd m))(ht:P.underlying xT=some (.slice e))(hz:((P.info? e).map (·.size)).isSome=true)(hm:m=(i:Int))(hi:i<=l.length) :
 Qt P n we X L B F (.slice xT x none (some y) none) ty (jJ v i):=fun _ _ _ _ a w ha hw=>by
 obtain ⟨A,c,rfl,h1,h2,h3⟩:=hs w hw
 subst hm
 cases hq:P.info? e with
 | none=>grind
 | some inf =>
  simp only [execOp,ha.ev hx,Option.map_some,Option.map_none,ha.ev hy,Instr.sliceAt,Sem.run_bind,run_underlying ht,Result.andThen_ok,Instr.slice,Instr.sliceBounds,Instr.sliceBound,asIntOf,Sem.run_pure]
  rw [if_pos ⟨ae,ae⟩]
  simp [sizeOf,typeInfo,hq,jJ]
  cases A <;> simp [Addr.add_zero']
theorem NL {ms:Array (String×TypeId)}(ht:P.underlying xT=some (.interface ms)):P.underlying xT=some (.interface (P.methodsAt xT)):=by
 grind [Program.methodsAt]
theorem q.KC {c:Value}{ms:Array (String×TypeId)}(hx:ev L x=some .nilIface)(hy:ev L (.const c)=some .nilIface)(ht:P.underlying xT=some (.interface ms)):Qt P n we X L B F (.binOp .neq xT x (.const c) yT) ty (.bool false):=fun _ _ _ _ a w ha hw=>by
 simp only [execOp,ha.ev hx,ha.ev hy,eqGuard_nil_constR,Sem.run_bind,Sem.run_pure,Result.andThen_ok,run_neq_nil_nil (P:=P) w xT (NL ht)]
theorem q.KD {c:Value}{ms:Array (String×TypeId)}(hx:ev L x=some .nilIface)(hy:ev L (.const c)=some .nilIface)(ht:P.underlying xT=some (.interface ms)):Qt P n we X L B F (.binOp .eql xT x (.const c) yT) ty (.bool true):=fun _ _ _ _ a w ha hw=>by
 simp only [execOp,ha.ev hx,ha.ev hy,eqGuard_nil_constR,Sem.run_bind,Sem.run_pure,Result.andThen_ok,run_eql_nil_nil (P:=P) w xT (NL ht)]
theorem q.PX {t:TypeId}{u:Value}{ms:Array (String×TypeId)}(hx:ev L x=some (.iface t u))(hy:ev L y=some .nilIface)(ht:P.underlying xT=some (.interface ms)):Qt P n we X L B F (.binOp .neq xT x y yT) ty (.bool true):=fun _ _ _ _ a w ha hw=>by
 simp only [execOp,ha.ev hx,ha.ev hy,eqGuard_at_iface,Sem.run_bind,Sem.run_pure,Result.andThen_ok,run_neq_held_nil (P:=P) w xT t u (NL ht)]
theorem q.PY {t:TypeId}{u:Value}{ms:Array (String×TypeId)}(hx:ev L x=some (.iface t u))(hy:ev L y=some .nilIface)(ht:P.underlying xT=some (.interface ms)):Qt P n we X L B F (.binOp .eql xT x y yT) ty (.bool false):=fun _ _ _ _ a w ha hw=>by
 simp only [execOp,ha.ev hx,ha.ev hy,eqGuard_at_iface,Sem.run_bind,Sem.run_pure,Result.andThen_ok,run_eql_held_nil (P:=P) w xT t u (NL ht)]
theorem q.Hc {c:Value}{m:Int}{ms:Array (String×TypeId)}(hx:ev L x=some (bN m))(hy:ev L (.const c)=some .nilIface)(ht:P.underlying xT=some (.interface ms))(hm:m=0:=by omega):Qt P n we X L B F (.binOp .neq xT x (.const c) yT) ty (.bool false):=by subst hm;exact q.KC hx hy ht
theorem q.KE {c:Value}{m:Int}{ms:Array (String×TypeId)}(hx:ev L x=some (bN m))(hy:ev L (.const c)=some .nilIface)(ht:P.underlying xT=some (.interface ms))(hm:m=0:=by omega):Qt P n we X L B F (.binOp .eql xT x (.const c) yT) ty (.bool true):=by subst hm;exact q.KD hx hy ht
theorem q.Dl {m:Int}{ms:Array (String×TypeId)}(hx:ev L x=some (bN m))(hy:ev L y=some .nilIface)(ht:P.underlying xT=some (.interface ms))(hm:¬ m=0:=by omega):Qt P n we X L B F (.binOp .neq xT x y yT) ty (.bool true):=by grind [sS,q.PX]
theorem q.He {m:Int}{ms:Array (String×TypeId)}(hx:ev L x=some (bN m))(hy:ev L y=some .nilIface)(ht:P.underlying xT=some (.interface ms))(hm:¬ m=0:=by omega):Qt P n we X L B F (.binOp .eql xT x y yT) ty (.bool false):=by grind [sS,q.PY]
theorem kN (a b:ByteArray):(a.toList==b.toList)=decide (a=b):=by
 rw [Bool.eq_iff_iff]
 simp only [beq_iff_eq,decide_eq_true_eq,ByteArray.toList_eq]
 constructor
 .
  intro h
  cases a;simp_all
 grind
theorem q.iQ {a b:ByteArray}(hx:ev L x=some (.string a))(hy:ev L y=some (.string b))(h:a=b):Qt P n we X L B F (.binOp .eql xT x y yT) ty (.bool true):=fun _ _ _ _ q w ha hw=>by
 simp [execOp,ha.ev hx,ha.ev hy,eqGuard_at_string,binOp,Op.stringOp,kN,h]
theorem q.iR {a b:ByteArray}(hx:ev L x=some (.string a))(hy:ev L y=some (.string b))(h:¬ a=b):Qt P n we X L B F (.binOp .eql xT x y yT) ty (.bool false):=fun _ _ _ _ q w ha hw=>by
 simp [execOp,ha.ev hx,ha.ev hy,eqGuard_at_string,binOp,Op.stringOp,kN,h]
theorem q.pw {a b:ByteArray}(hx:ev L x=some (.string a))(hy:ev L y=some (.string b))(h:a=b):Qt P n we X L B F (.binOp .neq xT x y yT) ty (.bool false):=fun _ _ _ _ q w ha hw=>by
 simp [execOp,ha.ev hx,ha.ev hy,eqGuard_at_string,binOp,Op.stringOp,kN,h]
theorem q.rG {a b:ByteArray}(hx:ev L x=some (.string a))(hy:ev L y=some (.string b))(h:¬ a=b):Qt P n we X L B F (.binOp .neq xT x y yT) ty (.bool true):=fun _ _ _ _ q w ha hw=>by
 simp [execOp,ha.ev hx,ha.ev hy,eqGuard_at_string,binOp,Op.stringOp,kN,h]
def KF {β:Type}[DecidableEq β](P:Program)(t:TypeId)(val:β->Value):Prop :=
  (∀x y w (a b:Operand),(eqGuard .eql t a b (val x) (val y)).run P w = .ok () w/\(eqGuard .neq t a b (val x) (val y)).run P w = .ok () w) /\ ∀x y w,(binOp .eql t (val x) (val y)).run P w = .ok (.bool (decide (x=y))) w/\(binOp .neq t (val x) (val y)).run P w = .ok (.bool (!decide (x=y))) w
section
variable {β:Type} [DecidableEq β] {val:β->Value} {p q:β} {a b:Operand}
theorem q.TS {x y:β}(he:KF P xT val)(hx:ev L a=some (val x))(hy:ev L b=some (val y))(h:x=y):Qt P n we X L B F (.binOp .eql xT a b yT) ty (.bool true):=fun _ _ _ _ q w ha hw=>by
 simp only [execOp,ha.ev hx,ha.ev hy,Sem.run_bind,(he.1 x y w a b).1,Result.andThen_ok,(he.2 x y w).1,decide_eq_true h,Sem.run_pure]
theorem q.TT {x y:β}(he:KF P xT val)(hx:ev L a=some (val x))(hy:ev L b=some (val y))(h:¬ x=y):Qt P n we X L B F (.binOp .eql xT a b yT) ty (.bool false):=fun _ _ _ _ q w ha hw=>by
 simp only [execOp,ha.ev hx,ha.ev hy,Sem.run_bind,(he.1 x y w a b).1,Result.andThen_ok,(he.2 x y w).1,decide_eq_false h,Sem.run_pure]
theorem q.j3 {x y:β}(he:KF P xT val)(hx:ev L a=some (val x))(hy:ev L b=some (val y))(h:x=y):Qt P n we X L B F (.binOp .neq xT a b yT) ty (.bool false):=fun _ _ _ _ q w ha hw=>by
 simp only [execOp,ha.ev hx,ha.ev hy,Sem.run_bind,(he.1 x y w a b).2,Result.andThen_ok,(he.2 x y w).2,decide_eq_true h,Sem.run_pure,Bool.not_true]
theorem q.j4 {x y:β}(he:KF P xT val)(hx:ev L a=some (val x))(hy:ev L b=some (val y))(h:¬ x=y):Qt P n we X L B F (.binOp .neq xT a b yT) ty (.bool true):=fun _ _ _ _ q w ha hw=>by
 simp only [execOp,ha.ev hx,ha.ev hy,Sem.run_bind,(he.1 x y w a b).2,Result.andThen_ok,(he.2 x y w).2,decide_eq_false h,Sem.run_pure,Bool.not_false]
end
theorem R.KG (m:Nat){c:Code}(h:norm 200 k = .c (.loop c)::k')(hr:Run P n we X Q (.c c :: .back (Code.rounds P c (pH P Q k') m)::k') L B F):Run P n we X Q k L B F:=by
 intro a w ha hw
 refine cO 200 (h ▸ ?_)
 refine wp_loop_rounds (m+1) ?_
 rw [rounds_succ]
 exact wp_mono (hr a w ha hw) (fun e a w q=>by cases e <;> exact q)
theorem R.again {m:Nat}{c:Code}{Q':Exit->Act->World->Prop}(hQ:Q'=pH P Q k')(h:norm 200 k = .back (Code.rounds P c Q' (m+1))::k')(hr:Run P n we X Q (.c c :: .back (Code.rounds P c Q' m)::k') L B F):Run P n we X Q k L B F:=by
 intro a w ha hw
 refine cO 200 (h ▸ ?_)
 show Code.rounds P c Q' (m+1) a w
 rw [rounds_succ]
 subst hQ
 exact wp_mono (hr a w ha hw) (fun e a w q=>by cases e <;> exact q)
variable {m q':Int}
theorem q.and {r:Int}(hx:ev L x=some (.int kd m))(hy:ev L y=some (.int kd q'))(hr:bits .and kd m q'=r):Qt P n we X L B F (.binOp .and xT x y yT) ty (.int kd r):=fun _ _ _ _ a w ha hw=>by
 subst hr;simp [execOp,ha.ev hx,ha.ev hy,binOp,eqGuard,Op.intBits,bits]
theorem q.or {r:Int}(hx:ev L x=some (.int kd m))(hy:ev L y=some (.int kd q'))(hr:bits .or kd m q'=r):Qt P n we X L B F (.binOp .or xT x y yT) ty (.int kd r):=fun _ _ _ _ a w ha hw=>by
 subst hr;simp [execOp,ha.ev hx,ha.ev hy,binOp,eqGuard,Op.intBits,bits]
theorem q.quo {r:Int}(hx:ev L x=some (.int kd m))(hy:ev L y=some (.int kd q'))(h0:¬ q'=0)(hr:kd.wrap (m.tdiv q')=r):Qt P n we X L B F (.binOp .quo xT x y yT) ty (.int kd r):=fun _ _ _ _ a w ha hw=>by
 simp [execOp,ha.ev hx,ha.ev hy,binOp,eqGuard,Op.intDiv,h0,hr]
theorem q.rem {r:Int}(hx:ev L x=some (.int kd m))(hy:ev L y=some (.int kd q'))(h0:¬ q'=0)(hr:m.tmod q'=r):Qt P n we X L B F (.binOp .rem xT x y yT) ty (.int kd r):=fun _ _ _ _ a w ha hw=>by
 simp [execOp,ha.ev hx,ha.ev hy,binOp,eqGuard,Op.intDiv,h0,hr]
theorem q.shr {r:Int}{kd':IntKind}(hx:ev L x=some (.int kd m))(hy:ev L y=some (.int kd' q'))(h0:¬ q'<0)(hr:m.fdiv (2 ^ (min q'.toNat kd.bits))=r):Qt P n we X L B F (.binOp .shr xT x y yT) ty (.int kd r):=fun _ _ _ _ a w ha hw=>by
 simp [execOp,ha.ev hx,ha.ev hy,binOp,eqGuard,Op.shift,h0,hr]
theorem q.shl {r:Int}{kd':IntKind}(hx:ev L x=some (.int kd m))(hy:ev L y=some (.int kd' q'))(h0:¬ q'<0)(hr:kd.wrap (m*2 ^ (min q'.toNat kd.bits))=r):Qt P n we X L B F (.binOp .shl xT x y yT) ty (.int kd r):=fun _ _ _ _ a w ha hw=>by
 simp [execOp,ha.ev hx,ha.ev hy,binOp,eqGuard,Op.shift,h0,hr]
theorem q.mJ {r:Int}{kd':IntKind}{dT:TypeId}(hx:ev L x=some (.int kd m))(hs:(P.underlying xT).isSome=true)(hd:P.underlying dT=some (.int kd'))(hr:kd'.wrap m=r):Qt P n we X L B F (.convert xT dT x) ty (.int kd' r):=fun _ _ _ _ a w ha hw=>by
 obtain ⟨dd,hdd⟩:=Option.isSome_iff_exists.mp hs
 simp [execOp,ha.ev hx,convert,run_underlying hdd,run_underlying hd,Conv.intToInt,hr]
def TU (P:Program)(t:TypeId)(f:Nat):Option (Nat×Option Nat) :=
  match P.underlying t with
  | some (.struct fs)=>match fs[f]? with
    | some fl=>match P.info? fl.type,P.underlying fl.type with
      | some i,some (.struct _)=>some (fl.offset,some i.size)
      | some _,some (.array _ _)=>none
      | some _,some _=>some (fl.offset,none)
      | _,_=>none
    | none=>none
  | _=>none
theorem q.field {f off:Nat}{cs:List Value}{u:Value}(hx:ev L x=some (.agg cs.toArray))(ht:TU P xT f=some (off,none))(hu:cs[off]? = some u):Qt P n we X L B F (.field xT x f) ty u:=fun _ _ _ _ a w ha hw=>by
 unfold TU at ht
 split at ht
 .
  rename_i fs h1
  split at ht
  .
   rename_i fl h2
   split at ht
   .grind
   .grind
   .
    rename_i dd h3 h4 h5 h6
    injection ht with ht;injection ht with ht _
    have hagg:(isAgg fl.type).run P w = .ok false w:=by
     simp_all [isAgg,Sem.run_bind,run_underlying,Result.andThen_ok]
    subst ht
    simp [execOp,ha.ev hx,Instr.field,run_underlying h1,h2,asAgg,part,hagg,hu]
   grind
  grind
 grind
theorem q.Q8 {f off m:Nat}{cs ds:List Value}(hx:ev L x=some (.agg cs.toArray))(ht:TU P xT f=some (off,some m))(hu:(cs.drop off).take m=ds):Qt P n we X L B F (.field xT x f) ty (.agg ds.toArray):=fun _ _ _ _ a w ha hw=>by
 unfold TU at ht
 split at ht
 .
  rename_i fs h1
  split at ht
  .
   rename_i fl h2
   split at ht
   .
    rename_i inf fs' h3 h4
    injection ht with ht;injection ht with ht ht';injection ht' with ht'
    have hagg:(isAgg fl.type).run P w = .ok true w:=by
     simp [isAgg,run_underlying h4]
    subst ht;subst ht';subst hu
    simp [execOp,ha.ev hx,Instr.field,run_underlying h1,h2,asAgg,part,hagg,sizeOf,typeInfo,h3]
   .grind
   .grind
   grind
  grind
 grind
def tB (P:Program)(t:TypeId):Option (List (Nat×Nat)×List Value) :=
  match P.info? t,P.underlying t with
  | some it,some (.struct fields)=>match it.zero,fields.toList.mapM (fun f=>(P.info? f.type).map fun i=>(f.offset,i.size)) with
    | some z,some places=>some (places,z.cells.toList)
    | _,_=>none
  | _,_=>none
def xa (places:List (Nat×Nat)):List Value->List (Nat×Value)->Option (List Value)
  | cells,[]=>some cells
  | cells,(i,v)::rest=>match places[i]? with
    | none=>none
    | some (off,size)=>bif Nat.beq v.cells.toList.length size&&Nat.ble (off+size) cells.length then xa places (cells.take off++v.cells.toList++cells.drop (off+size)) rest else none
theorem xb (places:List (Nat×Nat)):∀ (parts:List (Nat×Value)) (cells cs:List Value),xa places cells parts=some cs->Instr.fill (fun x=>places.toArray[x]?) cells.toArray parts=some cs.toArray
 | [],cells,cs,h=>by simp [xa] at h;subst h;rfl
 | (i,v)::rest,cells,cs,h=>by
  simp only [xa] at h
  simp only [Instr.fill,List.getElem?_toArray]
  cases hp:places[i]? with
  | none=>grind
  | some q =>
   obtain ⟨off,size⟩:=q
   simp only [hp] at h ⊢
   cases hb:(Nat.beq v.cells.toList.length size&&Nat.ble (off+size) cells.length) with
   | false=>grind
   | true =>
    simp only [hb,cond_true] at h
    simp only [Bool.and_eq_true] at hb
    have h1:v.cells.toList.length=size:=Nat.eq_of_beq_eq_true hb.1
    have h2:off+size<=cells.length:=Nat.le_of_ble_eq_true hb.2
    have h1':v.cells.size=size:=ae
    rw [if_neg au]
    have ih:=xb places rest _ cs h
    simp only [List.getElem?_toArray] at ih
    refine Eq.trans (congrArg (fun x=>Instr.fill _ x rest) ?_) ih
    rw [<- Array.foldl_toList,Array.toList_zipIdx]
    have:=foldl_set off v.cells.toList 0 cells.toArray au
    grind
theorem q.build {t:TypeId}{parts:Array (Nat×Operand)}{places:List (Nat×Nat)}{zs vs cs:List Value}(ht:tB P t=some (places,zs))(hp:evs L (parts.toList.map (·.2))=some vs)(hf:xa places zs ((parts.toList.map (·.1)).zip vs)=some cs) :
 Qt P n we X L B F (.build t parts) ty (.agg cs.toArray):=fun _ _ _ _ a w ha hw=>by
 have hparts:(parts.map fun p=>(p.1,a.eval p.2)).toList=(parts.toList.map (·.1)).zip vs:=by
  rw [<- ha.evs hp]
  grind [Array.toList_map,List.map_map]
 have hb:P.built t (parts.map fun p=>(p.1,a.eval p.2)).toList=some cs.toArray:=by
  rw [hparts]
  unfold tB at ht
  unfold Program.built
  split at ht
  .
   rename_i it fields h1 h2
   split at ht
   .
    rename_i z pl h3 h4
    injection ht with ht;injection ht with ha hb;subst ha;subst hb
    simp only [h1,h2,h3,h4]
    exact xb pl _ _ _ hf
   grind
  grind
 grind [execOp,Sem.run_bind,run_build,Result.andThen_ok,Sem.run_pure]
theorem q.NA {fn:FuncId}{fs cs:Array Operand}{cap:List Value}(hf:fs = #[])(hc:evs L cs.toList=some cap):Qt P n we X L B F (.makeFunc (.func fn) fs cs) ty (.func (.func fn) #[] cap.toArray):=fun _ _ _ _ a w ha hw=>by
 subst hf
 have hm:cs.map a.eval=cap.toArray:=by rw [<- ha.evs hc,<- Array.toList_map]
 simp [execOp,Instr.makeFunc,hm]
def TV (tmps:Array Value):ResultVar->Sem Value
  | .tmp t=>pure (tmps.getD t undef)
  | .cell p t=>do loadVar t (<- asAddr (tmps.getD p undef))
theorem kO (fn:Func)(tmps:Array Value):results fn tmps=(do let vs <- fn.results.mapM (TV tmps);pure (if h:vs.size=1 then vs[0] else .tuple vs)):=by
 rfl
def RV (P:Program)(n:Nat)(we:World)(X:List Nat)(L:Fm)(B F:List ah)(r:ResultVar)(v:Value):Prop :=
  ∀a w,Fr n L a->Wd we X B F w->(TV a.tmps r).run P w = .ok v w
theorem RV.tmp {t:Nat}{v:Value}(h:lk L t=some v):RV P n we X L B F (.tmp t) v:=fun a w ha hw=>by
 simp [TV,Array.getD_eq_getD_getElem?,ha.get _ _ h]
theorem RV.cell {p b:Nat}{t t':TypeId}{cs:List Value}(i:Nat)(hB:B[i]? = some (ah.box b cs t'))(h:lk L p=some (.pointer (some ⟨b,0,none⟩)))(ht:iP P t=some cs.length):RV P n we X L B F (.cell p t) (.agg cs.toArray):=fun a w ha hw=>by
 have hl:=kL (P:=P) w ht (ud (hw.b i hB))
 have:a.tmps.getD p undef = .pointer (some ⟨b,0,none⟩):=by simp [Array.getD_eq_getD_getElem?,ha.get _ _ h]
 grind [TV,asAddr,Instr.loadAt,Instr.sureAddr,Sem.run_bind,Sem.run_pure,Result.andThen_ok]
theorem RV.cell1 {p b o:Nat}{t t':TypeId}{cs:List Value}{u:Value}(i:Nat)(hB:B[i]? = some (ah.box b cs t'))(h:lk L p=some (.pointer (some ⟨b,o,none⟩)))(ht:eX P t=true)(hu:cs[o]? = some u):RV P n we X L B F (.cell p t) u:=fun a w ha hw=>by
 have hc:=ud (hw.b i hB) o u hu
 rw [Nat.zero_add] at hc
 have hl:=kM (P:=P) w ht hc
 have:a.tmps.getD p undef = .pointer (some ⟨b,o,none⟩):=by simp [Array.getD_eq_getD_getElem?,ha.get _ _ h]
 grind [TV,asAddr,Instr.loadAt,Instr.sureAddr,Sem.run_bind,Sem.run_pure,Result.andThen_ok]
section
variable {fn:Func} {R:Ending->World->Prop} {r1 r2 r3 r4:ResultVar} {v1 v2 v3 v4:Value}
theorem R.TW (h:norm 200 k = .c .ret::k')(hr:fn.results = #[r1])(h1:RV P n we X L B F r1 v1)(hR:∀w,Wd we X B F w->R (.returned v1) w):Run P n we X (bodyPost P fn R) k L B F :=
 fun a w ha hw=>cO 200 (h▸wp_ret (jK (bodyPost_ret (by
  have e1:=h1 a w ha hw
  rw [kO,hr,show (#[r1]:Array ResultVar)=[r1].toArray from rfl]
  simp_all) ha.defers (hR w hw))))
theorem R.PZ (h:norm 200 k = .c .ret::k')(hr:fn.results = #[r1,r2])(h1:RV P n we X L B F r1 v1)(h2:RV P n we X L B F r2 v2)(hR:∀w,Wd we X B F w->R (.returned (.tuple #[v1,v2])) w):Run P n we X (bodyPost P fn R) k L B F :=
 fun a w ha hw=>cO 200 (h▸wp_ret (jK (bodyPost_ret (by
  have e1:=h1 a w ha hw
  have e2:=h2 a w ha hw
  rw [kO,hr,show (#[r1,r2]:Array ResultVar)=[r1,r2].toArray from rfl]
  simp_all) ha.defers (hR w hw))))
theorem R.P0 (h:norm 200 k = .c .ret::k')(hr:fn.results = #[r1,r2,r3])(h1:RV P n we X L B F r1 v1)(h2:RV P n we X L B F r2 v2)(h3:RV P n we X L B F r3 v3)(hR:∀w,Wd we X B F w->R (.returned (.tuple #[v1,v2,v3])) w):Run P n we X (bodyPost P fn R) k L B F :=
 fun a w ha hw=>cO 200 (h▸wp_ret (jK (bodyPost_ret (by
  have e1:=h1 a w ha hw
  have e2:=h2 a w ha hw
  have e3:=h3 a w ha hw
  rw [kO,hr,show (#[r1,r2,r3]:Array ResultVar)=[r1,r2,r3].toArray from rfl]
  simp_all) ha.defers (hR w hw))))
theorem R.TX (h:norm 200 k = .c .ret::k')(hr:fn.results = #[r1,r2,r3,r4])(h1:RV P n we X L B F r1 v1)(h2:RV P n we X L B F r2 v2)(h3:RV P n we X L B F r3 v3)(h4:RV P n we X L B F r4 v4)(hR:∀w,Wd we X B F w->R (.returned (.tuple #[v1,v2,v3,v4])) w):Run P n we X (bodyPost P fn R) k L B F :=
 fun a w ha hw=>cO 200 (h▸wp_ret (jK (bodyPost_ret (by
  have e1:=h1 a w ha hw
  have e2:=h2 a w ha hw
  have e3:=h3 a w ha hw
  have e4:=h4 a w ha hw
  rw [kO,hr,show (#[r1,r2,r3,r4]:Array ResultVar)=[r1,r2,r3,r4].toArray from rfl]
  simp_all) ha.defers (hR w hw))))
end
theorem R.nH {r:ah}(hr:r.ok we)(hlt:∀k∈r.blk,k<we.heap.size)(h:Run P n we [] Q k L B (r::F)):Run P n we [] Q k L B F:=fun a w ha hw =>
 h a w ha (hw.fact (r.loc we w (fun k hk=>hw.upd.block k (hlt k hk) bC) hr) fun k hk=>⟨Nat.lt_of_lt_of_le (hlt k hk) hw.upd.size,fun hb=>by cases (hw.own k hb).2 (hlt k hk)⟩)
theorem jf {w:World}{b:Nat}{cs:List Value}{t:TypeId}(h:(ah.box b cs t).ok w):∀k∈(ah.box b cs t).blk,k<w.heap.size:=fun k hk=>by
 grind [ah.box,Array.getElem?_eq_some_iff]
theorem sW {w W:World}{b:Nat}{cs:List Value}{t:TypeId}(h:(ah.box b cs t).ok w)(e:Ext w W):(ah.box b cs t).ok W :=
 (ah.box b cs t).loc w W (fun k hk=>e.heap (jf h k hk)) h
theorem q.zu {b o:Nat}{cs:List Value}{t:TypeId}{u:Value}(i:Nat)(hB:F[i]? = some (ah.box b cs t))(hx:ev L x=some (.pointer (some ⟨b,o,none⟩)))(ht:eX P xT=true)(hu:cs[o]? = some u):Qt P n we X L B F (.load xT x) ty u:=fun _ _ _ _ a w ha hw=>by
 have h:=ud (hw.f i hB) o u hu
 rw [Nat.zero_add] at h
 simp [execOp,ha.ev hx,kM (P:=P) w ht h]
def auto (ops:List Oper)(n:Nat):Nat->List Oper->Fm->Option (List Oper×Fm)
  | 0,rest,L=>some (rest,L)
  | m+1,rest,L=>match rest with
    | []=>none
    | o::rest=>match o.dst with
      | none=>none
      | some d=>match Nat.blt d n with
        | false=>none
        | true=>match gd ops L o.guard with
          | none=>none
          | some false=>auto ops n m rest ((d,undef)::L)
          | some true=>match o.op with
            | .move x=>match ev L x with
              | some v=>auto ops n m rest ((d,v)::L)
              | none=>none
            | .assign x=>match ev L x with
              | some v=>auto ops n m rest ((d,v)::L)
              | none=>none
            | .pick c x y=>match ev L c with
              | some (.bool true)=>match ev L x with
                | some v=>auto ops n m rest ((d,v)::L)
                | none=>none
              | some (.bool false)=>match ev L y with
                | some v=>auto ops n m rest ((d,v)::L)
                | none=>none
              | _=>none
            | .unOp .not _ x=>match ev L x with
              | some (.bool true)=>auto ops n m rest ((d,.bool false)::L)
              | some (.bool false)=>auto ops n m rest ((d,.bool true)::L)
              | _=>none
            | .extract x i=>match ev L x with
              | some (.tuple vs)=>match vs[i]? with
                | some v=>auto ops n m rest ((d,v)::L)
                | none=>none
              | _=>none
            | _=>none
def pN (ops:List Oper)(L:Fm)(o:Oper):Option Value :=
  match gd ops L o.guard with
  | none=>none
  | some false=>some undef
  | some true=>match o.op with
    | .move x=>ev L x
    | .assign x=>ev L x
    | .pick c x y=>match ev L c with
      | some (.bool true)=>ev L x
      | some (.bool false)=>ev L y
      | _=>none
    | .unOp .not _ x=>match ev L x with
      | some (.bool b)=>some (.bool !b)
      | _=>none
    | .extract x i=>match ev L x with
      | some (.tuple vs)=>vs[i]?
      | _=>none
    | _=>none
theorem IQ {ops:List Oper}{n m:Nat}{o:Oper}{rest:List Oper}{L:Fm}{r:List Oper×Fm}(h:auto ops n (m+1) (o::rest) L=some r) :
 ∃d v,o.dst=some d/\Nat.blt d n=true/\pN ops L o=some v/\auto ops n m rest ((d,v)::L)=some r:=by
 simp only [auto] at h
 cases hd:o.dst with
 | none=>grind
 | some d =>
  simp only [hd] at h
  cases hb:Nat.blt d n with
  | false=>grind
  | true =>
   simp only [hb] at h
   cases hg:gd ops L o.guard with
   | none=>grind
   | some b =>
    cases b with
    | false=>simp only [hg] at h;exact ⟨d,undef,rfl,hb,by grind [pN],h⟩
    | true =>
     simp only [hg] at h
     cases ho:o.op <;> simp only [ho] at h <;> try (cases h;done)
     case move x=>split at h;exact ⟨d,_,rfl,hb,by grind [pN],h⟩;cases h
     case assign x=>split at h;exact ⟨d,_,rfl,hb,by grind [pN],h⟩;cases h
     case pick c x y =>
      split at h
      .
       rename_i hc
       split at h
       .exact ⟨d,_,rfl,hb,by grind [pN],h⟩
       grind
      .
       rename_i hc
       split at h
       .exact ⟨d,_,rfl,hb,by grind [pN],h⟩
       grind
      grind
     case unOp u t x =>
      cases u <;> simp only [] at h <;> try grind
      split at h
      .rename_i hc;exact ⟨d,_,rfl,hb,by grind [pN],h⟩
      .rename_i hc;exact ⟨d,_,rfl,hb,by grind [pN],h⟩
      grind
     case extract x i =>
      split at h
      .
       rename_i vs hc
       split at h
       .exact ⟨d,_,rfl,hb,by grind [pN],h⟩
       grind
      grind
theorem IU {ops:List Oper}{L:Fm}{o:Oper}{v:Value}(h:pN ops L o=some v){a:Act}(ha:Fr n L a) :
 (gd ops L o.guard=some false/\v=undef)∨(gd ops L o.guard=some true /\ ∀w,(execOp a.eval o).run P w = .ok (.value v) w):=by
 unfold pN at h
 split at h
 .cases h
 .grind
 rename_i hg
 refine .inr ⟨hg,fun w=>?_⟩
 split at h
 .rename_i x ho;simp [execOp,ho,ha.ev h]
 .rename_i x ho;simp [execOp,ho,ha.ev h]
 .
  rename_i c x y ho
  split at h
  .rename_i hc;simp [execOp,ho,ha.ev hc,ha.ev h,asBool]
  .rename_i hc;simp [execOp,ho,ha.ev hc,ha.ev h,asBool]
  grind
 .
  rename_i t x ho
  split at h
  .rename_i b hc;injection h with h;subst h;simp [execOp,ho,ha.ev hc,Op.unary]
  grind
 .
  rename_i x i ho
  split at h
  .rename_i vs hc;simp [execOp,ho,ha.ev hc,Instr.extract,h]
  grind
 grind
theorem R.u:∀ (m:Nat) {rest rest':List Oper} {L L':Fm},auto ops n m rest L=some (rest',L')->Rg P n we X Q ops rest' k L' B F->Rg P n we X Q ops rest k L B F
 | 0,rest,rest',L,L',h,hr=>by simp [auto] at h;grind
 | m+1,[],rest',L,L',h,hr=>by grind [auto]
 | m+1,o::rest,rest',L,L',h,hr=>by
  obtain ⟨d,v,hd,hb,h1,h2⟩:=IQ h
  have ih:=R.u m h2 hr
  intro a w ha hw
  refine wpList_step fun K hK=>?_
  rcases IU (P:=P) h1 ha with ⟨hg,rfl⟩ | ⟨hg,hrun⟩
  .
   rw [if_neg (by grind [dR]),hd]
   exact hK _ _ (ih _ w (ha.put d undef hb) hw)
  rw [if_pos (dR ha hg)]
  unfold Oper.wp
  rw [hrun w,Oper.upon_value,hd]
  exact hK _ _ (ih _ w (ha.put d v hb) hw)
theorem R.nr {id:Nat}{ops':List Oper}(h:norm 200 k = .c (.region id ops'.toArray false)::k')(hr:Rg P n we X Q ops' ops' k' L B F):Rg P n we X Q ops [] k L B F:=R.nil (R.reg h hr)
theorem R.nT {c:Operand}{x y:Code}(h:norm 200 k = .c (.cond c x y)::k')(hc:ev L c=some (.bool true))(hr:Run P n we X Q (.c x::k') L B F):Rg P n we X Q ops [] k L B F:=R.nil (R.nC h hc hr)
theorem R.nF {c:Operand}{x y:Code}(h:norm 200 k = .c (.cond c x y)::k')(hc:ev L c=some (.bool false))(hr:Run P n we X Q (.c y::k') L B F):Rg P n we X Q ops [] k L B F:=R.nil (R.pK h hc hr)
theorem R.nA {c:Operand}{x y:Code}{id:Nat}{ops':List Oper}{k2:List It}(h:norm 200 k = .c (.cond c x y)::k')(hc:ev L c=some (.bool true))(h2:norm 200 (.c x::k') = .c (.region id ops'.toArray false)::k2)(hr:Rg P n we X Q ops' ops' k2 L B F):Rg P n we X Q ops [] k L B F:=R.nT h hc (R.reg h2 hr)
theorem R.nB {c:Operand}{x y:Code}{id:Nat}{ops':List Oper}{k2:List It}(h:norm 200 k = .c (.cond c x y)::k')(hc:ev L c=some (.bool false))(h2:norm 200 (.c y::k') = .c (.region id ops'.toArray false)::k2)(hr:Rg P n we X Q ops' ops' k2 L B F):Rg P n we X Q ops [] k L B F:=R.nF h hc (R.reg h2 hr)
theorem R.un (m:Nat){L':Fm}(h:auto ops n m rest L=some ([],L'))(hr:Run P n we X Q k L' B F):Rg P n we X Q ops rest k L B F:=R.u m h (R.nil hr)
theorem R.ur (m:Nat){L':Fm}{id:Nat}{ops':List Oper}(h:auto ops n m rest L=some ([],L'))(h2:norm 200 k = .c (.region id ops'.toArray false)::k')(hr:Rg P n we X Q ops' ops' k' L' B F):Rg P n we X Q ops rest k L B F:=R.u m h (R.nr h2 hr)
section
variable {fn:Func} {V V' V7 V3:Value}
theorem rI {a b:Int}(h:a=b):Value.int .i64 a = .int .i64 b:=by rw [h]
theorem rB {a b:Bool}(h:a=b):Value.bool a = .bool b:=by rw [h]
theorem rS {a b:ByteArray}(h:a=b):Value.string a = .string b:=by rw [h]
theorem rE {a b:Int}(h:a=b):bN a=bN b:=by rw [h]
theorem R.rv {t:Nat}{v:Value}(h:norm 200 k = .c .ret::k')(hr:fn.results = #[.tmp t])(hv:lk L t=some v)(e:v=V):Run P n we [] (bodyPost P fn fun en w'=>en = .returned V/\Ext we w') k L B F :=
 R.TA h hr hv fun w hw=>⟨by rw [e],hw.ext⟩
theorem R.Hf {t u:Nat}{v v':Value}(h:norm 200 k = .c .ret::k')(hr:fn.results = #[.tmp t,.tmp u])(hv:lk L t=some v)(hv':lk L u=some v')(e:v=V)(e':v'=V'):Run P n we [] (bodyPost P fn fun en w'=>en = .returned (.tuple #[V,V'])/\Ext we w') k L B F :=
 R.Wr h hr hv hv' fun w hw=>⟨au,hw.ext⟩
theorem R.Te {t u x:Nat}{v v' v'':Value}(h:norm 200 k = .c .ret::k')(hr:fn.results = #[.tmp t,.tmp u,.tmp x])(hv:lk L t=some v)(hv':lk L u=some v')(Q5:lk L x=some v'')(e:v=V)(e':v'=V')(e'':v''=V7):Run P n we [] (bodyPost P fn fun en w'=>en = .returned (.tuple #[V,V',V7])/\Ext we w') k L B F :=
 R.Ws h hr hv hv' Q5 fun w hw=>⟨au,hw.ext⟩
theorem R.rT {r1 r2:ResultVar}{v v':Value}(h:norm 200 k = .c .ret::k')(hr:fn.results = #[r1,r2])(h1:RV P n we [] L B F r1 v)(h2:RV P n we [] L B F r2 v')(e:v=V)(e':v'=V'):Run P n we [] (bodyPost P fn fun en w'=>en = .returned (.tuple #[V,V'])/\Ext we w') k L B F :=
 R.PZ h hr h1 h2 fun w hw=>⟨au,hw.ext⟩
theorem R.NC {r1 r2 r3:ResultVar}{v v' v'':Value}(h:norm 200 k = .c .ret::k')(hr:fn.results = #[r1,r2,r3])(h1:RV P n we [] L B F r1 v)(h2:RV P n we [] L B F r2 v')(h3:RV P n we [] L B F r3 v'')(e:v=V)(e':v'=V')(e'':v''=V7):Run P n we [] (bodyPost P fn fun en w'=>en = .returned (.tuple #[V,V',V7])/\Ext we w') k L B F :=
 R.P0 h hr h1 h2 h3 fun w hw=>⟨au,hw.ext⟩
theorem R.ro {α:Type}[Enc α]{e:TypeId}{t:Nat}{v:Value}{l l':List α}(i:Nat)(h:norm 200 k = .c .ret::k')(hr:fn.results = #[.tmp t])(hv:lk L t=some v)(hB:B[i]? = some (ah.row e v l))(hl:l=l'):Run P n we [] (bodyPost P fn fun en w' => ∃u,en = .returned u/\Own we.heap.size e w' u l'/\Ext we w') k L B F :=
 R.TA h hr hv fun w hw=>⟨v,rfl,hw.ownRow i hB hl,hw.ext⟩
end
def Cu {ι:Type}(n:Nat)(we:World)(X:List Nat)(LI:ι->Fm)(BI FI:ι->List ah)(PI:ι->Prop)(a:Act)(w:World):Prop:= ∃i,PI i/\Fr n (LI i) a/\Wd we X (BI i) (FI i) w
theorem fc {I:Act->World->Prop}{R:List It}(hI:∀a w,I a w->pH P Q R .normal a w):∀ (A:List It) (e:Exit) (a:Act) (w:World),pH P Q (A ++ .back I::R) e a w->pH P Q (A++R) e a w
 | [],e,a,w,h=>by
  cases e with
  | normal=>exact hI a w h
  | _=>exact h
 | .c x::A,e,a,w,h=>by
  cases e with
  | normal=>exact wp_mono h (fc hI A)
  | exit id=>exact fc hI A (.exit id) a w h
  | goto id=>exact fc hI A (.goto id) a w h
  | ret=>exact fc hI A .ret a w h
  | panic c=>exact fc hI A (.panic c) a w h
  | outgrown=>exact fc hI A .outgrown a w h
 | .b id::A,e,a,w,h=>by
  cases e with
  | normal=>exact fc hI A .normal a w h
  | exit id' =>
   simp only [List.cons_append,pH] at h ⊢
   cases hb:Nat.beq id' id with
   | true=>rw [hb] at h;exact fc hI A .normal a w h
   | false=>rw [hb] at h;exact fc hI A (.exit id') a w h
  | goto id=>exact fc hI A (.goto id) a w h
  | ret=>exact fc hI A .ret a w h
  | panic c=>exact fc hI A (.panic c) a w h
  | outgrown=>exact fc hI A .outgrown a w h
 | .back J::A,e,a,w,h=>by
  cases e with
  | normal=>exact h
  | exit id=>exact fc hI A (.exit id) a w h
  | goto id=>exact fc hI A (.goto id) a w h
  | ret=>exact fc hI A .ret a w h
  | panic c=>exact fc hI A (.panic c) a w h
  | outgrown=>exact fc hI A .outgrown a w h
theorem R.cut {ι:Type}(m:Nat)(LI:ι->Fm)(BI FI:ι->List ah)(PI:ι->Prop){k1 A R:List It}(hk:norm 200 k=k1)(hA:k1.take m=A)(hR:k1.drop m=R)(h1:Run P n we X Q (A ++ .back (Cu n we X LI BI FI PI)::R) L B F)
 (h2:∀i,PI i->Run P n we X Q R (LI i) (BI i) (FI i)):Run P n we X Q k L B F:=fun a w ha hw=>by
 refine cO 200 (hk ▸ ?_)
 have:k1=A++R:=by grind [List.take_append_drop]
 rw [this]
 exact fc (fun a w ⟨i,hP,ha,hw⟩=>h2 i hP a w ha hw) A _ a w (h1 a w ha hw)
theorem R.meet {ι:Type}{LI:ι->Fm}{BI FI:ι->List ah}{PI:ι->Prop}(i:ι)(h:norm 200 k = .back (Cu n we X LI BI FI PI)::k')(hP:PI i)(hL:Bi (LI i) L)(hB:∀w,Wd we X B F w->Wd we X (BI i) (FI i) w):Run P n we X Q k L B F :=
 fun a w ha hw=>cO 200 (by rw [h];exact ⟨i,hP,ha.sub hL,hB w hw⟩)
end
end
section
open Go Go.RowKit
def Dn (P:Program)(t:TypeId):Bool :=
  match P.underlying t with
  | some (.map k e)=>match P.underlying k,dZ P e with
    | some (.int .i64),some (.bool false)=>true
    | _,_=>false
  | _=>false
theorem Hg {P:Program}{t:TypeId}(h:Dn P t=true):∃k e,P.underlying t=some (.map k e)/\P.underlying k=some (.int .i64)/\dZ P e=some (.bool false):=by
 grind [Dn]
def TY (es:List MapEntry)(S:List Int):Prop:=(∀e∈es,∃x∈S,e.key = .int .i64 x/\e.val = .bool true) /\ ∀x∈S,∃e∈es,e.key = .int .i64 x
theorem pO (x:Int):∀ (es:List MapEntry) (i:Nat),(∀e∈es,∃y,e.key = .int .i64 y/\e.val = .bool true) ->
 ((∃e∈es,e.key = .int .i64 x) /\ ∃j,i<=j/\Instr.findNow (.int .i64) (.int .i64 x) es i=some (some (j,.bool true))/\(es[j-i]?).map (·.key)=some (.int .i64 x)) ∨
 ((¬ ∃e∈es,e.key = .int .i64 x)/\Instr.findNow (.int .i64) (.int .i64 x) es i=some none)
 | [],i,h => .inr ⟨bC,rfl⟩
 | e::es,i,h=>by
  obtain ⟨y,hy,hv⟩:=h e bC
  by_cases hxy:x=y
  .
   subst hxy
   refine .inl ⟨⟨e,bC,hy⟩,i,Nat.le_refl _,?_,by simp [hy]⟩
   simp [Instr.findNow,Instr.sameNow,hy,hv]
  have hne:(x==y)=false:=by simpa using hxy
  rcases pO x es (i+1) (fun e he=>h e (by simp [he])) with ⟨⟨e',he',hk⟩,j,hj,hf,hg⟩ | ⟨hn,hf⟩
  .
   refine .inl ⟨⟨e',by simp [he'],hk⟩,j,ae,?_,?_⟩
   .simp [Instr.findNow,Instr.sameNow,hy,hne,hf]
   have:j-i=(j-(i+1))+1:=ae
   rw [this];simpa using hg
  refine .inr ⟨?_,by simp [Instr.findNow,Instr.sameNow,hy,hne,hf]⟩
  rintro ⟨e',he',hk⟩
  rcases List.mem_cons.1 he' with rfl|he'
  .rw [hy] at hk;injection hk with _ hk;exact hxy hk.symm
  exact hn ⟨e',he',hk⟩
def ah.rU (b:Nat)(S:List Int):ah:=⟨[b],fun w => ∃es c,w.heap[b]? = some (.map es c)/\TY es.toList S,fun w w' h=>fun ⟨es,c,h1,h2⟩=>⟨es,c,(h b (by simp)).trans h1,h2⟩⟩
section
variable {P:Program} {n:Nat} {we:World} {X:List Nat} {Q:Exit->Act->World->Prop} {k k':List It} {L:Fm} {B F:List ah} {ops rest:List Oper}
variable {dst:Option Nat} {d:Nat} {ty:TypeId} {pos:String} {dr:Array Edge} {g:Option (Nat×Bool)} {v:Value}
variable {x y m:Operand} {t:TypeId}
theorem Bj (em:Bool){kt:TypeId}{z:Int}(w:World)(h:P.underlying kt=some (.int .i64)):(Instr.checkKey em 10000 kt (.int .i64 z)).run P w = .ok () w:=MapKept.run_checkKey h eF em 9999
theorem NM {z:Int}(w:World):(Instr.keyThatStays (.int .i64 z) (.int .i64 z)).run P w = .ok (.int .i64 z) w:=MapKept.run_keyThatStays (d:= .int .i64) eF
theorem q.look {b:Nat}{S:List Int}{z:Int}(i:Nat)(hB:B[i]? = some (ah.rU b S))(hm:ev L m=some (.map (some b)))(hy:ev L y=some (.int .i64 z))(ht:Dn P t=true):Qt P n we X L B F (.lookup t m y false) ty (.bool (decide (z∈S))):=fun _ _ _ _ a w ha hw=>by
 obtain ⟨es,c,h1,h2,h3⟩:=hw.b i hB
 obtain ⟨kt,e,hu,hk,hz⟩:=Hg ht
 have hf:∀e∈es.toList,∃y,e.key = .int .i64 y/\e.val = .bool true:=fun e he=>by grind
 simp only [execOp,ha.ev hm,ha.ev hy,Instr.lookup,Sem.run_bind,run_underlying hu,Result.andThen_ok,MapKept.run_getObj_map h1,Sem.run_pure,Bj _ w hk,Instr.findKey,run_underlying hk]
 rcases pO z es.toList 0 hf with ⟨⟨e',he',hk'⟩,j,_,hf,_⟩ | ⟨hn,hf⟩
 .
  have hS:z∈S:=au
  simp_all
 have hS:¬ z∈S:=fun hz=>hn (h3 z hz)
 rw [hf];simp [hS,nD (P:=P) w hz]
theorem q.P1 {b:Nat}{S:List Int}{z:Int}{r:Bool}(i:Nat)(hB:B[i]? = some (ah.rU b S))(hm:ev L m=some (.map (some b)))(hy:ev L y=some (.int .i64 z))(ht:Dn P t=true)(hr:decide (z∈S)=r):Qt P n we X L B F (.lookup t m y false) ty (.bool r):=hr▸q.look i hB hm hy ht
theorem s.mk (hd:Nat.blt d n=true):Stp P n we X L B F ⟨some d,.makeMap t none,ty,pos,dr,g⟩ (fun b:Nat=>(d,.map (some b))::L) (fun b=>ah.rU b []::B) (fun _=>F):=by
 intro K Q' a w ha hw hK
 unfold Oper.wp
 have hrun:(execOp a.eval ⟨some d,.makeMap t none,ty,pos,dr,g⟩).run P w = .ok (.value (.map (some w.heap.size))) (w.alloc (.map #[] 0)):=by
  rfl
 rw [hrun,Oper.upon_value]
 exact hK _ _ _ (ha.put d _ hd) (hw.alloc (r:=ah.rU w.heap.size []) ⟨#[],0,heap_alloc_new w _,by simp [TY]⟩ rfl)
theorem Dp (w:World)(b:Nat)(o:Obj):lL [b] w { w with heap:=w.heap.setIfInBounds b o}:=⟨rfl,rfl,rfl,bC,fun k hk hn=>by
 grind⟩
theorem Hh {b:Nat}{S:List Int}{z:Int}{w:World}(ht:Dn P t=true)(h:(ah.rU b S).ok w):∃w',(Instr.mapUpdate t (.map (some b)) (.int .i64 z) (.bool true)).run P w = .ok () w'/\lL [b] w w'/\(ah.rU b (z::S)).ok w':=by
 obtain ⟨es,c,h1,h2,h3⟩:=h
 obtain ⟨kt,e,hu,hk,hz⟩:=Hg ht
 have hlt:b<w.heap.size:=(Array.getElem?_eq_some_iff.1 h1).1
 have hf:∀e∈es.toList,∃y,e.key = .int .i64 y/\e.val = .bool true:=fun e he=>by grind
 rcases pO z es.toList 0 hf with ⟨⟨e',he',hk'⟩,j,_,hf,hj⟩ | ⟨hn,hf⟩
 .
  have hj':(es[j]?).map (·.key)=some (.int .i64 z):=au
  refine ⟨_,?_,Dp w b (.map (es.modify j fun e=>{ e with key:= .int .i64 z,val:= .bool true}) c),⟨_,_,(MapKept.heap_set h1).1,?_⟩⟩
  .simp only [Instr.mapUpdate,Sem.run_bind,run_underlying hu,Result.andThen_ok,MapKept.run_getObj_map h1,Bj _ w hk,Instr.findKey,run_underlying hk,hf,Sem.run_pure,hj',Option.getD_some,NM w,MapKept.run_setObj_map _ h1]
  have hS:z∈S:=au
  have hg:∀e∈(es.modify j fun e=>{ e with key:= .int .i64 z,val:= .bool true}).toList,∃x∈z::S,e.key = .int .i64 x/\e.val = .bool true:=by
   grind [List.mem_iff_getElem?,Array.toList_modify,List.mem_of_getElem?]
  refine ⟨hg,fun x hx=>?_⟩
  have hx':x∈S:=au
  obtain ⟨e0,he0,hke⟩:=h3 x hx'
  obtain ⟨i,hi⟩:=List.mem_iff_getElem?.1 he0
  by_cases hij:j=i
  .
   subst hij
   have hxz:x=z:=by
    grind
   refine ⟨{ e0 with key:= .int .i64 z,val:= .bool true},List.mem_of_getElem? (i:=j) ?_,au⟩
   grind
  refine ⟨e0,List.mem_of_getElem? (i:=i) ?_,hke⟩
  grind
 refine ⟨_,?_,Dp w b (.map (es.push { key:= .int .i64 z,val:= .bool true,born:=c}) (c+1)),⟨_,_,(MapKept.heap_set h1).1,?_⟩⟩
 .simp only [Instr.mapUpdate,Sem.run_bind,run_underlying hu,Result.andThen_ok,MapKept.run_getObj_map h1,Bj _ w hk,Instr.findKey,run_underlying hk,hf,Sem.run_pure,MapKept.run_setObj_map _ h1]
 constructor
 .grind
 simp_all
theorem s.Yq {b:Nat}{S:List Int}{z:Int}(i:Nat)(B':List ah)(hB:B[i]? = some (ah.rU b S))(hm:ev L m=some (.map (some b)))(hx:ev L x=some (.int .i64 z))(hy:ev L y=some (.bool true))(ht:Dn P t=true)(hB':B.set i (ah.rU b (z::S))=B') :
 Stp P n we X L B F ⟨none,.mapUpdate t m x y,ty,pos,dr,g⟩ (fun _:Unit=>L) (fun _=>B') (fun _=>F):=by
 intro K Q' a w ha hw hK
 obtain ⟨w',hr,hu,hk⟩:=Hh (P:=P) (z:=z) ht (hw.b i hB)
 unfold Oper.wp
 have hrun:(execOp a.eval ⟨none,.mapUpdate t m x y,ty,pos,dr,g⟩).run P w = .ok .skip w':=by
  simp [execOp,ha.ev hm,ha.ev hx,ha.ev hy,hr]
 rw [hrun,Oper.upon_skip]
 subst hB'
 refine hK () _ _ af (hw.turn hB hu hk (by simp [ah.rU]) (fun k hk=>?_))
 grind [ah.rU,Nat.lt_of_lt_of_le,bD,List.mem_of_getElem?]
theorem s.Wx {b:Nat}{S:List Int}{z:Int}(i:Nat)(B':List ah)(hB:B[i]? = some (ah.rU b S))(hm:ev L m=some (.map (some b)))(hx:ev L x=some (.int .i64 z))(hy:ev L y=some (.bool true))(ht:Dn P t=true)(hB':B.set i (ah.rU b (z::S))=B') :
 Stp P n we X L B F ⟨none,.insert t m x y,ty,pos,dr,g⟩ (fun _:Unit=>L) (fun _=>B') (fun _=>F):=by
 intro K Q' a w ha hw hK
 obtain ⟨w',hr,hu,hk⟩:=Hh (P:=P) (z:=z) ht (hw.b i hB)
 unfold Oper.wp
 have hrun:(execOp a.eval ⟨none,.insert t m x y,ty,pos,dr,g⟩).run P w = .ok .skip w':=by
  simp [execOp,ha.ev hm,ha.ev hx,ha.ev hy,hr]
 rw [hrun,Oper.upon_skip]
 subst hB'
 refine hK () _ _ af (hw.turn hB hu hk (by simp [ah.rU]) (fun k hk=>?_))
 grind [ah.rU,Nat.lt_of_lt_of_le,bD,List.mem_of_getElem?]
end
end
section
open Go Go.RowKit
def d9:List Nat->Bool
  | []=>true
  | i::is => !(is.elem i)&&d9 is
theorem IV {B:List ah}{i:Nat}{r:ah}(hi:B[i]? = some r)(h:(blks B).Nodup):r.blk.Nodup:=by
 induction B generalizing i with
 | nil=>grind
 | cons q B ih =>
  obtain ⟨h1,h2,_⟩:=List.nodup_append.1 h
  grind
theorem xc {B B':List ah}{i:Nat}{is:List Nat}(h:bP B (i::is)=some B'):∃r B'',B[i]? = some r/\bP B is=some B''/\B'=r::B'':=by
 grind [bP]
theorem sX {B:List ah}:∀ {is:List Nat} {B':List ah},bP B is=some B' -> ∀r∈B',∃i∈is,B[i]? = some r
 | [],B',h,r,hr=>by simp [bP] at h;subst h;simp at hr
 | i::is,B',h,r,hr=>by
  obtain ⟨r0,B'',h1,h2,rfl⟩:=xc h
  rcases List.mem_cons.1 hr with rfl|hr
  .exact ⟨i,bC,h1⟩
  obtain ⟨j,hj,hq⟩:=sX h2 r hr;exact ⟨j,by simp [hj],hq⟩
theorem pP {B:List ah}(hn:(blks B).Nodup):∀ {is:List Nat} {B':List ah},bP B is=some B'->d9 is=true->(blks B').Nodup
 | [],B',h,_=>by grind [bP,blks]
 | i::is,B',h,ha=>by
  obtain ⟨r,B'',h1,h2,rfl⟩:=xc h
  simp only [d9,Bool.and_eq_true,Bool.not_eq_true'] at ha
  refine List.nodup_append.2 ⟨IV h1 hn,pP hn h2 ha.2,fun a ha' b hb e=>?_⟩
  grind [bD,sX,ic,List.elem_eq_contains]
theorem Wd.KH {we w:World}{X:List Nat}{B F B' F':List ah}(is js:List Nat)(hi:bP B is=some B')(hj:bP F js=some F')(ha:d9 is=true)(hw:Wd we X B F w):Wd we X B' F' w:=by
 have hm:∀r∈B',r∈B:=fun r hr=>by grind [sX,List.mem_of_getElem?]
 have hF:=nG hj
 have hb:∀k∈blks B',k∈blks B:=fun k hk=>by grind [bD]
 exact ⟨hw.upd,fun r h=>hw.okB r (hm r h),fun r h=>hw.okF r (hF r h),pP hw.sep hi ha,fun k hk=>hw.own k (hb k hk),fun k hk=>by
  obtain ⟨r,hr,hk⟩:=bD.1 hk
  have:=hw.lU k (bD.2 ⟨r,hF r hr,hk⟩)
  grind⟩
theorem Tf{we:World}{X:List Nat}{B F B' F':List ah}(is js:List Nat)(hi:bP B is=some B')(hj:bP F js=some F')(ha:d9 is=true):∀w,Wd we X B F w->Wd we X B' F' w:=fun _=>Wd.KH is js hi hj ha
theorem Wd.pk {we w:World}{X:List Nat}{B F B' F':List ah}(is js:List Nat)(h:(bP B is,bP F js,d9 is)=(some B',some F',true))(hw:Wd we X B F w):Wd we X B' F' w:=by
 injection h with h1 h2;injection h2 with h2 h3;exact hw.KH is js h1 h2 h3
theorem ck{we:World}{X:List Nat}{B F B' F':List ah}(is js:List Nat)(h:(bP B is,bP F js,d9 is)=(some B',some F',true)):∀w,Wd we X B F w->Wd we X B' F' w:=fun _=>Wd.pk is js h
theorem Wd.NN {we w:World}{X:List Nat}{B F B':List ah}(is:List Nat)(hi:bP B is=some B')(ha:d9 is=true)(hw:Wd we X B F w):Wd we X B' F w:=by
 have hm:∀r∈B',r∈B:=fun r hr=>by grind [sX,List.mem_of_getElem?]
 have hb:∀k∈blks B',k∈blks B:=fun k hk=>by grind [bD]
 exact ⟨hw.upd,fun r h=>hw.okB r (hm r h),hw.okF,pP hw.sep hi ha,fun k hk=>hw.own k (hb k hk),fun k hk=>⟨(hw.lU k hk).1,fun h=>(hw.lU k hk).2 (hb k h)⟩⟩
structure Hnd (B0:List ah)(w:World):Prop where
  ok:∀r∈B0,r.ok w
  sep:(blks B0).Nodup
  lt:∀k∈blks B0,k<w.heap.size
structure Turned (B0 B1:List ah)(w w':World):Prop where
  upd:lL (blks B0) w w'
  ok:∀r∈B1,r.ok w'
  sep:(blks B1).Nodup
  own:∀k∈blks B1,k<w'.heap.size/\(k∈blks B0∨w.heap.size<=k)
def ah.all (B:List ah):ah:=⟨blks B,fun w => ∀r∈B,r.ok w,fun w w' h ho r hr=>r.loc w w' (fun k hk=>h k (bD.2 ⟨r,hr,hk⟩)) (ho r hr)⟩
theorem Wd.gather {we w:World}{X:List Nat}{B0 Br F:List ah}(hw:Wd we X (B0++Br) F w):Wd we X (ah.all B0::Br) F w:=by
 have e:blks (ah.all B0::Br)=blks (B0++Br):=by rw [bf];rfl
 exact ⟨hw.upd,fun r hr=>(List.mem_cons.1 hr).elim (fun h=>h▸fun q hq=>hw.okB q (List.mem_append.2 (.inl hq))) fun h=>hw.okB r (List.mem_append.2 (.inr h)),hw.okF,e▸hw.sep,e▸hw.own,e▸hw.lU⟩
theorem Wd.NP {we w:World}{X:List Nat}{B0 Br F:List ah}(hw:Wd we X (ah.all B0::Br) F w):Wd we X (B0++Br) F w:=by
 have e:blks (ah.all B0::Br)=blks (B0++Br):=by rw [bf];rfl
 exact ⟨hw.upd,fun r hr=>(List.mem_append.1 hr).elim (fun h=>hw.okB (ah.all B0) (List.mem_cons_self ..) r h) fun h=>hw.okB r (List.mem_cons_of_mem _ h),hw.okF,e▸hw.sep,e▸hw.own,e▸hw.lU⟩
theorem Wd.turned {we w w':World}{X:List Nat}{B0 B1 Br F:List ah}(hw:Wd we X (B0++Br) F w)(h:Turned B0 B1 w w'):Wd we X (B1++Br) F w' :=
 (hw.gather.turn (i:=0) (r:=ah.all B0) (r':=ah.all B1) rfl h.upd h.ok h.sep h.own).NP
theorem Wd.held {we w:World}{X:List Nat}{B0 Br F:List ah}(hw:Wd we X (B0++Br) F w):Hnd B0 w :=
 ⟨fun r hr=>hw.okB r (List.mem_append.2 (.inl hr)),by have:=hw.sep;grind [bf,List.nodup_append],fun k hk=>(hw.own k (by grind [bf])).1⟩
def ah.ls {α:Type}[Enc α](v:Value)(l:List α):ah:=⟨if l.isEmpty then [] else eA v,fun w=>Sl w v l,fun w w' h hs=>by
  cases l with
  | nil =>
    obtain ⟨A,c,rfl,h1,h2,h3⟩:=hs
    exact ⟨A,c,rfl,h1,h2,fun i x hx=>by grind⟩
  | cons y l=>grind [Ky]⟩
theorem Wd.cq {we w:World}{X:List Nat}{B F:List ah}{α:Type}[Enc α]{v:Value}{l:List α}(i:Nat)(h:F[i]? = some (ah.ls v l))(hw:Wd we X B F w):Sl w v l:=hw.f i h
theorem zw{we:World}{X:List Nat}{B F:List ah}{α:Type}[Enc α]{v:Value}{l:List α}(i:Nat)(h:F[i]? =some (ah.ls v l)):∀w,Wd we X B F w->Sl w v l:=fun _=>Wd.cq i h
theorem P2 {w:World}{α:Type}[Enc α]{v:Value}{l:List α}(h:Sl w v l):∀k∈(ah.ls v l).blk,k<w.heap.size:=fun k hk=>by
 cases l with
 | nil=>grind [ah.ls]
 | cons y l =>
  obtain ⟨A,c,rfl,h1,h2,h3⟩:=h
  obtain ⟨b,off,rfl,hb,_⟩:=h3 0 y rfl
  grind [ah.ls,eA]
section
variable {P:Program} {n:Nat} {we:World} {X:List Nat} {Q:Exit->Act->World->Prop} {k k':List It} {L:Fm} {B F:List ah} {ops rest:List Oper}
variable {dst:Option Nat} {d:Nat} {ty:TypeId} {pos:String} {dr:Array Edge} {g:Option (Nat×Bool)} {v:Value}
variable {x y:Operand} {xT yT t e:TypeId} {α:Type} [Enc α] {l:List α}
theorem s.KJ {β:Type}{f:FuncId}{c:Operand}{xs:Array Operand}{ts:Array TypeId}{vs:List Value}{cap:Array Value}{B0 Br:List ah}(is:List Nat)(G:β->Value)(B1:β->List ah)(hp:bP B is=some (B0++Br))(ha':d9 is=true)
 (eg:∀args w,(callFunc f args).run P w = .ok (.enter f args) w) (hargs:evs L xs.toList=some vs) (hc:ev L c=some (.func (.func f) #[] cap))
 (hcall:∀w,Wd we X B F w->Hnd B0 w->Calls P f (vs++cap.toList).toArray w fun e w' => ∃z,e = .returned (G z)/\Turned B0 (B1 z) w w') (hd:Nat.blt d n=true) :
 Stp P n we X L B F ⟨some d,.call { callee:= .value c,args:=xs,argTypes:=ts},ty,pos,dr,g⟩ (fun z=>(d,G z)::L) (fun z=>B1 z++Br) (fun _=>F):=by
 intro K Q' a w ha hw hK
 have hw2:=hw.NN is hp ha'
 unfold Oper.wp
 rw [pL ha hargs hc eg,Oper.upon_enter]
 refine (hcall w hw hw2.held).mono fun e w' he=>?_
 obtain ⟨z,rfl,ht⟩:=he
 exact hK z _ _ (ha.put d _ hd) (hw2.turned ht)
theorem q.ui {a:Addr}(hx:ev L x=some (.pointer (some a))):Qt P n we X L B F (.nilCheck x) ty (.pointer (some a)):=fun _ _ _ _ q w ha hw=>by
 simp [execOp,ha.ev hx]
theorem q.max {kd:IntKind}{a b r:Int}{ts:Array TypeId}(hx:ev L x=some (.int kd a))(hy:ev L y=some (.int kd b))(hr:max a b=r):Qt P n we X L B F (.call { callee:= .builtin .max,args:= #[x,y],argTypes:=ts}) ty (.int kd r):=fun _ _ _ _ q w ha hw=>by
 have e:(if b>a then b else a)=r:=ae
 simp [execOp,resolve,invoke,builtin,ha.ev hx,ha.ev hy,Builtin.max_,Builtin.max2,e]
theorem q.cat {a b:ByteArray}(hx:ev L x=some (.string a))(hy:ev L y=some (.string b))(h:a.size+b.size<=9223372036854775807):Qt P n we X L B F (.binOp .add xT x y yT) ty (.string (a++b)):=fun _ _ _ _ q w ha hw=>by
 have:¬ ((a.size+b.size:Nat):Int)>IntKind.i64.max:=by
  have:IntKind.i64.max=9223372036854775807:=eF
  omega
 simp only [execOp,ha.ev hx,ha.ev hy,binOp,Op.stringOp]
 simp_all [eqGuard,if_neg]
theorem q.Wy {m:Int}(hx:ev L x=some (bN m))(hm:¬ m=0)(ht:P.underlying 95=some (.int .i64)):Qt P n we X L B F (.typeAssert x xT 95 true) ty (.tuple #[.int .i64 m,.bool true]):=fun _ _ _ _ q w ha hw=>by
 rw [sS hm] at hx
 simp [execOp,ha.ev hx,Instr.typeAssert,run_underlying ht]
instance:Enc UInt8:=⟨1,fun b=>[.int .u8 (b.toNat:Int)],fun _=>rfl,fun _ u hu=>by simp at hu;subst hu;rfl,by decide⟩
theorem q.jg {l:List UInt8}(hs:∀w,Wd we X B F w->Sl w v l)(hx:ev L x=some v)(h1:lV P xT=some (e,1))(h2:P.underlying e=some (.int .u8))(h3:P.underlying yT=some .string):Qt P n we X L B F (.convert xT yT x) ty (.string ⟨l.toArray⟩):=fun _ _ _ _ q w ha hw=>by
 obtain ⟨A,c,rfl,hl,hm,hc⟩:=hs w hw
 obtain ⟨hu,_⟩:=eE (P:=P) w h1
 cases l with
 | nil =>
  have:(convert xT yT (.slice A 0 c)).run P w = .ok (.string ⟨#[]⟩) w:=by
   cases A with
   | none=>rw [run_convert_bytes_string w xT yT e none 0 c hu h2 h3];rfl
   | some A=>grind [run_convert_bytes_back]
  have hx':ev L x=some (.slice A 0 c):=hx
  simp only [execOp,ha.ev hx',Sem.run_bind,this,Result.andThen_ok,Sem.run_pure]
 | cons b l =>
  obtain ⟨bk,off,rfl,hb,_⟩:=hc 0 b rfl
  have:=run_convert_bytes_back (P:=P) w xT yT e ⟨bk,off,none⟩ c (b::l) hu h2 h3 (fun j hj=>by
   obtain ⟨b',off',hA,_,hcc⟩:=hc j (b::l)[j] (List.getElem?_eq_getElem hj)
   injection hA with hA;injection hA with hb1 ho1;subst hb1;subst ho1
   have:=hcc 0 _ (show (Enc.cells (b::l)[j])[0]? = some (.int .u8 ((b::l)[j].toNat:Int)) from rfl)
   simp_all [Enc.k,addr_add])
  simp only [execOp,ha.ev hx,Sem.run_bind,this,Result.andThen_ok,Sem.run_pure]
theorem Aa:∀m,(List.replicate m (0:UInt8)).flatMap Enc.cells=List.replicate m (Value.int .u8 0)
 | 0=>rfl
 | m+1=>by rw [List.replicate_succ,List.flatMap_cons,Aa m];rfl
theorem s.Wz {m:Nat}{i0:TypeInfo}{kd:IntKind}{y:Operand}(ht:lV P t=some (e,1))(hi:P.info? e=some i0)(hz:i0.zero=some (.int .u8 0))(hb:i0.bytes=1)(hx:ev L x=some (.int kd (m:Int)))(hy:ev L y=some (.int kd (m:Int)))(hm:m<=10000000)(hd:Nat.blt d n=true) :
 Stp P n we X L B F ⟨some d,.makeSlice t x y,ty,pos,dr,g⟩ (fun b:Nat=>(d,.slice (some ⟨b,0,none⟩) m m)::L) (fun b=>ah.row e (.slice (some ⟨b,0,none⟩) m m) (List.replicate m (0:UInt8))::B) (fun _=>F):=by
 intro K Q' a w ha hw hK
 obtain ⟨hu,hsz⟩:=eE (P:=P) w ht
 have hsize:i0.size=1:=by
  grind [lV]
 have hml:m<=maxLen:=by grind [maxLen]
 obtain ⟨w',hr,how,hg⟩:=run_makeSlice_full (P:=P) w 0 t e i0 (.int .u8 0) 1 hu hi hz hsize kd kd m ae au hml (Nat.zero_le _)
 have hrun:(execOp a.eval ⟨some d,.makeSlice t x y,ty,pos,dr,g⟩).run P w = .ok (.value (.slice (some ⟨w.heap.size,0,none⟩) m m)) w':=by
  simp [execOp,ha.ev hx,ha.ev hy,hr]
 unfold Oper.wp
 rw [hrun,Oper.upon_value]
 have hcells:(madeCells (Value.cells (.int .u8 0)) (m*1)).toList=(List.replicate m (0:UInt8)).flatMap Enc.cells:=by
  have h1:=Aa m
  rw [h1]
  simp only [madeCells,Nat.mul_one]
  refine List.ext_getElem bC (fun i h1 h2=>?_)
  simp [Value.cells,Nat.mod_one]
 rw [hcells] at how
 have hup:lL [] w w':=⟨hg.os,hg.tape,hg.output,hg.size,fun k hk _=>hg.block k hk bC⟩
 have hlt:w.heap.size<w'.heap.size:=by
  rcases how.2 with ⟨h,_⟩ | ⟨gb,cap,cur,h,_,hgg,_⟩
  .grind
  grind
 refine hK _ _ _ (ha.put d _ hd) ((hw.grow hup).new (r:=ah.row e (.slice (some ⟨w.heap.size,0,none⟩) m m) (List.replicate m (0:UInt8))) ?_ (by simp [ah.row,eA]) (fun k hk=>?_))
 .
  show Own 0 e w' _ _
  unfold Own;rw [List.length_replicate];omega
 simp [ah.row,eA] at hk;subst hk
 exact ⟨hlt,hw.upd.size,fun h=>by have:=(hw.own _ h).1;omega,fun h=>by have:=(hw.lU _ h).1;omega⟩
theorem sY (cs us:List Value)(o m:Nat)(h:o+us.length<=m)(hm:m<=cs.length):(cs.take o++us++cs.drop (o+us.length)).take m=(cs.take m).take o++us++(cs.take m).drop (o+us.length):=by
 rw [List.take_take,Nat.min_eq_left ae,List.append_assoc,List.append_assoc,List.take_append,List.take_append,List.length_take,Nat.min_eq_left ae,List.take_of_length_le (l:=cs.take o) au,List.take_of_length_le (l:=us) ae,List.drop_take]
 grind
theorem xd:∀ (l:List α) (j:Nat) (z:α),j<l.length->(l.set j z).flatMap Enc.cells=(l.flatMap Enc.cells).take (j*Enc.k α)++Enc.cells z++(l.flatMap Enc.cells).drop (j*Enc.k α+Enc.k α)
 | [],j,z,h=>by grind
 | y::l,0,z,h=>by
  have:=Enc.len y
  grind
 | y::l,j+1,z,h=>by
  have hy:=Enc.len y
  have ih:=xd l j z au
  simp only [List.set_cons_succ,List.flatMap_cons,ih]
  have e1:(j+1)*Enc.k α=Enc.k α+j*Enc.k α:=au
  rw [e1,<- hy,List.take_length_add_append]
  have e2:(Enc.cells y).length+j*(Enc.cells y).length+(Enc.cells y).length=(Enc.cells y).length+(j*(Enc.cells y).length+(Enc.cells y).length):=ae
  rw [e2,List.drop_length_add_append];grind
theorem s.Tg {j:Nat}{z z':α}{u:Value}{us:List Value}(i:Nat)(B':List ah)(hB:B[i]? = some (ah.row e v l))(hj:l[j]? = some z')(hx:ev L x=some (ep v j (Enc.k α) 0))(hy:ev L y=some u)(hu:u.cells=us.toArray)(V8:us=Enc.cells z)
 (ht:(iP P xT=some us.length∨eX P xT=true/\us.length=1)) (hB':B.set i (ah.row e v (l.set j z))=B') :
 Stp P n we X L B F ⟨none,.store xT x y,ty,pos,dr,g⟩ (fun _:Unit=>L) (fun _=>B') (fun _=>F):=by
 intro K Q' a w ha hw hK
 have hjl:j<l.length:=(List.getElem?_eq_some_iff.1 hj).1
 have how:Own 0 e w v l:=hw.b i hB
 obtain ⟨hlen,hn|⟨gb,cap,cur,rfl,_,hgg,hnc,hcm,hcs,htk⟩⟩:=how
 .omega
 have hk:us.length=Enc.k α:=by rw [V8,Enc.len]
 have hjk:j*Enc.k α+us.length<=l.length*Enc.k α:=by
  rw [hk];have:(j+1)*Enc.k α<=l.length*Enc.k α:=Nat.mul_le_mul_right _ hjl
  grind
 have hlc:l.length*Enc.k α<=cap*Enc.k α:=Nat.mul_le_mul_right _ hnc
 have hsz:(sizeOf xT).run P w = .ok us.length w:=by
  rcases ht with h|⟨h,h'⟩
  .exact (wn (P:=P) w h).2
  rw [h'];exact (wq (P:=P) w h).2
 have hst:=run_storeCells_at P gb (j*Enc.k α) e us 0 cur w hgg ae (fun v hv=>Enc.one z v (V8▸hv))
 have hrun:(execOp a.eval ⟨none,.store xT x y,ty,pos,dr,g⟩).run P w = .ok .skip (w.setRow gb (cur.toList.take (j*Enc.k α)++us++cur.toList.drop (j*Enc.k α+us.length)).toArray):=by
  simp only [execOp,ha.ev hx,ha.ev hy,ep,Instr.storeAt,Instr.sureAddr,storeVar,hu,Sem.run_bind,Sem.run_pure,Result.andThen_ok,hsz]
  simp_all
 unfold Oper.wp
 rw [hrun,Oper.upon_skip]
 subst hB'
 refine hK () _ _ af (hw.turn hB (oq w gb _) ?_ (by simp [ah.row,eA]) (fun k hk'=>?_))
 .
  have hfl:(l.set j z).flatMap Enc.cells=(l.flatMap Enc.cells).take (j*Enc.k α)++us++(l.flatMap Enc.cells).drop (j*Enc.k α+us.length):=by
   grind [Enc.len,xd]
  refine ⟨au,.inr ⟨gb,cap,_,bC,Nat.zero_le _,setRow_heap w gb _ _ e _ hgg,au,hcm,?_,?_⟩⟩
  .grind
  rw [hfl]
  have h1:(l.flatMap Enc.cells).length=l.length*Enc.k α:=dL l
  rw [<- htk]
  simp only [List.length_set]
  exact sY _ _ _ _ ae au
 grind [ah.row,eA,World.setRow,Array.getElem?_eq_some_iff]
theorem s.copy {u:Value}{l2:List α}{A:TypeId}(i:Nat)(B':List ah)(hB:B[i]? = some (ah.row e v l))(hs:∀w,Wd we X B F w->Sl w u l2)(hx:ev L x=some v)(hy:ev L y=some u)(hk:Enc.k α=1)(ht:lV P t=some (e,1))(hlen:l.length=l2.length)(hB':B.set i (ah.row e v l2)=B')(hd:Nat.blt d n=true) :
 Stp P n we X L B F ⟨some d,.call { callee:= .builtin .copy,args:= #[x,y],argTypes:= #[t,A]},ty,pos,dr,g⟩ (fun _:Unit=>(d,.int .i64 l2.length)::L) (fun _=>B') (fun _=>F):=by
 intro K Q' a w ha hw hK
 obtain ⟨hu,hsz⟩:=eE (P:=P) w ht
 have hsize:(P.info? e).map (·.size)=some 1:=by
  simp_all [lV]
 have how:Own 0 e w v l:=hw.b i hB
 obtain ⟨hl0,hn|⟨gb,cap,cur,rfl,_,hgg,hnc,hcm,hcs,htk⟩⟩:=how
 .
  obtain ⟨rfl,hl⟩:=hn
  have hl':l=[]:=List.eq_nil_of_length_eq_zero hl
  subst hl'
  have hl2:l2=[]:=List.eq_nil_of_length_eq_zero ae
  subst hl2
  obtain ⟨A2,c,rfl,h1,h2,h3⟩:=hs w hw
  have hcp:=run_copy_none (P:=P) w t A ty e none A2 0 0 0 c hu hsize bC
  have hrun:(execOp a.eval ⟨some d,.call { callee:= .builtin .copy,args:= #[x,y],argTypes:= #[t,A]},ty,pos,dr,g⟩).run P w = .ok (.value (.int .i64 0)) w:=by
   have hy':ev L y=some (.slice A2 0 c):=hy
   simp [execOp,resolve,invoke,builtin,ha.ev hx,ha.ev hy',hcp,goInt]
  unfold Oper.wp
  rw [hrun,Oper.upon_value]
  refine hK () _ _ (ha.put d _ hd) ?_
  have:B.set i (ah.row e (.slice none 0 0) ([]:List α))=B:=List.ext_getElem? fun j=>by
   grind
  grind
 have h2:=hs w hw
 obtain ⟨A2,c,rfl,h21,h22,h23⟩:=h2
 have hfl:(l2.flatMap Enc.cells).length=l2.length:=by rw [dL,hk,Nat.mul_one]
 by_cases he:l2=[]
 .
  subst he
  have hl':l=[]:=List.eq_nil_of_length_eq_zero ae
  subst hl'
  have hcp:=run_copy_none (P:=P) w t A ty e (some ⟨gb,0,none⟩) A2 0 cap 0 c hu hsize bC
  have hrun:(execOp a.eval ⟨some d,.call { callee:= .builtin .copy,args:= #[x,y],argTypes:= #[t,A]},ty,pos,dr,g⟩).run P w = .ok (.value (.int .i64 0)) w:=by
   have hy':ev L y=some (.slice A2 0 c):=hy
   have hx':ev L x=some (.slice (some ⟨gb,0,none⟩) 0 cap):=hx
   simp [execOp,resolve,invoke,builtin,ha.ev hx',ha.ev hy',hcp,goInt]
  unfold Oper.wp
  rw [hrun,Oper.upon_value]
  refine hK () _ _ (ha.put d _ hd) ?_
  have:B.set i (ah.row e (.slice (some ⟨gb,0,none⟩) ([]:List α).length cap) ([]:List α))=B:=List.ext_getElem? fun j=>by
   grind
  grind
 obtain ⟨y0,hy0⟩:∃y0,l2[0]? = some y0:=⟨_,List.getElem?_eq_getElem au⟩
 obtain ⟨b2,off,rfl,hb2,_⟩:=h23 0 y0 hy0
 have hsrc:∀j u,(l2.flatMap Enc.cells)[j]? = some u->w.cell? ((⟨b2,off,none⟩:Addr).add j)=some u:=fun j u hj=>by
  grind [lW,addr_add,Nat.add_assoc]
 have hcap:cur.size=cap:=au
 have hcp:=run_copy_row (P:=P) w t A ty e gb 0 l.length cap ⟨b2,off,none⟩ l2.length c cur e (l2.flatMap Enc.cells) hu hsize hgg au hsrc ae (kK l2)
 have hrun:(execOp a.eval ⟨some d,.call { callee:= .builtin .copy,args:= #[x,y],argTypes:= #[t,A]},ty,pos,dr,g⟩).run P w = .ok (.value (.int .i64 l2.length)) (w.setRow gb (cur.toList.take 0++l2.flatMap Enc.cells++cur.toList.drop (0+(l2.flatMap Enc.cells).length)).toArray):=by
  simp only [execOp,Sem.run_bind,resolve,invoke,builtin,ha.ev hx,ha.ev hy,Sem.run_pure,Result.andThen_ok,List.map_toArray,List.map_cons,List.map_nil]
  simp_all [goInt]
 unfold Oper.wp
 rw [hrun,Oper.upon_value]
 subst hB'
 refine hK () _ _ (ha.put d _ hd) (hw.turn hB (oq w gb _) ?_ (by simp [ah.row,eA]) (fun k hk'=>?_))
 .
  refine ⟨au,.inr ⟨gb,cap,_,au,Nat.zero_le _,setRow_heap w gb _ _ e _ hgg,ae,hcm,?_,?_⟩⟩
  .grind
  simp_all
 grind [ah.row,eA,World.setRow,Array.getElem?_eq_some_iff]
end
end
end Go.Proofs.YtnmpibjlnninjaaGreatDoor
