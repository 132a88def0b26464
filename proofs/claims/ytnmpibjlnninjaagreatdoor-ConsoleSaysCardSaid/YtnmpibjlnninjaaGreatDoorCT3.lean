import Derived.Test.YtnmpibjlnninjaaGreatDoorCT2
import Derived.WideLaws
import Derived.LaidEql
import Derived.LoopN
import Derived.Laws.BitsAllLaws
import Derived.Laws.Tables
namespace Go.Proofs.YtnmpibjlnninjaaGreatDoor
set_option linter.unusedVariables false
set_option linter.unusedSimpArgs false
set_option maxRecDepth 100000
set_option maxHeartbeats 90000000
open Go Go.RowKit
theorem wr {n r:Int}(h:n=r /\ -9223372036854775808<=r/\r<=9223372036854775807):IntKind.i64.wrap n=r:=by
 grind [IntKind.wrap_i64]
theorem q.iA {P:Program}{n:Nat}{we:World}{X:List Nat}{L:Fm}{B F:List ag}{x y:Operand}{xT yT ty:TypeId}{m l r:Int}(hx:ev L x=some (.int .i64 m))(hy:ev L y=some (.int .i64 l))(h:m+l=r /\ -9223372036854775808<=r/\r<=9223372036854775807:=by omega):Qt P n we X L B F (.binOp .add xT x y yT) ty (.int .i64 r):=q.add hx hy (wr h)
theorem q.lG {P:Program}{n:Nat}{we:World}{X:List Nat}{L:Fm}{B F:List ag}{x y:Operand}{xT yT ty:TypeId}{m l r:Int}(hx:ev L x=some (.int .i64 m))(hy:ev L y=some (.int .i64 l))(h:m-l=r /\ -9223372036854775808<=r/\r<=9223372036854775807:=by omega):Qt P n we X L B F (.binOp .sub xT x y yT) ty (.int .i64 r):=q.sub hx hy (wr h)
theorem q.ut {P:Program}{n:Nat}{we:World}{X:List Nat}{L:Fm}{B F:List ag}{x y:Operand}{xT yT ty:TypeId}{m l r:Int}(hx:ev L x=some (.int .i64 m))(hy:ev L y=some (.int .i64 l))(h:m*l=r /\ -9223372036854775808<=r/\r<=9223372036854775807:=by omega):Qt P n we X L B F (.binOp .mul xT x y yT) ty (.int .i64 r):=q.mul hx hy (wr h)
theorem uu {m l:Int}(h:0<=m/\0<l/\m<=9223372036854775807):IntKind.i64.wrap (m.tdiv l)=m / l:=by
 obtain ⟨h1,h2,h3⟩:=h
 rw [Int.tdiv_eq_ediv_of_nonneg h1,IntKind.wrap_i64]
 have h4:0<=m / l:=Int.ediv_nonneg h1 ae
 have h5:m / l<=m:=Int.ediv_le_self l h1
 omega
theorem tM {m l:Int}(h:0<=m):m.tmod l=m % l:=Int.tmod_eq_emod_of_nonneg h
theorem Sl.fS {α:Type}[Enc α]{w:World}{v:Value}{l:List α}(h:Sl w v l):l.length<=9223372036854775807:=by
 obtain ⟨A,c,_,h1,h2,_⟩:=h
 grind [maxLen]
theorem cv {V V':Value}{P:Program}{f:FuncId}{args:Array Value}{w:World}(h:V=V')(hc:Calls P f args w fun e w'=>e = .returned V/\Ext w w'):Calls P f args w fun e w'=>e = .returned V'/\Ext w w':=h▸hc
theorem vo {n:Int}(h:n=0):Value.nilIface=bQ n:=by subst h;rfl
theorem rC {n m:Int}(hm:m≠0)(h:n=m):Value.iface 95 (.int .i64 m)=bQ n:=by grind [gV]
theorem X5 {a b a' b':Value}(h1:a=a')(h2:b=b'):Value.tuple #[a,b] = .tuple #[a',b']:=az
theorem aaw {a b c a' b' c':Value}(h1:a=a')(h2:b=b')(h3:c=c'):Value.tuple #[a,b,c] = .tuple #[a',b',c']:=az
theorem aax {a b c d a' b' c' d':Value}(h1:a=a')(h2:b=b')(h3:c=c')(h4:d=d'):Value.tuple #[a,b,c,d] = .tuple #[a',b',c',d']:=az
section
variable {we w:World} {X:List Nat} {B F:List ag}
theorem Wd.ownRow {α:Type}[Enc α]{e:TypeId}{v:Value}{l l':List α}(i:Nat)(h:B[i]? = some (ag.row e v l))(hl:l=l')(hw:Wd we [] B F w):Own we.heap.size e w v l':=by
 subst hl
 have h1:Own 0 e w v l:=hw.b i h
 refine ⟨h1.1,?_⟩
 rcases h1.2 with h2|⟨g,cap,cur,rfl,hg,r⟩
 .grind
 refine .inr ⟨g,cap,cur,rfl,?_,r⟩
 have:=(hw.own g (bK.2 ⟨_,List.mem_of_getElem? h,by simp [ag.row,eB]⟩)).2
 grind
end
theorem Wd.tail {we w:World}{X:List Nat}{B F:List ag}{r:ag}(hw:Wd we X (r::B) F w):Wd we X B F w :=
 ⟨hw.upd,fun q hq=>hw.okB q (List.mem_cons_of_mem _ hq),hw.okF,(List.nodup_append.1 hw.sep).2.1,fun k hk=>hw.own k (List.mem_append.2 (.inr hk)),fun k hk=>⟨(hw.nq k hk).1,fun h=>(hw.nq k hk).2 (List.mem_append.2 (.inr h))⟩⟩
def jT (v:Value)(i:Nat):Value:=match v with | .slice A _ c => .slice A i c|_=>undef
theorem Sl.to {α:Type}[Enc α]{w:World}{v:Value}{l:List α}(h:Sl w v l){i:Nat}(hi:i<=l.length):Sl w (jT v i) (l.take i):=by
 obtain ⟨A,c,rfl,h1,h2,h3⟩:=h
 exact Sl.take (⟨A,c,rfl,h1,h2,h3⟩:Sl w (.slice A l.length c) l) hi
def cz (v:Value)(i k:Nat):Value:=match v with | .slice A n c => .slice (if c=i then A else A.map (·.add (i*k))) (n-i) (c-i)|_=>undef
theorem Sl.from {α:Type}[Enc α]{w:World}{v:Value}{l:List α}(h:Sl w v l){i:Nat}(hi:i<=l.length):Sl w (cz v i (Enc.k α)) (l.drop i):=by
 obtain ⟨A,c,rfl,h1,h2,h3⟩:=h
 refine ⟨if c=i then A else A.map (·.add (i*Enc.k α)),c-i,by grind [cz,List.length_drop],az,ae,fun j x hx=>?_⟩
 rw [List.getElem?_drop] at hx
 obtain ⟨b,off,rfl,hb,hc⟩:=h3 (i+j) x hx
 have hlt:i+j<l.length:=(List.getElem?_eq_some_iff.1 hx).1
 refine ⟨b,off+i*Enc.k α,?_,hb,fun q u hu=>?_⟩
 .rw [if_neg ae];simp [addr_add]
 grind
section
variable {P:Program} {n:Nat} {we:World} {X:List Nat} {Q:Exit->Act->World->Prop} {k k':List It} {L:Fm} {B F:List ag} {ops rest:List Oper}
variable {dst:Option Nat} {d:Nat} {op:Op} {ty:TypeId} {pos:String} {dV:Array Edge} {g:Option (Nat×Bool)} {g':Nat×Bool} {v:Value}
variable {x y:Operand} {xT yT e:TypeId} {kd:IntKind} {α:Type} [Enc α] {l:List α}
theorem R.row0 (e:TypeId)(h:Run P n we X Q k L (ag.row e (.slice none 0 0) ([]:List α)::B) F):Run P n we X Q k L B F :=
 fun a w ha hw=>h a w ha (hw.new (r:=ag.row e (.slice none 0 0) ([]:List α)) (Own.nil 0 e w) (by simp [ag.row,eB]) (by simp [ag.row,eB]))
theorem s.app0 {t e:TypeId}{bytes:Nat}{u:Value}{l2:List α}(hx:ev L x=some (.slice none 0 0))(hy:ev L y=some u)(hs:∀w,Wd we X B F w->Sl w u l2)
 (ht:nP P t (Enc.k α)=some (e,bytes)) (hlen:l2.length*bytes<=140737488355328) (hml:l2.length<=9223372036854775807) (hd:Nat.blt d n=true) :
 Stp P n we X L B F ⟨some d,.call { callee:= .builtin .append,args:= #[x,y],argTypes:= #[t,t]},ty,pos,dV,g⟩ (fun z:Value=>(d,z)::L) (fun z=>ag.row e z l2::B) (fun _=>F):=by
 intro K Q' a w ha hw hK
 have hw':Wd we X (ag.row e (.slice none 0 0) ([]:List α)::B) F w:=hw.new (r:=ag.row e (.slice none 0 0) ([]:List α)) (Own.nil 0 e w) (by simp [ag.row,eB]) (by simp [ag.row,eB])
 refine s.app (v:= .slice none 0 0) (l:=([]:List α)) (l2:=l2) (u:=u) (B:=ag.row e (.slice none 0 0) ([]:List α)::B) (F:=F) 0 (fun z=>ag.row e z l2::B) rfl hx hy (fun w h=>hs w h.tail) ht az az (fun z=>rfl) hd K Q' a w ha hw' hK
theorem q.jT {m:Int}{i:Nat}(hs:∀w,Wd we X B F w->Sl w v l)(hx:ev L x=some v)(hy:ev L y=some (.int kd m))(ht:P.underlying xT=some (.slice e))(hz:((P.info? e).map (·.size)).isSome=true)(hm:m=(i:Int))(hi:i<=l.length) :
 Qt P n we X L B F (.slice xT x none (some y) none) ty (jT v i):=fun _ _ _ _ a w ha hw=>by
 obtain ⟨A,c,rfl,h1,h2,h3⟩:=hs w hw
 subst hm
 cases hq:P.info? e with
 | none=>grind
 | some inf =>
  simp only [execOp,ha.ev hx,Option.map_some,Option.map_none,ha.ev hy,Instr.sliceAt,Sem.run_bind,run_underlying ht,Result.andThen_ok,Instr.slice,Instr.sliceBounds,Instr.sliceBound,asIntOf,Sem.run_pure]
  rw [if_pos ⟨ae,ae⟩]
  simp [sizeOf,typeInfo,hq,jT]
  cases A <;> simp [Addr.add_zero']
theorem Ri {ms:Array (String×TypeId)}(ht:P.underlying xT=some (.interface ms)):P.underlying xT=some (.interface (P.methodsAt xT)):=by
 grind [Program.methodsAt]
theorem q.Nn {c:Value}{ms:Array (String×TypeId)}(hx:ev L x=some .nilIface)(hy:ev L (.const c)=some .nilIface)(ht:P.underlying xT=some (.interface ms)):Qt P n we X L B F (.binOp .neq xT x (.const c) yT) ty (.bool false):=fun _ _ _ _ a w ha hw=>by
 simp only [execOp,ha.ev hx,ha.ev hy,eqGuard_nil_constR,Sem.run_bind,Sem.run_pure,Result.andThen_ok,run_neq_nil_nil (P:=P) w xT (Ri ht)]
theorem q.Np {c:Value}{ms:Array (String×TypeId)}(hx:ev L x=some .nilIface)(hy:ev L (.const c)=some .nilIface)(ht:P.underlying xT=some (.interface ms)):Qt P n we X L B F (.binOp .eql xT x (.const c) yT) ty (.bool true):=fun _ _ _ _ a w ha hw=>by
 simp only [execOp,ha.ev hx,ha.ev hy,eqGuard_nil_constR,Sem.run_bind,Sem.run_pure,Result.andThen_ok,run_eql_nil_nil (P:=P) w xT (Ri ht)]
theorem q.TI {t:TypeId}{u:Value}{ms:Array (String×TypeId)}(hx:ev L x=some (.iface t u))(hy:ev L y=some .nilIface)(ht:P.underlying xT=some (.interface ms)):Qt P n we X L B F (.binOp .neq xT x y yT) ty (.bool true):=fun _ _ _ _ a w ha hw=>by
 simp only [execOp,ha.ev hx,ha.ev hy,eqGuard_at_iface,Sem.run_bind,Sem.run_pure,Result.andThen_ok,run_neq_held_nil (P:=P) w xT t u (Ri ht)]
theorem q.TJ {t:TypeId}{u:Value}{ms:Array (String×TypeId)}(hx:ev L x=some (.iface t u))(hy:ev L y=some .nilIface)(ht:P.underlying xT=some (.interface ms)):Qt P n we X L B F (.binOp .eql xT x y yT) ty (.bool false):=fun _ _ _ _ a w ha hw=>by
 simp only [execOp,ha.ev hx,ha.ev hy,eqGuard_at_iface,Sem.run_bind,Sem.run_pure,Result.andThen_ok,run_eql_held_nil (P:=P) w xT t u (Ri ht)]
theorem q.JX {c:Value}{m:Int}{ms:Array (String×TypeId)}(hx:ev L x=some (bQ m))(hy:ev L (.const c)=some .nilIface)(ht:P.underlying xT=some (.interface ms))(hm:m=0:=by omega):Qt P n we X L B F (.binOp .neq xT x (.const c) yT) ty (.bool false):=by subst hm;exact q.Nn hx hy ht
theorem q.Nq {c:Value}{m:Int}{ms:Array (String×TypeId)}(hx:ev L x=some (bQ m))(hy:ev L (.const c)=some .nilIface)(ht:P.underlying xT=some (.interface ms))(hm:m=0:=by omega):Qt P n we X L B F (.binOp .eql xT x (.const c) yT) ty (.bool true):=by subst hm;exact q.Np hx hy ht
theorem q.FH {m:Int}{ms:Array (String×TypeId)}(hx:ev L x=some (bQ m))(hy:ev L y=some .nilIface)(ht:P.underlying xT=some (.interface ms))(hm:¬ m=0:=by omega):Qt P n we X L B F (.binOp .neq xT x y yT) ty (.bool true):=by grind [gV,q.TI]
theorem q.JY {m:Int}{ms:Array (String×TypeId)}(hx:ev L x=some (bQ m))(hy:ev L y=some .nilIface)(ht:P.underlying xT=some (.interface ms))(hm:¬ m=0:=by omega):Qt P n we X L B F (.binOp .eql xT x y yT) ty (.bool false):=by grind [gV,q.TJ]
theorem pG (a b:ByteArray):(a.toList==b.toList)=decide (a=b):=by
 rw [Bool.eq_iff_iff]
 simp only [beq_iff_eq,decide_eq_true_eq,ByteArray.toList_eq]
 constructor
 .
  intro h
  cases a;simp_all
 grind
theorem q.dZ {a b:ByteArray}(hx:ev L x=some (.string a))(hy:ev L y=some (.string b))(h:a=b):Qt P n we X L B F (.binOp .eql xT x y yT) ty (.bool true):=fun _ _ _ _ q w ha hw=>by
 simp [execOp,ha.ev hx,ha.ev hy,eqGuard_at_string,binOp,Op.stringOp,pG,h]
theorem q.dQ {a b:ByteArray}(hx:ev L x=some (.string a))(hy:ev L y=some (.string b))(h:¬ a=b):Qt P n we X L B F (.binOp .eql xT x y yT) ty (.bool false):=fun _ _ _ _ q w ha hw=>by
 simp [execOp,ha.ev hx,ha.ev hy,eqGuard_at_string,binOp,Op.stringOp,pG,h]
theorem q.oO {a b:ByteArray}(hx:ev L x=some (.string a))(hy:ev L y=some (.string b))(h:a=b):Qt P n we X L B F (.binOp .neq xT x y yT) ty (.bool false):=fun _ _ _ _ q w ha hw=>by
 simp [execOp,ha.ev hx,ha.ev hy,eqGuard_at_string,binOp,Op.stringOp,pG,h]
theorem q.rh {a b:ByteArray}(hx:ev L x=some (.string a))(hy:ev L y=some (.string b))(h:¬ a=b):Qt P n we X L B F (.binOp .neq xT x y yT) ty (.bool true):=fun _ _ _ _ q w ha hw=>by
 simp [execOp,ha.ev hx,ha.ev hy,eqGuard_at_string,binOp,Op.stringOp,pG,h]
def TK {β:Type}[DecidableEq β](P:Program)(t:TypeId)(val:β->Value):Prop :=
  (∀x y w (a b:Operand),(eqGuard .eql t a b (val x) (val y)).run P w = .ok () w/\(eqGuard .neq t a b (val x) (val y)).run P w = .ok () w) /\ ∀x y w,(binOp .eql t (val x) (val y)).run P w = .ok (.bool (decide (x=y))) w/\(binOp .neq t (val x) (val y)).run P w = .ok (.bool (!decide (x=y))) w
section
variable {β:Type} [DecidableEq β] {val:β->Value} {p q:β} {a b:Operand}
theorem q.X6 {x y:β}(he:TK P xT val)(hx:ev L a=some (val x))(hy:ev L b=some (val y))(h:x=y):Qt P n we X L B F (.binOp .eql xT a b yT) ty (.bool true):=fun _ _ _ _ q w ha hw=>by
 simp only [execOp,ha.ev hx,ha.ev hy,Sem.run_bind,(he.1 x y w a b).1,Result.andThen_ok,(he.2 x y w).1,decide_eq_true h,Sem.run_pure]
theorem q.X7 {x y:β}(he:TK P xT val)(hx:ev L a=some (val x))(hy:ev L b=some (val y))(h:¬ x=y):Qt P n we X L B F (.binOp .eql xT a b yT) ty (.bool false):=fun _ _ _ _ q w ha hw=>by
 simp only [execOp,ha.ev hx,ha.ev hy,Sem.run_bind,(he.1 x y w a b).1,Result.andThen_ok,(he.2 x y w).1,decide_eq_false h,Sem.run_pure]
theorem q.oP {x y:β}(he:TK P xT val)(hx:ev L a=some (val x))(hy:ev L b=some (val y))(h:x=y):Qt P n we X L B F (.binOp .neq xT a b yT) ty (.bool false):=fun _ _ _ _ q w ha hw=>by
 simp only [execOp,ha.ev hx,ha.ev hy,Sem.run_bind,(he.1 x y w a b).2,Result.andThen_ok,(he.2 x y w).2,decide_eq_true h,Sem.run_pure,Bool.not_true]
theorem q.oQ {x y:β}(he:TK P xT val)(hx:ev L a=some (val x))(hy:ev L b=some (val y))(h:¬ x=y):Qt P n we X L B F (.binOp .neq xT a b yT) ty (.bool true):=fun _ _ _ _ q w ha hw=>by
 simp only [execOp,ha.ev hx,ha.ev hy,Sem.run_bind,(he.1 x y w a b).2,Result.andThen_ok,(he.2 x y w).2,decide_eq_false h,Sem.run_pure,Bool.not_false]
end
theorem R.Nr (m:Nat){c:Code}(h:norm 200 k = .c (.loop c)::k')(hr:Run P n we X Q (.c c :: .back (Code.rounds P c (rJ P Q k') m)::k') L B F):Run P n we X Q k L B F:=by
 intro a w ha hw
 refine dr 200 (h ▸ ?_)
 refine wp_loop_rounds (m+1) ?_
 rw [rounds_succ]
 exact wp_mono (hr a w ha hw) (fun e a w q=>by cases e <;> exact q)
theorem R.again {m:Nat}{c:Code}{Q':Exit->Act->World->Prop}(hQ:Q'=rJ P Q k')(h:norm 200 k = .back (Code.rounds P c Q' (m+1))::k')(hr:Run P n we X Q (.c c :: .back (Code.rounds P c Q' m)::k') L B F):Run P n we X Q k L B F:=by
 intro a w ha hw
 refine dr 200 (h ▸ ?_)
 show Code.rounds P c Q' (m+1) a w
 rw [rounds_succ]
 subst hQ
 exact wp_mono (hr a w ha hw) (fun e a w q=>by cases e <;> exact q)
variable {m q':Int}
theorem q.and {r:Int}(hx:ev L x=some (.int kd m))(hy:ev L y=some (.int kd q'))(hr:bits .and kd m q'=r):Qt P n we X L B F (.binOp .and xT x y yT) ty (.int kd r):=fun _ _ _ _ a w ha hw=>by
 subst hr;simp [execOp,ha.ev hx,ha.ev hy,binOp,eqGuard,Op.intBits,bits]
theorem q.or {r:Int}(hx:ev L x=some (.int kd m))(hy:ev L y=some (.int kd q'))(hr:bits .or kd m q'=r):Qt P n we X L B F (.binOp .or xT x y yT) ty (.int kd r):=fun _ _ _ _ a w ha hw=>by
 subst hr;simp [execOp,ha.ev hx,ha.ev hy,binOp,eqGuard,Op.intBits,bits]
theorem q.quo {r:Int}(hx:ev L x=some (.int kd m))(hy:ev L y=some (.int kd q'))(h0:¬ q'=0)(hr:kd.wrap (m.tdiv q')=r):Qt P n we X L B F (.binOp .quo xT x y yT) ty (.int kd r):=fun _ _ _ _ a w ha hw=>by
 simp [execOp,ha.ev hx,ha.ev hy,binOp,eqGuard,Op.intDiv,h0,hr]
theorem q.rem {r:Int}(hx:ev L x=some (.int kd m))(hy:ev L y=some (.int kd q'))(h0:¬ q'=0)(hr:m.tmod q'=r):Qt P n we X L B F (.binOp .rem xT x y yT) ty (.int kd r):=fun _ _ _ _ a w ha hw=>by
 simp [execOp,ha.ev hx,ha.ev hy,binOp,eqGuard,Op.intDiv,h0,hr]
theorem q.shr {r:Int}{kd':IntKind}(hx:ev L x=some (.int kd m))(hy:ev L y=some (.int kd' q'))(h0:¬ q'<0)(hr:m.fdiv (2 ^ (min q'.toNat kd.bits))=r):Qt P n we X L B F (.binOp .shr xT x y yT) ty (.int kd r):=fun _ _ _ _ a w ha hw=>by
 simp [execOp,ha.ev hx,ha.ev hy,binOp,eqGuard,Op.shift,h0,hr]
theorem q.shl {r:Int}{kd':IntKind}(hx:ev L x=some (.int kd m))(hy:ev L y=some (.int kd' q'))(h0:¬ q'<0)(hr:kd.wrap (m*2 ^ (min q'.toNat kd.bits))=r):Qt P n we X L B F (.binOp .shl xT x y yT) ty (.int kd r):=fun _ _ _ _ a w ha hw=>by
 simp [execOp,ha.ev hx,ha.ev hy,binOp,eqGuard,Op.shift,h0,hr]
theorem q.ny {r:Int}{kd':IntKind}{dT:TypeId}(hx:ev L x=some (.int kd m))(hs:(P.underlying xT).isSome=true)(hd:P.underlying dT=some (.int kd'))(hr:kd'.wrap m=r):Qt P n we X L B F (.convert xT dT x) ty (.int kd' r):=fun _ _ _ _ a w ha hw=>by
 obtain ⟨dd,hdd⟩:=Option.isSome_iff_exists.mp hs
 simp [execOp,ha.ev hx,convert,run_underlying hdd,run_underlying hd,Conv.intToInt,hr]
def tFe (P:Program)(t:TypeId)(f:Nat):Option (Nat×Option Nat) :=
  match P.underlying t with
  | some (.struct fs)=>match fs[f]? with
    | some fl=>match P.info? fl.type,P.underlying fl.type with
      | some i,some (.struct _)=>some (fl.offset,some i.size)
      | some _,some (.array _ _)=>none
      | some _,some _=>some (fl.offset,none)
      | _,_=>none
    | none=>none
  | _=>none
theorem q.field {f off:Nat}{cs:List Value}{u:Value}(hx:ev L x=some (.agg cs.toArray))(ht:tFe P xT f=some (off,none))(hu:cs[off]? = some u):Qt P n we X L B F (.field xT x f) ty u:=fun _ _ _ _ a w ha hw=>by
 unfold tFe at ht
 split at ht
 .
  rename_i fs h1
  split at ht
  .
   rename_i fl h2
   split at ht
   .grind
   .grind
   .
    rename_i dd h3 h4 h5 h6
    injection ht with ht;injection ht with ht _
    have hagg:(isAgg fl.type).run P w = .ok false w:=by
     simp_all [isAgg,Sem.run_bind,run_underlying,Result.andThen_ok]
    subst ht
    simp [execOp,ha.ev hx,Instr.field,run_underlying h1,h2,asAgg,part,hagg,hu]
   grind
  grind
 grind
theorem q.UY {f off m:Nat}{cs ds:List Value}(hx:ev L x=some (.agg cs.toArray))(ht:tFe P xT f=some (off,some m))(hu:(cs.drop off).take m=ds):Qt P n we X L B F (.field xT x f) ty (.agg ds.toArray):=fun _ _ _ _ a w ha hw=>by
 unfold tFe at ht
 split at ht
 .
  rename_i fs h1
  split at ht
  .
   rename_i fl h2
   split at ht
   .
    rename_i inf fs' h3 h4
    injection ht with ht;injection ht with ht ht';injection ht' with ht'
    have hagg:(isAgg fl.type).run P w = .ok true w:=by
     simp [isAgg,run_underlying h4]
    subst ht;subst ht';subst hu
    simp [execOp,ha.ev hx,Instr.field,run_underlying h1,h2,asAgg,part,hagg,sizeOf,typeInfo,h3]
   .grind
   .grind
   grind
  grind
 grind
def tB (P:Program)(t:TypeId):Option (List (Nat×Nat)×List Value) :=
  match P.info? t,P.underlying t with
  | some it,some (.struct fields)=>match it.zero,fields.toList.mapM (fun f=>(P.info? f.type).map fun i=>(f.offset,i.size)) with
    | some z,some places=>some (places,z.cells.toList)
    | _,_=>none
  | _,_=>none
def zi (places:List (Nat×Nat)):List Value->List (Nat×Value)->Option (List Value)
  | cells,[]=>some cells
  | cells,(i,v)::rest=>match places[i]? with
    | none=>none
    | some (off,size)=>bif Nat.beq v.cells.toList.length size&&Nat.ble (off+size) cells.length then zi places (cells.take off++v.cells.toList++cells.drop (off+size)) rest else none
theorem zj (places:List (Nat×Nat)):∀ (parts:List (Nat×Value)) (cells cs:List Value),zi places cells parts=some cs->Instr.fill (fun x=>places.toArray[x]?) cells.toArray parts=some cs.toArray
 | [],cells,cs,h=>by simp [zi] at h;subst h;rfl
 | (i,v)::rest,cells,cs,h=>by
  simp only [zi] at h
  simp only [Instr.fill,List.getElem?_toArray]
  cases hp:places[i]? with
  | none=>grind
  | some q =>
   obtain ⟨off,size⟩:=q
   simp only [hp] at h ⊢
   cases hb:(Nat.beq v.cells.toList.length size&&Nat.ble (off+size) cells.length) with
   | false=>grind
   | true =>
    simp only [hb,cond_true] at h
    simp only [Bool.and_eq_true] at hb
    have h1:v.cells.toList.length=size:=Nat.eq_of_beq_eq_true hb.1
    have h2:off+size<=cells.length:=Nat.le_of_ble_eq_true hb.2
    have h1':v.cells.size=size:=ae
    rw [if_neg az]
    have ih:=zj places rest _ cs h
    simp only [List.getElem?_toArray] at ih
    refine Eq.trans (congrArg (fun x=>Instr.fill _ x rest) ?_) ih
    rw [<- Array.foldl_toList,Array.toList_zipIdx]
    have:=foldl_set off v.cells.toList 0 cells.toArray az
    grind
theorem q.build {t:TypeId}{parts:Array (Nat×Operand)}{places:List (Nat×Nat)}{zs vs cs:List Value}(ht:tB P t=some (places,zs))(hp:evs L (parts.toList.map (·.2))=some vs)(hf:zi places zs ((parts.toList.map (·.1)).zip vs)=some cs) :
 Qt P n we X L B F (.build t parts) ty (.agg cs.toArray):=fun _ _ _ _ a w ha hw=>by
 have hparts:(parts.map fun p=>(p.1,a.eval p.2)).toList=(parts.toList.map (·.1)).zip vs:=by
  rw [<- ha.evs hp]
  grind [Array.toList_map,List.map_map]
 have hb:P.built t (parts.map fun p=>(p.1,a.eval p.2)).toList=some cs.toArray:=by
  rw [hparts]
  unfold tB at ht
  unfold Program.built
  split at ht
  .
   rename_i it fields h1 h2
   split at ht
   .
    rename_i z pl h3 h4
    injection ht with ht;injection ht with ha hb;subst ha;subst hb
    simp only [h1,h2,h3,h4]
    exact zj pl _ _ _ hf
   grind
  grind
 grind [execOp,Sem.run_bind,run_build,Result.andThen_ok,Sem.run_pure]
theorem q.D3 {fn:FuncId}{fs cs:Array Operand}{cap:List Value}(hf:fs = #[])(hc:evs L cs.toList=some cap):Qt P n we X L B F (.makeFunc (.func fn) fs cs) ty (.func (.func fn) #[] cap.toArray):=fun _ _ _ _ a w ha hw=>by
 subst hf
 have hm:cs.map a.eval=cap.toArray:=by rw [<- ha.evs hc,<- Array.toList_map]
 simp [execOp,Instr.makeFunc,hm]
def X8 (tmps:Array Value):ResultVar->Sem Value
  | .tmp t=>pure (tmps.getD t undef)
  | .cell p t=>do loadVar t (<- asAddr (tmps.getD p undef))
theorem my (fn:Func)(tmps:Array Value):results fn tmps=(do let vs <- fn.results.mapM (X8 tmps);pure (if h:vs.size=1 then vs[0] else .tuple vs)):=by
 rfl
def RV (P:Program)(n:Nat)(we:World)(X:List Nat)(L:Fm)(B F:List ag)(r:ResultVar)(v:Value):Prop :=
  ∀a w,Fr n L a->Wd we X B F w->(X8 a.tmps r).run P w = .ok v w
theorem RV.tmp {t:Nat}{v:Value}(h:lk L t=some v):RV P n we X L B F (.tmp t) v:=fun a w ha hw=>by
 simp [X8,Array.getD_eq_getD_getElem?,ha.get _ _ h]
theorem RV.cell {p b:Nat}{t t':TypeId}{cs:List Value}(i:Nat)(hB:B[i]? = some (ag.box b cs t'))(h:lk L p=some (.pointer (some ⟨b,0,none⟩)))(ht:jU P t=some cs.length):RV P n we X L B F (.cell p t) (.agg cs.toArray):=fun a w ha hw=>by
 have hl:=kR (P:=P) w ht (uq (hw.b i hB))
 have:a.tmps.getD p undef = .pointer (some ⟨b,0,none⟩):=by simp [Array.getD_eq_getD_getElem?,ha.get _ _ h]
 grind [X8,asAddr,Instr.loadAt,Instr.sureAddr,Sem.run_bind,Sem.run_pure,Result.andThen_ok]
theorem RV.cell1 {p b o:Nat}{t t':TypeId}{cs:List Value}{u:Value}(i:Nat)(hB:B[i]? = some (ag.box b cs t'))(h:lk L p=some (.pointer (some ⟨b,o,none⟩)))(ht:fJ P t=true)(hu:cs[o]? = some u):RV P n we X L B F (.cell p t) u:=fun a w ha hw=>by
 have hc:=uq (hw.b i hB) o u hu
 rw [Nat.zero_add] at hc
 have hl:=mo (P:=P) w ht hc
 have:a.tmps.getD p undef = .pointer (some ⟨b,o,none⟩):=by simp [Array.getD_eq_getD_getElem?,ha.get _ _ h]
 grind [X8,asAddr,Instr.loadAt,Instr.sureAddr,Sem.run_bind,Sem.run_pure,Result.andThen_ok]
section
variable {fn:Func} {R:Ending->World->Prop} {r1 r2 r3 r4:ResultVar} {v1 v2 v3 v4:Value}
theorem R.TM (h:norm 200 k = .c .ret::k')(hr:fn.results = #[r1])(h1:RV P n we X L B F r1 v1)(hR:∀w,Wd we X B F w->R (.returned v1) w):Run P n we X (bodyPost P fn R) k L B F :=
 fun a w ha hw=>dr 200 (h▸wp_ret (lp (bodyPost_ret (by
  have e1:=h1 a w ha hw
  rw [my,hr,show (#[r1]:Array ResultVar)=[r1].toArray from rfl]
  simp_all) ha.defers (hR w hw))))
theorem R.TN (h:norm 200 k = .c .ret::k')(hr:fn.results = #[r1,r2])(h1:RV P n we X L B F r1 v1)(h2:RV P n we X L B F r2 v2)(hR:∀w,Wd we X B F w->R (.returned (.tuple #[v1,v2])) w):Run P n we X (bodyPost P fn R) k L B F :=
 fun a w ha hw=>dr 200 (h▸wp_ret (lp (bodyPost_ret (by
  have e1:=h1 a w ha hw
  have e2:=h2 a w ha hw
  rw [my,hr,show (#[r1,r2]:Array ResultVar)=[r1,r2].toArray from rfl]
  simp_all) ha.defers (hR w hw))))
theorem R.TP (h:norm 200 k = .c .ret::k')(hr:fn.results = #[r1,r2,r3])(h1:RV P n we X L B F r1 v1)(h2:RV P n we X L B F r2 v2)(h3:RV P n we X L B F r3 v3)(hR:∀w,Wd we X B F w->R (.returned (.tuple #[v1,v2,v3])) w):Run P n we X (bodyPost P fn R) k L B F :=
 fun a w ha hw=>dr 200 (h▸wp_ret (lp (bodyPost_ret (by
  have e1:=h1 a w ha hw
  have e2:=h2 a w ha hw
  have e3:=h3 a w ha hw
  rw [my,hr,show (#[r1,r2,r3]:Array ResultVar)=[r1,r2,r3].toArray from rfl]
  simp_all) ha.defers (hR w hw))))
theorem R.X9 (h:norm 200 k = .c .ret::k')(hr:fn.results = #[r1,r2,r3,r4])(h1:RV P n we X L B F r1 v1)(h2:RV P n we X L B F r2 v2)(h3:RV P n we X L B F r3 v3)(h4:RV P n we X L B F r4 v4)(hR:∀w,Wd we X B F w->R (.returned (.tuple #[v1,v2,v3,v4])) w):Run P n we X (bodyPost P fn R) k L B F :=
 fun a w ha hw=>dr 200 (h▸wp_ret (lp (bodyPost_ret (by
  have e1:=h1 a w ha hw
  have e2:=h2 a w ha hw
  have e3:=h3 a w ha hw
  have e4:=h4 a w ha hw
  rw [my,hr,show (#[r1,r2,r3,r4]:Array ResultVar)=[r1,r2,r3,r4].toArray from rfl]
  simp_all) ha.defers (hR w hw))))
end
theorem R.pH {r:ag}(hr:r.ok we)(hlt:∀k∈r.blk,k<we.heap.size)(h:Run P n we [] Q k L B (r::F)):Run P n we [] Q k L B F:=fun a w ha hw =>
 h a w ha (hw.fact (r.loc we w (fun k hk=>hw.upd.block k (hlt k hk) bA) hr) fun k hk=>⟨Nat.lt_of_lt_of_le (hlt k hk) hw.upd.size,fun hb=>by cases (hw.own k hb).2 (hlt k hk)⟩)
theorem kz {w:World}{b:Nat}{cs:List Value}{t:TypeId}(h:(ag.box b cs t).ok w):∀k∈(ag.box b cs t).blk,k<w.heap.size:=fun k hk=>by
 grind [ag.box,Array.getElem?_eq_some_iff]
theorem vp {w W:World}{b:Nat}{cs:List Value}{t:TypeId}(h:(ag.box b cs t).ok w)(e:Ext w W):(ag.box b cs t).ok W :=
 (ag.box b cs t).loc w W (fun k hk=>e.heap (kz h k hk)) h
theorem q.BS {b o:Nat}{cs:List Value}{t:TypeId}{u:Value}(i:Nat)(hB:F[i]? = some (ag.box b cs t))(hx:ev L x=some (.pointer (some ⟨b,o,none⟩)))(ht:fJ P xT=true)(hu:cs[o]? = some u):Qt P n we X L B F (.load xT x) ty u:=fun _ _ _ _ a w ha hw=>by
 have h:=uq (hw.f i hB) o u hu
 rw [Nat.zero_add] at h
 simp [execOp,ha.ev hx,mo (P:=P) w ht h]
def auto (ops:List Oper)(n:Nat):Nat->List Oper->Fm->Option (List Oper×Fm)
  | 0,rest,L=>some (rest,L)
  | m+1,rest,L=>match rest with
    | []=>none
    | o::rest=>match o.dst with
      | none=>none
      | some d=>match Nat.blt d n with
        | false=>none
        | true=>match gd ops L o.guard with
          | none=>none
          | some false=>auto ops n m rest ((d,undef)::L)
          | some true=>match o.op with
            | .move x=>match ev L x with
              | some v=>auto ops n m rest ((d,v)::L)
              | none=>none
            | .assign x=>match ev L x with
              | some v=>auto ops n m rest ((d,v)::L)
              | none=>none
            | .pick c x y=>match ev L c with
              | some (.bool true)=>match ev L x with
                | some v=>auto ops n m rest ((d,v)::L)
                | none=>none
              | some (.bool false)=>match ev L y with
                | some v=>auto ops n m rest ((d,v)::L)
                | none=>none
              | _=>none
            | .unOp .not _ x=>match ev L x with
              | some (.bool true)=>auto ops n m rest ((d,.bool false)::L)
              | some (.bool false)=>auto ops n m rest ((d,.bool true)::L)
              | _=>none
            | .extract x i=>match ev L x with
              | some (.tuple vs)=>match vs[i]? with
                | some v=>auto ops n m rest ((d,v)::L)
                | none=>none
              | _=>none
            | _=>none
def rQ (ops:List Oper)(L:Fm)(o:Oper):Option Value :=
  match gd ops L o.guard with
  | none=>none
  | some false=>some undef
  | some true=>match o.op with
    | .move x=>ev L x
    | .assign x=>ev L x
    | .pick c x y=>match ev L c with
      | some (.bool true)=>ev L x
      | some (.bool false)=>ev L y
      | _=>none
    | .unOp .not _ x=>match ev L x with
      | some (.bool b)=>some (.bool !b)
      | _=>none
    | .extract x i=>match ev L x with
      | some (.tuple vs)=>vs[i]?
      | _=>none
    | _=>none
theorem Lj {ops:List Oper}{n m:Nat}{o:Oper}{rest:List Oper}{L:Fm}{r:List Oper×Fm}(h:auto ops n (m+1) (o::rest) L=some r) :
 ∃d v,o.dst=some d/\Nat.blt d n=true/\rQ ops L o=some v/\auto ops n m rest ((d,v)::L)=some r:=by
 simp only [auto] at h
 cases hd:o.dst with
 | none=>grind
 | some d =>
  simp only [hd] at h
  cases hb:Nat.blt d n with
  | false=>grind
  | true =>
   simp only [hb] at h
   cases hg:gd ops L o.guard with
   | none=>grind
   | some b =>
    cases b with
    | false=>simp only [hg] at h;exact ⟨d,undef,rfl,hb,by grind [rQ],h⟩
    | true =>
     simp only [hg] at h
     cases ho:o.op <;> simp only [ho] at h <;> try (cases h;done)
     case move x=>split at h;exact ⟨d,_,rfl,hb,by grind [rQ],h⟩;cases h
     case assign x=>split at h;exact ⟨d,_,rfl,hb,by grind [rQ],h⟩;cases h
     case pick c x y =>
      split at h
      .
       rename_i hc
       split at h
       .exact ⟨d,_,rfl,hb,by grind [rQ],h⟩
       grind
      .
       rename_i hc
       split at h
       .exact ⟨d,_,rfl,hb,by grind [rQ],h⟩
       grind
      grind
     case unOp u t x =>
      cases u <;> simp only [] at h <;> try grind
      split at h
      .rename_i hc;exact ⟨d,_,rfl,hb,by grind [rQ],h⟩
      .rename_i hc;exact ⟨d,_,rfl,hb,by grind [rQ],h⟩
      grind
     case extract x i =>
      split at h
      .
       rename_i vs hc
       split at h
       .exact ⟨d,_,rfl,hb,by grind [rQ],h⟩
       grind
      grind
theorem Lk {ops:List Oper}{L:Fm}{o:Oper}{v:Value}(h:rQ ops L o=some v){a:Act}(ha:Fr n L a) :
 (gd ops L o.guard=some false/\v=undef)∨(gd ops L o.guard=some true /\ ∀w,(execOp a.eval o).run P w = .ok (.value v) w):=by
 unfold rQ at h
 split at h
 .cases h
 .grind
 rename_i hg
 refine .inr ⟨hg,fun w=>?_⟩
 split at h
 .rename_i x ho;simp [execOp,ho,ha.ev h]
 .rename_i x ho;simp [execOp,ho,ha.ev h]
 .
  rename_i c x y ho
  split at h
  .rename_i hc;simp [execOp,ho,ha.ev hc,ha.ev h,asBool]
  .rename_i hc;simp [execOp,ho,ha.ev hc,ha.ev h,asBool]
  grind
 .
  rename_i t x ho
  split at h
  .rename_i b hc;injection h with h;subst h;simp [execOp,ho,ha.ev hc,Op.unary]
  grind
 .
  rename_i x i ho
  split at h
  .rename_i vs hc;simp [execOp,ho,ha.ev hc,Instr.extract,h]
  grind
 grind
theorem R.u:∀ (m:Nat) {rest rest':List Oper} {L L':Fm},auto ops n m rest L=some (rest',L')->Rg P n we X Q ops rest' k L' B F->Rg P n we X Q ops rest k L B F
 | 0,rest,rest',L,L',h,hr=>by simp [auto] at h;grind
 | m+1,[],rest',L,L',h,hr=>by grind [auto]
 | m+1,o::rest,rest',L,L',h,hr=>by
  obtain ⟨d,v,hd,hb,h1,h2⟩:=Lj h
  have ih:=R.u m h2 hr
  intro a w ha hw
  refine wpList_step fun K hK=>?_
  rcases Lk (P:=P) h1 ha with ⟨hg,rfl⟩ | ⟨hg,hrun⟩
  .
   rw [if_neg (by grind [eR]),hd]
   exact hK _ _ (ih _ w (ha.put d undef hb) hw)
  rw [if_pos (eR ha hg)]
  unfold Oper.wp
  rw [hrun w,Oper.upon_value,hd]
  exact hK _ _ (ih _ w (ha.put d v hb) hw)
theorem R.nr {id:Nat}{ops':List Oper}(h:norm 200 k = .c (.region id ops'.toArray false)::k')(hr:Rg P n we X Q ops' ops' k' L B F):Rg P n we X Q ops [] k L B F:=R.nil (R.reg h hr)
theorem R.nT {c:Operand}{x y:Code}(h:norm 200 k = .c (.cond c x y)::k')(hc:ev L c=some (.bool true))(hr:Run P n we X Q (.c x::k') L B F):Rg P n we X Q ops [] k L B F:=R.nil (R.pE h hc hr)
theorem R.nF {c:Operand}{x y:Code}(h:norm 200 k = .c (.cond c x y)::k')(hc:ev L c=some (.bool false))(hr:Run P n we X Q (.c y::k') L B F):Rg P n we X Q ops [] k L B F:=R.nil (R.rO h hc hr)
theorem R.nA {c:Operand}{x y:Code}{id:Nat}{ops':List Oper}{k2:List It}(h:norm 200 k = .c (.cond c x y)::k')(hc:ev L c=some (.bool true))(h2:norm 200 (.c x::k') = .c (.region id ops'.toArray false)::k2)(hr:Rg P n we X Q ops' ops' k2 L B F):Rg P n we X Q ops [] k L B F:=R.nT h hc (R.reg h2 hr)
theorem R.nB {c:Operand}{x y:Code}{id:Nat}{ops':List Oper}{k2:List It}(h:norm 200 k = .c (.cond c x y)::k')(hc:ev L c=some (.bool false))(h2:norm 200 (.c y::k') = .c (.region id ops'.toArray false)::k2)(hr:Rg P n we X Q ops' ops' k2 L B F):Rg P n we X Q ops [] k L B F:=R.nF h hc (R.reg h2 hr)
theorem R.un (m:Nat){L':Fm}(h:auto ops n m rest L=some ([],L'))(hr:Run P n we X Q k L' B F):Rg P n we X Q ops rest k L B F:=R.u m h (R.nil hr)
theorem R.ur (m:Nat){L':Fm}{id:Nat}{ops':List Oper}(h:auto ops n m rest L=some ([],L'))(h2:norm 200 k = .c (.region id ops'.toArray false)::k')(hr:Rg P n we X Q ops' ops' k' L' B F):Rg P n we X Q ops rest k L B F:=R.u m h (R.nr h2 hr)
section
variable {fn:Func} {V V' V'' V3:Value}
theorem rI {a b:Int}(h:a=b):Value.int .i64 a = .int .i64 b:=by rw [h]
theorem rB {a b:Bool}(h:a=b):Value.bool a = .bool b:=by rw [h]
theorem rS {a b:ByteArray}(h:a=b):Value.string a = .string b:=by rw [h]
theorem rE {a b:Int}(h:a=b):bQ a=bQ b:=by rw [h]
theorem R.rv {t:Nat}{v:Value}(h:norm 200 k = .c .ret::k')(hr:fn.results = #[.tmp t])(hv:lk L t=some v)(e:v=V):Run P n we [] (bodyPost P fn fun en w'=>en = .returned V/\Ext we w') k L B F :=
 R.XR h hr hv fun w hw=>⟨by rw [e],hw.ext⟩
theorem R.Fu {t u:Nat}{v v':Value}(h:norm 200 k = .c .ret::k')(hr:fn.results = #[.tmp t,.tmp u])(hv:lk L t=some v)(hv':lk L u=some v')(e:v=V)(e':v'=V'):Run P n we [] (bodyPost P fn fun en w'=>en = .returned (.tuple #[V,V'])/\Ext we w') k L B F :=
 R.aas h hr hv hv' fun w hw=>⟨az,hw.ext⟩
theorem R.XD {t u x:Nat}{v v' v'':Value}(h:norm 200 k = .c .ret::k')(hr:fn.results = #[.tmp t,.tmp u,.tmp x])(hv:lk L t=some v)(hv':lk L u=some v')(UV:lk L x=some v'')(e:v=V)(e':v'=V')(e'':v''=V''):Run P n we [] (bodyPost P fn fun en w'=>en = .returned (.tuple #[V,V',V''])/\Ext we w') k L B F :=
 R.aat h hr hv hv' UV fun w hw=>⟨az,hw.ext⟩
theorem R.uv {r1 r2:ResultVar}{v v':Value}(h:norm 200 k = .c .ret::k')(hr:fn.results = #[r1,r2])(h1:RV P n we [] L B F r1 v)(h2:RV P n we [] L B F r2 v')(e:v=V)(e':v'=V'):Run P n we [] (bodyPost P fn fun en w'=>en = .returned (.tuple #[V,V'])/\Ext we w') k L B F :=
 R.TN h hr h1 h2 fun w hw=>⟨az,hw.ext⟩
theorem R.QY {r1 r2 r3:ResultVar}{v v' v'':Value}(h:norm 200 k = .c .ret::k')(hr:fn.results = #[r1,r2,r3])(h1:RV P n we [] L B F r1 v)(h2:RV P n we [] L B F r2 v')(h3:RV P n we [] L B F r3 v'')(e:v=V)(e':v'=V')(e'':v''=V''):Run P n we [] (bodyPost P fn fun en w'=>en = .returned (.tuple #[V,V',V''])/\Ext we w') k L B F :=
 R.TP h hr h1 h2 h3 fun w hw=>⟨az,hw.ext⟩
theorem R.rr1 {r1:ResultVar}{v:Value}(h:norm 200 k = .c .ret::k')(hr:fn.results = #[r1])(h1:RV P n we [] L B F r1 v)(e:v=V):Run P n we [] (bodyPost P fn fun en w'=>en = .returned V/\Ext we w') k L B F :=
 R.TM h hr h1 fun w hw=>⟨by rw [e],hw.ext⟩
theorem R.ro {α:Type}[Enc α]{e:TypeId}{t:Nat}{v:Value}{l l':List α}(i:Nat)(h:norm 200 k = .c .ret::k')(hr:fn.results = #[.tmp t])(hv:lk L t=some v)(hB:B[i]? = some (ag.row e v l))(hl:l=l'):Run P n we [] (bodyPost P fn fun en w' => ∃u,en = .returned u/\Own we.heap.size e w' u l'/\Ext we w') k L B F :=
 R.XR h hr hv fun w hw=>⟨v,rfl,hw.ownRow i hB hl,hw.ext⟩
end
def Cu {ι:Type}(n:Nat)(we:World)(X:List Nat)(LI:ι->Fm)(BI FI:ι->List ag)(PI:ι->Prop)(a:Act)(w:World):Prop:= ∃i,PI i/\Fr n (LI i) a/\Wd we X (BI i) (FI i) w
theorem fV {I:Act->World->Prop}{R:List It}(hI:∀a w,I a w->rJ P Q R .normal a w):∀ (A:List It) (e:Exit) (a:Act) (w:World),rJ P Q (A ++ .back I::R) e a w->rJ P Q (A++R) e a w
 | [],e,a,w,h=>by
  cases e with
  | normal=>exact hI a w h
  | _=>exact h
 | .c x::A,e,a,w,h=>by
  cases e with
  | normal=>exact wp_mono h (fV hI A)
  | exit id=>exact fV hI A (.exit id) a w h
  | goto id=>exact fV hI A (.goto id) a w h
  | ret=>exact fV hI A .ret a w h
  | panic c=>exact fV hI A (.panic c) a w h
  | outgrown=>exact fV hI A .outgrown a w h
 | .b id::A,e,a,w,h=>by
  cases e with
  | normal=>exact fV hI A .normal a w h
  | exit id' =>
   simp only [List.cons_append,rJ] at h ⊢
   cases hb:Nat.beq id' id with
   | true=>rw [hb] at h;exact fV hI A .normal a w h
   | false=>rw [hb] at h;exact fV hI A (.exit id') a w h
  | goto id=>exact fV hI A (.goto id) a w h
  | ret=>exact fV hI A .ret a w h
  | panic c=>exact fV hI A (.panic c) a w h
  | outgrown=>exact fV hI A .outgrown a w h
 | .back J::A,e,a,w,h=>by
  cases e with
  | normal=>exact h
  | exit id=>exact fV hI A (.exit id) a w h
  | goto id=>exact fV hI A (.goto id) a w h
  | ret=>exact fV hI A .ret a w h
  | panic c=>exact fV hI A (.panic c) a w h
  | outgrown=>exact fV hI A .outgrown a w h
theorem R.cut {ι:Type}(m:Nat)(LI:ι->Fm)(BI FI:ι->List ag)(PI:ι->Prop){k1 A R:List It}(hk:norm 200 k=k1)(hA:k1.take m=A)(hR:k1.drop m=R)(h1:Run P n we X Q (A ++ .back (Cu n we X LI BI FI PI)::R) L B F)
 (h2:∀i,PI i->Run P n we X Q R (LI i) (BI i) (FI i)):Run P n we X Q k L B F:=fun a w ha hw=>by
 refine dr 200 (hk ▸ ?_)
 have:k1=A++R:=by grind [List.take_append_drop]
 rw [this]
 exact fV (fun a w ⟨i,hP,ha,hw⟩=>h2 i hP a w ha hw) A _ a w (h1 a w ha hw)
theorem R.meet {ι:Type}{LI:ι->Fm}{BI FI:ι->List ag}{PI:ι->Prop}(i:ι)(h:norm 200 k = .back (Cu n we X LI BI FI PI)::k')(hP:PI i)(hL:D2 (LI i) L)(hB:∀w,Wd we X B F w->Wd we X (BI i) (FI i) w):Run P n we X Q k L B F :=
 fun a w ha hw=>dr 200 (by rw [h];exact ⟨i,hP,ha.sub hL,hB w hw⟩)
end
end Go.Proofs.YtnmpibjlnninjaaGreatDoor
