import Derived.Test.YtpipachmngdegaaTCP16
import Derived.Laws.StructEq
import Derived.Test.YtpipachmngdegaaTCP12
import Derived.Shelf.Small.Strs
import Derived.Shelf.Bits.Mul64
import Derived.Test.YtpipachmngdegaaProg
section
namespace Go.Proofs.Ytpipachmngdegaa
open Go Go.RowKit
set_option linter.unusedVariables false
set_option linter.unusedSimpArgs false
set_option linter.unusedSectionVars false
set_option maxRecDepth 100000
theorem m5 {P:Program}{op:BinOp}{t:TypeId}(h:P.eqGuardType P.depth t=false)(a b:Operand)(xs ys:Array Value)(w:World):(eqGuard op t a b (.agg xs) (.agg ys)).run P w = .ok () w:=by
  have hp:(program:Sem Program).run P w = .ok P w:=rfl
  cases op <;> simp [eqGuard,hp,h]
theorem vY {P:Program}{t:TypeId}{β:Type}[DecidableEq β]{cs:β→List Value}(hg:P.eqGuardType P.depth t=false)(he:∀x y w,(Op.equal t (.agg (cs x).toArray) (.agg (cs y).toArray)).run P w = .ok (decide (x=y)) w):yo P t (fun x => .agg (cs x).toArray):=by
  refine ⟨fun x y w a b=>⟨m5 hg a b _ _ w,m5 hg a b _ _ w⟩,fun x y w=>⟨?_,?_⟩⟩
  · simp only [binOp,Sem.run_bind,he x y w,Result.andThen_ok,Sem.run_pure]
  · simp only [binOp,Sem.run_bind,he x y w,Result.andThen_ok,Sem.run_pure]
theorem vB:yo Try.prog 51 Change.val:=by
  have hS:Try.prog.underlying 51=some (.struct (Try.prog.fieldsOf 51)):=by kernel_rfl
  have hp:Try.prog.stoodInHeld 51=false:=by kernel_rfl
  refine vY (cs:=Change.cs) (by kernel_rfl) fun x y w=>?_
  have u3:=Try.underlying9;have a3:=Try.isAgg9;have z3:=Try.sizeOf9;have u4:=Try.underlying4;have a4:=Try.isAgg4;have z4:=Try.sizeOf4
  obtain ⟨x1,x2,x3⟩:=x;obtain ⟨y1,y2,y3⟩:=y
  rw [Op.equal,Op.maxDepth,show (10000:Nat)=9999+1 from rfl,run_equalIn_agg w 9999 51 _ _ hS hp]
  simp only [Program.fieldsOf,Try.underlying51]
  go_simp
  have tl:∀a b:ByteArray,a.toList=b.toList↔a=b:=fun a b=>by have:=hU a b;rw [Bool.eq_iff_iff] at this;simpa using this
  by_cases h1:x1=y1 <;> by_cases h2:x2=y2 <;> by_cases h3:x3=y3 <;> simp [h1,h2,h3,tl]
section
variable {α:Type} [DecidableEq α] {a b:List α}
theorem lF (h:¬ a.length=b.length):false=decide (a=b):=(decide_eq_false (fun e=>h (by rw [e]))).symm
theorem lG {k:Nat}{x y:α}(hx:a[k]? = some x)(hy:b[k]? = some y)(h:¬ x=y):false=decide (a=b):=(decide_eq_false (fun e=>h (by rw [e,hy] at hx;injection hx with hx;exact hx.symm))).symm
theorem lH {k:Nat}(hl:a.length=b.length)(hk:¬ k<a.length)(h:∀j,j<k→a[j]? = b[j]?):true=decide (a=b):=by
  refine (decide_eq_true (List.ext_getElem? fun j=>?_)).symm
  rcases Nat.lt_or_ge j k with h1|h1
  · exact h j h1
  · rw [List.getElem?_eq_none (by omega),List.getElem?_eq_none (by omega)]
theorem rJ {k:Nat}{x y:α}(h:∀j,j<k→a[j]? = b[j]?)(hx:a[k]? = some x)(hy:b[k]? = some y)(e:x=y):∀j,j<k+1→a[j]? = b[j]?:=by
  intro j hj
  rcases Nat.lt_or_ge j k with h1|h1
  · exact h j h1
  ·
    have:j=k:=by omega
    subst this;rw [hx,hy,e]
end
end Go.Proofs.Ytpipachmngdegaa
end
section
namespace Go.Proofs.Ytpipachmngdegaa
open Go Go.RowKit
set_option linter.unusedVariables false
theorem cX (xV:Value)(a:List Change)(xW:Value)(b:List Change)(w:World)(vZ:Sl w xV a)(wN:Sl w xW b):Calls Try.prog 28 #[xV,xW] w fun e w'=>e = .returned (.bool (decide (a=b)))∧Ext w w':=by
  have Am:=vZ.jZ
  have Ao:=wN.jZ
  refine R.enter (n:=26) (vs:=[xV,xW]) [] [(0,xV),(1,xW)] Try.func28 rfl rfl rfl rfl ?_
  refine R.reg rfl<|R.u 1 rfl<|R.nil ?_
  refine R.reg rfl<|R.u 1 rfl<|R.q (q.len' (fun _=>Wd.old vZ) rfl Try.underlying46) rfl<|R.u 1 rfl<|R.q (q.len' (fun _=>Wd.old wN) rfl Try.underlying46) rfl<|?_
  by_cases h1:a.length=b.length
  ·
    refine R.q (q.neq rfl rfl (bne_eq_false_iff_eq.2 (by omega))) rfl<|R.nil ?_
    refine R.aI rfl rfl ?_
    refine R.reg rfl<|R.u 1 rfl<|R.nil ?_
    refine R.loop (fun k:Nat=>[(0,xV),(1,xW),(5,.int .i64 (k:Int))]) (fun k:Nat=>[]) (fun k:Nat=>[]) (fun k:Nat=>k≤a.length ∧ ∀j,j<k→a[j]? = b[j]?) (fun k:Nat=>a.length-k) 0 rfl (by exact ⟨by omega,fun j hj=>absurd hj (Nat.not_lt_zero _)⟩) ⟨rfl,rfl,rfl,trivial⟩ (fun _=>Wd.pick [] [] rfl rfl rfl) ?_
    rintro k ⟨hk,HA⟩
    refine R.reg rfl<|R.u 2 rfl<|R.q (q.len' (fun _=>Wd.old vZ) rfl Try.underlying46) rfl<|?_
    by_cases h2:k<a.length
    ·
      refine R.q (q.lss rfl rfl (decide_eq_true (by omega))) rfl<|R.nil ?_
      refine R.aK rfl rfl ?_
      obtain ⟨x1,hx1⟩:∃z,a[k]? = some z:=⟨_,List.getElem?_eq_getElem (by omega)⟩
      obtain ⟨x2,hx2⟩:∃z,b[k]? = some z:=⟨_,List.getElem?_eq_getElem (by omega)⟩
      by_cases h3:x1=x2
      ·
        refine R.d9 rfl mixed (by kernel_rfl)<|Q.u 2 rfl<|Q.q (q.idx (i:=k) (fun _=>Wd.old vZ) rfl rfl aT rfl hx1) rfl<|Q.q (q.iU (ds:=[.string x1.Key,.string x1.Val,.bool x1.Gone]) (fun _=>Wd.old vZ) hx1 rfl aX rfl) rfl<|Q.u 2 rfl<|Q.q (q.idx (i:=k) (fun _=>Wd.old wN) rfl rfl aT rfl hx2) rfl<|Q.q (q.iU (ds:=[.string x2.Key,.string x2.Val,.bool x2.Gone]) (fun _=>Wd.old wN) hx2 rfl aX rfl) rfl<|Q.q (q.wY (x:=x1) (y:=x2) vB rfl rfl h3) rfl<|Q.nil ?_
        refine R.aI rfl rfl ?_
        refine R.reg rfl<|R.u 1 rfl<|R.q (q.add (r:=((k+1:Nat):Int)) rfl rfl (wr (by omega))) rfl<|R.u 1 rfl<|R.nil ?_
        refine R.back (k+1) rfl (by (exact ⟨by omega,rJ HA hx1 hx2 (by assumption)⟩)) (by omega) ⟨rfl,rfl,rfl,trivial⟩ (fun _=>Wd.pick [] [] rfl rfl rfl)
      ·
        refine R.d9 rfl mixed (by kernel_rfl)<|Q.u 2 rfl<|Q.q (q.idx (i:=k) (fun _=>Wd.old vZ) rfl rfl aT rfl hx1) rfl<|Q.q (q.iU (ds:=[.string x1.Key,.string x1.Val,.bool x1.Gone]) (fun _=>Wd.old vZ) hx1 rfl aX rfl) rfl<|Q.u 2 rfl<|Q.q (q.idx (i:=k) (fun _=>Wd.old wN) rfl rfl aT rfl hx2) rfl<|Q.q (q.iU (ds:=[.string x2.Key,.string x2.Val,.bool x2.Gone]) (fun _=>Wd.old wN) hx2 rfl aX rfl) rfl<|Q.q (q.wZ (x:=x1) (y:=x2) vB rfl rfl h3) rfl<|Q.nil ?_
        refine R.aK rfl rfl ?_
        refine R.reg rfl<|R.u 1 rfl<|R.nil ?_
        exact R.rv rfl Try.results28 rfl (rB (by (first|exact lF (by assumption)|exact lH (by assumption) (by assumption) HA|exact lG hx1 hx2 (by assumption))))
    ·
      refine R.q (q.lss rfl rfl (decide_eq_false (by omega))) rfl<|R.nil ?_
      refine R.aI rfl rfl ?_
      refine R.reg rfl<|R.u 1 rfl<|R.nil ?_
      exact R.rv rfl Try.results28 rfl (rB (by (first|exact lF (by assumption)|exact lH (by assumption) (by assumption) HA|exact lG hx1 hx2 (by assumption))))
  ·
    refine R.q (q.neq rfl rfl (bne_iff_ne.2 (by omega))) rfl<|R.nil ?_
    refine R.aK rfl rfl ?_
    refine R.reg rfl<|R.u 1 rfl<|R.nil ?_
    exact R.rv rfl Try.results28 rfl (rB (by (first|exact lF (by assumption)|exact lH (by assumption) (by assumption) HA|exact lG hx1 hx2 (by assumption))))
end Go.Proofs.Ytpipachmngdegaa
end
section
namespace Go.Proofs.Ytpipachmngdegaa
open Go Go.RowKit
set_option linter.unusedVariables false
def u8 (n:Int):UInt8:=UInt8.ofNat n.toNat
theorem gx {n:Int}(h:0≤n∧n≤255):(((u8 n).toNat:Nat):Int)=n:=by
  unfold u8;rw [UInt8.toNat_ofNat'];omega
theorem rK {n:Nat}(h:n≤255):(UInt8.ofNat n).toNat=n:=by
  rw [UInt8.toNat_ofNat'];omega
theorem c8 {n:Int}(h:0≤n∧n≤255):(Value.int .u8 n).cells.toList=Enc.cells (u8 n):=by
  show [Value.int .u8 n]=[Value.int .u8 (((u8 n).toNat:Nat):Int)]
  rw [gx h]
theorem bU {n:Nat}(h:n≤255):(Value.int .u8 ((n:Nat):Int)).cells.toList=Enc.cells (UInt8.ofNat n):=by
  show [Value.int .u8 (n:Int)]=[Value.int .u8 (((UInt8.ofNat n).toNat:Nat):Int)]
  rw [rK h]
theorem aD (l:List UInt8):(⟨l.toArray⟩:ByteArray).size=l.length:=by simp [ByteArray.size]
section
variable {α:Type} [Enc α]
theorem cS:([]:List Value).map (fun v=>v.cells.toList)=([]:List α).map Enc.cells:=rfl
theorem bn {v:Value}{x:α}{vs:List Value}{l:List α}(h:v.cells.toList=Enc.cells x)(hs:vs.map (fun v=>v.cells.toList)=l.map Enc.cells) :
    (v::vs).map (fun v=>v.cells.toList)=(x::l).map Enc.cells:=by
  rw [List.map_cons,List.map_cons,h,hs]
end
end Go.Proofs.Ytpipachmngdegaa
end
section
namespace Go.Proofs
open Go.Shelf
def Try.lays106_ren:Go.Shelf.Ren:=⟨fun|106=>66|213=>75|265=>79|n=>n,fun|9=>9|3=>3|n=>n,fun|n=>n⟩
theorem Try.lays106:Go.Proofs.Lays.n106 Try.prog Try.lays106_ren:={
  mixed:=by kernel_rfl
  f106:=Try.func66.trans (congrArg some (by kernel_rfl))
  f213:=Try.func75.trans (congrArg some (by kernel_rfl))
  f265:=Try.func79.trans (congrArg some (by kernel_rfl))
  t3:=Try.underlying3
  a3:=Try.isAgg3
  z3:=Try.sizeOf3
  v3:=Try.zeroValue3
  t9:=Try.underlying9
  a9:=Try.isAgg9
  z9:=Try.sizeOf9
  v9:=Try.zeroValue9 }
def Try.lays212_ren:Go.Shelf.Ren:=⟨fun|212=>61|263=>73|264=>74|n=>n,fun|46=>111|51=>128|146=>129|53=>45|148=>131|n=>n,fun|n=>n⟩
theorem Try.lays212:Go.Proofs.Lays.n212 Try.prog Try.lays212_ren:={
  mixed:=by kernel_rfl
  f212:=Try.func61.trans (congrArg some (by kernel_rfl))
  f263:=Try.func73.trans (congrArg some (by kernel_rfl))
  f264:=Try.func74.trans (congrArg some (by kernel_rfl))
  t46:=Try.underlying111
  a46:=Try.isAgg111
  z46:=Try.sizeOf111
  v46:=Try.zeroValue111
  t51:=Try.underlying128
  a51:=Try.isAgg128
  z51:=Try.sizeOf128
  v51:=Try.zeroValue128
  t53:=Try.underlying45
  a53:=Try.isAgg45
  z53:=Try.sizeOf45
  v53:=Try.zeroValue45
  t146:=Try.underlying129
  a146:=Try.isAgg129
  z146:=Try.sizeOf129
  v146:=Try.zeroValue129
  t148:=Try.underlying131
  a148:=Try.isAgg131
  z148:=Try.sizeOf131
  v148:=Try.zeroValue131 }
open Go.RowKit in
theorem Try.strings_Compare (a b:ByteArray)(w:World) :
    Calls Try.prog 66 #[.string a,.string b] w fun e w'=>e = .returned (.int .i64 (Lib.compareBytes a.data.toList b.data.toList))∧w'=w:=Any.strings_Compare Try.lays106 a b w
open Go.RowKit Go.Lib in
theorem Try.bits_Mul (x y:Nat)(hx:x<18446744073709551616)(hy:y<18446744073709551616)(w:World) :
    Calls Try.prog 61 #[.int .u64 x,.int .u64 y] w fun e w'=>e = .returned (.tuple #[.int .u64 ((x*y / 18446744073709551616:Nat):Int),.int .u64 ((x*y % 18446744073709551616:Nat):Int)])∧w'=w:=Any.bits_Mul Try.lays212 x y hx hy w
end Go.Proofs
end
