import Derived.Test.YtpipachmngdegaaSSP14
import Derived.Laws.StructEq
section
namespace Go.Proofs.Ytpipachmngdegaa
open Go Go.RowKit
set_option linter.unusedVariables false
set_option linter.unusedSimpArgs false
set_option linter.unusedSectionVars false
set_option maxRecDepth 100000
theorem nn {P:Program}{op:BinOp}{t:TypeId}(h:P.eqGuardType P.depth t=false)(a b:Operand)(xs ys:Array Value)(w:World):(eqGuard op t a b (.agg xs) (.agg ys)).run P w = .ok () w:=by
  have hp:(program:Sem Program).run P w = .ok P w:=rfl
  cases op <;> simp [eqGuard,hp,h]
theorem wo {P:Program}{t:TypeId}{β:Type}[DecidableEq β]{cs:β→List Value}(hg:P.eqGuardType P.depth t=false)(he:∀x y w,(Op.equal t (.agg (cs x).toArray) (.agg (cs y).toArray)).run P w = .ok (decide (x=y)) w):yN P t (fun x => .agg (cs x).toArray):=by
  refine ⟨fun x y w a b=>⟨nn hg a b _ _ w,nn hg a b _ _ w⟩,fun x y w=>⟨?_,?_⟩⟩
  · simp only [binOp,Sem.run_bind,he x y w,Result.andThen_ok,Sem.run_pure]
  · simp only [binOp,Sem.run_bind,he x y w,Result.andThen_ok,Sem.run_pure]
theorem vQ:yN Try.prog 51 Change.val:=by
  have hS:Try.prog.underlying 51=some (.struct (Try.prog.fieldsOf 51)):=by kernel_rfl
  have hp:Try.prog.stoodInHeld 51=false:=by kernel_rfl
  refine wo (cs:=Change.cs) (by kernel_rfl) fun x y w=>?_
  have u3:=Try.underlying9;have a3:=Try.isAgg9;have z3:=Try.sizeOf9;have u4:=Try.underlying4;have a4:=Try.isAgg4;have z4:=Try.sizeOf4
  obtain ⟨x1,x2,x3⟩:=x;obtain ⟨y1,y2,y3⟩:=y
  rw [Op.equal,Op.maxDepth,show (10000:Nat)=9999+1 from rfl,run_equalIn_agg w 9999 51 _ _ hS hp]
  simp only [Program.fieldsOf,Try.underlying51]
  go_simp
  have tl:∀a b:ByteArray,a.toList=b.toList↔a=b:=fun a b=>by have:=im a b;rw [Bool.eq_iff_iff] at this;simpa using this
  by_cases h1:x1=y1 <;> by_cases h2:x2=y2 <;> by_cases h3:x3=y3 <;> simp [h1,h2,h3,tl]
section
variable {α:Type} [DecidableEq α] {a b:List α}
theorem lT (h:¬ a.length=b.length):false=decide (a=b):=(decide_eq_false (fun e=>h (by rw [e]))).symm
theorem lU {k:Nat}{x y:α}(hx:a[k]? = some x)(hy:b[k]? = some y)(h:¬ x=y):false=decide (a=b):=(decide_eq_false (fun e=>h (by rw [e,hy] at hx;injection hx with hx;exact hx.symm))).symm
theorem lV {k:Nat}(hl:a.length=b.length)(hk:¬ k<a.length)(h:∀j,j<k→a[j]? = b[j]?):true=decide (a=b):=by
  refine (decide_eq_true (List.ext_getElem? fun j=>?_)).symm
  rcases Nat.lt_or_ge j k with h1|h1
  · exact h j h1
  · rw [List.getElem?_eq_none (by omega),List.getElem?_eq_none (by omega)]
theorem rP {k:Nat}{x y:α}(h:∀j,j<k→a[j]? = b[j]?)(hx:a[k]? = some x)(hy:b[k]? = some y)(e:x=y):∀j,j<k+1→a[j]? = b[j]?:=by
  intro j hj
  rcases Nat.lt_or_ge j k with h1|h1
  · exact h j h1
  ·
    have:j=k:=by omega
    subst this;rw [hx,hy,e]
end
end Go.Proofs.Ytpipachmngdegaa
end
section
namespace Go.Proofs.Ytpipachmngdegaa
open Go Go.RowKit
set_option linter.unusedVariables false
theorem gi (yj:Value)(a:List Change)(yk:Value)(b:List Change)(w:World)(wq:Sl w yj a)(xb:Sl w yk b):Calls Try.prog 28 #[yj,yk] w fun e w'=>e = .returned (.bool (decide (a=b)))∧Ext w w':=by
  have AZ:=wq.j9
  have A8:=xb.j9
  refine R.enter (n:=26) (vs:=[yj,yk]) [] [(0,yj),(1,yk)] Try.func28 rfl rfl rfl rfl ?_
  refine R.reg rfl<|R.u 1 rfl<|R.nil ?_
  refine R.reg rfl<|R.u 1 rfl<|R.q (q.len' (fun _=>Wd.old wq) rfl Try.underlying46) rfl<|R.u 1 rfl<|R.q (q.len' (fun _=>Wd.old xb) rfl Try.underlying46) rfl<|?_
  by_cases h1:a.length=b.length
  ·
    refine R.q (q.neq rfl rfl (bne_eq_false_iff_eq.2 (by omega))) rfl<|R.nil ?_
    refine R.aH rfl rfl ?_
    refine R.reg rfl<|R.u 1 rfl<|R.nil ?_
    refine R.loop (fun k:Nat=>[(0,yj),(1,yk),(5,.int .i64 (k:Int))]) (fun k:Nat=>[]) (fun k:Nat=>[]) (fun k:Nat=>k≤a.length ∧ ∀j,j<k→a[j]? = b[j]?) (fun k:Nat=>a.length-k) 0 rfl (by exact ⟨by omega,fun j hj=>absurd hj (Nat.not_lt_zero _)⟩) ⟨rfl,rfl,rfl,trivial⟩ (fun _=>Wd.pick [] [] rfl rfl rfl) ?_
    rintro k ⟨hk,HA⟩
    refine R.reg rfl<|R.u 2 rfl<|R.q (q.len' (fun _=>Wd.old wq) rfl Try.underlying46) rfl<|?_
    by_cases h2:k<a.length
    ·
      refine R.q (q.lss rfl rfl (decide_eq_true (by omega))) rfl<|R.nil ?_
      refine R.aF rfl rfl ?_
      obtain ⟨x1,hx1⟩:∃z,a[k]? = some z:=⟨_,List.getElem?_eq_getElem (by omega)⟩
      obtain ⟨x2,hx2⟩:∃z,b[k]? = some z:=⟨_,List.getElem?_eq_getElem (by omega)⟩
      by_cases h3:x1=x2
      ·
        refine R.dC rfl mixed (by kernel_rfl)<|Q.u 2 rfl<|Q.q (q.idx (i:=k) (fun _=>Wd.old wq) rfl rfl aU rfl hx1) rfl<|Q.q (q.iX (ds:=[.string x1.Key,.string x1.Val,.bool x1.Gone]) (fun _=>Wd.old wq) hx1 rfl aY rfl) rfl<|Q.u 2 rfl<|Q.q (q.idx (i:=k) (fun _=>Wd.old xb) rfl rfl aU rfl hx2) rfl<|Q.q (q.iX (ds:=[.string x2.Key,.string x2.Val,.bool x2.Gone]) (fun _=>Wd.old xb) hx2 rfl aY rfl) rfl<|Q.q (q.xp (x:=x1) (y:=x2) vQ rfl rfl h3) rfl<|Q.nil ?_
        refine R.aH rfl rfl ?_
        refine R.reg rfl<|R.u 1 rfl<|R.q (q.add (r:=((k+1:Nat):Int)) rfl rfl (wr (by omega))) rfl<|R.u 1 rfl<|R.nil ?_
        refine R.back (k+1) rfl (by (exact ⟨by omega,rP HA hx1 hx2 (by assumption)⟩)) (by omega) ⟨rfl,rfl,rfl,trivial⟩ (fun _=>Wd.pick [] [] rfl rfl rfl)
      ·
        refine R.dC rfl mixed (by kernel_rfl)<|Q.u 2 rfl<|Q.q (q.idx (i:=k) (fun _=>Wd.old wq) rfl rfl aU rfl hx1) rfl<|Q.q (q.iX (ds:=[.string x1.Key,.string x1.Val,.bool x1.Gone]) (fun _=>Wd.old wq) hx1 rfl aY rfl) rfl<|Q.u 2 rfl<|Q.q (q.idx (i:=k) (fun _=>Wd.old xb) rfl rfl aU rfl hx2) rfl<|Q.q (q.iX (ds:=[.string x2.Key,.string x2.Val,.bool x2.Gone]) (fun _=>Wd.old xb) hx2 rfl aY rfl) rfl<|Q.q (q.xq (x:=x1) (y:=x2) vQ rfl rfl h3) rfl<|Q.nil ?_
        refine R.aF rfl rfl ?_
        refine R.reg rfl<|R.u 1 rfl<|R.nil ?_
        exact R.rv rfl Try.results28 rfl (rB (by (first|exact lT (by assumption)|exact lV (by assumption) (by assumption) HA|exact lU hx1 hx2 (by assumption))))
    ·
      refine R.q (q.lss rfl rfl (decide_eq_false (by omega))) rfl<|R.nil ?_
      refine R.aH rfl rfl ?_
      refine R.reg rfl<|R.u 1 rfl<|R.nil ?_
      exact R.rv rfl Try.results28 rfl (rB (by (first|exact lT (by assumption)|exact lV (by assumption) (by assumption) HA|exact lU hx1 hx2 (by assumption))))
  ·
    refine R.q (q.neq rfl rfl (bne_iff_ne.2 (by omega))) rfl<|R.nil ?_
    refine R.aF rfl rfl ?_
    refine R.reg rfl<|R.u 1 rfl<|R.nil ?_
    exact R.rv rfl Try.results28 rfl (rB (by (first|exact lT (by assumption)|exact lV (by assumption) (by assumption) HA|exact lU hx1 hx2 (by assumption))))
end Go.Proofs.Ytpipachmngdegaa
end
