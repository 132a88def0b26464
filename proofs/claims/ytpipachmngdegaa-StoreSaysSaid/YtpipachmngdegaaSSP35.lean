import Derived.Test.YtpipachmngdegaaSSP25
import Derived.RangeFuncNested
import Derived.RangeFuncCalls
import Derived.RangeFuncLeaves
import Derived.OrdersIn
import Derived.TacticsIn
section
namespace Go.Proofs.Ytpipachmngdegaa
open Go Go.RowKit
set_option linter.unusedVariables false
set_option linter.unusedSimpArgs false
def qf:Option Nat→Fence
  | none=>Fence.wide
  | some l=>Fence.wide.inRound l
theorem qh (r:Option Nat)(f:FuncId):(qf r).fn f:=by cases r <;> exact trivial
theorem kN (r:Option Nat):(qf r).depth.isSome=true→1≤9:=fun _=>by decide
theorem sr {r:Option Nat}{m:Nat}{P:Program}{f:FuncId}{args:Array Value}{w:World}{R:Ending→World→Prop}(h:Calls P f args w R):CallsIn (qf r) m P f args w R:=by
  cases r with
  | none=>exact callsIn_wide.2 h
  | some l=>exact CallsIn.inRound l (callsIn_wide.2 h)
theorem t7 {r:Option Nat}{m:Nat}{P:Program}{row:String}{args:Array Value}{w:World}{R:Value→World→Prop}(h:Rows P row args w R):RowsIn (qf r) m P row args w R:=by
  have key:RowsIn Fence.wide m P row args w R:=fun c cs _=>let ⟨v,w',q,s⟩:=h c cs;⟨v,w',q,stepsIn_wide.2 s⟩
  cases r with
  | none=>exact key
  | some l=>exact key
def ig (a:Act)(ds:List Deferred):Act:={ a with defers:=a.defers++ds }
theorem hU (a:Act)(ds:List Deferred)(dst:Option Nat)(v:Value):(ig a ds).put dst v=ig (a.put dst v) ds:=by cases dst <;> rfl
theorem pw (a:Act)(ds:List Deferred):(ig a ds).eval=a.eval:=rfl
section
variable {P:Program} {r:Option Nat} {ds:List Deferred}
def ndef (o:Oper):Bool:=match o.op with | .defer _=>false|_=>true
theorem vm {o:Oper}(h:ndef o=true):∀c,o.op ≠ .defer c:=fun c e=>by unfold ndef at h;rw [e] at h;cases h
theorem t8 {o:Oper}{a:Act}{w:World}{K K':Act→World→Prop}{Q Q':Exit→Act→World→Prop}(hnd:ndef o=true)(hK:∀a w,K a w→K' (ig a ds) w)(hQ:∀e a w,Q e a w→Q' e (ig a ds) w)
    (h:o.wp P a w K Q):o.wpIn (qf r) 9 P (ig a ds) w K' Q':=by
  refine ⟨fun f _=>qh r f,?_⟩
  rw [Oper.semAt_eq _ _ _ (vm hnd),pw]
  unfold Oper.wp at h
  generalize (execOp a.eval o).run P w=x at *
  cases x with
  | ok y w' =>
    cases y <;> simp only [Oper.upon] at h <;> simp only [Oper.uponIn]
    case value v=>rw [hU];exact hK _ _ h
    case skip=>rw [hU];exact hK _ _ h
    case defer d =>
      have e:({ ig a ds with defers:=d::(ig a ds).defers }:Act)=ig { a with defers:=d::a.defers } ds:=rfl
      rw [e,hU];exact hK _ _ h
    case enter f args =>
      refine ⟨kN r,(sr h).mono fun en w'' he=>?_⟩
      cases en with
      | returned v=>show K' ((ig a ds).put o.dst v) w'';rw [hU];exact hK _ _ he
      | panicked c=>exact hQ _ _ _ he
      | outgrown=>obtain ⟨a',w',hq⟩:=he;exact ⟨_,_,hQ _ _ _ hq⟩
    case row row args =>
      exact ⟨kN r,(t7 h).mono fun v w'' he=>by rw [hU];exact hK _ _ he⟩
  | halt x w' =>
    cases x <;> simp only [Oper.upon] at h <;> simp only [Oper.uponIn]
    case panic v=>exact hQ _ _ _ h
theorem rx {ops:Array Oper}{Q Q':Exit→Act→World→Prop}(hQ:∀e a w,Q e a w→Q' e (ig a ds) w)(hO:∀a w,¬ Q .outgrown a w):∀ (rest:List Oper) (a:Act) (w:World),rest.all ndef=true→wpList P ops Q rest a w→wpListIn (qf r) 9 P ops Q' rest (ig a ds) w
  | [],a,w,_,h=>hQ _ _ _ h
  | o::rest,a,w,hn,h=>by
    rw [List.all_cons,Bool.and_eq_true] at hn
    have ih:∀a w,wpList P ops Q rest a w→wpListIn (qf r) 9 P ops Q' rest (ig a ds) w:=fun a w=>rx hQ hO rest a w hn.2
    unfold wpList at h
    unfold wpListIn
    by_cases hw:Region.wanted o (yielded ops a.tmps)=true
    ·
      rw [if_pos hw] at h
      rw [if_pos (show Region.wanted o (yielded ops (ig a ds).tmps)=true from hw)]
      rcases h with h|⟨_,a',w',h⟩
      · exact t8 hn.1 ih hQ h
      · exact absurd h (hO _ _)
    ·
      rw [if_neg hw] at h
      rw [if_neg (show ¬ Region.wanted o (yielded ops (ig a ds).tmps)=true from hw),hU]
      exact ⟨fun f _=>qh r f,ih _ _ h⟩
theorem ua {ops:Array Oper}{Q Q':Exit→Act→World→Prop}(hn:ops.toList.all ndef=true)(hQ:∀e a w,Q e a w→Q' e (ig a ds) w)(hO:∀a w,¬ Q .outgrown a w) :
    ∀ (fuel:Nat) (ls:Array Bool) (a:Act) (w:World),wpAny P .any ops Q fuel ls a w→wpAnyIn (qf r) 9 P .any ops Q' fuel ls (ig a ds) w
  | 0,ls,a,w,h=>⟨h.1,hQ _ _ _ h.2⟩
  | fuel+1,ls,a,w,h=>by
    refine ⟨fun h0=>hQ _ _ _ (h.1 h0),fun i hi=>?_⟩
    have h1:=h.2 i hi
    have ih:∀a w,wpAny P .any ops Q fuel (ls.setIfInBounds i true) a w→wpAnyIn (qf r) 9 P .any ops Q' fuel (ls.setIfInBounds i true) (ig a ds) w:=fun a w=>ua hn hQ hO fuel (ls.setIfInBounds i true) a w
    unfold wpOp at h1
    unfold wpOpIn
    cases ho:ops[i]? with
    | none=>rw [ho] at h1;exact ih _ _ h1
    | some o =>
      rw [ho] at h1
      dsimp only at h1 ⊢
      have hno:ndef o=true:=List.all_eq_true.1 hn o (Array.mem_toList_iff.2 (Array.mem_of_getElem? ho))
      by_cases hw:Region.wanted o (yielded ops a.tmps)=true
      ·
        rw [if_pos hw] at h1
        rw [if_pos (show Region.wanted o (yielded ops (ig a ds).tmps)=true from hw)]
        rcases h1 with h1|⟨_,a',w',h1⟩
        · exact t8 hno ih hQ h1
        · exact absurd h1 (hO _ _)
      ·
        rw [if_neg hw] at h1
        rw [if_neg (show ¬ Region.wanted o (yielded ops (ig a ds).tmps)=true from hw),hU]
        exact ⟨fun f _=>qh r f,ih _ _ h1⟩
end
def gk (r:Option Nat)(P:Program)(Q:Exit→Act→World→Prop):List It→Exit→Act→World→Prop
  | [],e,a,w=>Q e a w
  | .c x::k,.normal,a,w=>x.wpIn (qf r) 9 P (gk r P Q k) a w
  | .c _::k,e,a,w=>gk r P Q k e a w
  | .b id::k,.exit id',a,w=>bif Nat.beq id' id then gk r P Q k .normal a w else gk r P Q k (.exit id') a w
  | .b _::k,e,a,w=>gk r P Q k e a w
  | .back I::k,.normal,a,w=>I a w
  | .back _::k,e,a,w=>gk r P Q k e a w
section
variable {P:Program} {r:Option Nat} {ds:List Deferred} {Q:Exit→Act→World→Prop}
theorem ub {x y:Code}{k:List It}{a:Act}{w:World}(h:gk r P Q (.c x :: .c y::k) .normal a w):gk r P Q (.c (.seq x y)::k) .normal a w :=
  wpIn_seq (wpIn_mono h (fun e a w q=>by cases e <;> exact q))
theorem qi {id:Nat}{x:Code}{k:List It}{a:Act}{w:World}(h:gk r P Q (.c x :: .b id::k) .normal a w):gk r P Q (.c (.block id x)::k) .normal a w :=
  wpIn_block (wpIn_mono h (fun e a w q=>by
    cases e with
    | exit id' =>
      simp only [gk] at q
      by_cases hid:id'=id
      · subst hid;simpa [Exit.inBlock] using q
      ·
        have e':Nat.beq id' id=false:=Bool.eq_false_iff.2 (fun h=>hid (Nat.eq_of_beq_eq_true h))
        rw [e'] at q
        simpa [Exit.inBlock,hid] using q
    | _=>exact q))
theorem jJ {id:Nat}:∀ {k k':List It} {a:Act} {w:World},ft id k=some k'→gk r P Q k' .normal a w→gk r P Q k (.exit id) a w
  | [],k',a,w,h,hq=>by simp [ft] at h
  | .c _::k,k',a,w,h,hq=>jJ (k:=k) (by simpa [ft] using h) hq
  | .back _::k,k',a,w,h,hq=>jJ (k:=k) (by simpa [ft] using h) hq
  | .b id'::k,k',a,w,h,hq=>by
    simp only [ft] at h
    simp only [gk]
    cases hb:Nat.beq id id' with
    | true=>rw [hb] at h;simp at h;subst h;exact hq
    | false=>rw [hb] at h;simp at h;exact jJ h hq
theorem cr:∀ (f:Nat) {k:List It} {a:Act} {w:World},gk r P Q (norm f k) .normal a w→gk r P Q k .normal a w
  | 0,k,a,w,h=>h
  | f+1,k,a,w,h=>by
    unfold norm at h
    split at h
    · exact ub (cr f h)
    · exact wpIn_skip (cr f h)
    · exact wpIn_label (cr f h)
    · exact qi (cr f h)
    ·
      have:=cr f h
      exact this
    ·
      split at h
      · rename_i hx;exact wpIn_exit (jJ hx (cr f h))
      · exact h
    · exact h
theorem ky:∀ {k:List It} {a:Act} {w:World},Q .ret a w→gk r P Q k .ret a w
  | [],a,w,h=>h
  | .c _::k,a,w,h=>ky (k:=k) h
  | .b _::k,a,w,h=>ky (k:=k) h
  | .back _::k,a,w,h=>ky (k:=k) h
theorem jt (hO:∀a w,¬ Q .outgrown a w):∀ (k:List It) (a:Act) (w:World),¬ gk r P Q k .outgrown a w
  | [],a,w=>hO a w
  | .c _::k,a,w=>jt hO k a w
  | .b _::k,a,w=>jt hO k a w
  | .back _::k,a,w=>jt hO k a w
theorem gN:∀ (k:List It) (e:Exit) (a:Act) (w:World),gk none P Q k e a w→ju P Q k e a w
  | [],e,a,w,h=>h
  | .c x::k,e,a,w,h=>by
    cases e with
    | normal=>exact wp_mono (wpIn_wide.1 h) (fun e a w q=>gN k e a w q)
    | _=>exact gN k _ a w h
  | .b id::k,e,a,w,h=>by
    cases e with
    | exit id' =>
      simp only [gk] at h
      simp only [ju]
      cases hb:Nat.beq id' id with
      | true=>rw [hb] at h;exact gN k _ a w h
      | false=>rw [hb] at h;exact gN k _ a w h
    | _=>exact gN k _ a w h
  | .back I::k,e,a,w,h=>by
    cases e with
    | normal=>exact h
    | _=>exact gN k _ a w h
end
def fY (r:Option Nat)(ds:List Deferred)(P:Program)(n:Nat)(we:World)(X:List Nat)(Q:Exit→Act→World→Prop)(k:List It)(L:Fm)(B F:List af):Prop :=
  ∀a w,Fr n L a→Wd we X B F w→gk r P Q k .normal (ig a ds) w
def qI (r:Option Nat)(ds:List Deferred)(P:Program)(Q:Exit→Act→World→Prop)(k:List It):Exit→Act→World→Prop:=fun e a w=>gk r P Q k e (ig a ds) w
section
variable {P:Program} {r:Option Nat} {ds:List Deferred} {n:Nat} {we:World} {X:List Nat} {Q:Exit→Act→World→Prop} {k k':List It} {L L':Fm} {B F:List af} {ops rest:List Oper}
theorem I.nil (h:fY r ds P n we X Q k L B F):Run P n we X (qI r ds P Q k) [] L B F:=fun a w ha hw=>h a w ha hw
theorem I.reg {id:Nat}(h:norm 200 k = .c (.region id ops.toArray false)::k')(hn:ops.all ndef=true)(hO:∀a w,¬ Q .outgrown a w)(hr:Rg P n we X (qI r ds P Q k') ops ops [] L B F):fY r ds P n we X Q k L B F :=
  fun a w ha hw=>cr 200 (h▸wpIn_region_lit (rx (Q:=ju P (qI r ds P Q k') []) (fun e a w q=>q) (fun a w q=>jt hO k' _ _ q) ops a w hn (hr a w ha hw)))
theorem I.eX {id fuel:Nat}(S:World→Prop)(h:norm 200 k = .c (.region id ops.toArray true)::k')(hn:ops.all ndef=true)(hO:∀a w,¬ Q .outgrown a w)(hm:P.follows .mixedOrders=true)(hl:ops.length=fuel)
    (hr:Dg S P n we X (qI r ds P Q k') ops fuel (Array.replicate fuel false) [] L B F):fY r ds P n we X Q k L B F:=by
  intro a w ha hw
  refine cr 200 (h ▸ ?_)
  refine wpIn_region_any hm ?_
  have h1:=wpAny_of_held _ _ _ _ (hr a _ ha (hw.grow (iW.draw w)))
  have h2:=ua (r:=r) (ds:=ds) (ops:=ops.toArray) (Q:=NoPanic (ju P (qI r ds P Q k') [])) (Q':=gk r P Q k') hn (fun e a w q=>NoPanic.imp e a w q) (fun a w q=>jt hO k' (ig a ds) w (NoPanic.imp (Q:=ju P (qI r ds P Q k') []) _ a w q)) fuel _ a _ h1
  simpa [hl] using h2
theorem I.aF {c:Operand}{x y:Code}(h:norm 200 k = .c (.cond c x y)::k')(hc:ev L c=some (.bool true))(hr:fY r ds P n we X Q (.c x::k') L B F):fY r ds P n we X Q k L B F :=
  fun a w ha hw=>cr 200 (h▸wpIn_cond_true (ha.ev hc) (hr a w ha hw))
theorem I.aH {c:Operand}{x y:Code}(h:norm 200 k = .c (.cond c x y)::k')(hc:ev L c=some (.bool false))(hr:fY r ds P n we X Q (.c y::k') L B F):fY r ds P n we X Q k L B F :=
  fun a w ha hw=>cr 200 (h▸wpIn_cond_false (ha.ev hc) (hr a w ha hw))
theorem I.mp {B' F':List af}(hm:∀w,Wd we X B F w→Wd we X B' F' w)(h:fY r ds P n we X Q k L B' F'):fY r ds P n we X Q k L B F:=fun a w ha hw=>h a w ha (hm w hw)
theorem I.ret (h:norm 200 k = .c .ret::k')(hq:∀a w,Fr n L a→Wd we X B F w→Q .ret (ig a ds) w):fY r ds P n we X Q k L B F :=
  fun a w ha hw=>cr 200 (h▸wpIn_ret (ky (hq a w ha hw)))
theorem I.end (h:norm 200 k=[])(hq:∀a w,Fr n L a→Wd we X B F w→Q .normal (ig a ds) w):fY r ds P n we X Q k L B F :=
  fun a w ha hw=>cr 200 (h▸hq a w ha hw)
end
end Go.Proofs.Ytpipachmngdegaa
end
