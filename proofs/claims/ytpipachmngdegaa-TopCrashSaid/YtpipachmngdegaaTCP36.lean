import Derived.Test.YtpipachmngdegaaTCP15
import Derived.RangeFuncNested
import Derived.RangeFuncCalls
import Derived.RangeFuncLeaves
import Derived.OrdersIn
import Derived.TacticsIn
section
namespace Go.Proofs.Ytpipachmngdegaa
open Go Go.RowKit
set_option linter.unusedVariables false
set_option linter.unusedSimpArgs false
def pY:Option Nat→Fence
  | none=>Fence.wide
  | some l=>Fence.wide.inRound l
theorem pZ (r:Option Nat)(f:FuncId):(pY r).fn f:=by cases r <;> exact trivial
theorem kA (r:Option Nat):(pY r).depth.isSome=true→1≤9:=fun _=>by decide
theorem r7 {r:Option Nat}{m:Nat}{P:Program}{f:FuncId}{args:Array Value}{w:World}{R:Ending→World→Prop}(h:Calls P f args w R):CallsIn (pY r) m P f args w R:=by
  cases r with
  | none=>exact callsIn_wide.2 h
  | some l=>exact CallsIn.inRound l (callsIn_wide.2 h)
theorem tM {r:Option Nat}{m:Nat}{P:Program}{row:String}{args:Array Value}{w:World}{R:Value→World→Prop}(h:Rows P row args w R):RowsIn (pY r) m P row args w R:=by
  have key:RowsIn Fence.wide m P row args w R:=fun c cs _=>let ⟨v,w',q,s⟩:=h c cs;⟨v,w',q,stepsIn_wide.2 s⟩
  cases r with
  | none=>exact key
  | some l=>exact key
def gW (a:Act)(ds:List Deferred):Act:={ a with defers:=a.defers++ds }
theorem gS (a:Act)(ds:List Deferred)(dst:Option Nat)(v:Value):(gW a ds).put dst v=gW (a.put dst v) ds:=by cases dst <;> rfl
theorem pn (a:Act)(ds:List Deferred):(gW a ds).eval=a.eval:=rfl
section
variable {P:Program} {r:Option Nat} {ds:List Deferred}
def ndef (o:Oper):Bool:=match o.op with | .defer _=>false|_=>true
theorem uX {o:Oper}(h:ndef o=true):∀c,o.op ≠ .defer c:=fun c e=>by unfold ndef at h;rw [e] at h;cases h
theorem tN {o:Oper}{a:Act}{w:World}{K K':Act→World→Prop}{Q Q':Exit→Act→World→Prop}(hnd:ndef o=true)(hK:∀a w,K a w→K' (gW a ds) w)(hQ:∀e a w,Q e a w→Q' e (gW a ds) w)
    (h:o.wp P a w K Q):o.wpIn (pY r) 9 P (gW a ds) w K' Q':=by
  refine ⟨fun f _=>pZ r f,?_⟩
  rw [Oper.semAt_eq _ _ _ (uX hnd),pn]
  unfold Oper.wp at h
  generalize (execOp a.eval o).run P w=x at *
  cases x with
  | ok y w' =>
    cases y <;> simp only [Oper.upon] at h <;> simp only [Oper.uponIn]
    case value v=>rw [gS];exact hK _ _ h
    case skip=>rw [gS];exact hK _ _ h
    case defer d =>
      have e:({ gW a ds with defers:=d::(gW a ds).defers }:Act)=gW { a with defers:=d::a.defers } ds:=rfl
      rw [e,gS];exact hK _ _ h
    case enter f args =>
      refine ⟨kA r,(r7 h).mono fun en w'' he=>?_⟩
      cases en with
      | returned v=>show K' ((gW a ds).put o.dst v) w'';rw [gS];exact hK _ _ he
      | panicked c=>exact hQ _ _ _ he
      | outgrown=>obtain ⟨a',w',hq⟩:=he;exact ⟨_,_,hQ _ _ _ hq⟩
    case row row args =>
      exact ⟨kA r,(tM h).mono fun v w'' he=>by rw [gS];exact hK _ _ he⟩
  | halt x w' =>
    cases x <;> simp only [Oper.upon] at h <;> simp only [Oper.uponIn]
    case panic v=>exact hQ _ _ _ h
theorem rh {ops:Array Oper}{Q Q':Exit→Act→World→Prop}(hQ:∀e a w,Q e a w→Q' e (gW a ds) w)(hO:∀a w,¬ Q .outgrown a w):∀ (rest:List Oper) (a:Act) (w:World),rest.all ndef=true→wpList P ops Q rest a w→wpListIn (pY r) 9 P ops Q' rest (gW a ds) w
  | [],a,w,_,h=>hQ _ _ _ h
  | o::rest,a,w,hn,h=>by
    rw [List.all_cons,Bool.and_eq_true] at hn
    have ih:∀a w,wpList P ops Q rest a w→wpListIn (pY r) 9 P ops Q' rest (gW a ds) w:=fun a w=>rh hQ hO rest a w hn.2
    unfold wpList at h
    unfold wpListIn
    by_cases hw:Region.wanted o (yielded ops a.tmps)=true
    ·
      rw [if_pos hw] at h
      rw [if_pos (show Region.wanted o (yielded ops (gW a ds).tmps)=true from hw)]
      rcases h with h|⟨_,a',w',h⟩
      · exact tN hn.1 ih hQ h
      · exact absurd h (hO _ _)
    ·
      rw [if_neg hw] at h
      rw [if_neg (show ¬ Region.wanted o (yielded ops (gW a ds).tmps)=true from hw),gS]
      exact ⟨fun f _=>pZ r f,ih _ _ h⟩
theorem tO {ops:Array Oper}{Q Q':Exit→Act→World→Prop}(hn:ops.toList.all ndef=true)(hQ:∀e a w,Q e a w→Q' e (gW a ds) w)(hO:∀a w,¬ Q .outgrown a w) :
    ∀ (fuel:Nat) (ls:Array Bool) (a:Act) (w:World),wpAny P .any ops Q fuel ls a w→wpAnyIn (pY r) 9 P .any ops Q' fuel ls (gW a ds) w
  | 0,ls,a,w,h=>⟨h.1,hQ _ _ _ h.2⟩
  | fuel+1,ls,a,w,h=>by
    refine ⟨fun h0=>hQ _ _ _ (h.1 h0),fun i hi=>?_⟩
    have h1:=h.2 i hi
    have ih:∀a w,wpAny P .any ops Q fuel (ls.setIfInBounds i true) a w→wpAnyIn (pY r) 9 P .any ops Q' fuel (ls.setIfInBounds i true) (gW a ds) w:=fun a w=>tO hn hQ hO fuel (ls.setIfInBounds i true) a w
    unfold wpOp at h1
    unfold wpOpIn
    cases ho:ops[i]? with
    | none=>rw [ho] at h1;exact ih _ _ h1
    | some o =>
      rw [ho] at h1
      dsimp only at h1 ⊢
      have hno:ndef o=true:=List.all_eq_true.1 hn o (Array.mem_toList_iff.2 (Array.mem_of_getElem? ho))
      by_cases hw:Region.wanted o (yielded ops a.tmps)=true
      ·
        rw [if_pos hw] at h1
        rw [if_pos (show Region.wanted o (yielded ops (gW a ds).tmps)=true from hw)]
        rcases h1 with h1|⟨_,a',w',h1⟩
        · exact tN hno ih hQ h1
        · exact absurd h1 (hO _ _)
      ·
        rw [if_neg hw] at h1
        rw [if_neg (show ¬ Region.wanted o (yielded ops (gW a ds).tmps)=true from hw),gS]
        exact ⟨fun f _=>pZ r f,ih _ _ h1⟩
end
def fQ (r:Option Nat)(P:Program)(Q:Exit→Act→World→Prop):List It→Exit→Act→World→Prop
  | [],e,a,w=>Q e a w
  | .c x::k,.normal,a,w=>x.wpIn (pY r) 9 P (fQ r P Q k) a w
  | .c _::k,e,a,w=>fQ r P Q k e a w
  | .b id::k,.exit id',a,w=>bif Nat.beq id' id then fQ r P Q k .normal a w else fQ r P Q k (.exit id') a w
  | .b _::k,e,a,w=>fQ r P Q k e a w
  | .back I::k,.normal,a,w=>I a w
  | .back _::k,e,a,w=>fQ r P Q k e a w
section
variable {P:Program} {r:Option Nat} {ds:List Deferred} {Q:Exit→Act→World→Prop}
theorem tP {x y:Code}{k:List It}{a:Act}{w:World}(h:fQ r P Q (.c x :: .c y::k) .normal a w):fQ r P Q (.c (.seq x y)::k) .normal a w :=
  wpIn_seq (wpIn_mono h (fun e a w q=>by cases e <;> exact q))
theorem p6 {id:Nat}{x:Code}{k:List It}{a:Act}{w:World}(h:fQ r P Q (.c x :: .b id::k) .normal a w):fQ r P Q (.c (.block id x)::k) .normal a w :=
  wpIn_block (wpIn_mono h (fun e a w q=>by
    cases e with
    | exit id' =>
      simp only [fQ] at q
      by_cases hid:id'=id
      · subst hid;simpa [Exit.inBlock] using q
      ·
        have e':Nat.beq id' id=false:=Bool.eq_false_iff.2 (fun h=>hid (Nat.eq_of_beq_eq_true h))
        rw [e'] at q
        simpa [Exit.inBlock,hid] using q
    | _=>exact q))
theorem jx {id:Nat}:∀ {k k':List It} {a:Act} {w:World},eV id k=some k'→fQ r P Q k' .normal a w→fQ r P Q k (.exit id) a w
  | [],k',a,w,h,hq=>by simp [eV] at h
  | .c _::k,k',a,w,h,hq=>jx (k:=k) (by simpa [eV] using h) hq
  | .back _::k,k',a,w,h,hq=>jx (k:=k) (by simpa [eV] using h) hq
  | .b id'::k,k',a,w,h,hq=>by
    simp only [eV] at h
    simp only [fQ]
    cases hb:Nat.beq id id' with
    | true=>rw [hb] at h;simp at h;subst h;exact hq
    | false=>rw [hb] at h;simp at h;exact jx h hq
theorem cm:∀ (f:Nat) {k:List It} {a:Act} {w:World},fQ r P Q (norm f k) .normal a w→fQ r P Q k .normal a w
  | 0,k,a,w,h=>h
  | f+1,k,a,w,h=>by
    unfold norm at h
    split at h
    · exact tP (cm f h)
    · exact wpIn_skip (cm f h)
    · exact wpIn_label (cm f h)
    · exact p6 (cm f h)
    ·
      have:=cm f h
      exact this
    ·
      split at h
      · rename_i hx;exact wpIn_exit (jx hx (cm f h))
      · exact h
    · exact h
theorem ke:∀ {k:List It} {a:Act} {w:World},Q .ret a w→fQ r P Q k .ret a w
  | [],a,w,h=>h
  | .c _::k,a,w,h=>ke (k:=k) h
  | .b _::k,a,w,h=>ke (k:=k) h
  | .back _::k,a,w,h=>ke (k:=k) h
theorem jh (hO:∀a w,¬ Q .outgrown a w):∀ (k:List It) (a:Act) (w:World),¬ fQ r P Q k .outgrown a w
  | [],a,w=>hO a w
  | .c _::k,a,w=>jh hO k a w
  | .b _::k,a,w=>jh hO k a w
  | .back _::k,a,w=>jh hO k a w
theorem gD:∀ (k:List It) (e:Exit) (a:Act) (w:World),fQ none P Q k e a w→ji P Q k e a w
  | [],e,a,w,h=>h
  | .c x::k,e,a,w,h=>by
    cases e with
    | normal=>exact wp_mono (wpIn_wide.1 h) (fun e a w q=>gD k e a w q)
    | _=>exact gD k _ a w h
  | .b id::k,e,a,w,h=>by
    cases e with
    | exit id' =>
      simp only [fQ] at h
      simp only [ji]
      cases hb:Nat.beq id' id with
      | true=>rw [hb] at h;exact gD k _ a w h
      | false=>rw [hb] at h;exact gD k _ a w h
    | _=>exact gD k _ a w h
  | .back I::k,e,a,w,h=>by
    cases e with
    | normal=>exact h
    | _=>exact gD k _ a w h
end
def fL (r:Option Nat)(ds:List Deferred)(P:Program)(n:Nat)(we:World)(X:List Nat)(Q:Exit→Act→World→Prop)(k:List It)(L:Fm)(B F:List ah):Prop :=
  ∀a w,Fr n L a→Wd we X B F w→fQ r P Q k .normal (gW a ds) w
def qI (r:Option Nat)(ds:List Deferred)(P:Program)(Q:Exit→Act→World→Prop)(k:List It):Exit→Act→World→Prop:=fun e a w=>fQ r P Q k e (gW a ds) w
section
variable {P:Program} {r:Option Nat} {ds:List Deferred} {n:Nat} {we:World} {X:List Nat} {Q:Exit→Act→World→Prop} {k k':List It} {L L':Fm} {B F:List ah} {ops rest:List Oper}
theorem I.nil (h:fL r ds P n we X Q k L B F):Run P n we X (qI r ds P Q k) [] L B F:=fun a w ha hw=>h a w ha hw
theorem I.reg {id:Nat}(h:norm 200 k = .c (.region id ops.toArray false)::k')(hn:ops.all ndef=true)(hO:∀a w,¬ Q .outgrown a w)(hr:Rg P n we X (qI r ds P Q k') ops ops [] L B F):fL r ds P n we X Q k L B F :=
  fun a w ha hw=>cm 200 (h▸wpIn_region_lit (rh (Q:=ji P (qI r ds P Q k') []) (fun e a w q=>q) (fun a w q=>jh hO k' _ _ q) ops a w hn (hr a w ha hw)))
theorem I.eT {id fuel:Nat}(S:World→Prop)(h:norm 200 k = .c (.region id ops.toArray true)::k')(hn:ops.all ndef=true)(hO:∀a w,¬ Q .outgrown a w)(hm:P.follows .mixedOrders=true)(hl:ops.length=fuel)
    (hr:Dg S P n we X (qI r ds P Q k') ops fuel (Array.replicate fuel false) [] L B F):fL r ds P n we X Q k L B F:=by
  intro a w ha hw
  refine cm 200 (h ▸ ?_)
  refine wpIn_region_any hm ?_
  have h1:=wpAny_of_held _ _ _ _ (hr a _ ha (hw.grow (iN.draw w)))
  have h2:=tO (r:=r) (ds:=ds) (ops:=ops.toArray) (Q:=NoPanic (ji P (qI r ds P Q k') [])) (Q':=fQ r P Q k') hn (fun e a w q=>NoPanic.imp e a w q) (fun a w q=>jh hO k' (gW a ds) w (NoPanic.imp (Q:=ji P (qI r ds P Q k') []) _ a w q)) fuel _ a _ h1
  simpa [hl] using h2
theorem I.aK {c:Operand}{x y:Code}(h:norm 200 k = .c (.cond c x y)::k')(hc:ev L c=some (.bool true))(hr:fL r ds P n we X Q (.c x::k') L B F):fL r ds P n we X Q k L B F :=
  fun a w ha hw=>cm 200 (h▸wpIn_cond_true (ha.ev hc) (hr a w ha hw))
theorem I.aI {c:Operand}{x y:Code}(h:norm 200 k = .c (.cond c x y)::k')(hc:ev L c=some (.bool false))(hr:fL r ds P n we X Q (.c y::k') L B F):fL r ds P n we X Q k L B F :=
  fun a w ha hw=>cm 200 (h▸wpIn_cond_false (ha.ev hc) (hr a w ha hw))
theorem I.mp {B' F':List ah}(hm:∀w,Wd we X B F w→Wd we X B' F' w)(h:fL r ds P n we X Q k L B' F'):fL r ds P n we X Q k L B F:=fun a w ha hw=>h a w ha (hm w hw)
theorem I.ret (h:norm 200 k = .c .ret::k')(hq:∀a w,Fr n L a→Wd we X B F w→Q .ret (gW a ds) w):fL r ds P n we X Q k L B F :=
  fun a w ha hw=>cm 200 (h▸wpIn_ret (ke (hq a w ha hw)))
theorem I.end (h:norm 200 k=[])(hq:∀a w,Fr n L a→Wd we X B F w→Q .normal (gW a ds) w):fL r ds P n we X Q k L B F :=
  fun a w ha hw=>cm 200 (h▸hq a w ha hw)
end
end Go.Proofs.Ytpipachmngdegaa
end
