import Derived.Test.YtpipachmngdegaaRows
import Derived.Test.YtpipachmngdegaaTCP3
import Derived.Test.YtpipachmngdegaaTCP15
import Derived.Test.YtpipachmngdegaaTCP49
/-
  behind a fall at any step, of a deed or while all is laid, with any of what was written kept, the store has all deeds that were committed, or these and the one that was being committed; and it goes on. No condition.
-/
section
namespace Go.Proofs.Ytpipachmngdegaa.TopCrash
open Go.ChangeShapes Go.WideShapes Go.ChangeAt Go.RowKit
set_option linter.unusedVariables false
theorem own:ownKnob Try.prog.godebug=none:=by kernel_rfl
theorem laidOut:laidOutB Try.prog=true:=by kernel_rfl
theorem back:∀t∈Try.f6.params.toList,Try.prog.readableRec t=true∧t<Try.prog.types.size:=by
  rw [Try.params6];intro t ht;simp at ht
  (repeat' rcases ht with rfl|ht) <;> first|exact ⟨by kernel_rfl,of_decide_eq_true (by kernel_rfl)⟩ | (subst ht;exact ⟨by kernel_rfl,of_decide_eq_true (by kernel_rfl)⟩)
set_option maxRecDepth 100000 in
theorem lifted (os:Os)(started:os.Started)(H:Type)(enc:TypeId×Value→H) :
    ReturnsInHanded {} Try.checked os 6 .any (Rows.topCrashSpec.pre6 enc Try.prog Try.f6 Rows.topCrashRow.domain false) (Rows.topCrashSpec.post enc Try.prog Try.f6 false true false false):=by
  refine returnsInHanded_of_change (C:=Try.checked) own started (by kernel_rfl) Try.func6
    (ChangeSpec.witness6 (enc:=enc) (C:=Try.checked) false ⟨#[],#[.slice none 0 0,.int .i64 0,.int .u64 0],[]⟩ 8 (by kernel_rfl) (by kernel_rfl) (by kernel_rfl) (by kernel_rfl)) ?_
  intro W base args ds gs before hval0 hW hcnd _
  have hval:∀ (j:Nat) t v,Try.f6.params[j]? = some t→args[j]? = some v→Value.okWide Try.prog W .any base t v:=hval0
  have hW':=hW
  obtain ⟨p,q,zw,hV,rfl,hfz,hnd⟩:=hW
  have hA:DataW.TrodAll enc Try.prog W 0 (fun _=>true) true Try.f6.params.toList args.toList ds p:=zw
  have hA2:=hA
  have hback:=back
  rw [Try.params6] at hA hval hA2 hback
  obtain ⟨v0,AY,d0,ds0,p0,q0,hargs,rfl,rfl,h0,r0⟩:=trodAll_cons hA
  obtain ⟨v1,vs1,d1,ds1,p1,q1,rfl,rfl,rfl,h1,r1⟩:=trodAll_cons r0
  obtain ⟨v2,vs2,d2,AZ,p2,q2,rfl,rfl,rfl,h2,r2⟩:=trodAll_cons r1
  obtain ⟨rfl,rfl,rfl⟩:=trodAll_nil r2
  obtain rfl:args = #[v0,v1,v2]:=by cases args;simp_all
  obtain ⟨rfl,rfl⟩:=trodVars_none hV
  obtain ⟨x0,s0,c0,f0⟩:=rD (hval 0 _ v0 rfl rfl) h0
  obtain ⟨x1,rfl,f1⟩:=ui (hval 1 _ v1 rfl rfl) h1
  obtain ⟨x2,rfl,f2⟩:=uv (hval 2 _ v2 rfl rfl) h2
  clear zw hval0
  refine (ow _ x0 x1 x2 W s0 c0 f2 f1).mono fun e W' ⟨he,zx⟩=>?_
  subst he
  exact ⟨_,rfl,_,_,_,[],_,[],hW',trodAll_mk1 (shut_bool Try.underlying4 _),trodAll_back laidOut zx.below hback hA2,rfl,zx.below.frame _,fun h=>by cases h⟩
theorem over:Rows.topCrashRow.holds Try.pinned (OpenSpec.ofChange Rows.topCrashSpec) :=
  OpenClaim.holds_of_wide 6 Try.f6 rfl rfl rfl rfl rfl rfl rfl ⟨rfl,rfl,rfl,rfl,rfl⟩ rfl rfl rfl rfl rfl (by kernel_rfl) Try.func6 (by kernel_rfl)
    (of_decide_eq_true (by kernel_rfl)) (by unfold Func.isWrapper;first|(rw [if_pos (by decide +kernel)];kernel_rfl)|(rw [if_neg (by decide +kernel)];exact ⟨rfl,rfl⟩))
    (fun os started H enc _=>lifted os started H enc)
theorem proved:Rows.TopCrashSaid:=over
end Go.Proofs.Ytpipachmngdegaa.TopCrash
end
