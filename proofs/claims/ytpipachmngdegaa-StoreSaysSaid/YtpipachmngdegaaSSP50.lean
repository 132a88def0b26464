import Derived.Test.YtpipachmngdegaaRows
import Derived.Test.YtpipachmngdegaaSSP3
import Derived.Test.YtpipachmngdegaaSSP13
import Derived.Test.YtpipachmngdegaaSSP49
/-
  any disk, any acts: what is committed, laid as a whole, opened anew: the store has the rows and the room that the document says. No condition.
-/
section
namespace Go.Proofs.Ytpipachmngdegaa.StoreSays
open Go.ChangeShapes Go.WideShapes Go.ChangeAt Go.RowKit
set_option linter.unusedVariables false
theorem own:ownKnob Try.prog.godebug=none:=by kernel_rfl
theorem laidOut:laidOutB Try.prog=true:=by kernel_rfl
theorem back:∀t∈Try.f4.params.toList,Try.prog.readableRec t=true∧t<Try.prog.types.size:=by
  rw [Try.params4];intro t ht;simp at ht
  (repeat' rcases ht with rfl|ht) <;> first|exact ⟨by kernel_rfl,of_decide_eq_true (by kernel_rfl)⟩ | (subst ht;exact ⟨by kernel_rfl,of_decide_eq_true (by kernel_rfl)⟩)
set_option maxRecDepth 100000 in
theorem lifted (os:Os)(started:os.Started)(H:Type)(enc:TypeId×Value→H) :
    ReturnsInHanded {} Try.checked os 4 .any (Rows.storeSaysSpec.pre6 enc Try.prog Try.f4 Rows.storeSaysRow.domain false) (Rows.storeSaysSpec.post enc Try.prog Try.f4 false true false false):=by
  refine returnsInHanded_of_change (C:=Try.checked) own started (by kernel_rfl) Try.func4
    (ChangeSpec.witness6 (enc:=enc) (C:=Try.checked) false ⟨#[],#[.int .i64 0,.slice none 0 0],[]⟩ 8 (by kernel_rfl) (by kernel_rfl) (by kernel_rfl) (by kernel_rfl)) ?_
  intro W base args ds gs before hval0 hW hcnd _
  have hval:∀ (j:Nat) t v,Try.f4.params[j]? = some t→args[j]? = some v→Value.okWide Try.prog W .any base t v:=hval0
  have hW':=hW
  obtain ⟨p,q,Ac,hV,rfl,hfz,hnd⟩:=hW
  have hA:DataW.TrodAll enc Try.prog W 0 (fun _=>true) true Try.f4.params.toList args.toList ds p:=Ac
  have hA2:=hA
  have hback:=back
  rw [Try.params4] at hA hval hA2 hback
  obtain ⟨v0,Bm,d0,ds0,p0,q0,hargs,rfl,rfl,h0,r0⟩:=trodAll_cons hA
  obtain ⟨v1,vs1,d1,ds1,p1,q1,rfl,rfl,rfl,h1,r1⟩:=trodAll_cons r0
  obtain ⟨rfl,rfl,rfl⟩:=trodAll_nil r1
  obtain rfl:args = #[v0,v1]:=by cases args;simp_all
  obtain ⟨rfl,rfl⟩:=trodVars_none hV
  obtain ⟨x0,rfl,f0⟩:=uy (hval 0 _ v0 rfl rfl) h0
  obtain ⟨x1,s1,c1,f1⟩:=sT (hval 1 _ v1 rfl rfl) h1
  clear Ac hval0
  refine (m6 x0 _ x1 W s1 c1 f0).mono fun e W' ⟨he,Ad⟩=>?_
  subst he
  exact ⟨_,rfl,_,_,_,[],_,[],hW',trodAll_mk1 (shut_bool Try.underlying4 _),trodAll_back laidOut Ad.below hback hA2,rfl,Ad.below.frame _,fun h=>by cases h⟩
theorem over:Rows.storeSaysRow.holds Try.pinned (OpenSpec.ofChange Rows.storeSaysSpec) :=
  OpenClaim.holds_of_wide 4 Try.f4 rfl rfl rfl rfl rfl rfl rfl ⟨rfl,rfl,rfl,rfl,rfl⟩ rfl rfl rfl rfl rfl (by kernel_rfl) Try.func4 (by kernel_rfl)
    (of_decide_eq_true (by kernel_rfl)) (by unfold Func.isWrapper;first|(rw [if_pos (by decide +kernel)];kernel_rfl)|(rw [if_neg (by decide +kernel)];exact ⟨rfl,rfl⟩))
    (fun os started H enc _=>lifted os started H enc)
theorem proved:Rows.StoreSaysSaid:=over
end Go.Proofs.Ytpipachmngdegaa.StoreSays
end
