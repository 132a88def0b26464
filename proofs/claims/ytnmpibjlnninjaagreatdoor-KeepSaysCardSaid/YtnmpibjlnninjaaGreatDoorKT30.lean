import Derived.Test.YtnmpibjlnninjaaGreatDoorKT29
import Derived.Test.YtnmpibjlnninjaaGreatDoorTie
import Derived.Test.YtnmpibjlnninjaaGreatDoorCards
import Derived.LaidMore
import Derived.LaidLaws
import Derived.SevenTiedAt
import Derived.Stop.Joined
/-
  any acts, save, else it is opened anew: a realm on a disk is as the document says. No condition: the library's table and its error are tied to the program's text.
-/
section
set_option maxRecDepth 100000
namespace Go.Proofs.YtnmpibjlnninjaaGreatDoor.KeepSays
open Go.ChangeShapes Go.WideShapes Go.ChangeAt Go.RowKit
set_option linter.unusedVariables false
set_option linter.unusedSimpArgs false
theorem own:ownKnob Tryz.prog.godebug=none:=ao
theorem laidOut:laidOutB Tryz.prog=true:=ao
theorem back:∀t∈Tryz.f3.params.toList,Tryz.prog.readableRec t=true/\t<Tryz.prog.types.size:=by
 rw [Tryz.params3];intro t ht;simp at ht
 (repeat' rcases ht with rfl|ht) <;> first|exact ⟨ao,of_decide_eq_true ao⟩ | (subst ht;exact ⟨ao,of_decide_eq_true ao⟩)
theorem Nz (os:Os)(args:Array Value):laidMetH Tryz.prog Rows.keepSaysRow.laid ((World.doorLaid Tryz.prog 400 os).forCall (fun _ _=>0) ⟨#[],args,[]⟩).memory :=
 laidMetH_of_parts3 (fuel:=8) (laidMet_of_run' 8 ao ao) ao ao
set_option maxRecDepth 100000 in
theorem lifted (os:Os)(started:os.Started)(H:Type)(enc:TypeId×Value->H) :
 ReturnsInHanded {} Tryz.checked os 3 .any (fun w args=>(Rows.keepSaysSpec.pre enc Tryz.prog Tryz.f3 [] false w args/\laidMetH Tryz.prog Rows.keepSaysRow.laid w)/\sizedMet enc Tryz.prog Tryz.f3 (OpenSpec.ofChange Rows.keepSaysSpec) false w args)
  (Rows.keepSaysSpec.post enc Tryz.prog Tryz.f3 false true false false):=by
 refine returnsInHanded_of_change_and (C:=Tryz.checked) (X:=fun w _=>laidMetH Tryz.prog Rows.keepSaysRow.laid w) (fun _ _ _ hh h=>h.of_heap hh) own started ao Tryz.func3
  (ChangeSpec.witness_shaped (enc:=enc) (C:=Tryz.checked) (os:=os) (X:=fun w _=>laidMetH Tryz.prog Rows.keepSaysRow.laid w) false (World.doorLaid Tryz.prog 400 os) #[.slice none 0 0] 8 rfl (World.shaped_of_RefB ao ao) ao ao ao (Nz os _)) ?_
 intro W base args ds gs before hval0 hW _ _ hL _
 have hval:∀ (j:Nat) t v,Tryz.f3.params[j]? = some t->args[j]? = some v->Value.okWide Tryz.prog W .any base t v:=hval0
 have hW':=hW
 obtain ⟨p,q,Ym,hV,rfl,hfz,hnd⟩:=hW
 have hA:DataW.TrodAll enc Tryz.prog W 0 (fun _=>true) true Tryz.f3.params.toList args.toList ds p:=Ym
 have hA2:=hA
 have hback:=back
 rw [Tryz.params3] at hA hval hA2 hback
 obtain ⟨v0,vs0,d0,ds0,p0,q0,hargs,rfl,rfl,h0,r0⟩:=trodAll_cons hA
 obtain ⟨rfl,rfl,rfl⟩:=trodAll_nil r0
 obtain rfl:args = #[v0]:=by cases args;simp_all
 obtain ⟨rfl,rfl⟩:=trodVars_none hV
 obtain ⟨x0,s0,c0,f0⟩:=KQ (hval 0 _ v0 rfl rfl) h0
 clear Ym hval0
 refine (C8 _ x0 W s0 c0 (PW hL)).mono fun e W' ⟨he,Yn⟩=>?_
 subst he
 exact ⟨_,rfl,_,_,_,[],_,[],hW',trodAll_mk1 (shut_bool Tryz.underlying4 _),trodAll_back laidOut Yn.below hback hA2,rfl,Yn.below.frame _,fun h=>by cases h⟩
set_option maxHeartbeats 90000000 in
theorem joined:joinedFacts Tryz.pinned.checked.prog 3 Tryz.f3 Rows.keepSaysSpec Rows.keepSaysRow=true:=by
 unfold joinedFacts
 simp only [Bool.and_eq_true]
 (repeat' apply And.intro) <;> as_aux_lemma=>kernel_rfl
theorem over:Rows.keepSaysRow.holds Tryz.pinned (OpenSpec.ofChange Rows.keepSaysSpec) :=
 OpenClaim.holds_of_wide 3 Tryz.f3 rfl rfl rfl rfl rfl rfl rfl ⟨rfl,rfl,rfl,rfl,rfl⟩ rfl rfl rfl rfl rfl ao Tryz.func3 joined
  (of_decide_eq_true ao) (by unfold Func.isWrapper;first|(rw [if_pos (by decide +kernel)];kernel_rfl)|(rw [if_neg (by decide +kernel)];exact ⟨rfl,rfl⟩))
  (fun os started H enc _=>lifted os started H enc)
theorem proved:Rows.KeepSaysCardSaid :=
 Claim7.holds_tied_plain_at .later [] [.data,.data,.data,.sentinel,.sentinel] true (true,"0abf51cd82b994ebf7dfc29905f3cbf2d90b26bbf0734ee3003ab30bb1956c04") true
  over (fun _ h=>by cases h) ao (fun _ h=>by cases h) keepSays_row_tie rfl ⟨rfl,rfl⟩ ao rfl
  (fun f fn hf hfn=>by
   obtain rfl:f=3:=Option.some.inj ((show Tryz.prog.funcNamed "writkeep/writkeeplaw.KeepSays" = some 3 by kernel_rfl).symm.trans hf) |>.symm
   obtain rfl:fn=Tryz.f3:=(Option.some.inj (Tryz.func3.symm.trans hfn)).symm
   exact ⟨ao,fun j t ht=>by
    have hall:(Tryz.f3.params.toList.all fun u => !Tryz.prog.wantsStandIn u)=true:=ao
    have hm:t∈Tryz.f3.params.toList:=by simpa using Array.mem_of_getElem? ht
    have hq:=List.all_eq_true.1 hall t hm
    exact (show Tryz.prog.wantsStandIn t=false by simpa using hq)⟩)
  ao
end Go.Proofs.YtnmpibjlnninjaaGreatDoor.KeepSays
end
