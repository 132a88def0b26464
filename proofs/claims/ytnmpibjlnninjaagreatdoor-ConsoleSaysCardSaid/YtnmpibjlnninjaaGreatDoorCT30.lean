import Derived.Test.YtnmpibjlnninjaaGreatDoorCT29
import Derived.Test.YtnmpibjlnninjaaGreatDoorTie
import Derived.Test.YtnmpibjlnninjaaGreatDoorCards
import Derived.LaidMore
import Derived.LaidLaws
import Derived.SevenTiedAt
import Derived.Stop.Joined
import Derived.Lay
import Derived.LaidSub
/-
  any lines, none that arms the disk: what the console answers is what the document answers; a session, line by line. No condition: the library's table and its errors are tied to the program's text.
-/
section
set_option maxRecDepth 100000
namespace Go.Proofs.YtnmpibjlnninjaaGreatDoor.ConsoleSays
open Go.ChangeShapes Go.WideShapes Go.ChangeAt Go.RowKit
set_option linter.unusedVariables false
set_option linter.unusedSimpArgs false
theorem own:ownKnob Tryz.prog.godebug=none:=ay
theorem laidOut:laidOutB Tryz.prog=true:=ay
theorem back:∀t∈Tryz.f4.params.toList,Tryz.prog.readableRec t=true/\t<Tryz.prog.types.size:=by
 rw [Tryz.params4];intro t ht;simp at ht
 (repeat' rcases ht with rfl|ht) <;> first|exact ⟨ay,of_decide_eq_true ay⟩ | (subst ht;exact ⟨ay,of_decide_eq_true ay⟩)
theorem QX (os:Os)(args:Array Value):laidMetH Tryz.prog Rows.consoleSaysRow.laid ((World.laidAll Tryz.prog os Rows.consoleSaysRow.laid).forCall (fun _ _=>0) ⟨#[],args,[]⟩).memory:=by
 rw [MakeChecks.laidMetH_plain _ _ _ ay];exact laidMet_laidAll _ ay ay
set_option maxRecDepth 100000 in
theorem lifted (os:Os)(started:os.Started)(H:Type)(enc:TypeId×Value->H) :
 ReturnsInHanded {} Tryz.checked os 4 .any (fun w args=>(Rows.consoleSaysSpec.pre enc Tryz.prog Tryz.f4 [] false w args/\laidMetH Tryz.prog Rows.consoleSaysRow.laid w)/\sizedMet enc Tryz.prog Tryz.f4 (OpenSpec.ofChange Rows.consoleSaysSpec) false w args)
  (Rows.consoleSaysSpec.post enc Tryz.prog Tryz.f4 false true false false):=by
 refine returnsInHanded_of_change_and (C:=Tryz.checked) (X:=fun w _=>laidMetH Tryz.prog Rows.consoleSaysRow.laid w) (fun _ _ _ hh h=>h.of_heap hh) own started ay Tryz.func4
  (ChangeSpec.witness_shaped (enc:=enc) (C:=Tryz.checked) (os:=os) (X:=fun w _=>laidMetH Tryz.prog Rows.consoleSaysRow.laid w) false (World.laidAll Tryz.prog os Rows.consoleSaysRow.laid) #[.slice none 0 0] 8 (World.laidAll_os _ _ _) (World.shaped_of_ZipB ay ay) ay ay ay (QX os _)) ?_
 intro W base args ds gs before hval0 hW _ _ hL _
 have hval:∀ (j:Nat) t v,Tryz.f4.params[j]? = some t->args[j]? = some v->Value.okWide Tryz.prog W .any base t v:=hval0
 have hW':=hW
 obtain ⟨p,q,hA0,hV,rfl,hfz,hnd⟩:=hW
 have hA:DataW.TrodAll enc Tryz.prog W 0 (fun _=>true) true Tryz.f4.params.toList args.toList ds p:=hA0
 have hA2:=hA
 have hback:=back
 rw [Tryz.params4] at hA hval hA2 hback
 obtain ⟨v0,vs0,d0,ds0,p0,q0,hargs,rfl,rfl,h0,r0⟩:=trodAll_cons hA
 obtain ⟨rfl,rfl,rfl⟩:=trodAll_nil r0
 obtain rfl:args = #[v0]:=by cases args;simp_all
 obtain ⟨rfl,rfl⟩:=trodVars_none hV
 obtain ⟨x0,s0,f0⟩:=FM (hval 0 _ v0 rfl rfl) h0
 clear hA0 hval0
 have hL5:laidMetH Tryz.prog Rows.keepSaysRow.laid W:=by have h:=hL.filter (fun x => !(x.1 == "unicode/utf8.acceptRanges" || x.1 == "unicode/utf8.first"));rwa [show Rows.consoleSaysRow.laid.filter (fun x => !(x.1 == "unicode/utf8.acceptRanges" || x.1 == "unicode/utf8.first"))=Rows.keepSaysRow.laid from by kernel_rfl] at h
 refine (yH _ x0 W s0 (TH hL5)).mono fun e W' ⟨he,bel⟩=>?_
 subst he
 exact ⟨_,rfl,_,_,_,[],_,[],hW',trodAll_mk1 (shut_bool Tryz.underlying4 _),trodAll_back laidOut bel.below hback hA2,rfl,bel.below.frame _,fun h=>by cases h⟩
set_option maxHeartbeats 90000000 in
theorem joined:joinedFacts Tryz.pinned.checked.prog 4 Tryz.f4 Rows.consoleSaysSpec Rows.consoleSaysRow=true:=by
 unfold joinedFacts
 simp only [Bool.and_eq_true]
 (repeat' apply And.intro) <;> as_aux_lemma=>kernel_rfl
theorem over:Rows.consoleSaysRow.holds Tryz.pinned (OpenSpec.ofChange Rows.consoleSaysSpec) :=
 OpenClaim.holds_of_wide 4 Tryz.f4 rfl rfl rfl rfl rfl rfl rfl ⟨rfl,rfl,rfl,rfl,rfl⟩ rfl rfl rfl rfl rfl ay Tryz.func4 joined
  (of_decide_eq_true ay) (by unfold Func.isWrapper;first|(rw [if_pos (by decide +kernel)];kernel_rfl)|(rw [if_neg (by decide +kernel)];exact ⟨rfl,rfl⟩))
  (fun os started H enc _=>lifted os started H enc)
theorem proved:Rows.ConsoleSaysCardSaid :=
 Claim7.holds_tied_plain_at .later [] [.data,.data,.data,.data,.sentinel,.sentinel,.pinned] true (true,"0abf51cd82b994ebf7dfc29905f3cbf2d90b26bbf0734ee3003ab30bb1956c04") true
  over (fun _ h=>by cases h) ay (fun _ h=>by cases h) consoleSays_row_tie rfl ⟨rfl,rfl⟩ ay rfl
  (fun f fn hf hfn=>by
   obtain rfl:f=4:=Option.some.inj ((show Tryz.prog.funcNamed "writkeep/writkeeplaw.ConsoleSays" = some 4 by kernel_rfl).symm.trans hf) |>.symm
   obtain rfl:fn=Tryz.f4:=(Option.some.inj (Tryz.func4.symm.trans hfn)).symm
   exact ⟨ay,fun j t ht=>by
    have hall:(Tryz.f4.params.toList.all fun u => !Tryz.prog.wantsStandIn u)=true:=ay
    have hm:t∈Tryz.f4.params.toList:=by simpa using Array.mem_of_getElem? ht
    have hq:=List.all_eq_true.1 hall t hm
    exact (show Tryz.prog.wantsStandIn t=false by simpa using hq)⟩)
  ay
end Go.Proofs.YtnmpibjlnninjaaGreatDoor.ConsoleSays
end
