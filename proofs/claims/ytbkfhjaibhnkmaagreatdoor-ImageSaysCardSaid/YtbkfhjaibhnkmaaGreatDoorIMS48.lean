import Derived.Test.YtbkfhjaibhnkmaaGreatDoorRows
import Derived.Test.YtbkfhjaibhnkmaaGreatDoorIMS32
import Derived.Stop.LaidErr
import Derived.Lib.LaidTab
import Derived.MakeChecks
import Derived.Test.YtbkfhjaibhnkmaaGreatDoorTie
import Derived.Test.YtbkfhjaibhnkmaaGreatDoorCards
import Derived.Test.YtbkfhjaibhnkmaaGreatDoorIMS1
import Derived.LaidMore
import Derived.LaidLaws
import Derived.SevenTiedAt
import Derived.Stop.Joined
import Derived.ProofKit
import Derived.Test.YtbkfhjaibhnkmaaGreatDoorIMS10
import Derived.Test.YtbkfhjaibhnkmaaGreatDoorIMS47
/-
  any acts, any rows: rows of a realm are as the document says, and read as it; what is read of rows has these rows; changes between rows that rise. No condition: the library's table and its error are tied to the program's text.
-/
section
namespace Go.Proofs.YtbkfhjaibhnkmaaGreatDoor
open Go Go.RowKit
set_option linter.unusedVariables false
set_option maxRecDepth 100000
theorem Ih:(Tryz.prog.globals[1]?).map (·.type)=some 211:=by kernel_rfl
theorem Ii:(Tryz.prog.globals[2]?).map (·.type)=some 35:=by kernel_rfl
theorem Eg:Tryz.prog.cellsOf 211=20:=by kernel_rfl
theorem Gc:∀t,Tryz.prog.underlying 211=some (.array 20 t)→Tryz.prog.cellsOf t=1:=fun t h=>by
 rw [Tryz.underlying211] at h;injection h with h;injection h with _ h;subst h;kernel_rfl
theorem EY : "*" ++ "errors.errorString" = "*errors.errorString" :=by decide
theorem Gd:∀u,Tryz.prog.typeName? 3 u=some "*errors.errorString" → u=237:=fun u h =>
 typeName_ptr_named (nm:= "errors.errorString") (by rw [EY];kernel_rfl) (by kernel_rfl) (by decide) u (by rw [EY];exact h)
theorem Eh {W:World}(h:laidMetH Tryz.prog [("math/bits.deBruijn32tab",Rows.laid_math_bits_deBruijn32tab),("math/bits.deBruijn64tab",Rows.laid_math_bits_deBruijn64tab),("internal/strconv.uint64pow10",Rows.laid_internal_strconv_uint64pow10),("strconv.ErrRange",Rows.laid_strconv_ErrRange),("strconv.ErrSyntax",Rows.laid_strconv_ErrSyntax)] W):wh W:=by
 rw [MakeChecks.laidMetH_plain _ _ _ (by kernel_rfl)] at h
 have h3:=h.tail.tail
 have h5:=h3.tail.tail
 refine ⟨Lib.tabIs_of_head FP Ih Tryz.underlying211 Tryz.underlying40 (Gc _ Tryz.underlying211) Eg (rest:=[("strconv.ErrRange",Rows.laid_strconv_ErrRange),("strconv.ErrSyntax",Rows.laid_strconv_ErrSyntax)]) h3,?_⟩
 obtain ⟨a,s,h6,_⟩:=laid_sentinel (text:=[105,110,118,97,108,105,100,32,115,121,110,116,97,120]) h5 FQ Ii Tryz.underlying35 Gd Tryz.underlying237 Tryz.underlying239 rfl rfl Tryz.underlying9 (by kernel_rfl) (by kernel_rfl)
 exact ⟨_,_,h6⟩
end Go.Proofs.YtbkfhjaibhnkmaaGreatDoor
end
section
namespace Go.Proofs.YtbkfhjaibhnkmaaGreatDoor.ImageSays
open Go.ChangeShapes Go.WideShapes Go.ChangeAt Go.RowKit
set_option linter.unusedVariables false
set_option linter.unusedSimpArgs false
theorem own:ownKnob Tryz.prog.godebug=none:=by kernel_rfl
theorem laidOut:laidOutB Tryz.prog=true:=by kernel_rfl
theorem back:∀t∈Tryz.f3.params.toList,Tryz.prog.readableRec t=true∧t<Tryz.prog.types.size:=by
 rw [Tryz.params3];intro t ht;simp at ht
 (repeat' rcases ht with rfl|ht) <;> first|exact ⟨by kernel_rfl,of_decide_eq_true (by kernel_rfl)⟩ | (subst ht;exact ⟨by kernel_rfl,of_decide_eq_true (by kernel_rfl)⟩)
theorem CU (os:Os)(args:Array Value):laidMetH Tryz.prog Rows.imageSaysRow.laid ((World.doorLaid Tryz.prog 400 os).forCall (fun _ _=>0) ⟨#[],args,[]⟩).memory :=
 laidMetH_of_parts3 (fuel:=8) (laidMet_of_run' 8 (by kernel_rfl) (by kernel_rfl)) (by kernel_rfl) (by kernel_rfl)
set_option maxRecDepth 100000 in
theorem lifted (os:Os)(started:os.Started)(H:Type)(enc:TypeId×Value→H) :
 ReturnsInHanded {} Tryz.checked os 3 .any (fun w args=>(Rows.imageSaysSpec.pre enc Tryz.prog Tryz.f3 [] false w args∧laidMetH Tryz.prog Rows.imageSaysRow.laid w)∧sizedMet enc Tryz.prog Tryz.f3 (OpenSpec.ofChange Rows.imageSaysSpec) false w args)
  (Rows.imageSaysSpec.post enc Tryz.prog Tryz.f3 false true false false):=by
 refine returnsInHanded_of_change_and (C:=Tryz.checked) (X:=fun w _=>laidMetH Tryz.prog Rows.imageSaysRow.laid w) (fun _ _ _ hh h=>h.of_heap hh) own started (by kernel_rfl) Tryz.func3
  (ChangeSpec.witness_shaped (enc:=enc) (C:=Tryz.checked) (os:=os) (X:=fun w _=>laidMetH Tryz.prog Rows.imageSaysRow.laid w) false (World.doorLaid Tryz.prog 400 os) #[.slice none 0 0,.slice none 0 0,.slice none 0 0] 8 rfl (World.shaped_of_RefB (by kernel_rfl) (by kernel_rfl)) (by kernel_rfl) (by kernel_rfl) (by kernel_rfl) (CU os _)) ?_
 intro W base args ds gs before hval0 hW _ _ hL _
 have hval:∀ (j:Nat) t v,Tryz.f3.params[j]? = some t→args[j]? = some v→Value.okWide Tryz.prog W .any base t v:=hval0
 have hW':=hW
 obtain ⟨p,q,Jt,hV,rfl,hfz,hnd⟩:=hW
 have hA:DataW.TrodAll enc Tryz.prog W 0 (fun _=>true) true Tryz.f3.params.toList args.toList ds p:=Jt
 have hA2:=hA
 have hback:=back
 rw [Tryz.params3] at hA hval hA2 hback
 obtain ⟨v0,KG,d0,ds0,p0,q0,hargs,rfl,rfl,h0,r0⟩:=trodAll_cons hA
 obtain ⟨v1,vs1,d1,ds1,p1,q1,rfl,rfl,rfl,h1,r1⟩:=trodAll_cons r0
 obtain ⟨v2,vs2,d2,KH,p2,q2,rfl,rfl,rfl,h2,r2⟩:=trodAll_cons r1
 obtain ⟨rfl,rfl,rfl⟩:=trodAll_nil r2
 obtain rfl:args = #[v0,v1,v2]:=by cases args;simp_all
 obtain ⟨rfl,rfl⟩:=trodVars_none hV
 obtain ⟨x0,s0,c0,f0⟩:=Ay (hval 0 _ v0 rfl rfl) h0
 obtain ⟨x1,s1,f1⟩:=pL (hval 1 _ v1 rfl rfl) h1
 obtain ⟨x2,s2,f2⟩:=pL (hval 2 _ v2 rfl rfl) h2
 clear Jt hval0
 refine (sH _ x0 _ x1 _ x2 W s0 c0 s1 s2 (Eh hL)).mono fun e W' ⟨he,Ju⟩=>?_
 subst he
 exact ⟨_,rfl,_,_,_,[],_,[],hW',trodAll_mk1 (shut_bool Tryz.underlying4 _),trodAll_back laidOut Ju.below hback hA2,rfl,Ju.below.frame _,fun h=>by cases h⟩
theorem over:Rows.imageSaysRow.holds Tryz.pinned (OpenSpec.ofChange Rows.imageSaysSpec) :=
 OpenClaim.holds_of_wide 3 Tryz.f3 rfl rfl rfl rfl rfl rfl rfl ⟨rfl,rfl,rfl,rfl,rfl⟩ rfl rfl rfl rfl rfl (by kernel_rfl) Tryz.func3 (by kernel_rfl)
  (of_decide_eq_true (by kernel_rfl)) (by unfold Func.isWrapper;first|(rw [if_pos (by decide +kernel)];kernel_rfl)|(rw [if_neg (by decide +kernel)];exact ⟨rfl,rfl⟩))
  (fun os started H enc _=>lifted os started H enc)
theorem proved:Rows.ImageSaysCardSaid :=
 Claim7.holds_tied_plain_at .later [] [.data,.data,.data,.sentinel,.sentinel] true (true,"b01b97271fb9dad39f13ec2ef2e7b820244609920920eb11c53df88dac762578") true
  over (fun _ h=>by cases h) (by kernel_rfl) (fun _ h=>by cases h) imageSays_row_tie rfl ⟨rfl,rfl⟩ (by kernel_rfl) rfl
  (fun f fn hf hfn=>by
   obtain rfl:f=3:=Option.some.inj ((show Tryz.prog.funcNamed "writkeep/writkeeplaw.ImageSays" = some 3 by kernel_rfl).symm.trans hf) |>.symm
   obtain rfl:fn=Tryz.f3:=(Option.some.inj (Tryz.func3.symm.trans hfn)).symm
   exact ⟨by kernel_rfl,fun j t ht=>by
    have hall:(Tryz.f3.params.toList.all fun u => !Tryz.prog.wantsStandIn u)=true:=by kernel_rfl
    have hm:t∈Tryz.f3.params.toList:=by simpa using Array.mem_of_getElem? ht
    have hq:=List.all_eq_true.1 hall t hm
    exact (show Tryz.prog.wantsStandIn t=false by simpa using hq)⟩)
  (by kernel_rfl)
end Go.Proofs.YtbkfhjaibhnkmaaGreatDoor.ImageSays
end
