import Derived.Test.YtbkfhjaibhnkmaaGreatDoorRows
import Derived.Test.YtbkfhjaibhnkmaaGreatDoorTSD37
import Derived.Stop.LaidErr
import Derived.Lib.LaidTab
import Derived.MakeChecks
import Derived.Test.YtbkfhjaibhnkmaaGreatDoorTie
import Derived.Test.YtbkfhjaibhnkmaaGreatDoorCards
import Derived.Test.YtbkfhjaibhnkmaaGreatDoorTSD1
import Derived.LaidMore
import Derived.LaidLaws
import Derived.SevenTiedAt
import Derived.Stop.Joined
import Derived.ProofKit
import Derived.Test.YtbkfhjaibhnkmaaGreatDoorTSD10
import Derived.Test.YtbkfhjaibhnkmaaGreatDoorTSD47
/-
  what is read of rows is whole. No condition: the library's table and its error are tied to the program's text.
-/
section
namespace Go.Proofs.YtbkfhjaibhnkmaaGreatDoor
open Go Go.RowKit
set_option linter.unusedVariables false
set_option maxRecDepth 100000
theorem CX:(Tryz.prog.globals[1]?).map (·.type)=some 211:=by kernel_rfl
theorem CY:(Tryz.prog.globals[2]?).map (·.type)=some 35:=by kernel_rfl
theorem yQ:Tryz.prog.cellsOf 211=20:=by kernel_rfl
theorem AW:∀t,Tryz.prog.underlying 211=some (.array 20 t)→Tryz.prog.cellsOf t=1:=fun t h=>by
 rw [Tryz.underlying211] at h;injection h with h;injection h with _ h;subst h;kernel_rfl
theorem zC : "*" ++ "errors.errorString" = "*errors.errorString" :=by decide
theorem AX:∀u,Tryz.prog.typeName? 3 u=some "*errors.errorString" → u=237:=fun u h =>
 typeName_ptr_named (nm:= "errors.errorString") (by rw [zC];kernel_rfl) (by kernel_rfl) (by decide) u (by rw [zC];exact h)
theorem yR {W:World}(h:laidMetH Tryz.prog [("math/bits.deBruijn32tab",Rows.laid_math_bits_deBruijn32tab),("math/bits.deBruijn64tab",Rows.laid_math_bits_deBruijn64tab),("internal/strconv.uint64pow10",Rows.laid_internal_strconv_uint64pow10),("strconv.ErrRange",Rows.laid_strconv_ErrRange),("strconv.ErrSyntax",Rows.laid_strconv_ErrSyntax)] W):tq W:=by
 rw [MakeChecks.laidMetH_plain _ _ _ (by kernel_rfl)] at h
 have h3:=h.tail.tail
 have h5:=h3.tail.tail
 refine ⟨Lib.tabIs_of_head AJ CX Tryz.underlying211 Tryz.underlying40 (AW _ Tryz.underlying211) yQ (rest:=[("strconv.ErrRange",Rows.laid_strconv_ErrRange),("strconv.ErrSyntax",Rows.laid_strconv_ErrSyntax)]) h3,?_⟩
 obtain ⟨a,s,h6,_⟩:=laid_sentinel (text:=[105,110,118,97,108,105,100,32,115,121,110,116,97,120]) h5 AK CY Tryz.underlying35 AX Tryz.underlying237 Tryz.underlying239 rfl rfl Tryz.underlying9 (by kernel_rfl) (by kernel_rfl)
 exact ⟨_,_,h6⟩
end Go.Proofs.YtbkfhjaibhnkmaaGreatDoor
end
section
namespace Go.Proofs.YtbkfhjaibhnkmaaGreatDoor.TopSpoilt
open Go.ChangeShapes Go.WideShapes Go.ChangeAt Go.RowKit
set_option linter.unusedVariables false
set_option linter.unusedSimpArgs false
theorem own:ownKnob Tryz.prog.godebug=none:=by kernel_rfl
theorem laidOut:laidOutB Tryz.prog=true:=by kernel_rfl
theorem back:∀t∈Tryz.f5.params.toList,Tryz.prog.readableRec t=true∧t<Tryz.prog.types.size:=by
 rw [Tryz.params5];intro t ht;simp at ht
 (repeat' rcases ht with rfl|ht) <;> first|exact ⟨by kernel_rfl,of_decide_eq_true (by kernel_rfl)⟩ | (subst ht;exact ⟨by kernel_rfl,of_decide_eq_true (by kernel_rfl)⟩)
theorem xB (os:Os)(args:Array Value):laidMetH Tryz.prog Rows.topSpoiltRow.laid ((World.doorLaid Tryz.prog 400 os).forCall (fun _ _=>0) ⟨#[],args,[]⟩).memory :=
 laidMetH_of_parts3 (fuel:=8) (laidMet_of_run' 8 (by kernel_rfl) (by kernel_rfl)) (by kernel_rfl) (by kernel_rfl)
set_option maxRecDepth 100000 in
theorem lifted (os:Os)(started:os.Started)(H:Type)(enc:TypeId×Value→H) :
 ReturnsInHanded {} Tryz.checked os 5 .any (fun w args=>(Rows.topSpoiltSpec.pre enc Tryz.prog Tryz.f5 [] false w args∧laidMetH Tryz.prog Rows.topSpoiltRow.laid w)∧sizedMet enc Tryz.prog Tryz.f5 (OpenSpec.ofChange Rows.topSpoiltSpec) false w args)
  (Rows.topSpoiltSpec.post enc Tryz.prog Tryz.f5 false true false false):=by
 refine returnsInHanded_of_change_and (C:=Tryz.checked) (X:=fun w _=>laidMetH Tryz.prog Rows.topSpoiltRow.laid w) (fun _ _ _ hh h=>h.of_heap hh) own started (by kernel_rfl) Tryz.func5
  (ChangeSpec.witness_shaped (enc:=enc) (C:=Tryz.checked) (os:=os) (X:=fun w _=>laidMetH Tryz.prog Rows.topSpoiltRow.laid w) false (World.doorLaid Tryz.prog 400 os) #[.slice none 0 0,.agg #[.string ⟨#[]⟩,.string ⟨#[]⟩,.bool false],.int .i64 0,.bool false] 8 rfl (World.shaped_of_RefB (by kernel_rfl) (by kernel_rfl)) (by kernel_rfl) (by kernel_rfl) (by kernel_rfl) (xB os _)) ?_
 intro W base args ds gs before hval0 hW _ _ hL _
 have hval:∀ (j:Nat) t v,Tryz.f5.params[j]? = some t→args[j]? = some v→Value.okWide Tryz.prog W .any base t v:=hval0
 have hW':=hW
 obtain ⟨p,q,Ea,hV,rfl,hfz,hnd⟩:=hW
 have hA:DataW.TrodAll enc Tryz.prog W 0 (fun _=>true) true Tryz.f5.params.toList args.toList ds p:=Ea
 have hA2:=hA
 have hback:=back
 rw [Tryz.params5] at hA hval hA2 hback
 obtain ⟨v0,Fb,d0,ds0,p0,q0,hargs,rfl,rfl,h0,r0⟩:=trodAll_cons hA
 obtain ⟨v1,vs1,d1,ds1,p1,q1,rfl,rfl,rfl,h1,r1⟩:=trodAll_cons r0
 obtain ⟨v2,vs2,d2,Fc,p2,q2,rfl,rfl,rfl,h2,r2⟩:=trodAll_cons r1
 obtain ⟨v3,vs3,d3,ds3,p3,q3,rfl,rfl,rfl,h3,r3⟩:=trodAll_cons r2
 obtain ⟨rfl,rfl,rfl⟩:=trodAll_nil r3
 obtain rfl:args = #[v0,v1,v2,v3]:=by cases args;simp_all
 obtain ⟨rfl,rfl⟩:=trodVars_none hV
 obtain ⟨x0,s0,c0,f0⟩:=vP (hval 0 _ v0 rfl rfl) h0
 obtain ⟨x1,rfl,f1⟩:=sq (hval 1 _ v1 rfl rfl) h1
 obtain ⟨x2,rfl,f2⟩:=xK (hval 2 _ v2 rfl rfl) h2
 obtain ⟨x3,rfl,-,-⟩:=open_bool Tryz.underlying4 (hval 3 _ v3 rfl rfl) h3
 clear Ea hval0
 refine (py _ x0 x1 x2 x3 W s0 c0 (yR hL)).mono fun e W' ⟨he,Eb⟩=>?_
 subst he
 exact ⟨_,rfl,_,_,_,[],_,[],hW',trodAll_mk1 (shut_bool Tryz.underlying4 _),trodAll_back laidOut Eb.below hback hA2,rfl,Eb.below.frame _,fun h=>by cases h⟩
theorem over:Rows.topSpoiltRow.holds Tryz.pinned (OpenSpec.ofChange Rows.topSpoiltSpec) :=
 OpenClaim.holds_of_wide 5 Tryz.f5 rfl rfl rfl rfl rfl rfl rfl ⟨rfl,rfl,rfl,rfl,rfl⟩ rfl rfl rfl rfl rfl (by kernel_rfl) Tryz.func5 (by kernel_rfl)
  (of_decide_eq_true (by kernel_rfl)) (by unfold Func.isWrapper;first|(rw [if_pos (by decide +kernel)];kernel_rfl)|(rw [if_neg (by decide +kernel)];exact ⟨rfl,rfl⟩))
  (fun os started H enc _=>lifted os started H enc)
theorem proved:Rows.TopSpoiltCardSaid :=
 Claim7.holds_tied_plain_at .later [] [.data,.data,.data,.sentinel,.sentinel] true (true,"b01b97271fb9dad39f13ec2ef2e7b820244609920920eb11c53df88dac762578") true
  over (fun _ h=>by cases h) (by kernel_rfl) (fun _ h=>by cases h) topSpoilt_row_tie rfl ⟨rfl,rfl⟩ (by kernel_rfl) rfl
  (fun f fn hf hfn=>by
   obtain rfl:f=5:=Option.some.inj ((show Tryz.prog.funcNamed "writkeep/writkeeptop.TopSpoilt" = some 5 by kernel_rfl).symm.trans hf) |>.symm
   obtain rfl:fn=Tryz.f5:=(Option.some.inj (Tryz.func5.symm.trans hfn)).symm
   exact ⟨by kernel_rfl,fun j t ht=>by
    have hall:(Tryz.f5.params.toList.all fun u => !Tryz.prog.wantsStandIn u)=true:=by kernel_rfl
    have hm:t∈Tryz.f5.params.toList:=by simpa using Array.mem_of_getElem? ht
    have hq:=List.all_eq_true.1 hall t hm
    exact (show Tryz.prog.wantsStandIn t=false by simpa using hq)⟩)
  (by kernel_rfl)
end Go.Proofs.YtbkfhjaibhnkmaaGreatDoor.TopSpoilt
end
