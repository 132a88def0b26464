import Derived.Test.YtkbhcbipadkcaaaGreatDoorTO3
import Derived.Deep.Quiet
import Derived.OrdersHeld
import Derived.Deep.RegionHeld3
namespace Go.Proofs.YtkbhcbipadkcaaaGreatDoor
set_option linter.unusedVariables false
set_option linter.unusedSimpArgs false
open Go Go.RowKit
theorem lS.draw (w:World):lS [] w { w with drawn:=w.drawn+1 }:=⟨rfl,rfl,rfl,Nat.le_refl _,fun _ _ _=>rfl⟩
def cZ (B:List ag):List Nat->Option (List ag)
  | []=>some []
  | i::is=>match B[i]?,cZ B is with
    | some r,some rs=>some (r::rs)
    | _,_=>none
def rising:Nat->List Nat->Bool
  | _,[]=>true
  | m,i::is=>Nat.ble m i&&rising (i+1) is
theorem nH:∀ {B:List ag} {is:List Nat} {rs:List ag},cZ B is=some rs -> ∀r∈rs,r∈B
 | B,[],rs,h,r,hr=>by simp [cZ] at h;subst h;cases hr
 | B,i::is,rs,h,r,hr=>by
  simp only [cZ] at h
  split at h
  .
   rename_i q qs h1 h2
   injection h with h;subst h
   rcases List.mem_cons.1 hr with rfl|hr
   .exact List.mem_of_getElem? h1
   .exact nH h2 r hr
  .cases h
theorem yZ:∀ {B:List ag} {is:List Nat} {rs:List ag} {m:Nat},cZ B is=some rs->rising m is=true->rs.Sublist (B.drop m)
 | B,[],rs,m,h,hr=>by simp [cZ] at h;subst h;exact List.nil_sublist _
 | B,i::is,rs,m,h,hr=>by
  simp only [cZ] at h
  split at h
  .
   rename_i q qs h1 h2
   injection h with h;subst h
   simp only [rising,Bool.and_eq_true] at hr
   have hm:m<=i:=Nat.le_of_ble_eq_true hr.1
   have ih:=yZ h2 hr.2
   have hi:i<B.length:=(List.getElem?_eq_some_iff.1 h1).1
   have e:B.drop i=q::B.drop (i+1):=by
    rw [List.drop_eq_getElem_cons hi];congr 1
    exact (List.getElem?_eq_some_iff.1 h1).2
   have h3:(q::qs).Sublist (B.drop i):=e▸ih.cons_cons q
   exact h3.trans (by rw [show i=m+(i-m) by omega,<- List.drop_drop];exact List.drop_sublist _ _)
  .cases h
theorem sJ:∀ {A B:List ag},A.Sublist B->(blks A).Sublist (blks B)
 | _,_,.slnil=>List.Sublist.refl _
 | _,_,.cons r h=>(sJ h).trans (List.sublist_append_right _ _)
 | _,_,.cons_cons r h=>(List.Sublist.refl _).append (sJ h)
theorem Wd.pick {we w:World}{X:List Nat}{B F B' F':List ag}(is js:List Nat)(hi:cZ B is=some B')(hj:cZ F js=some F')(hr:rising 0 is=true)(hw:Wd we X B F w):Wd we X B' F' w:=by
 have hs:B'.Sublist B:=by simpa using yZ hi hr
 have hb:=sJ hs
 have hF:=nH hj
 exact ⟨hw.upd,fun r h=>hw.okB r (hs.subset h),fun r h=>hw.okF r (hF r h),hw.sep.sublist hb,fun k hk=>hw.own k (hb.subset hk),fun k hk=>by
  obtain ⟨r,hr,hk⟩:=bu.1 hk
  have:=hw.mj k (bu.2 ⟨r,hF r hr,hk⟩)
  exact ⟨this.1,fun h=>this.2 (hb.subset h)⟩⟩
theorem Wd.pc {we w:World}{X:List Nat}{B F B' F':List ag}(is js:List Nat)(h:(cZ B is,cZ F js,rising 0 is)=(some B',some F',true))(hw:Wd we X B F w):Wd we X B' F' w:=by
 injection h with h1 h2;injection h2 with h2 h3;exact hw.pick is js h1 h2 h3
theorem ic{we:World}{X:List Nat}{B F B' F':List ag}(is js:List Nat)(h:(cZ B is,cZ F js,rising 0 is)=(some B',some F',true)):∀w,Wd we X B F w->Wd we X B' F' w:=fun _=>Wd.pc is js h
section
variable {P:Program} {n:Nat} {we:World} {X:List Nat} {Q:Exit->Act->World->Prop} {k k':List It} {L:Fm} {B F:List ag} {ops rest:List Oper}
variable {dst:Option Nat} {d:Nat} {op:Op} {ty:TypeId} {pos:String} {ea:Array Edge} {g:Option (Nat×Bool)} {g':Nat×Bool} {v:Value}
variable {x y:Operand} {xT yT e:TypeId} {kd:IntKind}
def Rq (P:Program)(n:Nat)(we:World)(X:List Nat)(Q:Exit->Act->World->Prop)(ops rest:List Oper)(k:List It)(L:Fm)(B F:List ag):Prop :=
  ∀a,Fr n L a->wpQuiet P ops.toArray (Wd we X B F) (fun a' => ∀w',Wd we X B F w'->pq P Q k .normal a' w') rest a
theorem R.eu {id:Nat}(h:norm 200 k = .c (.region id ops.toArray true)::k')(hm:P.follows .mixedOrders=true)(hB:Region.lexB .any ops.toArray=true)(hr:Rq P n we X Q ops ops k' L B F):Run P n we X Q k L B F :=
 fun a w ha hw=>cT 200 (h▸wp_region_quiet (C:=Wd we X B F) hm hB (hw.grow (lS.draw w)) (by simpa using hr a ha))
theorem Q.nil (h:Run P n we X Q k L B F):Rq P n we X Q ops [] k L B F:=fun a ha=>wpQuiet_nil (h a · ha)
theorem Q.q (hq:Qt P n we X L B F op ty v)(hd:Nat.blt d n=true)(h:Rq P n we X Q ops rest k ((d,v)::L) B F):Rq P n we X Q ops (⟨some d,op,ty,pos,ea,none⟩::rest) k L B F:=by
 intro a ha
 refine wpQuiet_step fun K hK=>?_
 rw [if_pos (by simp [Region.wanted])]
 exact ⟨v,fun w hw=>by unfold Oper.quietAt;rw [hq _ _ _ _ a w ha hw];exact ⟨rfl,rfl⟩,hK _ (h _ (ha.put d v hd))⟩
theorem Q.qg (hg:gd ops L (some g')=some true)(hq:Qt P n we X L B F op ty v)(hd:Nat.blt d n=true)(h:Rq P n we X Q ops rest k ((d,v)::L) B F):Rq P n we X Q ops (⟨some d,op,ty,pos,ea,some g'⟩::rest) k L B F:=by
 intro a ha
 refine wpQuiet_step fun K hK=>?_
 rw [if_pos (dX (o:=⟨some d,op,ty,pos,ea,some g'⟩) ha hg)]
 exact ⟨v,fun w hw=>by unfold Oper.quietAt;rw [hq _ _ _ _ a w ha hw];exact ⟨rfl,rfl⟩,hK _ (h _ (ha.put d v hd))⟩
theorem Q.skip (hg:gd ops L (some g')=some false)(hd:Nat.blt d n=true)(h:Rq P n we X Q ops rest k ((d,undef)::L) B F):Rq P n we X Q ops (⟨some d,op,ty,pos,ea,some g'⟩::rest) k L B F:=by
 intro a ha
 refine wpQuiet_step fun K hK=>?_
 rw [if_neg (by rw [dX (o:=⟨some d,op,ty,pos,ea,some g'⟩) ha hg];simp)]
 exact hK _ (h _ (ha.put d undef hd))
theorem Qa.at {a:Act}{w:World}(h:Qa P n we X L B F op ty v)(ha:Fr n L a)(hw:Wd we X B F w):Oper.quietAt P ⟨dst,op,ty,pos,ea,g⟩ a (Wd we X B F) w v:=by
 unfold Oper.quietAt
 rcases h dst pos ea g a w ha hw with h1|⟨f,args,h1,h2⟩
 .rw [h1];exact ⟨rfl,rfl⟩
 .rw [h1];exact ⟨rfl,h2.mono fun e w' he=>⟨he.1,hw.grow he.2.upd⟩⟩
theorem Q.c (hq:Qa P n we X L B F op ty v)(hd:Nat.blt d n=true)(h:Rq P n we X Q ops rest k ((d,v)::L) B F):Rq P n we X Q ops (⟨some d,op,ty,pos,ea,none⟩::rest) k L B F:=by
 intro a ha
 refine wpQuiet_step fun K hK=>?_
 rw [if_pos (by simp [Region.wanted])]
 exact ⟨v,fun w hw=>hq.at ha hw,hK _ (h _ (ha.put d v hd))⟩
theorem Q.cg (hg:gd ops L (some g')=some true)(hq:Qa P n we X L B F op ty v)(hd:Nat.blt d n=true)(h:Rq P n we X Q ops rest k ((d,v)::L) B F):Rq P n we X Q ops (⟨some d,op,ty,pos,ea,some g'⟩::rest) k L B F:=by
 intro a ha
 refine wpQuiet_step fun K hK=>?_
 rw [if_pos (dX (o:=⟨some d,op,ty,pos,ea,some g'⟩) ha hg)]
 exact ⟨v,fun w hw=>hq.at ha hw,hK _ (h _ (ha.put d v hd))⟩
def Dg (S:World->Prop)(P:Program)(n:Nat)(we:World)(X:List Nat)(Q:Exit->Act->World->Prop)(ops:List Oper)(fuel:Nat)(ls:Array Bool)(k:List It)(L:Fm)(B F:List ag):Prop :=
  ∀a w,Fr n L a->Wd we X B F w->wpAnyH P .any ops.toArray (NoPanic (pq P Q k)) S fuel ls a w
def Do (S:World->Prop)(P:Program)(n:Nat)(we:World)(X:List Nat)(Q:Exit->Act->World->Prop)(ops:List Oper)(i:Nat)(o:Oper)(fuel:Nat)(ls:Array Bool)(k:List It)(L:Fm)(B F:List ag):Prop :=
  ops[i]? = some o -> ∀a w,Fr n L a->Wd we X B F w->wpOp P ops.toArray (NoPanic (pq P Q k)) i (fun a' w'=>S w'/\wpAnyH P .any ops.toArray (NoPanic (pq P Q k)) S fuel (ls.setIfInBounds i true) a' w') a w
variable {S:World->Prop} {i j fuel:Nat} {ls ls':Array Bool} {o:Oper}
theorem R.Er {id:Nat}(S:World->Prop)(h:norm 200 k = .c (.region id ops.toArray true)::k')(hm:P.follows .mixedOrders=true)(hl:ops.length=fuel)(hr:Dg S P n we X Q ops fuel (Array.replicate fuel false) k' L B F):Run P n we X Q k L B F:=by
 intro a w ha hw
 refine cT 200 (h ▸ ?_)
 refine wp_region_noPanic (wp_region_held (S:=S) hm ?_)
 have:=hr a _ ha (hw.grow (lS.draw w))
 simpa [hl] using this
theorem R.fY {id:Nat}{B1:List ag}(is:List Nat)(hB:cZ B is=some B1)(h:norm 200 k = .c (.region id ops.toArray true)::k')(hm:P.follows .mixedOrders=true)(hl:ops.length=fuel)(hr:Dg (Wd we X B1 F) P n we X Q ops fuel (Array.replicate fuel false) k' L B F):Run P n we X Q k L B F :=
 R.Er (Wd we X B1 F) h hm hl hr
theorem D.done (h:Run P n we X Q k L B F)(h0:Region.ready .any ops.toArray ls=[]:=by kernel_rfl):Dg S P n we X Q ops fuel ls k L B F :=
 fun a w ha hw=>wpAnyH_done h0 (NoPanic.normal (h a w ha hw)) _
theorem D.q (hi:ops[i]? = some ⟨some d,op,ty,pos,ea,g⟩)(hS:∀w,Wd we X B F w->S w)(hg:gd ops L g=some true)
 (hq:∀dst pos ea g a w,Fr n L a->S w->(execOp a.eval ⟨dst,op,ty,pos,ea,g⟩).run P w = .ok (.value v) w) (hd:Nat.blt d n=true) (h:Dg S P n we X Q ops fuel (ls.setIfInBounds i true) k ((d,v)::L) B F) (hfr:(Region.noSelect ops.toArray&&Region.free .any ops.toArray ls i&&(Region.ready .any ops.toArray ls).contains i)=true:=by kernel_rfl):Dg S P n we X Q ops (fuel+1) ls k L B F:=by
 intro a w ha hw
 simp only [Bool.and_eq_true] at hfr
 exact wpAnyH_take (by simpa using hi) hfr.1.1 hfr.1.2 hfr.2 (fun _ _ _ h=>h) (.inl ⟨dX (o:=⟨some d,op,ty,pos,ea,g⟩) ha hg,fun w hw=>hq _ _ _ _ a w ha hw⟩) (hS w hw) (h _ w (ha.put d v hd) hw)
theorem D.skip (hi:ops[i]? = some ⟨some d,op,ty,pos,ea,g⟩)(hS:∀w,Wd we X B F w->S w)(hg:gd ops L g=some false)
 (hd:Nat.blt d n=true) (h:Dg S P n we X Q ops fuel (ls.setIfInBounds i true) k ((d,undef)::L) B F) (hfr:(Region.noSelect ops.toArray&&Region.free .any ops.toArray ls i&&(Region.ready .any ops.toArray ls).contains i)=true:=by kernel_rfl):Dg S P n we X Q ops (fuel+1) ls k L B F:=by
 intro a w ha hw
 simp only [Bool.and_eq_true] at hfr
 exact wpAnyH_take (by simpa using hi) hfr.1.1 hfr.1.2 hfr.2 (fun _ _ _ h=>h) (.inr ⟨dX (o:=⟨some d,op,ty,pos,ea,g⟩) ha hg,rfl⟩) (hS w hw) (h _ w (ha.put d undef hd) hw)
theorem D.one (hi:ops[i]? = some o)(h:Do S P n we X Q ops i o fuel ls k L B F)(h0:Region.ready .any ops.toArray ls=[i]:=by kernel_rfl):Dg S P n we X Q ops (fuel+1) ls k L B F :=
 fun a w ha hw=>wpAnyH_all h0 (by simp) (by simpa using h hi a w ha hw)
theorem D.two {o':Oper}(hi:ops[i]? = some o)(hj:ops[j]? = some o')(h:Do S P n we X Q ops i o fuel ls k L B F)(h':Do S P n we X Q ops j o' fuel ls k L B F)(h0:Region.ready .any ops.toArray ls=[i,j]:=by kernel_rfl):Dg S P n we X Q ops (fuel+1) ls k L B F :=
 fun a w ha hw=>wpAnyH_all h0 (by simp) (by simpa using ⟨h hi a w ha hw,h' hj a w ha hw⟩)
theorem D.three {m:Nat}{o' o'':Oper}(hi:ops[i]? = some o)(hj:ops[j]? = some o')(hm:ops[m]? = some o'')(h:Do S P n we X Q ops i o fuel ls k L B F)(h':Do S P n we X Q ops j o' fuel ls k L B F)(h'':Do S P n we X Q ops m o'' fuel ls k L B F)(h0:Region.ready .any ops.toArray ls=[i,j,m]:=by kernel_rfl):Dg S P n we X Q ops (fuel+1) ls k L B F :=
 fun a w ha hw=>wpAnyH_all h0 (by simp) (by simpa using ⟨h hi a w ha hw,h' hj a w ha hw,h'' hm a w ha hw⟩)
theorem Do.s {β:Type}{L':β->Fm}{B' F':β->List ag}(hs:Stp P n we X L B F o L' B' F')(hS:∀z w,Wd we X (B' z) (F' z) w->S w)(hg:gd ops L o.guard=some true)
 (h:∀z,Dg S P n we X Q ops fuel (ls.setIfInBounds i true) k (L' z) (B' z) (F' z)):Do S P n we X Q ops i o fuel ls k L B F:=by
 intro hi a w ha hw
 unfold wpOp
 have:ops.toArray[i]? = some o:=by simpa using hi
 rw [this]
 simp only []
 rw [if_pos (dX (o:=o) ha hg)]
 exact .inl (hs _ _ a w ha hw fun z a w ha hw=>⟨hS z w hw,h z a w ha hw⟩)
end
end Go.Proofs.YtkbhcbipadkcaaaGreatDoor
