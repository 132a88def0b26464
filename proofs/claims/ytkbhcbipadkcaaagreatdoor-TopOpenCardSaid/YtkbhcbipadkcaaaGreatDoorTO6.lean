import Derived.Test.YtkbhcbipadkcaaaGreatDoorTO5
import Derived.MapKept
import Derived.Laws.CopyRow
import Derived.Laws.MakeOwn
import Derived.Laws.IdiomStrings
namespace Go.Proofs.YtkbhcbipadkcaaaGreatDoor
set_option linter.unusedVariables false
set_option linter.unusedSimpArgs false
section
open Go Go.RowKit
def Cj (P:Program)(t:TypeId):Bool :=
  match P.underlying t with
  | some (.map k e)=>match P.underlying k,fZ P e with
    | some (.int .i64),some (.bool false)=>true
    | _,_=>false
  | _=>false
theorem FN {P:Program}{t:TypeId}(h:Cj P t=true):∃k e,P.underlying t=some (.map k e)/\P.underlying k=some (.int .i64)/\fZ P e=some (.bool false):=by
 unfold Cj at h
 split at h
 .
  rename_i k e h1
  split at h
  .rename_i h2 h3;exact ⟨k,e,h1,h2,h3⟩
  .cases h
 .cases h
def Rn (es:List MapEntry)(S:List Int):Prop:=(∀e∈es,∃x∈S,e.key = .int .i64 x/\e.val = .bool true) /\ ∀x∈S,∃e∈es,e.key = .int .i64 x
theorem pL (x:Int):∀ (es:List MapEntry) (i:Nat),(∀e∈es,∃y,e.key = .int .i64 y/\e.val = .bool true) ->
 ((∃e∈es,e.key = .int .i64 x) /\ ∃j,i<=j/\Instr.findNow (.int .i64) (.int .i64 x) es i=some (some (j,.bool true))/\(es[j-i]?).map (·.key)=some (.int .i64 x)) ∨
 ((¬ ∃e∈es,e.key = .int .i64 x)/\Instr.findNow (.int .i64) (.int .i64 x) es i=some none)
 | [],i,h => .inr ⟨by simp,rfl⟩
 | e::es,i,h=>by
  obtain ⟨y,hy,hv⟩:=h e (by simp)
  by_cases hxy:x=y
  .
   subst hxy
   refine .inl ⟨⟨e,by simp,hy⟩,i,Nat.le_refl _,?_,by simp [hy]⟩
   simp [Instr.findNow,Instr.sameNow,hy,hv]
  .
   have hne:(x==y)=false:=by simpa using hxy
   rcases pL x es (i+1) (fun e he=>h e (by simp [he])) with ⟨⟨e',he',hk⟩,j,hj,hf,hg⟩ | ⟨hn,hf⟩
   .
    refine .inl ⟨⟨e',by simp [he'],hk⟩,j,by omega,?_,?_⟩
    .simp [Instr.findNow,Instr.sameNow,hy,hne,hf]
    .
     have:j-i=(j-(i+1))+1:=by omega
     rw [this];simpa using hg
   .
    refine .inr ⟨?_,by simp [Instr.findNow,Instr.sameNow,hy,hne,hf]⟩
    rintro ⟨e',he',hk⟩
    rcases List.mem_cons.1 he' with rfl|he'
    .rw [hy] at hk;injection hk with _ hk;exact hxy hk.symm
    .exact hn ⟨e',he',hk⟩
def ag.ox (b:Nat)(S:List Int):ag:=⟨[b],fun w => ∃es c,w.heap[b]? = some (.map es c)/\Rn es.toList S,fun w w' h=>fun ⟨es,c,h1,h2⟩=>⟨es,c,(h b (by simp)).trans h1,h2⟩⟩
section
variable {P:Program} {n:Nat} {we:World} {X:List Nat} {Q:Exit->Act->World->Prop} {k k':List It} {L:Fm} {B F:List ag} {ops rest:List Oper}
variable {dst:Option Nat} {d:Nat} {ty:TypeId} {pos:String} {ea:Array Edge} {g:Option (Nat×Bool)} {v:Value}
variable {x y m:Operand} {t:TypeId}
theorem Am (em:Bool){kt:TypeId}{z:Int}(w:World)(h:P.underlying kt=some (.int .i64)):(Instr.checkKey em 10000 kt (.int .i64 z)).run P w = .ok () w:=MapKept.run_checkKey h (by simp [MapKept.IsKey]) em 9999
theorem LX {z:Int}(w:World):(Instr.keyThatStays (.int .i64 z) (.int .i64 z)).run P w = .ok (.int .i64 z) w:=MapKept.run_keyThatStays (d:= .int .i64) (by simp [MapKept.IsKey])
theorem q.look {b:Nat}{S:List Int}{z:Int}(i:Nat)(hB:B[i]? = some (ag.ox b S))(hm:ev L m=some (.map (some b)))(hy:ev L y=some (.int .i64 z))(ht:Cj P t=true):Qt P n we X L B F (.lookup t m y false) ty (.bool (decide (z∈S))):=fun _ _ _ _ a w ha hw=>by
 obtain ⟨es,c,h1,h2,h3⟩:=hw.b i hB
 obtain ⟨kt,e,hu,hk,hz⟩:=FN ht
 have hf:∀e∈es.toList,∃y,e.key = .int .i64 y/\e.val = .bool true:=fun e he=>by obtain ⟨x,_,h⟩:=h2 e he;exact ⟨x,h⟩
 simp only [execOp,ha.ev hm,ha.ev hy,Instr.lookup,Sem.run_bind,run_underlying hu,Result.andThen_ok,MapKept.run_getObj_map h1,Sem.run_pure,Am _ w hk,Instr.findKey,run_underlying hk]
 rcases pL z es.toList 0 hf with ⟨⟨e',he',hk'⟩,j,_,hf,_⟩ | ⟨hn,hf⟩
 .
  have hS:z∈S:=by obtain ⟨x,hx,hkx,_⟩:=h2 e' he';rw [hk'] at hkx;injection hkx with _ hkx;rw [hkx];exact hx
  rw [hf];simp [hS]
 .
  have hS:¬ z∈S:=fun hz=>hn (h3 z hz)
  rw [hf];simp [hS,nF (P:=P) w hz]
theorem q.NJ {b:Nat}{S:List Int}{z:Int}{r:Bool}(i:Nat)(hB:B[i]? = some (ag.ox b S))(hm:ev L m=some (.map (some b)))(hy:ev L y=some (.int .i64 z))(ht:Cj P t=true)(hr:decide (z∈S)=r):Qt P n we X L B F (.lookup t m y false) ty (.bool r):=hr▸q.look i hB hm hy ht
theorem s.mk (hd:Nat.blt d n=true):Stp P n we X L B F ⟨some d,.makeMap t none,ty,pos,ea,g⟩ (fun b:Nat=>(d,.map (some b))::L) (fun b=>ag.ox b []::B) (fun _=>F):=by
 intro K Q' a w ha hw hK
 unfold Oper.wp
 have hrun:(execOp a.eval ⟨some d,.makeMap t none,ty,pos,ea,g⟩).run P w = .ok (.value (.map (some w.heap.size))) (w.alloc (.map #[] 0)):=by
  simp only [execOp,Sem.run_bind,Instr.makeMap,newObj,Option.map_none];rfl
 rw [hrun,Oper.upon_value]
 exact hK _ _ _ (ha.put d _ hd) (hw.alloc (r:=ag.ox w.heap.size []) ⟨#[],0,heap_alloc_new w _,by simp [Rn]⟩ rfl)
theorem Ck (w:World)(b:Nat)(o:Obj):lS [b] w { w with heap:=w.heap.setIfInBounds b o }:=⟨rfl,rfl,rfl,by simp,fun k hk hn=>by
 have:b≠k:=fun e=>hn (by simp [e])
 simp [Array.getElem?_setIfInBounds,this]⟩
theorem FP {b:Nat}{S:List Int}{z:Int}{w:World}(ht:Cj P t=true)(h:(ag.ox b S).ok w):∃w',(Instr.mapUpdate t (.map (some b)) (.int .i64 z) (.bool true)).run P w = .ok () w'/\lS [b] w w'/\(ag.ox b (z::S)).ok w':=by
 obtain ⟨es,c,h1,h2,h3⟩:=h
 obtain ⟨kt,e,hu,hk,hz⟩:=FN ht
 have hlt:b<w.heap.size:=(Array.getElem?_eq_some_iff.1 h1).1
 have hf:∀e∈es.toList,∃y,e.key = .int .i64 y/\e.val = .bool true:=fun e he=>by obtain ⟨x,_,h⟩:=h2 e he;exact ⟨x,h⟩
 rcases pL z es.toList 0 hf with ⟨⟨e',he',hk'⟩,j,_,hf,hj⟩ | ⟨hn,hf⟩
 .
  have hj':(es[j]?).map (·.key)=some (.int .i64 z):=by simpa using hj
  refine ⟨_,?_,Ck w b (.map (es.modify j fun e=>{ e with key:= .int .i64 z,val:= .bool true }) c),⟨_,_,(MapKept.heap_set h1).1,?_⟩⟩
  .simp only [Instr.mapUpdate,Sem.run_bind,run_underlying hu,Result.andThen_ok,MapKept.run_getObj_map h1,Am _ w hk,Instr.findKey,run_underlying hk,hf,Sem.run_pure,hj',Option.getD_some,LX w,MapKept.run_setObj_map _ h1]
  .
   have hS:z∈S:=by obtain ⟨x,hx,hkx,_⟩:=h2 e' he';rw [hk'] at hkx;injection hkx with _ hkx;rw [hkx];exact hx
   have hg:∀e∈(es.modify j fun e=>{ e with key:= .int .i64 z,val:= .bool true }).toList,∃x∈z::S,e.key = .int .i64 x/\e.val = .bool true:=by
    intro e he
    obtain ⟨i,hi⟩:=List.mem_iff_getElem?.1 he
    simp only [Array.toList_modify,List.getElem?_modify] at hi
    cases hes:es.toList[i]? with
    | none=>rw [hes] at hi;simp at hi
    | some e0 =>
     rw [hes] at hi
     simp at hi
     split at hi
     .subst hi;exact ⟨z,by simp,rfl,rfl⟩
     .
      subst hi
      obtain ⟨x,hx,h⟩:=h2 e0 (List.mem_of_getElem? hes)
      exact ⟨x,by simp [hx],h⟩
   refine ⟨hg,fun x hx=>?_⟩
   have hx':x∈S:=by rcases List.mem_cons.1 hx with rfl|h;exact hS;exact h
   obtain ⟨e0,he0,hke⟩:=h3 x hx'
   obtain ⟨i,hi⟩:=List.mem_iff_getElem?.1 he0
   by_cases hij:j=i
   .
    subst hij
    have hxz:x=z:=by
     have:es[j]? = some e0:=by simpa using hi
     rw [this] at hj';simp at hj';rw [hke] at hj';injection hj'
    refine ⟨{ e0 with key:= .int .i64 z,val:= .bool true },List.mem_of_getElem? (i:=j) ?_,by rw [hxz]⟩
    simp only [Array.toList_modify,List.getElem?_modify,hi];simp
   .
    refine ⟨e0,List.mem_of_getElem? (i:=i) ?_,hke⟩
    simp only [Array.toList_modify,List.getElem?_modify,hi];simp [hij]
 .
  refine ⟨_,?_,Ck w b (.map (es.push { key:= .int .i64 z,val:= .bool true,born:=c }) (c+1)),⟨_,_,(MapKept.heap_set h1).1,?_⟩⟩
  .simp only [Instr.mapUpdate,Sem.run_bind,run_underlying hu,Result.andThen_ok,MapKept.run_getObj_map h1,Am _ w hk,Instr.findKey,run_underlying hk,hf,Sem.run_pure,MapKept.run_setObj_map _ h1]
  .
   constructor
   .
    intro e he
    simp at he
    rcases he with he|rfl
    .obtain ⟨x,hx,h⟩:=h2 e (by simpa using he);exact ⟨x,by simp [hx],h⟩
    .exact ⟨z,by simp,rfl,rfl⟩
   .
    intro x hx
    rcases List.mem_cons.1 hx with rfl|hx
    .exact ⟨{ key:= .int .i64 x,val:= .bool true,born:=c },by simp,rfl⟩
    .
     obtain ⟨e0,he0,hke⟩:=h3 x hx
     exact ⟨e0,by simp at he0 ⊢;exact .inl he0,hke⟩
theorem s.Ve {b:Nat}{S:List Int}{z:Int}(i:Nat)(B':List ag)(hB:B[i]? = some (ag.ox b S))(hm:ev L m=some (.map (some b)))(hx:ev L x=some (.int .i64 z))(hy:ev L y=some (.bool true))(ht:Cj P t=true)(hB':B.set i (ag.ox b (z::S))=B') :
 Stp P n we X L B F ⟨none,.mapUpdate t m x y,ty,pos,ea,g⟩ (fun _:Unit=>L) (fun _=>B') (fun _=>F):=by
 intro K Q' a w ha hw hK
 obtain ⟨w',hr,hu,hk⟩:=FP (P:=P) (z:=z) ht (hw.b i hB)
 unfold Oper.wp
 have hrun:(execOp a.eval ⟨none,.mapUpdate t m x y,ty,pos,ea,g⟩).run P w = .ok .skip w':=by
  simp [execOp,ha.ev hm,ha.ev hx,ha.ev hy,hr]
 rw [hrun,Oper.upon_skip]
 subst hB'
 refine hK () _ _ (by simpa [Act.put] using ha) (hw.turn hB hu hk (by simp [ag.ox]) (fun k hk=>?_))
 simp [ag.ox] at hk;subst hk
 exact ⟨Nat.lt_of_lt_of_le (hw.own _ (bu.2 ⟨_,List.mem_of_getElem? hB,by simp [ag.ox]⟩)).1 hu.size,.inl (by simp [ag.ox])⟩
theorem s.TS {b:Nat}{S:List Int}{z:Int}(i:Nat)(B':List ag)(hB:B[i]? = some (ag.ox b S))(hm:ev L m=some (.map (some b)))(hx:ev L x=some (.int .i64 z))(hy:ev L y=some (.bool true))(ht:Cj P t=true)(hB':B.set i (ag.ox b (z::S))=B') :
 Stp P n we X L B F ⟨none,.insert t m x y,ty,pos,ea,g⟩ (fun _:Unit=>L) (fun _=>B') (fun _=>F):=by
 intro K Q' a w ha hw hK
 obtain ⟨w',hr,hu,hk⟩:=FP (P:=P) (z:=z) ht (hw.b i hB)
 unfold Oper.wp
 have hrun:(execOp a.eval ⟨none,.insert t m x y,ty,pos,ea,g⟩).run P w = .ok .skip w':=by
  simp [execOp,ha.ev hm,ha.ev hx,ha.ev hy,hr]
 rw [hrun,Oper.upon_skip]
 subst hB'
 refine hK () _ _ (by simpa [Act.put] using ha) (hw.turn hB hu hk (by simp [ag.ox]) (fun k hk=>?_))
 simp [ag.ox] at hk;subst hk
 exact ⟨Nat.lt_of_lt_of_le (hw.own _ (bu.2 ⟨_,List.mem_of_getElem? hB,by simp [ag.ox]⟩)).1 hu.size,.inl (by simp [ag.ox])⟩
end
end
section
open Go Go.RowKit
def iq:List Nat->Bool
  | []=>true
  | i::is => !(is.elem i)&&iq is
theorem G2 {B:List ag}{i:Nat}{r:ag}(hi:B[i]? = some r)(h:(blks B).Nodup):r.blk.Nodup:=by
 induction B generalizing i with
 | nil=>simp at hi
 | cons q B ih =>
  obtain ⟨h1,h2,_⟩:=List.nodup_append.1 h
  cases i with
  | zero=>simp at hi;subst hi;exact h1
  | succ i=>exact ih (by simpa using hi) h2
theorem vX {B B':List ag}{i:Nat}{is:List Nat}(h:cZ B (i::is)=some B'):∃r B'',B[i]? = some r/\cZ B is=some B''/\B'=r::B'':=by
 simp only [cZ] at h
 split at h
 .
  rename_i r B'' h1 h2
  injection h with h
  exact ⟨r,B'',h1,h2,h.symm⟩
 .cases h
theorem sL {B:List ag}:∀ {is:List Nat} {B':List ag},cZ B is=some B' -> ∀r∈B',∃i∈is,B[i]? = some r
 | [],B',h,r,hr=>by simp [cZ] at h;subst h;simp at hr
 | i::is,B',h,r,hr=>by
  obtain ⟨r0,B'',h1,h2,rfl⟩:=vX h
  rcases List.mem_cons.1 hr with rfl|hr
  .exact ⟨i,by simp,h1⟩
  .obtain ⟨j,hj,hq⟩:=sL h2 r hr;exact ⟨j,by simp [hj],hq⟩
theorem pN {B:List ag}(hn:(blks B).Nodup):∀ {is:List Nat} {B':List ag},cZ B is=some B'->iq is=true->(blks B').Nodup
 | [],B',h,_=>by simp [cZ] at h;subst h;simp [blks]
 | i::is,B',h,ha=>by
  obtain ⟨r,B'',h1,h2,rfl⟩:=vX h
  simp only [iq,Bool.and_eq_true,Bool.not_eq_true'] at ha
  refine List.nodup_append.2 ⟨G2 h1 hn,pN hn h2 ha.2,fun a ha' b hb e=>?_⟩
  subst e
  obtain ⟨q,hq,hqk⟩:=bu.1 hb
  obtain ⟨j,hj,hjq⟩:=sL h2 q hq
  refine iU h1 hjq (fun e=>?_) hn a ha' hqk
  subst e
  have:=ha.1;rw [List.elem_eq_contains] at this;simp at this;exact this hj
theorem Wd.fy {we w:World}{X:List Nat}{B F B' F':List ag}(is js:List Nat)(hi:cZ B is=some B')(hj:cZ F js=some F')(ha:iq is=true)(hw:Wd we X B F w):Wd we X B' F' w:=by
 have hm:∀r∈B',r∈B:=fun r hr=>by obtain ⟨i,_,h⟩:=sL hi r hr;exact List.mem_of_getElem? h
 have hF:=nH hj
 have hb:∀k∈blks B',k∈blks B:=fun k hk=>by obtain ⟨r,hr,hk⟩:=bu.1 hk;exact bu.2 ⟨r,hm r hr,hk⟩
 exact ⟨hw.upd,fun r h=>hw.okB r (hm r h),fun r h=>hw.okF r (hF r h),pN hw.sep hi ha,fun k hk=>hw.own k (hb k hk),fun k hk=>by
  obtain ⟨r,hr,hk⟩:=bu.1 hk
  have:=hw.mj k (bu.2 ⟨r,hF r hr,hk⟩)
  exact ⟨this.1,fun h=>this.2 (hb k h)⟩⟩
theorem kG{we:World}{X:List Nat}{B F B' F':List ag}(is js:List Nat)(hi:cZ B is=some B')(hj:cZ F js=some F')(ha:iq is=true):∀w,Wd we X B F w->Wd we X B' F' w:=fun _=>Wd.fy is js hi hj ha
theorem Wd.pk {we w:World}{X:List Nat}{B F B' F':List ag}(is js:List Nat)(h:(cZ B is,cZ F js,iq is)=(some B',some F',true))(hw:Wd we X B F w):Wd we X B' F' w:=by
 injection h with h1 h2;injection h2 with h2 h3;exact hw.fy is js h1 h2 h3
theorem aD{we:World}{X:List Nat}{B F B' F':List ag}(is js:List Nat)(h:(cZ B is,cZ F js,iq is)=(some B',some F',true)):∀w,Wd we X B F w->Wd we X B' F' w:=fun _=>Wd.pk is js h
theorem Wd.LY {we w:World}{X:List Nat}{B F B':List ag}(is:List Nat)(hi:cZ B is=some B')(ha:iq is=true)(hw:Wd we X B F w):Wd we X B' F w:=by
 have hm:∀r∈B',r∈B:=fun r hr=>by obtain ⟨i,_,h⟩:=sL hi r hr;exact List.mem_of_getElem? h
 have hb:∀k∈blks B',k∈blks B:=fun k hk=>by obtain ⟨r,hr,hk⟩:=bu.1 hk;exact bu.2 ⟨r,hm r hr,hk⟩
 exact ⟨hw.upd,fun r h=>hw.okB r (hm r h),hw.okF,pN hw.sep hi ha,fun k hk=>hw.own k (hb k hk),fun k hk=>⟨(hw.mj k hk).1,fun h=>(hw.mj k hk).2 (hb k h)⟩⟩
structure Hnd (B0:List ag)(w:World):Prop where
  ok:∀r∈B0,r.ok w
  sep:(blks B0).Nodup
  lt:∀k∈blks B0,k<w.heap.size
structure Turned (B0 B1:List ag)(w w':World):Prop where
  upd:lS (blks B0) w w'
  ok:∀r∈B1,r.ok w'
  sep:(blks B1).Nodup
  own:∀k∈blks B1,k<w'.heap.size/\(k∈blks B0∨w.heap.size<=k)
def ag.all (B:List ag):ag:=⟨blks B,fun w => ∀r∈B,r.ok w,fun w w' h ho r hr=>r.loc w w' (fun k hk=>h k (bu.2 ⟨r,hr,hk⟩)) (ho r hr)⟩
theorem Wd.gather {we w:World}{X:List Nat}{B0 Br F:List ag}(hw:Wd we X (B0++Br) F w):Wd we X (ag.all B0::Br) F w:=by
 have e:blks (ag.all B0::Br)=blks (B0++Br):=by rw [aU];rfl
 exact ⟨hw.upd,fun r hr=>(List.mem_cons.1 hr).elim (fun h=>h▸fun q hq=>hw.okB q (List.mem_append.2 (.inl hq))) fun h=>hw.okB r (List.mem_append.2 (.inr h)),hw.okF,e▸hw.sep,e▸hw.own,e▸hw.mj⟩
theorem Wd.LZ {we w:World}{X:List Nat}{B0 Br F:List ag}(hw:Wd we X (ag.all B0::Br) F w):Wd we X (B0++Br) F w:=by
 have e:blks (ag.all B0::Br)=blks (B0++Br):=by rw [aU];rfl
 exact ⟨hw.upd,fun r hr=>(List.mem_append.1 hr).elim (fun h=>hw.okB (ag.all B0) (List.mem_cons_self ..) r h) fun h=>hw.okB r (List.mem_cons_of_mem _ h),hw.okF,e▸hw.sep,e▸hw.own,e▸hw.mj⟩
theorem Wd.turned {we w w':World}{X:List Nat}{B0 B1 Br F:List ag}(hw:Wd we X (B0++Br) F w)(h:Turned B0 B1 w w'):Wd we X (B1++Br) F w' :=
 (hw.gather.turn (i:=0) (r:=ag.all B0) (r':=ag.all B1) rfl h.upd h.ok h.sep h.own).LZ
theorem Wd.held {we w:World}{X:List Nat}{B0 Br F:List ag}(hw:Wd we X (B0++Br) F w):Hnd B0 w :=
 ⟨fun r hr=>hw.okB r (List.mem_append.2 (.inl hr)),by have:=hw.sep;rw [aU] at this;exact (List.nodup_append.1 this).1,fun k hk=>(hw.own k (by rw [aU];exact List.mem_append.2 (.inl hk))).1⟩
theorem Wd.left {w w':World}{B0 B1 F:List ag}(hw:Wd w (blks B0) B1 F w'):Turned B0 B1 w w' :=
 ⟨hw.upd,hw.okB,hw.sep,fun k hk=>⟨(hw.own k hk).1,by
  by_cases h:k<w.heap.size
  .exact .inl ((hw.own k hk).2 h)
  .exact .inr (by omega)⟩⟩
theorem Hnd.start {B0:List ag}{w:World}(h:Hnd B0 w):Wd w (blks B0) B0 [] w :=
 ⟨lS.refl _ _,h.ok,by simp,h.sep,fun k hk=>⟨h.lt k hk,fun _=>hk⟩,by simp [blks]⟩
def ag.ls {α:Type}[Enc α](v:Value)(l:List α):ag:=⟨if l.isEmpty then [] else dY v,fun w=>Sl w v l,fun w w' h hs=>by
  cases l with
  | nil =>
    obtain ⟨A,c,rfl,h1,h2,h3⟩:=hs
    exact ⟨A,c,rfl,h1,h2,fun i x hx=>by simp at hx⟩
  | cons y l=>exact IQ (by simpa using h) hs⟩
theorem Wd.bP {we w:World}{X:List Nat}{B F:List ag}{α:Type}[Enc α]{v:Value}{l:List α}(i:Nat)(h:F[i]? = some (ag.ls v l))(hw:Wd we X B F w):Sl w v l:=hw.f i h
theorem dw{we:World}{X:List Nat}{B F:List ag}{α:Type}[Enc α]{v:Value}{l:List α}(i:Nat)(h:F[i]? =some (ag.ls v l)):∀w,Wd we X B F w->Sl w v l:=fun _=>Wd.bP i h
theorem NK {w:World}{α:Type}[Enc α]{v:Value}{l:List α}(h:Sl w v l):∀k∈(ag.ls v l).blk,k<w.heap.size:=fun k hk=>by
 cases l with
 | nil=>simp [ag.ls] at hk
 | cons y l =>
  obtain ⟨A,c,rfl,h1,h2,h3⟩:=h
  obtain ⟨b,off,rfl,hb,_⟩:=h3 0 y rfl
  simp [ag.ls,dY] at hk;subst hk;exact hb
section
variable {P:Program} {n:Nat} {we:World} {X:List Nat} {Q:Exit->Act->World->Prop} {k k':List It} {L:Fm} {B F:List ag} {ops rest:List Oper}
variable {dst:Option Nat} {d:Nat} {ty:TypeId} {pos:String} {ea:Array Edge} {g:Option (Nat×Bool)} {v:Value}
variable {x y:Operand} {xT yT t e:TypeId} {α:Type} [Enc α] {l:List α}
theorem s.IW {β:Type}{f:FuncId}{c:Operand}{xs:Array Operand}{ts:Array TypeId}{vs:List Value}{cap:Array Value}{B0 Br:List ag}(is:List Nat)(G:β->Value)(B1:β->List ag)(hp:cZ B is=some (B0++Br))(ha':iq is=true)
 (eg:∀args w,(callFunc f args).run P w = .ok (.enter f args) w) (hargs:evs L xs.toList=some vs) (hc:ev L c=some (.func (.func f) #[] cap))
 (hcall:∀w,Wd we X B F w->Hnd B0 w->Calls P f (vs++cap.toList).toArray w fun e w' => ∃z,e = .returned (G z)/\Turned B0 (B1 z) w w') (hd:Nat.blt d n=true) :
 Stp P n we X L B F ⟨some d,.call { callee:= .value c,args:=xs,argTypes:=ts },ty,pos,ea,g⟩ (fun z=>(d,G z)::L) (fun z=>B1 z++Br) (fun _=>F):=by
 intro K Q' a w ha hw hK
 have hw2:=hw.LY is hp ha'
 unfold Oper.wp
 rw [pH ha hargs hc eg,Oper.upon_enter]
 refine (hcall w hw hw2.held).mono fun e w' he=>?_
 obtain ⟨z,rfl,ht⟩:=he
 exact hK z _ _ (ha.put d _ hd) (hw2.turned ht)
theorem q.cb {a:Addr}(hx:ev L x=some (.pointer (some a))):Qt P n we X L B F (.nilCheck x) ty (.pointer (some a)):=fun _ _ _ _ q w ha hw=>by
 simp [execOp,ha.ev hx]
theorem q.max {kd:IntKind}{a b r:Int}{ts:Array TypeId}(hx:ev L x=some (.int kd a))(hy:ev L y=some (.int kd b))(hr:max a b=r):Qt P n we X L B F (.call { callee:= .builtin .max,args:= #[x,y],argTypes:=ts }) ty (.int kd r):=fun _ _ _ _ q w ha hw=>by
 have e:(if b>a then b else a)=r:=by rw [<- hr];split <;> omega
 simp [execOp,resolve,invoke,builtin,ha.ev hx,ha.ev hy,Builtin.max_,Builtin.max2,e]
theorem q.cat {a b:ByteArray}(hx:ev L x=some (.string a))(hy:ev L y=some (.string b))(h:a.size+b.size<=9223372036854775807):Qt P n we X L B F (.binOp .add xT x y yT) ty (.string (a++b)):=fun _ _ _ _ q w ha hw=>by
 have:¬ ((a.size+b.size:Nat):Int)>IntKind.i64.max:=by
  have:IntKind.i64.max=9223372036854775807:=by decide
  omega
 simp only [execOp,ha.ev hx,ha.ev hy,binOp,Op.stringOp]
 rw [if_neg this]
 simp [eqGuard]
instance:Enc UInt8:=⟨1,fun b=>[.int .u8 (b.toNat:Int)],fun _=>rfl,fun _ u hu=>by simp at hu;subst hu;rfl,by decide⟩
theorem q.ki {l:List UInt8}(hs:∀w,Wd we X B F w->Sl w v l)(hx:ev L x=some v)(h1:pw P xT=some (e,1))(h2:P.underlying e=some (.int .u8))(h3:P.underlying yT=some .string):Qt P n we X L B F (.convert xT yT x) ty (.string ⟨l.toArray⟩):=fun _ _ _ _ q w ha hw=>by
 obtain ⟨A,c,rfl,hl,hm,hc⟩:=hs w hw
 obtain ⟨hu,_⟩:=eR (P:=P) w h1
 cases l with
 | nil =>
  have:(convert xT yT (.slice A 0 c)).run P w = .ok (.string ⟨#[]⟩) w:=by
   cases A with
   | none=>rw [run_convert_bytes_string w xT yT e none 0 c hu h2 h3];rfl
   | some A=>exact run_convert_bytes_back (P:=P) w xT yT e A c [] hu h2 h3 (by simp)
  have hx':ev L x=some (.slice A 0 c):=hx
  simp only [execOp,ha.ev hx',Sem.run_bind,this,Result.andThen_ok,Sem.run_pure]
 | cons b l =>
  obtain ⟨bk,off,rfl,hb,_⟩:=hc 0 b rfl
  have:=run_convert_bytes_back (P:=P) w xT yT e ⟨bk,off,none⟩ c (b::l) hu h2 h3 (fun j hj=>by
   obtain ⟨b',off',hA,_,hcc⟩:=hc j (b::l)[j] (List.getElem?_eq_getElem hj)
   injection hA with hA;injection hA with hb1 ho1;subst hb1;subst ho1
   have:=hcc 0 _ (show (Enc.cells (b::l)[j])[0]? = some (.int .u8 ((b::l)[j].toNat:Int)) from rfl)
   rw [addr_add]
   simpa [Enc.k] using this)
  simp only [execOp,ha.ev hx,Sem.run_bind,this,Result.andThen_ok,Sem.run_pure]
theorem zc:∀m,(List.replicate m (0:UInt8)).flatMap Enc.cells=List.replicate m (Value.int .u8 0)
 | 0=>rfl
 | m+1=>by rw [List.replicate_succ,List.flatMap_cons,zc m];rfl
theorem s.TT {m:Nat}{i0:TypeInfo}{kd:IntKind}{y:Operand}(ht:pw P t=some (e,1))(hi:P.info? e=some i0)(hz:i0.zero=some (.int .u8 0))(hb:i0.bytes=1)(hx:ev L x=some (.int kd (m:Int)))(hy:ev L y=some (.int kd (m:Int)))(hm:m<=10000000)(hd:Nat.blt d n=true) :
 Stp P n we X L B F ⟨some d,.makeSlice t x y,ty,pos,ea,g⟩ (fun b:Nat=>(d,.slice (some ⟨b,0,none⟩) m m)::L) (fun b=>ag.row e (.slice (some ⟨b,0,none⟩) m m) (List.replicate m (0:UInt8))::B) (fun _=>F):=by
 intro K Q' a w ha hw hK
 obtain ⟨hu,hsz⟩:=eR (P:=P) w ht
 have hsize:i0.size=1:=by
  unfold pw at ht;rw [hu] at ht;simp [hi] at ht;exact ht
 have hml:m<=maxLen:=by simp [maxLen];omega
 obtain ⟨w',hr,how,hg⟩:=run_makeSlice_full (P:=P) w 0 t e i0 (.int .u8 0) 1 hu hi hz hsize kd kd m (by omega) (by rw [hb];omega) hml (Nat.zero_le _)
 have hrun:(execOp a.eval ⟨some d,.makeSlice t x y,ty,pos,ea,g⟩).run P w = .ok (.value (.slice (some ⟨w.heap.size,0,none⟩) m m)) w':=by
  simp [execOp,ha.ev hx,ha.ev hy,hr]
 unfold Oper.wp
 rw [hrun,Oper.upon_value]
 have hcells:(madeCells (Value.cells (.int .u8 0)) (m*1)).toList=(List.replicate m (0:UInt8)).flatMap Enc.cells:=by
  have h1:=zc m
  rw [h1]
  simp only [madeCells,Nat.mul_one]
  refine List.ext_getElem (by simp) (fun i h1 h2=>?_)
  simp [Value.cells,Nat.mod_one]
 rw [hcells] at how
 have hup:lS [] w w':=⟨hg.os,hg.tape,hg.output,hg.size,fun k hk _=>hg.block k hk (by simp)⟩
 have hlt:w.heap.size<w'.heap.size:=by
  rcases how.2 with ⟨h,_⟩ | ⟨gb,cap,cur,h,_,hgg,_⟩
  .simp at h
  .injection h with h _ _;injection h with h;injection h with h1;rw [h1];exact (Array.getElem?_eq_some_iff.1 hgg).1
 refine hK _ _ _ (ha.put d _ hd) ((hw.grow hup).new (r:=ag.row e (.slice (some ⟨w.heap.size,0,none⟩) m m) (List.replicate m (0:UInt8))) ?_ (by simp [ag.row,dY]) (fun k hk=>?_))
 .
  show Own 0 e w' _ _
  unfold Own;rw [List.length_replicate];exact how
 .
  simp [ag.row,dY] at hk;subst hk
  exact ⟨hlt,hw.upd.size,fun h=>by have:=(hw.own _ h).1;omega,fun h=>by have:=(hw.mj _ h).1;omega⟩
theorem sM (cs us:List Value)(o m:Nat)(h:o+us.length<=m)(hm:m<=cs.length):(cs.take o++us++cs.drop (o+us.length)).take m=(cs.take m).take o++us++(cs.take m).drop (o+us.length):=by
 rw [List.take_take,Nat.min_eq_left (by omega),List.append_assoc,List.append_assoc,List.take_append,List.take_append,List.length_take,Nat.min_eq_left (by omega),List.take_of_length_le (l:=cs.take o) (by simp;omega),List.take_of_length_le (l:=us) (by omega),List.drop_take]
 congr 3;omega
theorem vY:∀ (l:List α) (j:Nat) (z:α),j<l.length->(l.set j z).flatMap Enc.cells=(l.flatMap Enc.cells).take (j*Enc.k α)++Enc.cells z++(l.flatMap Enc.cells).drop (j*Enc.k α+Enc.k α)
 | [],j,z,h=>by simp at h
 | y::l,0,z,h=>by
  have:=Enc.len y
  simp only [List.set_cons_zero,List.flatMap_cons,Nat.zero_mul,List.take_zero,List.nil_append,Nat.zero_add]
  rw [List.drop_append_of_le_length (by omega),List.drop_of_length_le (by omega)];simp
 | y::l,j+1,z,h=>by
  have hy:=Enc.len y
  have ih:=vY l j z (by simpa using h)
  simp only [List.set_cons_succ,List.flatMap_cons,ih]
  have e1:(j+1)*Enc.k α=Enc.k α+j*Enc.k α:=by rw [Nat.add_mul];omega
  rw [e1,<- hy,List.take_length_add_append]
  have e2:(Enc.cells y).length+j*(Enc.cells y).length+(Enc.cells y).length=(Enc.cells y).length+(j*(Enc.cells y).length+(Enc.cells y).length):=by omega
  rw [e2,List.drop_length_add_append];simp [List.append_assoc]
theorem s.QY {j:Nat}{z z':α}{u:Value}{us:List Value}(i:Nat)(B':List ag)(hB:B[i]? = some (ag.row e v l))(hj:l[j]? = some z')(hx:ev L x=some (ep v j (Enc.k α) 0))(hy:ev L y=some u)(hu:u.cells=us.toArray)(Ro:us=Enc.cells z)
 (ht:(nE P xT=some us.length∨kg P xT=true/\us.length=1)) (hB':B.set i (ag.row e v (l.set j z))=B') :
 Stp P n we X L B F ⟨none,.store xT x y,ty,pos,ea,g⟩ (fun _:Unit=>L) (fun _=>B') (fun _=>F):=by
 intro K Q' a w ha hw hK
 have hjl:j<l.length:=(List.getElem?_eq_some_iff.1 hj).1
 have how:Own 0 e w v l:=hw.b i hB
 obtain ⟨hlen,hn|⟨gb,cap,cur,rfl,_,hgg,hnc,hcm,hcs,htk⟩⟩:=how
 .omega
 have hk:us.length=Enc.k α:=by rw [Ro,Enc.len]
 have hjk:j*Enc.k α+us.length<=l.length*Enc.k α:=by
  rw [hk];have:(j+1)*Enc.k α<=l.length*Enc.k α:=Nat.mul_le_mul_right _ hjl
  rw [Nat.add_mul] at this;omega
 have hlc:l.length*Enc.k α<=cap*Enc.k α:=Nat.mul_le_mul_right _ hnc
 have hsz:(sizeOf xT).run P w = .ok us.length w:=by
  rcases ht with h|⟨h,h'⟩
  .exact (vq (P:=P) w h).2
  .rw [h'];exact (vt (P:=P) w h).2
 have hst:=run_storeCells_at P gb (j*Enc.k α) e us 0 cur w hgg (by omega) (fun v hv=>Enc.one z v (Ro▸hv))
 have hrun:(execOp a.eval ⟨none,.store xT x y,ty,pos,ea,g⟩).run P w = .ok .skip (w.setRow gb (cur.toList.take (j*Enc.k α)++us++cur.toList.drop (j*Enc.k α+us.length)).toArray):=by
  simp only [execOp,ha.ev hx,ha.ev hy,ep,Instr.storeAt,Instr.sureAddr,storeVar,hu,Sem.run_bind,Sem.run_pure,Result.andThen_ok,hsz]
  simp only [List.size_toArray,ne_eq,not_true_eq_false,if_false,Nat.add_zero,Nat.zero_add] at hst ⊢
  simp only [hst,Result.andThen_ok]
 unfold Oper.wp
 rw [hrun,Oper.upon_skip]
 subst hB'
 refine hK () _ _ (by simpa [Act.put] using ha) (hw.turn hB (ov w gb _) ?_ (by simp [ag.row,dY]) (fun k hk'=>?_))
 .
  have hfl:(l.set j z).flatMap Enc.cells=(l.flatMap Enc.cells).take (j*Enc.k α)++us++(l.flatMap Enc.cells).drop (j*Enc.k α+us.length):=by
   rw [Ro,Enc.len];exact vY l j z hjl
  refine ⟨by rw [di],.inr ⟨gb,cap,_,by simp,Nat.zero_le _,setRow_heap w gb _ _ e _ hgg,by simpa using hnc,hcm,?_,?_⟩⟩
  .simp;omega
  .
   rw [hfl]
   have h1:(l.flatMap Enc.cells).length=l.length*Enc.k α:=di l
   rw [<- htk]
   simp only [List.length_set]
   exact sM _ _ _ _ (by omega) (by simp;omega)
 .
  simp [ag.row,dY] at hk';subst hk'
  exact ⟨by simp [World.setRow];exact (Array.getElem?_eq_some_iff.1 hgg).1,.inl (by simp [ag.row,dY])⟩
theorem s.copy {u:Value}{l2:List α}{A:TypeId}(i:Nat)(B':List ag)(hB:B[i]? = some (ag.row e v l))(hs:∀w,Wd we X B F w->Sl w u l2)(hx:ev L x=some v)(hy:ev L y=some u)(hk:Enc.k α=1)(ht:pw P t=some (e,1))(hlen:l.length=l2.length)(hB':B.set i (ag.row e v l2)=B')(hd:Nat.blt d n=true) :
 Stp P n we X L B F ⟨some d,.call { callee:= .builtin .copy,args:= #[x,y],argTypes:= #[t,A] },ty,pos,ea,g⟩ (fun _:Unit=>(d,.int .i64 l2.length)::L) (fun _=>B') (fun _=>F):=by
 intro K Q' a w ha hw hK
 obtain ⟨hu,hsz⟩:=eR (P:=P) w ht
 have hsize:(P.info? e).map (·.size)=some 1:=by
  unfold pw at ht;rw [hu] at ht
  cases hi:P.info? e with
  | none=>simp [hi] at ht
  | some i0=>simp [hi] at ht;simp [ht]
 have how:Own 0 e w v l:=hw.b i hB
 obtain ⟨hl0,hn|⟨gb,cap,cur,rfl,_,hgg,hnc,hcm,hcs,htk⟩⟩:=how
 .
  obtain ⟨rfl,hl⟩:=hn
  have hl':l=[]:=List.eq_nil_of_length_eq_zero hl
  subst hl'
  have hl2:l2=[]:=List.eq_nil_of_length_eq_zero (by simpa using hlen.symm)
  subst hl2
  obtain ⟨A2,c,rfl,h1,h2,h3⟩:=hs w hw
  have hcp:=run_copy_none (P:=P) w t A ty e none A2 0 0 0 c hu hsize (by simp)
  have hrun:(execOp a.eval ⟨some d,.call { callee:= .builtin .copy,args:= #[x,y],argTypes:= #[t,A] },ty,pos,ea,g⟩).run P w = .ok (.value (.int .i64 0)) w:=by
   have hy':ev L y=some (.slice A2 0 c):=hy
   simp [execOp,resolve,invoke,builtin,ha.ev hx,ha.ev hy',hcp,goInt]
  unfold Oper.wp
  rw [hrun,Oper.upon_value]
  refine hK () _ _ (ha.put d _ hd) ?_
  have:B.set i (ag.row e (.slice none 0 0) ([]:List α))=B:=List.ext_getElem? fun j=>by
   rw [List.getElem?_set];split
   .rename_i hij;subst hij;rw [hB];simp;exact (List.getElem?_eq_some_iff.1 hB).1
   .rfl
  rw [<- hB',this];exact hw
 .
  have h2:=hs w hw
  obtain ⟨A2,c,rfl,h21,h22,h23⟩:=h2
  have hfl:(l2.flatMap Enc.cells).length=l2.length:=by rw [di,hk,Nat.mul_one]
  by_cases he:l2=[]
  .
   subst he
   have hl':l=[]:=List.eq_nil_of_length_eq_zero (by simpa using hlen)
   subst hl'
   have hcp:=run_copy_none (P:=P) w t A ty e (some ⟨gb,0,none⟩) A2 0 cap 0 c hu hsize (by simp)
   have hrun:(execOp a.eval ⟨some d,.call { callee:= .builtin .copy,args:= #[x,y],argTypes:= #[t,A] },ty,pos,ea,g⟩).run P w = .ok (.value (.int .i64 0)) w:=by
    have hy':ev L y=some (.slice A2 0 c):=hy
    have hx':ev L x=some (.slice (some ⟨gb,0,none⟩) 0 cap):=hx
    simp [execOp,resolve,invoke,builtin,ha.ev hx',ha.ev hy',hcp,goInt]
   unfold Oper.wp
   rw [hrun,Oper.upon_value]
   refine hK () _ _ (ha.put d _ hd) ?_
   have:B.set i (ag.row e (.slice (some ⟨gb,0,none⟩) ([]:List α).length cap) ([]:List α))=B:=List.ext_getElem? fun j=>by
    rw [List.getElem?_set];split
    .rename_i hij;subst hij;rw [hB];simp;exact (List.getElem?_eq_some_iff.1 hB).1
    .rfl
   rw [<- hB',this];exact hw
  .
   obtain ⟨y0,hy0⟩:∃y0,l2[0]? = some y0:=⟨_,List.getElem?_eq_getElem (by cases l2;exact absurd rfl he;simp)⟩
   obtain ⟨b2,off,rfl,hb2,_⟩:=h23 0 y0 hy0
   have hsrc:∀j u,(l2.flatMap Enc.cells)[j]? = some u->w.cell? ((⟨b2,off,none⟩:Addr).add j)=some u:=fun j u hj=>by
    obtain ⟨i',z,q,hi',hq,rfl⟩:=ml l2 j u hj
    obtain ⟨b',o',hA,_,hc⟩:=h23 i' z hi'
    injection hA with hA;injection hA with hA1 hA2;subst hA1;subst hA2
    rw [addr_add,<- Nat.add_assoc];exact hc q u hq
   have hcap:cur.size=cap:=by rw [hcs,hk,Nat.mul_one]
   have hcp:=run_copy_row (P:=P) w t A ty e gb 0 l.length cap ⟨b2,off,none⟩ l2.length c cur e (l2.flatMap Enc.cells) hu hsize hgg (by rw [hfl,hlen];exact (Nat.min_self _).symm) hsrc (by rw [hfl];omega) (lu l2)
   have hrun:(execOp a.eval ⟨some d,.call { callee:= .builtin .copy,args:= #[x,y],argTypes:= #[t,A] },ty,pos,ea,g⟩).run P w = .ok (.value (.int .i64 l2.length)) (w.setRow gb (cur.toList.take 0++l2.flatMap Enc.cells++cur.toList.drop (0+(l2.flatMap Enc.cells).length)).toArray):=by
    simp only [execOp,Sem.run_bind,resolve,invoke,builtin,ha.ev hx,ha.ev hy,Sem.run_pure,Result.andThen_ok,List.map_toArray,List.map_cons,List.map_nil]
    rw [hcp];simp [goInt,hfl]
   unfold Oper.wp
   rw [hrun,Oper.upon_value]
   subst hB'
   refine hK () _ _ (ha.put d _ hd) (hw.turn hB (ov w gb _) ?_ (by simp [ag.row,dY]) (fun k hk'=>?_))
   .
    refine ⟨by rw [di],.inr ⟨gb,cap,_,by rw [hlen],Nat.zero_le _,setRow_heap w gb _ _ e _ hgg,by omega,hcm,?_,?_⟩⟩
    .simp [hfl,hk];omega
    .rw [hk,Nat.mul_one,<- hfl];simp
   .
    simp [ag.row,dY] at hk';subst hk'
    exact ⟨by simp [World.setRow];exact (Array.getElem?_eq_some_iff.1 hgg).1,.inl (by simp [ag.row,dY])⟩
end
end
end Go.Proofs.YtkbhcbipadkcaaaGreatDoor
