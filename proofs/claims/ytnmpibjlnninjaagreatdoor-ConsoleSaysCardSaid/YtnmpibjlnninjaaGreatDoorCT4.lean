import Derived.Test.YtnmpibjlnninjaaGreatDoorCT3
import Derived.MapKept
import Derived.Laws.CopyRow
import Derived.Laws.MakeOwn
import Derived.Laws.IdiomStrings
import Derived.Lib.AppendZerosOnto
import Derived.Lib.Overlaps
namespace Go.Proofs.YtnmpibjlnninjaaGreatDoor
set_option linter.unusedVariables false
set_option linter.unusedSimpArgs false
set_option maxRecDepth 100000
set_option maxHeartbeats 90000000
section
open Go Go.RowKit
def FJ (P:Program)(t:TypeId):Bool :=
  match P.underlying t with
  | some (.map k e)=>match P.underlying k,eJ P e with
    | some (.int .i64),some (.bool false)=>true
    | _,_=>false
  | _=>false
theorem JZ {P:Program}{t:TypeId}(h:FJ P t=true):∃k e,P.underlying t=some (.map k e)/\P.underlying k=some (.int .i64)/\eJ P e=some (.bool false):=by
 grind [FJ]
def Ya (es:List MapEntry)(S:List Int):Prop:=(∀e∈es,∃x∈S,e.key = .int .i64 x/\e.val = .bool true) /\ ∀x∈S,∃e∈es,e.key = .int .i64 x
theorem rR (x:Int):∀ (es:List MapEntry) (i:Nat),(∀e∈es,∃y,e.key = .int .i64 y/\e.val = .bool true) ->
 ((∃e∈es,e.key = .int .i64 x) /\ ∃j,i<=j/\Instr.findNow (.int .i64) (.int .i64 x) es i=some (some (j,.bool true))/\(es[j-i]?).map (·.key)=some (.int .i64 x)) ∨
 ((¬ ∃e∈es,e.key = .int .i64 x)/\Instr.findNow (.int .i64) (.int .i64 x) es i=some none)
 | [],i,h => .inr ⟨bA,rfl⟩
 | e::es,i,h=>by
  obtain ⟨y,hy,hv⟩:=h e bA
  by_cases hxy:x=y
  .
   subst hxy
   refine .inl ⟨⟨e,bA,hy⟩,i,Nat.le_refl _,?_,by simp [hy]⟩
   simp [Instr.findNow,Instr.sameNow,hy,hv]
  have hne:(x==y)=false:=by simpa using hxy
  rcases rR x es (i+1) (fun e he=>h e (by simp [he])) with ⟨⟨e',he',hk⟩,j,hj,hf,hg⟩ | ⟨hn,hf⟩
  .
   refine .inl ⟨⟨e',by simp [he'],hk⟩,j,ae,?_,?_⟩
   .simp [Instr.findNow,Instr.sameNow,hy,hne,hf]
   have:j-i=(j-(i+1))+1:=ae
   rw [this];simpa using hg
  refine .inr ⟨?_,by simp [Instr.findNow,Instr.sameNow,hy,hne,hf]⟩
  rintro ⟨e',he',hk⟩
  rcases List.mem_cons.1 he' with rfl|he'
  .rw [hy] at hk;injection hk with _ hk;exact hxy hk.symm
  exact hn ⟨e',he',hk⟩
def ag.uw (b:Nat)(S:List Int):ag:=⟨[b],fun w => ∃es c,w.heap[b]? = some (.map es c)/\Ya es.toList S,fun w w' h=>fun ⟨es,c,h1,h2⟩=>⟨es,c,(h b (by simp)).trans h1,h2⟩⟩
section
variable {P:Program} {n:Nat} {we:World} {X:List Nat} {Q:Exit->Act->World->Prop} {k k':List It} {L:Fm} {B F:List ag} {ops rest:List Oper}
variable {dst:Option Nat} {d:Nat} {ty:TypeId} {pos:String} {dV:Array Edge} {g:Option (Nat×Bool)} {v:Value}
variable {x y m:Operand} {t:TypeId}
theorem D4 (em:Bool){kt:TypeId}{z:Int}(w:World)(h:P.underlying kt=some (.int .i64)):(Instr.checkKey em 10000 kt (.int .i64 z)).run P w = .ok () w:=MapKept.run_checkKey h eH em 9999
theorem Rj {z:Int}(w:World):(Instr.keyThatStays (.int .i64 z) (.int .i64 z)).run P w = .ok (.int .i64 z) w:=MapKept.run_keyThatStays (d:= .int .i64) eH
theorem q.look {b:Nat}{S:List Int}{z:Int}(i:Nat)(hB:B[i]? = some (ag.uw b S))(hm:ev L m=some (.map (some b)))(hy:ev L y=some (.int .i64 z))(ht:FJ P t=true):Qt P n we X L B F (.lookup t m y false) ty (.bool (decide (z∈S))):=fun _ _ _ _ a w ha hw=>by
 obtain ⟨es,c,h1,h2,h3⟩:=hw.b i hB
 obtain ⟨kt,e,hu,hk,hz⟩:=JZ ht
 have hf:∀e∈es.toList,∃y,e.key = .int .i64 y/\e.val = .bool true:=fun e he=>by grind
 simp only [execOp,ha.ev hm,ha.ev hy,Instr.lookup,Sem.run_bind,run_underlying hu,Result.andThen_ok,MapKept.run_getObj_map h1,Sem.run_pure,D4 _ w hk,Instr.findKey,run_underlying hk]
 rcases rR z es.toList 0 hf with ⟨⟨e',he',hk'⟩,j,_,hf,_⟩ | ⟨hn,hf⟩
 .
  have hS:z∈S:=az
  simp_all
 have hS:¬ z∈S:=fun hz=>hn (h3 z hz)
 rw [hf];simp [hS,pF (P:=P) w hz]
theorem q.TQ {b:Nat}{S:List Int}{z:Int}{r:Bool}(i:Nat)(hB:B[i]? = some (ag.uw b S))(hm:ev L m=some (.map (some b)))(hy:ev L y=some (.int .i64 z))(ht:FJ P t=true)(hr:decide (z∈S)=r):Qt P n we X L B F (.lookup t m y false) ty (.bool r):=hr▸q.look i hB hm hy ht
theorem s.mk (hd:Nat.blt d n=true):Stp P n we X L B F ⟨some d,.makeMap t none,ty,pos,dV,g⟩ (fun b:Nat=>(d,.map (some b))::L) (fun b=>ag.uw b []::B) (fun _=>F):=by
 intro K Q' a w ha hw hK
 unfold Oper.wp
 have hrun:(execOp a.eval ⟨some d,.makeMap t none,ty,pos,dV,g⟩).run P w = .ok (.value (.map (some w.heap.size))) (w.alloc (.map #[] 0)):=by
  rfl
 rw [hrun,Oper.upon_value]
 exact hK _ _ _ (ha.put d _ hd) (hw.alloc (r:=ag.uw w.heap.size []) ⟨#[],0,heap_alloc_new w _,by simp [Ya]⟩ rfl)
theorem zk (w:World)(b:Nat)(o:Obj):np [b] w { w with heap:=w.heap.setIfInBounds b o}:=⟨rfl,rfl,rfl,bA,fun k hk hn=>by
 grind⟩
theorem J0 {b:Nat}{S:List Int}{z:Int}{w:World}(ht:FJ P t=true)(h:(ag.uw b S).ok w):∃w',(Instr.mapUpdate t (.map (some b)) (.int .i64 z) (.bool true)).run P w = .ok () w'/\np [b] w w'/\(ag.uw b (z::S)).ok w':=by
 obtain ⟨es,c,h1,h2,h3⟩:=h
 obtain ⟨kt,e,hu,hk,hz⟩:=JZ ht
 have hlt:b<w.heap.size:=(Array.getElem?_eq_some_iff.1 h1).1
 have hf:∀e∈es.toList,∃y,e.key = .int .i64 y/\e.val = .bool true:=fun e he=>by grind
 rcases rR z es.toList 0 hf with ⟨⟨e',he',hk'⟩,j,_,hf,hj⟩ | ⟨hn,hf⟩
 .
  have hj':(es[j]?).map (·.key)=some (.int .i64 z):=az
  refine ⟨_,?_,zk w b (.map (es.modify j fun e=>{ e with key:= .int .i64 z,val:= .bool true}) c),⟨_,_,(MapKept.heap_set h1).1,?_⟩⟩
  .simp only [Instr.mapUpdate,Sem.run_bind,run_underlying hu,Result.andThen_ok,MapKept.run_getObj_map h1,D4 _ w hk,Instr.findKey,run_underlying hk,hf,Sem.run_pure,hj',Option.getD_some,Rj w,MapKept.run_setObj_map _ h1]
  have hS:z∈S:=az
  have hg:∀e∈(es.modify j fun e=>{ e with key:= .int .i64 z,val:= .bool true}).toList,∃x∈z::S,e.key = .int .i64 x/\e.val = .bool true:=by
   grind [List.mem_iff_getElem?,Array.toList_modify,List.mem_of_getElem?]
  refine ⟨hg,fun x hx=>?_⟩
  have hx':x∈S:=az
  obtain ⟨e0,he0,hke⟩:=h3 x hx'
  obtain ⟨i,hi⟩:=List.mem_iff_getElem?.1 he0
  by_cases hij:j=i
  .
   subst hij
   have hxz:x=z:=by
    grind
   refine ⟨{ e0 with key:= .int .i64 z,val:= .bool true},List.mem_of_getElem? (i:=j) ?_,az⟩
   grind
  refine ⟨e0,List.mem_of_getElem? (i:=i) ?_,hke⟩
  grind
 refine ⟨_,?_,zk w b (.map (es.push { key:= .int .i64 z,val:= .bool true,born:=c}) (c+1)),⟨_,_,(MapKept.heap_set h1).1,?_⟩⟩
 .simp only [Instr.mapUpdate,Sem.run_bind,run_underlying hu,Result.andThen_ok,MapKept.run_getObj_map h1,D4 _ w hk,Instr.findKey,run_underlying hk,hf,Sem.run_pure,MapKept.run_setObj_map _ h1]
 constructor
 .grind
 simp_all
theorem s.mup {b:Nat}{S:List Int}{z:Int}(i:Nat)(B':List ag)(hB:B[i]? = some (ag.uw b S))(hm:ev L m=some (.map (some b)))(hx:ev L x=some (.int .i64 z))(hy:ev L y=some (.bool true))(ht:FJ P t=true)(hB':B.set i (ag.uw b (z::S))=B') :
 Stp P n we X L B F ⟨none,.mapUpdate t m x y,ty,pos,dV,g⟩ (fun _:Unit=>L) (fun _=>B') (fun _=>F):=by
 intro K Q' a w ha hw hK
 obtain ⟨w',hr,hu,hk⟩:=J0 (P:=P) (z:=z) ht (hw.b i hB)
 unfold Oper.wp
 have hrun:(execOp a.eval ⟨none,.mapUpdate t m x y,ty,pos,dV,g⟩).run P w = .ok .skip w':=by
  simp [execOp,ha.ev hm,ha.ev hx,ha.ev hy,hr]
 rw [hrun,Oper.upon_skip]
 subst hB'
 refine hK () _ _ af (hw.turn hB hu hk (by simp [ag.uw]) (fun k hk=>?_))
 grind [ag.uw,Nat.lt_of_lt_of_le,bK,List.mem_of_getElem?]
theorem s.aay {b:Nat}{S:List Int}{z:Int}(i:Nat)(B':List ag)(hB:B[i]? = some (ag.uw b S))(hm:ev L m=some (.map (some b)))(hx:ev L x=some (.int .i64 z))(hy:ev L y=some (.bool true))(ht:FJ P t=true)(hB':B.set i (ag.uw b (z::S))=B') :
 Stp P n we X L B F ⟨none,.insert t m x y,ty,pos,dV,g⟩ (fun _:Unit=>L) (fun _=>B') (fun _=>F):=by
 intro K Q' a w ha hw hK
 obtain ⟨w',hr,hu,hk⟩:=J0 (P:=P) (z:=z) ht (hw.b i hB)
 unfold Oper.wp
 have hrun:(execOp a.eval ⟨none,.insert t m x y,ty,pos,dV,g⟩).run P w = .ok .skip w':=by
  simp [execOp,ha.ev hm,ha.ev hx,ha.ev hy,hr]
 rw [hrun,Oper.upon_skip]
 subst hB'
 refine hK () _ _ af (hw.turn hB hu hk (by simp [ag.uw]) (fun k hk=>?_))
 grind [ag.uw,Nat.lt_of_lt_of_le,bK,List.mem_of_getElem?]
end
end
section
open Go Go.RowKit
def eP:List Nat->Bool
  | []=>true
  | i::is => !(is.elem i)&&eP is
theorem Ll {B:List ag}{i:Nat}{r:ag}(hi:B[i]? = some r)(h:(blks B).Nodup):r.blk.Nodup:=by
 induction B generalizing i with
 | nil=>grind
 | cons q B ih =>
  obtain ⟨h1,h2,_⟩:=List.nodup_append.1 h
  grind
theorem ux {B B':List ag}{i:Nat}{is:List Nat}(h:bW B (i::is)=some B'):∃r B'',B[i]? = some r/\bW B is=some B''/\B'=r::B'':=by
 grind [bW]
theorem vq {B:List ag}:∀ {is:List Nat} {B':List ag},bW B is=some B' -> ∀r∈B',∃i∈is,B[i]? = some r
 | [],B',h,r,hr=>by simp [bW] at h;subst h;simp at hr
 | i::is,B',h,r,hr=>by
  obtain ⟨r0,B'',h1,h2,rfl⟩:=ux h
  rcases List.mem_cons.1 hr with rfl|hr
  .exact ⟨i,bA,h1⟩
  obtain ⟨j,hj,hq⟩:=vq h2 r hr;exact ⟨j,by simp [hj],hq⟩
theorem rT {B:List ag}(hn:(blks B).Nodup):∀ {is:List Nat} {B':List ag},bW B is=some B'->eP is=true->(blks B').Nodup
 | [],B',h,_=>by grind [bW,blks]
 | i::is,B',h,ha=>by
  obtain ⟨r,B'',h1,h2,rfl⟩:=ux h
  simp only [eP,Bool.and_eq_true,Bool.not_eq_true'] at ha
  refine List.nodup_append.2 ⟨Ll h1 hn,rT hn h2 ha.2,fun a ha' b hb e=>?_⟩
  grind [bK,vq,jI,List.elem_eq_contains]
theorem Wd.Ns {we w:World}{X:List Nat}{B F B' F':List ag}(is js:List Nat)(hi:bW B is=some B')(hj:bW F js=some F')(ha:eP is=true)(hw:Wd we X B F w):Wd we X B' F' w:=by
 have hm:∀r∈B',r∈B:=fun r hr=>by grind [vq,List.mem_of_getElem?]
 have hF:=nu hj
 have hb:∀k∈blks B',k∈blks B:=fun k hk=>by grind [bK]
 exact ⟨hw.upd,fun r h=>hw.okB r (hm r h),fun r h=>hw.okF r (hF r h),rT hw.sep hi ha,fun k hk=>hw.own k (hb k hk),fun k hk=>by
  obtain ⟨r,hr,hk⟩:=bK.1 hk
  have:=hw.nq k (bK.2 ⟨r,hF r hr,hk⟩)
  grind⟩
theorem XE{we:World}{X:List Nat}{B F B' F':List ag}(is js:List Nat)(hi:bW B is=some B')(hj:bW F js=some F')(ha:eP is=true):∀w,Wd we X B F w->Wd we X B' F' w:=fun _=>Wd.Ns is js hi hj ha
theorem Wd.pk {we w:World}{X:List Nat}{B F B' F':List ag}(is js:List Nat)(h:(bW B is,bW F js,eP is)=(some B',some F',true))(hw:Wd we X B F w):Wd we X B' F' w:=by
 injection h with h1 h2;injection h2 with h2 h3;exact hw.Ns is js h1 h2 h3
theorem cw{we:World}{X:List Nat}{B F B' F':List ag}(is js:List Nat)(h:(bW B is,bW F js,eP is)=(some B',some F',true)):∀w,Wd we X B F w->Wd we X B' F' w:=fun _=>Wd.pk is js h
theorem Wd.Lm {we w:World}{X:List Nat}{B F B':List ag}(is:List Nat)(hi:bW B is=some B')(ha:eP is=true)(hw:Wd we X B F w):Wd we X B' F w:=by
 have hm:∀r∈B',r∈B:=fun r hr=>by grind [vq,List.mem_of_getElem?]
 have hb:∀k∈blks B',k∈blks B:=fun k hk=>by grind [bK]
 exact ⟨hw.upd,fun r h=>hw.okB r (hm r h),hw.okF,rT hw.sep hi ha,fun k hk=>hw.own k (hb k hk),fun k hk=>⟨(hw.nq k hk).1,fun h=>(hw.nq k hk).2 (hb k h)⟩⟩
structure Hnd (B0:List ag)(w:World):Prop where
  ok:∀r∈B0,r.ok w
  sep:(blks B0).Nodup
  lt:∀k∈blks B0,k<w.heap.size
structure Turned (B0 B1:List ag)(w w':World):Prop where
  upd:np (blks B0) w w'
  ok:∀r∈B1,r.ok w'
  sep:(blks B1).Nodup
  own:∀k∈blks B1,k<w'.heap.size/\(k∈blks B0∨w.heap.size<=k)
def ag.all (B:List ag):ag:=⟨blks B,fun w => ∀r∈B,r.ok w,fun w w' h ho r hr=>r.loc w w' (fun k hk=>h k (bK.2 ⟨r,hr,hk⟩)) (ho r hr)⟩
theorem Wd.gather {we w:World}{X:List Nat}{B0 Br F:List ag}(hw:Wd we X (B0++Br) F w):Wd we X (ag.all B0::Br) F w:=by
 have e:blks (ag.all B0::Br)=blks (B0++Br):=by rw [bz];rfl
 exact ⟨hw.upd,fun r hr=>(List.mem_cons.1 hr).elim (fun h=>h▸fun q hq=>hw.okB q (List.mem_append.2 (.inl hq))) fun h=>hw.okB r (List.mem_append.2 (.inr h)),hw.okF,e▸hw.sep,e▸hw.own,e▸hw.nq⟩
theorem Wd.D5 {we w:World}{X:List Nat}{B0 Br F:List ag}(hw:Wd we X (ag.all B0::Br) F w):Wd we X (B0++Br) F w:=by
 have e:blks (ag.all B0::Br)=blks (B0++Br):=by rw [bz];rfl
 exact ⟨hw.upd,fun r hr=>(List.mem_append.1 hr).elim (fun h=>hw.okB (ag.all B0) (List.mem_cons_self ..) r h) fun h=>hw.okB r (List.mem_cons_of_mem _ h),hw.okF,e▸hw.sep,e▸hw.own,e▸hw.nq⟩
theorem Wd.turned {we w w':World}{X:List Nat}{B0 B1 Br F:List ag}(hw:Wd we X (B0++Br) F w)(h:Turned B0 B1 w w'):Wd we X (B1++Br) F w' :=
 (hw.gather.turn (i:=0) (r:=ag.all B0) (r':=ag.all B1) rfl h.upd h.ok h.sep h.own).D5
theorem Wd.held {we w:World}{X:List Nat}{B0 Br F:List ag}(hw:Wd we X (B0++Br) F w):Hnd B0 w :=
 ⟨fun r hr=>hw.okB r (List.mem_append.2 (.inl hr)),by have:=hw.sep;grind [bz,List.nodup_append],fun k hk=>(hw.own k (by grind [bz])).1⟩
def ag.ls {α:Type}[Enc α](v:Value)(l:List α):ag:=⟨if l.isEmpty then [] else eB v,fun w=>Sl w v l,fun w w' h hs=>by
  cases l with
  | nil =>
    obtain ⟨A,c,rfl,h1,h2,h3⟩:=hs
    exact ⟨A,c,rfl,h1,h2,fun i x hx=>by grind⟩
  | cons y l=>grind [Nj]⟩
theorem Wd.cy {we w:World}{X:List Nat}{B F:List ag}{α:Type}[Enc α]{v:Value}{l:List α}(i:Nat)(h:F[i]? = some (ag.ls v l))(hw:Wd we X B F w):Sl w v l:=hw.f i h
theorem vu{we:World}{X:List Nat}{B F:List ag}{α:Type}[Enc α]{v:Value}{l:List α}(i:Nat)(h:F[i]? =some (ag.ls v l)):∀w,Wd we X B F w->Sl w v l:=fun _=>Wd.cy i h
theorem Yb {w:World}{α:Type}[Enc α]{v:Value}{l:List α}(h:Sl w v l):∀k∈(ag.ls v l).blk,k<w.heap.size:=fun k hk=>by
 cases l with
 | nil=>grind [ag.ls]
 | cons y l =>
  obtain ⟨A,c,rfl,h1,h2,h3⟩:=h
  obtain ⟨b,off,rfl,hb,_⟩:=h3 0 y rfl
  grind [ag.ls,eB]
section
variable {P:Program} {n:Nat} {we:World} {X:List Nat} {Q:Exit->Act->World->Prop} {k k':List It} {L:Fm} {B F:List ag} {ops rest:List Oper}
variable {dst:Option Nat} {d:Nat} {ty:TypeId} {pos:String} {dV:Array Edge} {g:Option (Nat×Bool)} {v:Value}
variable {x y:Operand} {xT yT t e:TypeId} {α:Type} [Enc α] {l:List α}
theorem s.Nt {β:Type}{f:FuncId}{c:Operand}{xs:Array Operand}{ts:Array TypeId}{vs:List Value}{cap:Array Value}{B0 Br:List ag}(is:List Nat)(G:β->Value)(B1:β->List ag)(hp:bW B is=some (B0++Br))(ha':eP is=true)
 (eg:∀args w,(callFunc f args).run P w = .ok (.enter f args) w) (hargs:evs L xs.toList=some vs) (hc:ev L c=some (.func (.func f) #[] cap))
 (hcall:∀w,Wd we X B F w->Hnd B0 w->Calls P f (vs++cap.toList).toArray w fun e w' => ∃z,e = .returned (G z)/\Turned B0 (B1 z) w w') (hd:Nat.blt d n=true) :
 Stp P n we X L B F ⟨some d,.call { callee:= .value c,args:=xs,argTypes:=ts},ty,pos,dV,g⟩ (fun z=>(d,G z)::L) (fun z=>B1 z++Br) (fun _=>F):=by
 intro K Q' a w ha hw hK
 have hw2:=hw.Lm is hp ha'
 unfold Oper.wp
 rw [rP ha hargs hc eg,Oper.upon_enter]
 refine (hcall w hw hw2.held).mono fun e w' he=>?_
 obtain ⟨z,rfl,ht⟩:=he
 exact hK z _ _ (ha.put d _ hd) (hw2.turned ht)
theorem q.wJ {a:Addr}(hx:ev L x=some (.pointer (some a))):Qt P n we X L B F (.nilCheck x) ty (.pointer (some a)):=fun _ _ _ _ q w ha hw=>by
 simp [execOp,ha.ev hx]
theorem q.max {kd:IntKind}{a b r:Int}{ts:Array TypeId}(hx:ev L x=some (.int kd a))(hy:ev L y=some (.int kd b))(hr:max a b=r):Qt P n we X L B F (.call { callee:= .builtin .max,args:= #[x,y],argTypes:=ts}) ty (.int kd r):=fun _ _ _ _ q w ha hw=>by
 have e:(if b>a then b else a)=r:=ae
 simp [execOp,resolve,invoke,builtin,ha.ev hx,ha.ev hy,Builtin.max_,Builtin.max2,e]
theorem q.cat {a b:ByteArray}(hx:ev L x=some (.string a))(hy:ev L y=some (.string b))(h:a.size+b.size<=9223372036854775807):Qt P n we X L B F (.binOp .add xT x y yT) ty (.string (a++b)):=fun _ _ _ _ q w ha hw=>by
 have:¬ ((a.size+b.size:Nat):Int)>IntKind.i64.max:=by
  have:IntKind.i64.max=9223372036854775807:=eH
  omega
 simp only [execOp,ha.ev hx,ha.ev hy,binOp,Op.stringOp]
 simp_all [eqGuard,if_neg]
theorem q.Yc {m:Int}(hx:ev L x=some (bQ m))(hm:¬ m=0)(ht:P.underlying 95=some (.int .i64)):Qt P n we X L B F (.typeAssert x xT 95 true) ty (.tuple #[.int .i64 m,.bool true]):=fun _ _ _ _ q w ha hw=>by
 rw [gV hm] at hx
 simp [execOp,ha.ev hx,Instr.typeAssert,run_underlying ht]
instance:Enc UInt8:=⟨1,fun b=>[.int .u8 (b.toNat:Int)],fun _=>rfl,fun _ u hu=>by simp at hu;subst hu;rfl,by decide⟩
theorem q.kA {l:List UInt8}(hs:∀w,Wd we X B F w->Sl w v l)(hx:ev L x=some v)(h1:nL P xT=some (e,1))(h2:P.underlying e=some (.int .u8))(h3:P.underlying yT=some .string):Qt P n we X L B F (.convert xT yT x) ty (.string ⟨l.toArray⟩):=fun _ _ _ _ q w ha hw=>by
 obtain ⟨A,c,rfl,hl,hm,hc⟩:=hs w hw
 obtain ⟨hu,_⟩:=fk (P:=P) w h1
 cases l with
 | nil =>
  have:(convert xT yT (.slice A 0 c)).run P w = .ok (.string ⟨#[]⟩) w:=by
   cases A with
   | none=>rw [run_convert_bytes_string w xT yT e none 0 c hu h2 h3];rfl
   | some A=>grind [run_convert_bytes_back]
  have hx':ev L x=some (.slice A 0 c):=hx
  simp only [execOp,ha.ev hx',Sem.run_bind,this,Result.andThen_ok,Sem.run_pure]
 | cons b l =>
  obtain ⟨bk,off,rfl,hb,_⟩:=hc 0 b rfl
  have:=run_convert_bytes_back (P:=P) w xT yT e ⟨bk,off,none⟩ c (b::l) hu h2 h3 (fun j hj=>by
   obtain ⟨b',off',hA,_,hcc⟩:=hc j (b::l)[j] (List.getElem?_eq_getElem hj)
   injection hA with hA;injection hA with hb1 ho1;subst hb1;subst ho1
   have:=hcc 0 _ (show (Enc.cells (b::l)[j])[0]? = some (.int .u8 ((b::l)[j].toNat:Int)) from rfl)
   simp_all [Enc.k,addr_add])
  simp only [execOp,ha.ev hx,Sem.run_bind,this,Result.andThen_ok,Sem.run_pure]
theorem Cw:∀m,(List.replicate m (0:UInt8)).flatMap Enc.cells=List.replicate m (Value.int .u8 0)
 | 0=>rfl
 | m+1=>by rw [List.replicate_succ,List.flatMap_cons,Cw m];rfl
theorem s.aaz {m:Nat}{i0:TypeInfo}{kd:IntKind}{y:Operand}(ht:nL P t=some (e,1))(hi:P.info? e=some i0)(hz:i0.zero=some (.int .u8 0))(hb:i0.bytes=1)(hx:ev L x=some (.int kd (m:Int)))(hy:ev L y=some (.int kd (m:Int)))(hm:m<=10000000)(hd:Nat.blt d n=true) :
 Stp P n we X L B F ⟨some d,.makeSlice t x y,ty,pos,dV,g⟩ (fun b:Nat=>(d,.slice (some ⟨b,0,none⟩) m m)::L) (fun b=>ag.row e (.slice (some ⟨b,0,none⟩) m m) (List.replicate m (0:UInt8))::B) (fun _=>F):=by
 intro K Q' a w ha hw hK
 obtain ⟨hu,hsz⟩:=fk (P:=P) w ht
 have hsize:i0.size=1:=by
  grind [nL]
 have hml:m<=maxLen:=by grind [maxLen]
 obtain ⟨w',hr,how,hg⟩:=run_makeSlice_full (P:=P) w 0 t e i0 (.int .u8 0) 1 hu hi hz hsize kd kd m ae az hml (Nat.zero_le _)
 have hrun:(execOp a.eval ⟨some d,.makeSlice t x y,ty,pos,dV,g⟩).run P w = .ok (.value (.slice (some ⟨w.heap.size,0,none⟩) m m)) w':=by
  simp [execOp,ha.ev hx,ha.ev hy,hr]
 unfold Oper.wp
 rw [hrun,Oper.upon_value]
 have hcells:(madeCells (Value.cells (.int .u8 0)) (m*1)).toList=(List.replicate m (0:UInt8)).flatMap Enc.cells:=by
  have h1:=Cw m
  rw [h1]
  simp only [madeCells,Nat.mul_one]
  refine List.ext_getElem bA (fun i h1 h2=>?_)
  simp [Value.cells,Nat.mod_one]
 rw [hcells] at how
 have hup:np [] w w':=⟨hg.os,hg.tape,hg.output,hg.size,fun k hk _=>hg.block k hk bA⟩
 have hlt:w.heap.size<w'.heap.size:=by
  rcases how.2 with ⟨h,_⟩ | ⟨gb,cap,cur,h,_,hgg,_⟩
  .grind
  grind
 refine hK _ _ _ (ha.put d _ hd) ((hw.grow hup).new (r:=ag.row e (.slice (some ⟨w.heap.size,0,none⟩) m m) (List.replicate m (0:UInt8))) ?_ (by simp [ag.row,eB]) (fun k hk=>?_))
 .
  show Own 0 e w' _ _
  unfold Own;rw [List.length_replicate];omega
 simp [ag.row,eB] at hk;subst hk
 exact ⟨hlt,hw.upd.size,fun h=>by have:=(hw.own _ h).1;omega,fun h=>by have:=(hw.nq _ h).1;omega⟩
theorem vv (cs us:List Value)(o m:Nat)(h:o+us.length<=m)(hm:m<=cs.length):(cs.take o++us++cs.drop (o+us.length)).take m=(cs.take m).take o++us++(cs.take m).drop (o+us.length):=by
 rw [List.take_take,Nat.min_eq_left ae,List.append_assoc,List.append_assoc,List.take_append,List.take_append,List.length_take,Nat.min_eq_left ae,List.take_of_length_le (l:=cs.take o) az,List.take_of_length_le (l:=us) ae,List.drop_take]
 grind
theorem zm:∀ (l:List α) (j:Nat) (z:α),j<l.length->(l.set j z).flatMap Enc.cells=(l.flatMap Enc.cells).take (j*Enc.k α)++Enc.cells z++(l.flatMap Enc.cells).drop (j*Enc.k α+Enc.k α)
 | [],j,z,h=>by grind
 | y::l,0,z,h=>by
  have:=Enc.len y
  grind
 | y::l,j+1,z,h=>by
  have hy:=Enc.len y
  have ih:=zm l j z az
  simp only [List.set_cons_succ,List.flatMap_cons,ih]
  have e1:(j+1)*Enc.k α=Enc.k α+j*Enc.k α:=az
  rw [e1,<- hy,List.take_length_add_append]
  have e2:(Enc.cells y).length+j*(Enc.cells y).length+(Enc.cells y).length=(Enc.cells y).length+(j*(Enc.cells y).length+(Enc.cells y).length):=ae
  rw [e2,List.drop_length_add_append];grind
theorem s.UZ {j:Nat}{z z':α}{u:Value}{us:List Value}(i:Nat)(B':List ag)(hB:B[i]? = some (ag.row e v l))(hj:l[j]? = some z')(hx:ev L x=some (ep v j (Enc.k α) 0))(hy:ev L y=some u)(hu:u.cells=us.toArray)(huz:us=Enc.cells z)
 (ht:(jU P xT=some us.length∨fJ P xT=true/\us.length=1)) (hB':B.set i (ag.row e v (l.set j z))=B') :
 Stp P n we X L B F ⟨none,.store xT x y,ty,pos,dV,g⟩ (fun _:Unit=>L) (fun _=>B') (fun _=>F):=by
 intro K Q' a w ha hw hK
 have hjl:j<l.length:=(List.getElem?_eq_some_iff.1 hj).1
 have how:Own 0 e w v l:=hw.b i hB
 obtain ⟨hlen,hn|⟨gb,cap,cur,rfl,_,hgg,hnc,hcm,hcs,htk⟩⟩:=how
 .omega
 have hk:us.length=Enc.k α:=by rw [huz,Enc.len]
 have hjk:j*Enc.k α+us.length<=l.length*Enc.k α:=by
  rw [hk];have:(j+1)*Enc.k α<=l.length*Enc.k α:=Nat.mul_le_mul_right _ hjl
  grind
 have hlc:l.length*Enc.k α<=cap*Enc.k α:=Nat.mul_le_mul_right _ hnc
 have hsz:(sizeOf xT).run P w = .ok us.length w:=by
  rcases ht with h|⟨h,h'⟩
  .exact (yI (P:=P) w h).2
  rw [h'];exact (yJ (P:=P) w h).2
 have hst:=run_storeCells_at P gb (j*Enc.k α) e us 0 cur w hgg ae (fun v hv=>Enc.one z v (huz▸hv))
 have hrun:(execOp a.eval ⟨none,.store xT x y,ty,pos,dV,g⟩).run P w = .ok .skip (w.setRow gb (cur.toList.take (j*Enc.k α)++us++cur.toList.drop (j*Enc.k α+us.length)).toArray):=by
  simp only [execOp,ha.ev hx,ha.ev hy,ep,Instr.storeAt,Instr.sureAddr,storeVar,hu,Sem.run_bind,Sem.run_pure,Result.andThen_ok,hsz]
  simp_all
 unfold Oper.wp
 rw [hrun,Oper.upon_skip]
 subst hB'
 refine hK () _ _ af (hw.turn hB (qh w gb _) ?_ (by simp [ag.row,eB]) (fun k hk'=>?_))
 .
  have hfl:(l.set j z).flatMap Enc.cells=(l.flatMap Enc.cells).take (j*Enc.k α)++us++(l.flatMap Enc.cells).drop (j*Enc.k α+us.length):=by
   grind [Enc.len,zm]
  refine ⟨az,.inr ⟨gb,cap,_,bA,Nat.zero_le _,setRow_heap w gb _ _ e _ hgg,az,hcm,?_,?_⟩⟩
  .grind
  rw [hfl]
  have h1:(l.flatMap Enc.cells).length=l.length*Enc.k α:=eI l
  rw [<- htk]
  simp only [List.length_set]
  exact vv _ _ _ _ ae az
 grind [ag.row,eB,World.setRow,Array.getElem?_eq_some_iff]
theorem s.copy {u:Value}{l2:List α}{A:TypeId}(i:Nat)(B':List ag)(hB:B[i]? = some (ag.row e v l))(hs:∀w,Wd we X B F w->Sl w u l2)(hx:ev L x=some v)(hy:ev L y=some u)(hk:Enc.k α=1)(ht:nL P t=some (e,1))(hlen:l.length=l2.length)(hB':B.set i (ag.row e v l2)=B')(hd:Nat.blt d n=true) :
 Stp P n we X L B F ⟨some d,.call { callee:= .builtin .copy,args:= #[x,y],argTypes:= #[t,A]},ty,pos,dV,g⟩ (fun _:Unit=>(d,.int .i64 l2.length)::L) (fun _=>B') (fun _=>F):=by
 intro K Q' a w ha hw hK
 obtain ⟨hu,hsz⟩:=fk (P:=P) w ht
 have hsize:(P.info? e).map (·.size)=some 1:=by
  simp_all [nL]
 have how:Own 0 e w v l:=hw.b i hB
 obtain ⟨hl0,hn|⟨gb,cap,cur,rfl,_,hgg,hnc,hcm,hcs,htk⟩⟩:=how
 .
  obtain ⟨rfl,hl⟩:=hn
  have hl':l=[]:=List.eq_nil_of_length_eq_zero hl
  subst hl'
  have hl2:l2=[]:=List.eq_nil_of_length_eq_zero ae
  subst hl2
  obtain ⟨A2,c,rfl,h1,h2,h3⟩:=hs w hw
  have hcp:=run_copy_none (P:=P) w t A ty e none A2 0 0 0 c hu hsize bA
  have hrun:(execOp a.eval ⟨some d,.call { callee:= .builtin .copy,args:= #[x,y],argTypes:= #[t,A]},ty,pos,dV,g⟩).run P w = .ok (.value (.int .i64 0)) w:=by
   have hy':ev L y=some (.slice A2 0 c):=hy
   simp [execOp,resolve,invoke,builtin,ha.ev hx,ha.ev hy',hcp,goInt]
  unfold Oper.wp
  rw [hrun,Oper.upon_value]
  refine hK () _ _ (ha.put d _ hd) ?_
  have:B.set i (ag.row e (.slice none 0 0) ([]:List α))=B:=List.ext_getElem? fun j=>by
   grind
  grind
 have h2:=hs w hw
 obtain ⟨A2,c,rfl,h21,h22,h23⟩:=h2
 have hfl:(l2.flatMap Enc.cells).length=l2.length:=by rw [eI,hk,Nat.mul_one]
 by_cases he:l2=[]
 .
  subst he
  have hl':l=[]:=List.eq_nil_of_length_eq_zero ae
  subst hl'
  have hcp:=run_copy_none (P:=P) w t A ty e (some ⟨gb,0,none⟩) A2 0 cap 0 c hu hsize bA
  have hrun:(execOp a.eval ⟨some d,.call { callee:= .builtin .copy,args:= #[x,y],argTypes:= #[t,A]},ty,pos,dV,g⟩).run P w = .ok (.value (.int .i64 0)) w:=by
   have hy':ev L y=some (.slice A2 0 c):=hy
   have hx':ev L x=some (.slice (some ⟨gb,0,none⟩) 0 cap):=hx
   simp [execOp,resolve,invoke,builtin,ha.ev hx',ha.ev hy',hcp,goInt]
  unfold Oper.wp
  rw [hrun,Oper.upon_value]
  refine hK () _ _ (ha.put d _ hd) ?_
  have:B.set i (ag.row e (.slice (some ⟨gb,0,none⟩) ([]:List α).length cap) ([]:List α))=B:=List.ext_getElem? fun j=>by
   grind
  grind
 obtain ⟨y0,hy0⟩:∃y0,l2[0]? = some y0:=⟨_,List.getElem?_eq_getElem az⟩
 obtain ⟨b2,off,rfl,hb2,_⟩:=h23 0 y0 hy0
 have hsrc:∀j u,(l2.flatMap Enc.cells)[j]? = some u->w.cell? ((⟨b2,off,none⟩:Addr).add j)=some u:=fun j u hj=>by
  grind [nO,addr_add,Nat.add_assoc]
 have hcap:cur.size=cap:=az
 have hcp:=run_copy_row (P:=P) w t A ty e gb 0 l.length cap ⟨b2,off,none⟩ l2.length c cur e (l2.flatMap Enc.cells) hu hsize hgg az hsrc ae (ml l2)
 have hrun:(execOp a.eval ⟨some d,.call { callee:= .builtin .copy,args:= #[x,y],argTypes:= #[t,A]},ty,pos,dV,g⟩).run P w = .ok (.value (.int .i64 l2.length)) (w.setRow gb (cur.toList.take 0++l2.flatMap Enc.cells++cur.toList.drop (0+(l2.flatMap Enc.cells).length)).toArray):=by
  simp only [execOp,Sem.run_bind,resolve,invoke,builtin,ha.ev hx,ha.ev hy,Sem.run_pure,Result.andThen_ok,List.map_toArray,List.map_cons,List.map_nil]
  simp_all [goInt]
 unfold Oper.wp
 rw [hrun,Oper.upon_value]
 subst hB'
 refine hK () _ _ (ha.put d _ hd) (hw.turn hB (qh w gb _) ?_ (by simp [ag.row,eB]) (fun k hk'=>?_))
 .
  refine ⟨az,.inr ⟨gb,cap,_,az,Nat.zero_le _,setRow_heap w gb _ _ e _ hgg,ae,hcm,?_,?_⟩⟩
  .grind
  simp_all
 grind [ag.row,eB,World.setRow,Array.getElem?_eq_some_iff]
end
end
section
open Go Go.RowKit
def lH (v:Value):Nat:=match v with | .slice _ _ c=>c|_=>0
def sl2 (v:Value)(lo hi k:Nat):Value:=match v with | .slice A _ c => .slice (if c=lo then A else A.map (·.add (lo*k))) (hi-lo) (c-lo)|_=>undef
def Iu (v:Value)(lo hi m k:Nat):Value:=match v with | .slice A _ c => .slice (if m=lo then A else A.map (·.add (lo*k))) (hi-lo) (m-lo)|_=>undef
section
variable {P:Program} {n:Nat} {we:World} {X:List Nat} {Q:Exit->Act->World->Prop} {k k':List It} {L:Fm} {B F:List ag} {ops rest:List Oper}
variable {dst:Option Nat} {d:Nat} {op:Op} {ty:TypeId} {pos:String} {dV:Array Edge} {g:Option (Nat×Bool)} {g':Nat×Bool} {v:Value}
variable {x y z:Operand} {xT yT t e:TypeId} {kd Yd kd3:IntKind} {α:Type} [Enc α] {l:List α}
theorem q.cz {m:Int}{i kk:Nat}(hs:∀w,Wd we X B F w->Sl w v l)(hx:ev L x=some v)(hy:ev L y=some (.int kd m))(ht:nL P xT=some (e,kk))(hm:m=(i:Int))(hi:i<=l.length) :
 Qt P n we X L B F (.slice xT x (some y) none none) ty (YtnmpibjlnninjaaGreatDoor.cz v i kk):=fun _ _ _ _ a w ha hw=>by
 obtain ⟨A,c,rfl,h1,h2,h3⟩:=hs w hw
 obtain ⟨hu,hz⟩:=fk (P:=P) w ht
 subst hm
 simp only [execOp,ha.ev hx,Option.map_some,Option.map_none,ha.ev hy,Instr.sliceAt,Sem.run_bind,run_underlying hu,Result.andThen_ok,Instr.slice,Instr.sliceBounds,Instr.sliceBound,asIntOf,Sem.run_pure]
 rw [if_pos ⟨ae,ae⟩]
 simp [hz,YtnmpibjlnninjaaGreatDoor.cz]
theorem q.Ye {m:Int}{i kk:Nat}(hs:∀w,Wd we X B F w->Sl w v l)(hx:ev L x=some v)(hy:ev L y=some (.int kd m))(ht:nL P xT=some (e,kk))(hm:m=(i:Int))(hi:i<=lH v) :
 Qt P n we X L B F (.slice xT x none (some y) none) ty (YtnmpibjlnninjaaGreatDoor.jT v i):=fun _ _ _ _ a w ha hw=>by
 obtain ⟨A,c,rfl,h1,h2,h3⟩:=hs w hw
 obtain ⟨hu,hz⟩:=fk (P:=P) w ht
 subst hm
 simp only [lH] at hi
 simp only [execOp,ha.ev hx,Option.map_some,Option.map_none,ha.ev hy,Instr.sliceAt,Sem.run_bind,run_underlying hu,Result.andThen_ok,Instr.slice,Instr.sliceBounds,Instr.sliceBound,asIntOf,Sem.run_pure]
 rw [if_pos ⟨ae,ae⟩]
 simp [hz,YtnmpibjlnninjaaGreatDoor.jT]
 cases A <;> simp [Addr.add_zero']
theorem q.sl2 {m r:Int}{i j kk:Nat}(hs:∀w,Wd we X B F w->Sl w v l)(hx:ev L x=some v)(hy:ev L y=some (.int kd m))(hz':ev L z=some (.int Yd r))(ht:nL P xT=some (e,kk))(hm:m=(i:Int))(hr:r=(j:Int))(hij:i<=j)(hj:j<=lH v) :
 Qt P n we X L B F (.slice xT x (some y) (some z) none) ty (YtnmpibjlnninjaaGreatDoor.sl2 v i j kk):=fun _ _ _ _ a w ha hw=>by
 obtain ⟨A,c,rfl,h1,h2,h3⟩:=hs w hw
 obtain ⟨hu,hz⟩:=fk (P:=P) w ht
 subst hm;subst hr
 simp only [lH] at hj
 simp only [execOp,ha.ev hx,Option.map_some,Option.map_none,ha.ev hy,ha.ev hz',Instr.sliceAt,Sem.run_bind,run_underlying hu,Result.andThen_ok,Instr.slice,Instr.sliceBounds,Instr.sliceBound,asIntOf,Sem.run_pure]
 rw [if_pos ⟨ae,ae⟩]
 simp only [Sem.run_bind,Sem.run_pure,Result.andThen_ok]
 rw [if_pos ⟨ae,ae⟩]
 simp [hz,YtnmpibjlnninjaaGreatDoor.sl2]
theorem q.Iu {m r s:Int}{i j q' kk:Nat}{zz:Operand}(hs:∀w,Wd we X B F w->Sl w v l)(hx:ev L x=some v)(hy:ev L y=some (.int kd m))(hz':ev L z=some (.int Yd r))(hzz:ev L zz=some (.int kd3 s))(ht:nL P xT=some (e,kk))(hm:m=(i:Int))(hr:r=(j:Int))(hsq:s=(q':Int))(hij:i<=j)(hj:j<=q')(hq:q'<=l.length) :
 Qt P n we X L B F (.slice xT x (some y) (some z) (some zz)) ty (YtnmpibjlnninjaaGreatDoor.Iu v i j q' kk):=fun _ _ _ _ a w ha hw=>by
 obtain ⟨A,c,rfl,h1,h2,h3⟩:=hs w hw
 obtain ⟨hu,hz⟩:=fk (P:=P) w ht
 subst hm;subst hr;subst hsq
 simp only [execOp,ha.ev hx,Option.map_some,Option.map_none,ha.ev hy,ha.ev hz',ha.ev hzz,Instr.sliceAt,Sem.run_bind,run_underlying hu,Result.andThen_ok,Instr.slice,Instr.sliceBounds,Instr.sliceBound,asIntOf,Sem.run_pure]
 rw [if_pos ⟨ae,ae⟩]
 simp only [Sem.run_bind,Sem.run_pure,Result.andThen_ok]
 rw [if_pos ⟨ae,ae⟩]
 simp only [Sem.run_bind,Sem.run_pure,Result.andThen_ok]
 rw [if_pos ⟨ae,ae⟩]
 simp [hz,YtnmpibjlnninjaaGreatDoor.Iu]
theorem q.cap (hs:∀w,Wd we X B F w->Sl w v l)(hx:ev L x=some v)(ht:P.underlying xT=some (.slice e)):Qt P n we X L B F (.call { callee:= .builtin .cap,args:= #[x],argTypes:= #[xT]}) ty (.int .i64 (lH v)):=fun _ _ _ _ a w ha hw=>by
 obtain ⟨A,c,rfl,_⟩:=hs w hw
 simp [execOp,resolve,invoke,builtin,ha.ev hx,Builtin.cap_,run_underlying ht,goInt,lH]
theorem Own.parts {base:Nat}{w:World}(h:Own base e w v l)(h0:0<l.length):∃gb cap cur,v = .slice (some ⟨gb,0,none⟩) l.length cap/\base<=gb/\w.heap[gb]? = some (.cells cur e (0,0))/\l.length<=cap/\cap<=maxLen/\cur.size=cap*Enc.k α/\cur.toList.take (l.length*Enc.k α)=l.flatMap Enc.cells:=by
 rcases h.2 with ⟨_,h1⟩ | h1
 .omega
 omega
theorem Wd.uy {w:World}{gb cap:Nat}{cur:Array Value}{i:Nat}{l':List α}{cs':List Value}(hw:Wd we X B F w)(hB:B[i]? = some (ag.row e (.slice (some ⟨gb,0,none⟩) l.length cap) l))
 (hgg:w.heap[gb]? = some (.cells cur e (0,0))) (hcap:cap<=maxLen) (hcs:cur.size=cap*Enc.k α) (hsz:cs'.length=cur.size) (htk:cs'.take (l'.length*Enc.k α)=l'.flatMap Enc.cells) (hl':l'.length<=cap) :
 Wd we X (B.set i (ag.row e (.slice (some ⟨gb,0,none⟩) l'.length cap) l')) F (w.setRow gb cs'.toArray):=by
 refine hw.turn hB (qh w gb _) ?_ (by simp [ag.row,eB]) (fun k hk'=>?_)
 .exact ⟨by rw [eI],.inr ⟨gb,cap,_,rfl,Nat.zero_le _,setRow_heap w gb _ _ e _ hgg,hl',hcap,az,ae⟩⟩
 grind [ag.row,eB,World.setRow,Array.getElem?_eq_some_iff]
theorem lO:∀ (l:List α) (a:Nat),(l.take a).flatMap Enc.cells=(l.flatMap Enc.cells).take (a*Enc.k α)
 | [],a=>by simp
 | x::l,0=>by simp
 | x::l,a+1=>by
  have hx:=Enc.len x
  have:(a+1)*Enc.k α=(Enc.cells x).length+a*Enc.k α:=by rw [hx,Nat.add_mul];omega
  simp only [List.take_succ_cons,List.flatMap_cons,lO l a,this]
  rw [List.take_length_add_append]
theorem nz:∀ (l:List α) (a:Nat),(l.drop a).flatMap Enc.cells=(l.flatMap Enc.cells).drop (a*Enc.k α)
 | [],a=>by simp
 | x::l,0=>by simp
 | x::l,a+1=>by
  have hx:=Enc.len x
  have:(a+1)*Enc.k α=(Enc.cells x).length+a*Enc.k α:=by rw [hx,Nat.add_mul];omega
  simp only [List.drop_succ_cons,List.flatMap_cons,nz l a,this]
  rw [List.drop_length_add_append]
theorem Own.to {base:Nat}{w:World}(h:Own base e w v l){a:Nat}(ha:a<=l.length):Own base e w (jT v a) (l.take a):=by
 have hl:(l.take a).length=a:=az
 rcases h.2 with ⟨rfl,h1⟩ | ⟨gb,cap,cur,rfl,h3,h4,h5,h6,h7,h8⟩
 .
  have:l=[]:=List.eq_nil_of_length_eq_zero h1
  subst this
  have:a=0:=ae
  subst this
  assumption
 refine ⟨by rw [eI],.inr ⟨gb,cap,cur,by rw [hl];rfl,h3,h4,ae,h6,h7,?_⟩⟩
 grind [lO,Nat.min_eq_left,Nat.mul_le_mul_right]
theorem R.Nu (i a:Nat)(B':List ag)(hB:B[i]? = some (ag.row e v l))(ha:a<=l.length)(hB':B.set i (ag.row e (jT v a) (l.take a))=B')(h:Run P n we X Q k L B' F):Run P n we X Q k L B F:=fun ac w hac hw=>h ac w hac (by
 subst hB'
 have how:Own 0 e w v l:=hw.b i hB
 have hb2:eB (jT v a)=eB v:=by
  rcases how.2 with ⟨rfl,_⟩ | ⟨gb,cap,cur,rfl,_⟩ <;> rfl
 refine hw.turn hB (np.refl _ _) (how.to ha) (by show (eB _).Nodup;grind [qi]) (fun k hk=>?_)
 have hk':k∈eB v:=by rw [<- hb2];exact hk
 exact ⟨((qi how).2 k hk').2,.inl hk'⟩)
theorem s.wK {bytes a:Nat}{u:Value}{l2:List α}(i:Nat)(B':List ag)(hB:B[i]? = some (ag.row e v l))(hx:ev L x=some (jT v a))(hy:ev L y=some u)(hs:∀w,Wd we X B F w->Sl w u l2)
 (ht:nP P t (Enc.k α)=some (e,bytes)) (h0:0<l.length) (ha2:a+l2.length<=l.length) (hB':B.set i (ag.row e (jT v (a+l2.length)) (l.take a++l2))=B') (hd:Nat.blt d n=true) :
 Stp P n we X L B F ⟨some d,.call { callee:= .builtin .append,args:= #[x,y],argTypes:= #[t,t]},ty,pos,dV,g⟩ (fun _:Unit=>(d,jT v (a+l2.length))::L) (fun _=>B') (fun _=>F):=by
 intro K Q' ac w hac hw hK
 obtain ⟨ti,z,g1,g2,g3,g4,g5,g6⟩:=wI ht
 have how:Own 0 e w v l:=hw.b i hB
 obtain ⟨gb,cap,cur,rfl,_,hgg,hnc,hcm,hcs,htk⟩:=how.parts h0
 obtain ⟨A2,c2,rfl,h21,h22,h23⟩:=hs w hw
 have hfl:(l2.flatMap Enc.cells).length=l2.length*ti.size:=by rw [eI,g4]
 have hk:=Enc.pos (α:=α)
 have hle:a*Enc.k α+l2.length*Enc.k α<=cap*Enc.k α:=by rw [<- Nat.add_mul];exact Nat.mul_le_mul_right _ ae
 have hla:(l.take a).length=a:=az
 have hl':(l.take a++l2).length=a+l2.length:=az
 have hnew:∀cs':List Value,cs'=cur.toList.take (a*ti.size)++l2.flatMap Enc.cells++cur.toList.drop (a*ti.size+(l2.flatMap Enc.cells).length)->cs'.length=cur.size/\cs'.take ((l.take a++l2).length*Enc.k α)=(l.take a++l2).flatMap Enc.cells:=fun cs' hcs'=>by
  have hta:(cur.toList.take (a*Enc.k α)).length=a*Enc.k α:=az
  have e1:cur.toList.take (a*Enc.k α)=(l.take a).flatMap Enc.cells:=by
   grind [lO,Nat.min_eq_left,Nat.mul_le_mul_right]
  subst hcs'
  rw [g4] at hfl ⊢
  refine ⟨az,?_⟩
  rw [hl',List.flatMap_append,<- e1,List.take_append,List.length_append,hta,hfl,Nat.add_mul,Nat.sub_self,List.take_zero,List.append_nil,List.take_of_length_le az]
 have hfin:∀cs',(cs'=cur.toList.take (a*ti.size)++l2.flatMap Enc.cells++cur.toList.drop (a*ti.size+(l2.flatMap Enc.cells).length))->Wd we X B' F (w.setRow gb cs'.toArray):=fun cs' hcs'=>by
  have:=hw.uy (l':=l.take a++l2) hB hgg hcm hcs (hnew cs' hcs').1 (hnew cs' hcs').2 ae
  grind [jT]
 unfold Oper.wp
 cases A2 with
 | none =>
  have hl2:l2=[]:=by
   cases l2 with
   | nil=>rfl
   | cons x l2=>obtain ⟨b,off,h,_⟩:=h23 0 x rfl;cases h
  subst hl2
  have hself:w.setRow gb (cur.toList.take (a*ti.size)++(([]:List α).flatMap Enc.cells)++cur.toList.drop (a*ti.size+(([]:List α).flatMap Enc.cells).length)).toArray=w:=by
   simp only [List.flatMap_nil,List.append_nil,List.length_nil,Nat.add_zero,List.take_append_drop,Array.toArray_toList]
   grind [setRow_self]
  have hrun:(execOp ac.eval ⟨some d,.call { callee:= .builtin .append,args:= #[x,y],argTypes:= #[t,t]},ty,pos,dV,g⟩).run P w = .ok (.value (.slice (some ⟨gb,0,none⟩) a cap)) w:=by
   have hx':ev L x=some (.slice (some ⟨gb,0,none⟩) a cap):=hx
   have aaA:a<=cap:=ae
   simp [execOp,resolve,invoke,builtin,hac.ev hx',hac.ev hy,Builtin.append_,run_underlying g1,sizeOf,typeInfo,g2,Builtin.lenOf,Builtin.firstCells,aaA,storeCells]
  rw [hrun,Oper.upon_value]
  have:=hfin _ rfl
  rw [hself] at this
  exact hK () _ _ (hac.put d _ hd) this
 | some ad =>
  have hn:∀j u,(l2.flatMap Enc.cells)[j]? = some u->w.cell? (ad.add j)=some u:=fun j u hu=>by
   obtain ⟨i,x,q,q1,q2,q3⟩:=nO l2 j u hu
   obtain ⟨b,off,q4,q5,q6⟩:=h23 i x q1
   injection q4 with q4;subst q4
   rw [addr_add,q3,<- Nat.add_assoc];grind
  have hr:=run_append_room (P:=P) w t ty e ti g1 g2 gb a cap cur hgg ad l2.length c2 (l2.flatMap Enc.cells) hfl hn (ml l2) ae az
  have hrun:(execOp ac.eval ⟨some d,.call { callee:= .builtin .append,args:= #[x,y],argTypes:= #[t,t]},ty,pos,dV,g⟩).run P w = .ok (.value (.slice (some ⟨gb,0,none⟩) (a+l2.length) cap)) (w.setRow gb (cur.toList.take (a*ti.size)++l2.flatMap Enc.cells++cur.toList.drop (a*ti.size+(l2.flatMap Enc.cells).length)).toArray):=by
   have hx':ev L x=some (.slice (some ⟨gb,0,none⟩) a cap):=hx
   simp [execOp,resolve,invoke,builtin,hac.ev hx',hac.ev hy,hr]
  rw [hrun,Oper.upon_value]
  exact hK () _ _ (hac.put d _ hd) (hfin _ rfl)
theorem px {z0:α}{z:Value}(hz:z.cells=(Enc.cells z0).toArray)(m:Nat):(Builtin.zeroCells z.cells m).toList=(List.replicate m z0).flatMap Enc.cells:=by
 have hk:=Enc.len z0
 have hp:=Enc.pos (α:=α)
 have hsz:z.cells.size=Enc.k α:=az
 refine List.ext_getElem? fun j=>?_
 have hfl:=eI (List.replicate m z0)
 rw [List.length_replicate] at hfl
 simp only [Builtin.zeroCells,hsz,Array.toList_map,Array.toList_range,List.getElem?_map]
 by_cases hj:j<m*Enc.k α
 .
  rw [List.getElem?_range hj]
  have hq:j / Enc.k α<m:=(Nat.div_lt_iff_lt_mul hp).2 hj
  have hr:j % Enc.k α<(Enc.cells z0).length:=by rw [hk];exact Nat.mod_lt _ hp
  have:=flat_get (List.replicate m z0) (j / Enc.k α) z0 (j % Enc.k α) (Enc.cells z0)[j % Enc.k α] az (List.getElem?_eq_getElem hr)
  grind [Nat.div_add_mod']
 grind
theorem s.aaB {lo hi kk:Nat}(i:Nat)(hB:B[i]? = some (ag.row e v l))(hx:ev L x=some (sl2 v lo hi (Enc.k α)))(ht:nL P t=some (e,Enc.k α))(hz:(eJ P e).isSome=true)(hzs:∀z,eJ P e=some z->z.cells.size=Enc.k α /\ ∀u∈z.cells.toList,u.oneCell'=true)(hlo:l.length<=lo)(hh:lo<=hi)(hhi:hi<=lH v) :
 Stp P n we X L B F ⟨none,.call { callee:= .builtin .clear,args:= #[x],argTypes:= #[t]},ty,pos,dV,g⟩ (fun _:Unit=>L) (fun _=>B) (fun _=>F):=by
 intro K Q' ac w hac hw hK
 obtain ⟨hu,hsz⟩:=fk (P:=P) w ht
 have how:Own 0 e w v l:=hw.b i hB
 have hput:Fr n L (ac.put none (.tuple #[])):=af
 have hset:B.set i (ag.row e v l)=B:=List.ext_getElem? fun j=>by
  grind
 unfold Oper.wp
 rcases how.2 with ⟨rfl,h1⟩ | ⟨gb,cap,cur,rfl,_,hgg,hnc,hcm,hcs,htk⟩
 .
  simp only [lH] at hhi
  have:lo=0:=ae
  have:hi=0:=ae
  subst lo;subst hi
  have hx':ev L x=some (.slice none 0 0):=af
  have hrun:(execOp ac.eval ⟨none,.call { callee:= .builtin .clear,args:= #[x],argTypes:= #[t]},ty,pos,dV,g⟩).run P w = .ok (.value (.tuple #[])) w:=by
   simp [execOp,resolve,invoke,builtin,hac.ev hx',Builtin.clear_,run_underlying hu]
  rw [hrun,Oper.upon_value];exact hK () _ _ hput hw
 simp only [lH] at hhi
 by_cases h0:hi-lo=0
 .
  have hx':ev L x=some (.slice (if cap=lo then some ⟨gb,0,none⟩ else some ((⟨gb,0,none⟩:Addr).add (lo*Enc.k α))) 0 (cap-lo)):=by
   grind [sl2]
  have hrun:(execOp ac.eval ⟨none,.call { callee:= .builtin .clear,args:= #[x],argTypes:= #[t]},ty,pos,dV,g⟩).run P w = .ok (.value (.tuple #[])) w:=by
   have hx2:=hac.ev hx'
   split at hx2 <;> simp [execOp,resolve,invoke,builtin,hx2,Builtin.clear_,run_underlying hu]
  rw [hrun,Oper.upon_value];simp_all
 obtain ⟨z,hz1⟩:=Option.isSome_iff_exists.1 hz
 obtain ⟨hz2,hz3⟩:=hzs z hz1
 have hne:cap≠lo:=ae
 have hx':ev L x=some (.slice (some ⟨gb,lo*Enc.k α,none⟩) (hi-lo) (cap-lo)):=by
  simp_all [sl2,if_neg,addr_add]
 have hzl:(Builtin.zeroCells z.cells (hi-lo)).toList.length=(hi-lo)*Enc.k α:=by grind [Builtin.zeroCells]
 have hone:∀u∈(Builtin.zeroCells z.cells (hi-lo)).toList,u.oneCell'=true:=fun u hu=>by
  simp only [Builtin.zeroCells,Array.toList_map,List.mem_map] at hu
  grind [Enc.pos,Nat.mod_lt]
 have hle:lo*Enc.k α+(hi-lo)*Enc.k α<=cap*Enc.k α:=by rw [<- Nat.add_mul];exact Nat.mul_le_mul_right _ ae
 have hst:=run_storeCells_at P gb (lo*Enc.k α) e (Builtin.zeroCells z.cells (hi-lo)).toList 0 cur w hgg ae hone
 have hrun:(execOp ac.eval ⟨none,.call { callee:= .builtin .clear,args:= #[x],argTypes:= #[t]},ty,pos,dV,g⟩).run P w = .ok (.value (.tuple #[])) (w.setRow gb (cur.toList.take (lo*Enc.k α)++(Builtin.zeroCells z.cells (hi-lo)).toList++cur.toList.drop (lo*Enc.k α+(Builtin.zeroCells z.cells (hi-lo)).toList.length)).toArray):=by
  obtain ⟨mm,hmm⟩:∃mm,hi-lo=mm+1:=⟨hi-lo-1,ae⟩
  rw [hmm] at hx' hst ⊢
  simp only [Nat.add_zero] at hst
  simp only [execOp,resolve,invoke,builtin,hac.ev hx',Builtin.clear_,run_underlying hu,Sem.run_bind,Sem.run_pure,Result.andThen_ok,List.map_toArray,List.map_cons,List.map_nil,List.getElem?_toArray,List.getElem?_cons_zero,pF (P:=P) w hz1,hst]
 rw [hrun,Oper.upon_value]
 have hll:l.length*Enc.k α<=lo*Enc.k α:=Nat.mul_le_mul_right _ hlo
 have:=hw.uy (l':=l) (cs':=cur.toList.take (lo*Enc.k α)++(Builtin.zeroCells z.cells (hi-lo)).toList++cur.toList.drop (lo*Enc.k α+(Builtin.zeroCells z.cells (hi-lo)).toList.length)) hB hgg hcm hcs az (by
  grind) hnc
 simp_all
theorem s.U0 {lo:Nat}{z0:α}{z:Value}(i:Nat)(B':List ag)(hB:B[i]? = some (ag.row e v l))(hx:ev L x=some (cz v lo (Enc.k α)))(ht:nL P t=some (e,Enc.k α))(hz:eJ P e=some z)(hzs:z.cells=(Enc.cells z0).toArray)(hlo:lo<=l.length)(hB':B.set i (ag.row e v (l.take lo++List.replicate (l.length-lo) z0))=B') :
 Stp P n we X L B F ⟨none,.call { callee:= .builtin .clear,args:= #[x],argTypes:= #[t]},ty,pos,dV,g⟩ (fun _:Unit=>L) (fun _=>B') (fun _=>F):=by
 intro K Q' ac w hac hw hK
 obtain ⟨hu,hsz⟩:=fk (P:=P) w ht
 have how:Own 0 e w v l:=hw.b i hB
 have hput:Fr n L (ac.put none (.tuple #[])):=af
 unfold Oper.wp
 by_cases h0:l.length-lo=0
 .
  have hl:l.take lo++List.replicate (l.length-lo) z0=l:=by grind [List.take_of_length_le]
  have hBB:B'=B:=by
   rw [<- hB',hl]
   refine List.ext_getElem? fun j=>?_
   grind
  have hrun:(execOp ac.eval ⟨none,.call { callee:= .builtin .clear,args:= #[x],argTypes:= #[t]},ty,pos,dV,g⟩).run P w = .ok (.value (.tuple #[])) w:=by
   rcases how.2 with ⟨rfl,h1⟩ | ⟨gb,cap,cur,rfl,_,hgg,hnc,hcm,hcs,htk⟩
   .
    have hx':ev L x=some (.slice none 0 (0-lo)):=by
     grind [cz]
    simp [execOp,resolve,invoke,builtin,hac.ev hx',Builtin.clear_,run_underlying hu]
   have hx':ev L x=some (.slice (if cap=lo then some ⟨gb,0,none⟩ else some ((⟨gb,0,none⟩:Addr).add (lo*Enc.k α))) 0 (cap-lo)):=by
    grind [cz]
   have hx2:=hac.ev hx'
   split at hx2 <;> simp [execOp,resolve,invoke,builtin,hx2,Builtin.clear_,run_underlying hu]
  rw [hrun,Oper.upon_value]
  simp_all
 obtain ⟨gb,cap,cur,rfl,_,hgg,hnc,hcm,hcs,htk⟩:=how.parts ae
 have hne:cap≠lo:=ae
 have hx':ev L x=some (.slice (some ⟨gb,lo*Enc.k α,none⟩) (l.length-lo) (cap-lo)):=by
  simp_all [cz,if_neg,addr_add]
 have hzc:=px hzs (l.length-lo)
 have hzl:(Builtin.zeroCells z.cells (l.length-lo)).toList.length=(l.length-lo)*Enc.k α:=by grind [eI,List.length_replicate]
 have hsum:lo*Enc.k α+(l.length-lo)*Enc.k α=l.length*Enc.k α:=by rw [<- Nat.add_mul];grind
 have hle:l.length*Enc.k α<=cap*Enc.k α:=Nat.mul_le_mul_right _ hnc
 have hst:=run_storeCells_at P gb (lo*Enc.k α) e (Builtin.zeroCells z.cells (l.length-lo)).toList 0 cur w hgg ae (by grind [ml])
 have hrun:(execOp ac.eval ⟨none,.call { callee:= .builtin .clear,args:= #[x],argTypes:= #[t]},ty,pos,dV,g⟩).run P w = .ok (.value (.tuple #[])) (w.setRow gb (cur.toList.take (lo*Enc.k α)++(Builtin.zeroCells z.cells (l.length-lo)).toList++cur.toList.drop (lo*Enc.k α+(Builtin.zeroCells z.cells (l.length-lo)).toList.length)).toArray):=by
  obtain ⟨mm,hmm⟩:∃mm,l.length-lo=mm+1:=⟨l.length-lo-1,ae⟩
  rw [hmm] at hx' hst ⊢
  simp only [Nat.add_zero] at hst
  simp only [execOp,resolve,invoke,builtin,hac.ev hx',Builtin.clear_,run_underlying hu,Sem.run_bind,Sem.run_pure,Result.andThen_ok,List.map_toArray,List.map_cons,List.map_nil,List.getElem?_toArray,List.getElem?_cons_zero,pF (P:=P) w hz,hst]
 rw [hrun,Oper.upon_value]
 have hll:(l.take lo++List.replicate (l.length-lo) z0).length=l.length:=az
 have h3:(cur.toList.take (lo*Enc.k α)).length=lo*Enc.k α:=az
 have:=hw.uy (l':=l.take lo++List.replicate (l.length-lo) z0) (cs':=cur.toList.take (lo*Enc.k α)++(Builtin.zeroCells z.cells (l.length-lo)).toList++cur.toList.drop (lo*Enc.k α+(Builtin.zeroCells z.cells (l.length-lo)).toList.length)) hB hgg hcm hcs az (by
  have e1:cur.toList.take (lo*Enc.k α)=(l.take lo).flatMap Enc.cells:=by
   grind [lO,Nat.min_eq_left]
  grind) ae
 simp_all
theorem s.xJ {o:Nat}{u:Value}{l2:List α}{A:TypeId}(i:Nat)(B':List ag)(hB:B[i]? = some (ag.row e v l))(hs:∀w,Wd we X B F w->Sl w u l2)(hx:ev L x=some (cz v o (Enc.k α)))(hy:ev L y=some u)(ht:nL P t=some (e,Enc.k α))(hlen:o+l2.length<=l.length)(hB':B.set i (ag.row e v (l.take o++l2++l.drop (o+l2.length)))=B')(hd:Nat.blt d n=true) :
 Stp P n we X L B F ⟨some d,.call { callee:= .builtin .copy,args:= #[x,y],argTypes:= #[t,A]},ty,pos,dV,g⟩ (fun _:Unit=>(d,.int .i64 l2.length)::L) (fun _=>B') (fun _=>F):=by
 intro K Q' ac w hac hw hK
 obtain ⟨hu,hsz⟩:=fk (P:=P) w ht
 have how:Own 0 e w v l:=hw.b i hB
 obtain ⟨A2,c2,rfl,h21,h22,h23⟩:=hs w hw
 have hset:B.set i (ag.row e v l)=B:=List.ext_getElem? fun j=>by
  grind
 have hk:=Enc.pos (α:=α)
 unfold Oper.wp
 by_cases hl2:l2=[]
 .
  subst hl2
  have hl:l.take o++[]++l.drop (o+0)=l:=bA
  have hrun:(execOp ac.eval ⟨some d,.call { callee:= .builtin .copy,args:= #[x,y],argTypes:= #[t,A]},ty,pos,dV,g⟩).run P w = .ok (.value (.int .i64 0)) w:=by
   have hy':ev L y=some (.slice A2 0 c2):=hy
   have hmin:∀q,Nat.min 0 q=0:=fun q=>Nat.zero_min q
   have hld:∀ (a:Addr),(loadCells a 0).run P w = .ok #[] w:=fun a=>by rfl
   rcases how.2 with ⟨rfl,h1⟩ | ⟨gb,cap,cur,rfl,_,hgg,hnc,hcm,hcs,htk⟩
   .
    have hx':ev L x=some (.slice none (0-o) (0-o)):=by grind [cz]
    cases A2 <;> simp [execOp,resolve,invoke,builtin,hac.ev hx',hac.ev hy',Builtin.copy_,run_underlying hu,Builtin.lenOf,Builtin.firstCells,hsz,hmin,goInt,hld]
   have hx':ev L x=some (.slice (some (if cap=o then ⟨gb,0,none⟩ else ((⟨gb,0,none⟩:Addr).add (o*Enc.k α)))) (l.length-o) (cap-o)):=by
    grind [cz]
   cases A2 <;> simp [execOp,resolve,invoke,builtin,hac.ev hx',hac.ev hy',Builtin.copy_,run_underlying hu,Builtin.lenOf,Builtin.firstCells,hsz,hmin,goInt,hld,storeCells]
  rw [hrun,Oper.upon_value]
  rw [List.length_nil,hl,hset] at hB'
  exact hK () _ _ (hac.put d _ hd) (hB'▸hw)
 have h2p:0<l2.length:=List.length_pos_iff.2 hl2
 obtain ⟨gb,cap,cur,rfl,_,hgg,hnc,hcm,hcs,htk⟩:=how.parts ae
 obtain ⟨x0,hx0⟩:∃y0,l2[0]? = some y0:=⟨_,List.getElem?_eq_getElem h2p⟩
 obtain ⟨b2,off,rfl,hb2,_⟩:=h23 0 x0 hx0
 have hsrc:∀j u,(l2.flatMap Enc.cells)[j]? = some u->w.cell? ((⟨b2,off,none⟩:Addr).add j)=some u:=fun j u hj=>by
  grind [nO,addr_add,Nat.add_assoc]
 have hfl:(l2.flatMap Enc.cells).length=l2.length*Enc.k α:=eI l2
 have hld:=run_loadCells_list (P:=P) w ⟨b2,off,none⟩ (l2.flatMap Enc.cells) hsrc
 rw [hfl] at hld
 have hne:cap≠o:=ae
 have hx':ev L x=some (.slice (some ⟨gb,o*Enc.k α,none⟩) (l.length-o) (cap-o)):=by
  simp_all [cz,if_neg,addr_add]
 have hle:l.length*Enc.k α<=cap*Enc.k α:=Nat.mul_le_mul_right _ hnc
 have hol:o*Enc.k α+l2.length*Enc.k α<=l.length*Enc.k α:=by rw [<- Nat.add_mul];exact Nat.mul_le_mul_right _ hlen
 have hst:=run_storeCells_at P gb (o*Enc.k α) e (l2.flatMap Enc.cells) 0 cur w hgg ae (ml l2)
 have hrun:(execOp ac.eval ⟨some d,.call { callee:= .builtin .copy,args:= #[x,y],argTypes:= #[t,A]},ty,pos,dV,g⟩).run P w = .ok (.value (.int .i64 l2.length)) (w.setRow gb (cur.toList.take (o*Enc.k α)++l2.flatMap Enc.cells++cur.toList.drop (o*Enc.k α+(l2.flatMap Enc.cells).length)).toArray):=by
  have hmin:Nat.min l2.length (l.length-o)=l2.length:=Nat.min_eq_left ae
  simp only [Nat.add_zero] at hst
  simp [execOp,resolve,invoke,builtin,hac.ev hx',hac.ev hy,Builtin.copy_,run_underlying hu,Builtin.lenOf,Builtin.firstCells,hsz,hmin,goInt,hld,hst]
 rw [hrun,Oper.upon_value]
 have hll:(l.take o++l2++l.drop (o+l2.length)).length=l.length:=az
 have h3:(cur.toList.take (o*Enc.k α)).length=o*Enc.k α:=az
 have:=hw.uy (l':=l.take o++l2++l.drop (o+l2.length)) (cs':=cur.toList.take (o*Enc.k α)++l2.flatMap Enc.cells++cur.toList.drop (o*Enc.k α+(l2.flatMap Enc.cells).length)) hB hgg hcm hcs az (by
  grind [Nat.add_mul,lO,nz,vv]) ae
 rw [hll] at this
 exact hK () _ _ (hac.put d _ hd) (hB'▸this)
theorem s.Yf {o:Nat}{A:TypeId}(i:Nat)(B':List ag)(hB:B[i]? = some (ag.row e v l))(ho:o<l.length)(hroom:l.length+1<=lH v)(hx:ev L x=some (cz (jT v (l.length+1)) (o+1) (Enc.k α)))(hy:ev L y=some (cz (jT v (l.length+1)) o (Enc.k α)))(ht:nL P t=some (e,Enc.k α))(hB':B.set i (ag.row e (jT v (l.length+1)) (l.take (o+1)++l.drop o))=B')(hd:Nat.blt d n=true) :
 Stp P n we X L B F ⟨some d,.call { callee:= .builtin .copy,args:= #[x,y],argTypes:= #[t,A]},ty,pos,dV,g⟩ (fun _:Unit=>(d,.int .i64 ((l.length-o:Nat):Int))::L) (fun _=>B') (fun _=>F):=by
 intro K Q' ac w hac hw hK
 obtain ⟨hu,hsz⟩:=fk (P:=P) w ht
 have how:Own 0 e w v l:=hw.b i hB
 obtain ⟨gb,cap,cur,rfl,_,hgg,hnc,hcm,hcs,htk⟩:=how.parts ae
 simp only [lH] at hroom
 have hk:=Enc.pos (α:=α)
 have hx':ev L x=some (.slice (if cap=o+1 then some ⟨gb,0,none⟩ else some ⟨gb,(o+1)*Enc.k α,none⟩) (l.length-o) (cap-(o+1))):=by
  simp_all [jT,cz,Option.map_some,addr_add,Nat.zero_add]
 rw [if_neg ae] at hx'
 have hy':ev L y=some (.slice (some ⟨gb,o*Enc.k α,none⟩) (l.length+1-o) (cap-o)):=by
  rw [hy];simp only [jT,cz,Option.map_some,addr_add,Nat.zero_add];grind
 have hfl:((l.drop o).flatMap Enc.cells).length=(l.length-o)*Enc.k α:=by rw [eI,List.length_drop]
 have hsrc:∀j u,((l.drop o).flatMap Enc.cells)[j]? = some u->w.cell? ((⟨gb,o*Enc.k α,none⟩:Addr).add j)=some u:=fun j u hj=>by
  grind [addr_add,nz,cell_of_row]
 have hld:=run_loadCells_list (P:=P) w ⟨gb,o*Enc.k α,none⟩ ((l.drop o).flatMap Enc.cells) hsrc
 rw [hfl] at hld
 have hle:(l.length+1)*Enc.k α<=cap*Enc.k α:=Nat.mul_le_mul_right _ hroom
 have hol:(o+1)*Enc.k α+(l.length-o)*Enc.k α=(l.length+1)*Enc.k α:=by rw [<- Nat.add_mul];grind
 have hst:=run_storeCells_at P gb ((o+1)*Enc.k α) e ((l.drop o).flatMap Enc.cells) 0 cur w hgg ae (ml _)
 have hrun:(execOp ac.eval ⟨some d,.call { callee:= .builtin .copy,args:= #[x,y],argTypes:= #[t,A]},ty,pos,dV,g⟩).run P w = .ok (.value (.int .i64 ((l.length-o:Nat):Int))) (w.setRow gb (cur.toList.take ((o+1)*Enc.k α)++(l.drop o).flatMap Enc.cells++cur.toList.drop ((o+1)*Enc.k α+((l.drop o).flatMap Enc.cells).length)).toArray):=by
  have hmin:Nat.min (l.length+1-o) (l.length-o)=l.length-o:=Nat.min_eq_right ae
  simp only [Nat.add_zero] at hst
  simp [execOp,resolve,invoke,builtin,hac.ev hx',hac.ev hy',Builtin.copy_,run_underlying hu,Builtin.lenOf,Builtin.firstCells,hsz,hmin,goInt,hld,hst]
 unfold Oper.wp
 rw [hrun,Oper.upon_value]
 have hll:(l.take (o+1)++l.drop o).length=l.length+1:=az
 have ho1:(o+1)*Enc.k α<=l.length*Enc.k α:=Nat.mul_le_mul_right _ ho
 have h3:(cur.toList.take ((o+1)*Enc.k α)).length=(o+1)*Enc.k α:=az
 have:=hw.uy (l':=l.take (o+1)++l.drop o) (cs':=cur.toList.take ((o+1)*Enc.k α)++(l.drop o).flatMap Enc.cells++cur.toList.drop ((o+1)*Enc.k α+((l.drop o).flatMap Enc.cells).length)) hB hgg hcm hcs az (by
  have e1:cur.toList.take ((o+1)*Enc.k α)=(l.take (o+1)).flatMap Enc.cells:=by
   grind [lO,Nat.min_eq_left]
  grind) ae
 rw [hll] at this
 exact hK () _ _ (hac.put d _ hd) (hB'▸this)
theorem s.J1 {o m bytes:Nat}{z0:α}{z:Value}{tn:TypeId}{kq kn:IntKind}{r:Int}(i:Nat)(hB:B[i]? = some (ag.row e v l))(hx:ev L x=some (jT v o))(hy:ev L y=some (.int kq r))(hr:r=(m:Int))(ht:nP P t (Enc.k α)=some (e,bytes))(htn:P.underlying tn=some (.int kn))(hz:eJ P e=some z)(hzs:z.cells=(Enc.cells z0).toArray)
 (ho:o<=l.length) (hm:0<m) (hcap:lH v<o+m) (hbig:(o+m)*bytes<=70368744177664) (hml:o+m<=1000000000) (hd:Nat.blt d n=true) :
 Stp P n we X L B F ⟨some d,.call { callee:= .builtin .append,args:= #[x,y],argTypes:= #[t,tn]},ty,pos,dV,g⟩ (fun q:Value=>(d,q)::L) (fun q=>ag.row e q (l.take o++List.replicate m z0)::B) (fun _=>F):=by
 intro K Q' ac w hac hw hK
 subst hr
 obtain ⟨ti,zz,g1,g2,g3,g4,g5,g6⟩:=wI ht
 have hzz:zz=z:=by grind [eJ]
 subst hzz
 have how:Own 0 e w v l:=hw.b i hB
 have hk:=Enc.pos (α:=α)
 have hlo:(l.take o).length=o:=az
 obtain ⟨A,cap,rfl,hc1,hc2,hcl⟩:=how.sl
 simp only [lH] at hcap
 have hfo:(Builtin.firstCells ti.size o (.slice A o cap)).run P w.drew = .ok ((l.take o).flatMap Enc.cells).toArray w.drew:=by
  rw [g4]
  cases A with
  | none =>
   have h0:l.take o=[]:=by
    cases h:l.take o with
    | nil=>rfl
    | cons q qs =>
     have hq:l[0]? = some q:=by
      grind
     grind
   rw [h0] at hlo;simp at hlo
   subst hlo
   rfl
  | some ad =>
   have hsrc:∀j u,((l.take o).flatMap Enc.cells)[j]? = some u->w.drew.cell? (ad.add j)=some u:=fun j u hj=>by
    obtain ⟨i',q,s,hi',hq,rfl⟩:=nO (l.take o) j u hj
    rw [List.getElem?_take] at hi'
    split at hi'
    .
     obtain ⟨b3,abT,h3,_,hc3⟩:=hcl i' q hi'
     injection h3 with h3;subst h3
     rw [addr_add,<- Nat.add_assoc];simp_all
    grind
   grind [run_firstCells_some,eI]
 have hns:Builtin.nextslicecap (o+m) cap*ti.bytes<=281474976710656:=by
  rw [g5];exact growslice_fits ae ae
 have hmb:m*ti.bytes<=281474976710656:=by
  grind
 have Nm:=Go.Lib.run_append_grow_zeros (P:=P) w t tn ty e ti zz kq kn g1 htn g2 g3 A o cap ((l.take o).flatMap Enc.cells) hfo m hm ae hcap ae hmb hns
 have hx':ev L x=some (.slice A o cap):=hx
 have hrun:(execOp ac.eval ⟨some d,.call { callee:= .builtin .append,args:= #[x,y],argTypes:= #[t,tn]},ty,pos,dV,g⟩).run P w = .ok (.value (.slice (some ⟨w.heap.size,0,none⟩) (o+m) (grownCap w (o+m) cap e))) (w.drew.alloc (.cells (((l.take o).flatMap Enc.cells).toArray++Builtin.zeroCells zz.cells m++Builtin.zeroCells zz.cells (grownCap w (o+m) cap e-(o+m))) e)):=by
  simp only [execOp,resolve,invoke,builtin,hac.ev hx',hac.ev hy,Sem.run_bind,Sem.run_pure,Result.andThen_ok,List.map_toArray,List.map_cons,List.map_nil,Nm]
 unfold Oper.wp
 rw [hrun,Oper.upon_value]
 have hwd:Wd we X B F w.drew:=hw.grow (np.draw w)
 have hge:=grownCap_ge w (o+m) cap e
 have hzc:=px hzs m
 have hzl:(Builtin.zeroCells zz.cells m).size=m*Enc.k α:=by rw [size_zeroCells,g6]
 have hll:(l.take o++List.replicate m z0).length=o+m:=az
 have aaC:((l.take o).flatMap Enc.cells).length=o*Enc.k α:=by rw [eI,hlo]
 refine hK _ _ _ (hac.put d _ hd) (hwd.alloc (r:=ag.row e (.slice (some ⟨w.heap.size,0,none⟩) (o+m) (grownCap w (o+m) cap e)) (l.take o++List.replicate m z0)) ?_ rfl)
 refine ⟨az,.inr ⟨w.heap.size,grownCap w (o+m) cap e,_,az,Nat.zero_le _,heap_alloc_new w.drew _,ae,grownCap_le_maxLen w _ _ _ (by grind [maxLen]),?_,?_⟩⟩
 .
  simp only [Array.size_append,List.size_toArray,aaC,hzl,size_zeroCells,g6,<- Nat.add_mul]
  grind
 grind [Array.toList_append,List.length_append,Nat.add_mul,List.take_of_length_le]
theorem Nv {w:World}{ga:Nat}{Rk:Array Value}{t:TypeId}(h:w.heap[ga]? = some (.cells Rk t (0,0)))(o:Nat):w.frozen? ⟨ga,o,none⟩=false:=by
 grind [World.frozen?]
theorem q.ovl {f:FuncId}{fn:Func}{c:Operand}{ts:Array TypeId}{tS tR:TypeId}{va vb vb2:Value}{la lb:List α}{i j:Nat}(hf:P.funcs[f]? = some fn)(hname:(fn.name == "runtime.NumGoroutine")=false)
 (hb:fn.body.isNone=true) (hn:Extern.findNext fn=none) (he:Extern.find fn=some (Extern.SlicesOverlaps.overlaps #[tS,tS] #[tR])) (ht:nL P tS=some (e,Enc.k α))
 (hi:B[i]? = some (ag.row e va la)) (hj:B[j]? = some (ag.row e vb lb)) (hij:i≠j) (h0a:0<la.length) (h0b:0<lb.length) (hx:ev L x=some va) (hy:ev L y=some vb2) {m q:Nat} (hv2:vb2=YtnmpibjlnninjaaGreatDoor.cz (YtnmpibjlnninjaaGreatDoor.jT vb m) q (Enc.k α)) (hc:ev L c=some (.func (.func f) #[] #[])) :
 Qt P n we X L B F (.call { callee:= .value c,args:= #[x,y],argTypes:=ts}) ty (.bool false):=fun _ _ _ _ ac w hac hw=>by
 have owa:Own 0 e w va la:=hw.b i hi
 have owb:Own 0 e w vb lb:=hw.b j hj
 obtain ⟨hu,hsz⟩:=fk (P:=P) w ht
 have hzz:∀w,(Go.sizeOf e).run P w = .ok (Enc.k α) w:=fun w=>(fk (P:=P) w ht).2
 obtain ⟨ga,Yg,Rk,rfl,_,hga,hna,_,hca,_⟩:=owa.parts h0a
 obtain ⟨gb,aaD,Yh,rfl,_,hgb,hnb,_,hcb,_⟩:=owb.parts h0b
 obtain ⟨o,n',c',hv3⟩:∃o n' c',vb2 = .slice (some ⟨gb,o,none⟩) n' c':=by
  rw [hv2];simp only [YtnmpibjlnninjaaGreatDoor.jT,YtnmpibjlnninjaaGreatDoor.cz,Option.map_some,addr_add]
  grind
 subst hv3
 have hne:ga≠gb:=fun e=>jI hi hj hij hw.sep ga (by simp [ag.row,eB]) (by grind [ag.row,eB])
 have hk:=Enc.pos (α:=α)
 have h1:1*Enc.k α<=aaD*Enc.k α:=Nat.mul_le_mul_right _ ae
 have hsa:w.shape? ga=some (e,Rk.size):=by grind [World.shape?]
 have hsb:w.shape? gb=some (e,Yh.size):=by grind [World.shape?]
 have hov:=Go.Lib.run_overlaps_apart (P:=P) w tS tR e hu (Enc.k α) hzz ⟨ga,0,none⟩ ⟨gb,o,none⟩ la.length Yg n' c' hne e e Rk.size Yh.size hsa hsb ae (Nv hga _) (Nv hga _)
 have hcall:=run_callFunc_extern hf hname hb hn he #[.slice (some ⟨ga,0,none⟩) la.length Yg,.slice (some ⟨gb,o,none⟩) n' c'] w
 have hy':ev L y=some (.slice (some ⟨gb,o,none⟩) n' c'):=hy
 simp [execOp,resolve,hac.ev hc,Deferred.ofValue,invoke,hac.ev hx,hac.ev hy',hcall,hov]
end
end
end Go.Proofs.YtnmpibjlnninjaaGreatDoor
