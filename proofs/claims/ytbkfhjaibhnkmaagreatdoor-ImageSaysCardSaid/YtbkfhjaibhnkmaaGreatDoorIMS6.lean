import Derived.Test.YtbkfhjaibhnkmaaGreatDoorIMS5
import Derived.MapKept
namespace Go.Proofs.YtbkfhjaibhnkmaaGreatDoor
open Go Go.RowKit
set_option linter.unusedVariables false
def uX (P:Program)(t:TypeId):Bool :=
  match P.underlying t with
  | some (.map k e)=>match P.underlying k,gJ P e with
    | some (.int .i64),some (.bool false)=>true
    | _,_=>false
  | _=>false
theorem yg {P:Program}{t:TypeId}(h:uX P t=true):∃k e,P.underlying t=some (.map k e)∧P.underlying k=some (.int .i64)∧gJ P e=some (.bool false):=by
 unfold uX at h
 split at h
 ·
  rename_i k e h1
  split at h
  ·rename_i h2 h3;exact ⟨k,e,h1,h2,h3⟩
  ·cases h
 ·cases h
def GB (es:List MapEntry)(S:List Int):Prop:=(∀e∈es,∃x∈S,e.key = .int .i64 x∧e.val = .bool true) ∧ ∀x∈S,∃e∈es,e.key = .int .i64 x
theorem ma (x:Int):∀ (es:List MapEntry) (i:Nat),(∀e∈es,∃y,e.key = .int .i64 y∧e.val = .bool true) →
 ((∃e∈es,e.key = .int .i64 x) ∧ ∃j,i≤j∧Instr.findNow (.int .i64) (.int .i64 x) es i=some (some (j,.bool true))∧(es[j-i]?).map (·.key)=some (.int .i64 x)) ∨
 ((¬ ∃e∈es,e.key = .int .i64 x)∧Instr.findNow (.int .i64) (.int .i64 x) es i=some none)
 | [],i,h => .inr ⟨by simp,rfl⟩
 | e::es,i,h=>by
  obtain ⟨y,hy,hv⟩:=h e (by simp)
  by_cases hxy:x=y
  ·
   subst hxy
   refine .inl ⟨⟨e,by simp,hy⟩,i,Nat.le_refl _,?_,by simp [hy]⟩
   simp [Instr.findNow,Instr.sameNow,hy,hv]
  ·
   have hne:(x==y)=false:=by simpa using hxy
   rcases ma x es (i+1) (fun e he=>h e (by simp [he])) with ⟨⟨e',he',hk⟩,j,hj,hf,hg⟩ | ⟨hn,hf⟩
   ·
    refine .inl ⟨⟨e',by simp [he'],hk⟩,j,by omega,?_,?_⟩
    ·simp [Instr.findNow,Instr.sameNow,hy,hne,hf]
    ·
     have:j-i=(j-(i+1))+1:=by omega
     rw [this];simpa using hg
   ·
    refine .inr ⟨?_,by simp [Instr.findNow,Instr.sameNow,hy,hne,hf]⟩
    rintro ⟨e',he',hk⟩
    rcases List.mem_cons.1 he' with rfl|he'
    ·rw [hy] at hk;injection hk with _ hk;exact hxy hk.symm
    ·exact hn ⟨e',he',hk⟩
def ag.lj (b:Nat)(S:List Int):ag:=⟨[b],fun w => ∃es c,w.heap[b]? = some (.map es c)∧GB es.toList S,fun w w' h=>fun ⟨es,c,h1,h2⟩=>⟨es,c,(h b (by simp)).trans h1,h2⟩⟩
section
variable {P:Program} {n:Nat} {we:World} {X:List Nat} {Q:Exit→Act→World→Prop} {k k':List It} {L:Fm} {B F:List ag} {ops rest:List Oper}
variable {dst:Option Nat} {d:Nat} {ty:TypeId} {pos:String} {eV:Array Edge} {g:Option (Nat×Bool)} {v:Value}
variable {x y m:Operand} {t:TypeId}
theorem tL (em:Bool){kt:TypeId}{z:Int}(w:World)(h:P.underlying kt=some (.int .i64)):(Instr.checkKey em 10000 kt (.int .i64 z)).run P w = .ok () w:=MapKept.run_checkKey h (by simp [MapKept.IsKey]) em 9999
theorem C6 {z:Int}(w:World):(Instr.keyThatStays (.int .i64 z) (.int .i64 z)).run P w = .ok (.int .i64 z) w:=MapKept.run_keyThatStays (d:= .int .i64) (by simp [MapKept.IsKey])
theorem q.look {b:Nat}{S:List Int}{z:Int}(i:Nat)(hB:B[i]? = some (ag.lj b S))(hm:ev L m=some (.map (some b)))(hy:ev L y=some (.int .i64 z))(ht:uX P t=true):Qt P n we X L B F (.lookup t m y false) ty (.bool (decide (z∈S))):=fun _ _ _ _ a w ha hw=>by
 obtain ⟨es,c,h1,h2,h3⟩:=hw.b i hB
 obtain ⟨kt,e,hu,hk,hz⟩:=yg ht
 have hf:∀e∈es.toList,∃y,e.key = .int .i64 y∧e.val = .bool true:=fun e he=>by obtain ⟨x,_,h⟩:=h2 e he;exact ⟨x,h⟩
 simp only [execOp,ha.ev hm,ha.ev hy,Instr.lookup,Sem.run_bind,run_underlying hu,Result.andThen_ok,MapKept.run_getObj_map h1,Sem.run_pure,tL _ w hk,Instr.findKey,run_underlying hk]
 rcases ma z es.toList 0 hf with ⟨⟨e',he',hk'⟩,j,_,hf,_⟩ | ⟨hn,hf⟩
 ·
  have hS:z∈S:=by obtain ⟨x,hx,hkx,_⟩:=h2 e' he';rw [hk'] at hkx;injection hkx with _ hkx;rw [hkx];exact hx
  rw [hf];simp [hS]
 ·
  have hS:¬ z∈S:=fun hz=>hn (h3 z hz)
  rw [hf];simp [hS,kD (P:=P) w hz]
theorem q.Ep {b:Nat}{S:List Int}{z:Int}{r:Bool}(i:Nat)(hB:B[i]? = some (ag.lj b S))(hm:ev L m=some (.map (some b)))(hy:ev L y=some (.int .i64 z))(ht:uX P t=true)(hr:decide (z∈S)=r):Qt P n we X L B F (.lookup t m y false) ty (.bool r):=hr▸q.look i hB hm hy ht
theorem s.mk (hd:Nat.blt d n=true):Stp P n we X L B F ⟨some d,.makeMap t none,ty,pos,eV,g⟩ (fun b:Nat=>(d,.map (some b))::L) (fun b=>ag.lj b []::B) (fun _=>F):=by
 intro K Q' a w ha hw hK
 unfold Oper.wp
 have hrun:(execOp a.eval ⟨some d,.makeMap t none,ty,pos,eV,g⟩).run P w = .ok (.value (.map (some w.heap.size))) (w.alloc (.map #[] 0)):=by
  simp only [execOp,Sem.run_bind,Instr.makeMap,newObj,Option.map_none];rfl
 rw [hrun,Oper.upon_value]
 exact hK _ _ _ (ha.put d _ hd) (hw.alloc (r:=ag.lj w.heap.size []) ⟨#[],0,heap_alloc_new w _,by simp [GB]⟩ rfl)
theorem uY (w:World)(b:Nat)(o:Obj):kC [b] w { w with heap:=w.heap.setIfInBounds b o }:=⟨rfl,rfl,rfl,by simp,fun k hk hn=>by
 have:b≠k:=fun e=>hn (by simp [e])
 simp [Array.getElem?_setIfInBounds,this]⟩
theorem yh {b:Nat}{S:List Int}{z:Int}{w:World}(ht:uX P t=true)(h:(ag.lj b S).ok w):∃w',(Instr.mapUpdate t (.map (some b)) (.int .i64 z) (.bool true)).run P w = .ok () w'∧kC [b] w w'∧(ag.lj b (z::S)).ok w':=by
 obtain ⟨es,c,h1,h2,h3⟩:=h
 obtain ⟨kt,e,hu,hk,hz⟩:=yg ht
 have hlt:b<w.heap.size:=(Array.getElem?_eq_some_iff.1 h1).1
 have hf:∀e∈es.toList,∃y,e.key = .int .i64 y∧e.val = .bool true:=fun e he=>by obtain ⟨x,_,h⟩:=h2 e he;exact ⟨x,h⟩
 rcases ma z es.toList 0 hf with ⟨⟨e',he',hk'⟩,j,_,hf,hj⟩ | ⟨hn,hf⟩
 ·
  have hj':(es[j]?).map (·.key)=some (.int .i64 z):=by simpa using hj
  refine ⟨_,?_,uY w b (.map (es.modify j fun e=>{ e with key:= .int .i64 z,val:= .bool true }) c),⟨_,_,(MapKept.heap_set h1).1,?_⟩⟩
  ·simp only [Instr.mapUpdate,Sem.run_bind,run_underlying hu,Result.andThen_ok,MapKept.run_getObj_map h1,tL _ w hk,Instr.findKey,run_underlying hk,hf,Sem.run_pure,hj',Option.getD_some,C6 w,MapKept.run_setObj_map _ h1]
  ·
   have hS:z∈S:=by obtain ⟨x,hx,hkx,_⟩:=h2 e' he';rw [hk'] at hkx;injection hkx with _ hkx;rw [hkx];exact hx
   have hg:∀e∈(es.modify j fun e=>{ e with key:= .int .i64 z,val:= .bool true }).toList,∃x∈z::S,e.key = .int .i64 x∧e.val = .bool true:=by
    intro e he
    obtain ⟨i,hi⟩:=List.mem_iff_getElem?.1 he
    simp only [Array.toList_modify,List.getElem?_modify] at hi
    cases hes:es.toList[i]? with
    | none=>rw [hes] at hi;simp at hi
    | some e0 =>
     rw [hes] at hi
     simp at hi
     split at hi
     ·subst hi;exact ⟨z,by simp,rfl,rfl⟩
     ·
      subst hi
      obtain ⟨x,hx,h⟩:=h2 e0 (List.mem_of_getElem? hes)
      exact ⟨x,by simp [hx],h⟩
   refine ⟨hg,fun x hx=>?_⟩
   have hx':x∈S:=by rcases List.mem_cons.1 hx with rfl|h;exact hS;exact h
   obtain ⟨e0,he0,hke⟩:=h3 x hx'
   obtain ⟨i,hi⟩:=List.mem_iff_getElem?.1 he0
   by_cases hij:j=i
   ·
    subst hij
    have hxz:x=z:=by
     have:es[j]? = some e0:=by simpa using hi
     rw [this] at hj';simp at hj';rw [hke] at hj';injection hj'
    refine ⟨{ e0 with key:= .int .i64 z,val:= .bool true },List.mem_of_getElem? (i:=j) ?_,by rw [hxz]⟩
    simp only [Array.toList_modify,List.getElem?_modify,hi];simp
   ·
    refine ⟨e0,List.mem_of_getElem? (i:=i) ?_,hke⟩
    simp only [Array.toList_modify,List.getElem?_modify,hi];simp [hij]
 ·
  refine ⟨_,?_,uY w b (.map (es.push { key:= .int .i64 z,val:= .bool true,born:=c }) (c+1)),⟨_,_,(MapKept.heap_set h1).1,?_⟩⟩
  ·simp only [Instr.mapUpdate,Sem.run_bind,run_underlying hu,Result.andThen_ok,MapKept.run_getObj_map h1,tL _ w hk,Instr.findKey,run_underlying hk,hf,Sem.run_pure,MapKept.run_setObj_map _ h1]
  ·
   constructor
   ·
    intro e he
    simp at he
    rcases he with he|rfl
    ·obtain ⟨x,hx,h⟩:=h2 e (by simpa using he);exact ⟨x,by simp [hx],h⟩
    ·exact ⟨z,by simp,rfl,rfl⟩
   ·
    intro x hx
    rcases List.mem_cons.1 hx with rfl|hx
    ·exact ⟨{ key:= .int .i64 x,val:= .bool true,born:=c },by simp,rfl⟩
    ·
     obtain ⟨e0,he0,hke⟩:=h3 x hx
     exact ⟨e0,by simp at he0 ⊢;exact .inl he0,hke⟩
theorem s.Jw {b:Nat}{S:List Int}{z:Int}(i:Nat)(B':List ag)(hB:B[i]? = some (ag.lj b S))(hm:ev L m=some (.map (some b)))(hx:ev L x=some (.int .i64 z))(hy:ev L y=some (.bool true))(ht:uX P t=true)(hB':B.set i (ag.lj b (z::S))=B') :
 Stp P n we X L B F ⟨none,.mapUpdate t m x y,ty,pos,eV,g⟩ (fun _:Unit=>L) (fun _=>B') (fun _=>F):=by
 intro K Q' a w ha hw hK
 obtain ⟨w',hr,hu,hk⟩:=yh (P:=P) (z:=z) ht (hw.b i hB)
 unfold Oper.wp
 have hrun:(execOp a.eval ⟨none,.mapUpdate t m x y,ty,pos,eV,g⟩).run P w = .ok .skip w':=by
  simp [execOp,ha.ev hm,ha.ev hx,ha.ev hy,hr]
 rw [hrun,Oper.upon_skip]
 subst hB'
 refine hK () _ _ (by simpa [Act.put] using ha) (hw.turn hB hu hk (by simp [ag.lj]) (fun k hk=>?_))
 simp [ag.lj] at hk;subst hk
 exact ⟨Nat.lt_of_lt_of_le (hw.own _ (cW.2 ⟨_,List.mem_of_getElem? hB,by simp [ag.lj]⟩)).1 hu.size,.inl (by simp [ag.lj])⟩
theorem s.Iu {b:Nat}{S:List Int}{z:Int}(i:Nat)(B':List ag)(hB:B[i]? = some (ag.lj b S))(hm:ev L m=some (.map (some b)))(hx:ev L x=some (.int .i64 z))(hy:ev L y=some (.bool true))(ht:uX P t=true)(hB':B.set i (ag.lj b (z::S))=B') :
 Stp P n we X L B F ⟨none,.insert t m x y,ty,pos,eV,g⟩ (fun _:Unit=>L) (fun _=>B') (fun _=>F):=by
 intro K Q' a w ha hw hK
 obtain ⟨w',hr,hu,hk⟩:=yh (P:=P) (z:=z) ht (hw.b i hB)
 unfold Oper.wp
 have hrun:(execOp a.eval ⟨none,.insert t m x y,ty,pos,eV,g⟩).run P w = .ok .skip w':=by
  simp [execOp,ha.ev hm,ha.ev hx,ha.ev hy,hr]
 rw [hrun,Oper.upon_skip]
 subst hB'
 refine hK () _ _ (by simpa [Act.put] using ha) (hw.turn hB hu hk (by simp [ag.lj]) (fun k hk=>?_))
 simp [ag.lj] at hk;subst hk
 exact ⟨Nat.lt_of_lt_of_le (hw.own _ (cW.2 ⟨_,List.mem_of_getElem? hB,by simp [ag.lj]⟩)).1 hu.size,.inl (by simp [ag.lj])⟩
end
end Go.Proofs.YtbkfhjaibhnkmaaGreatDoor
