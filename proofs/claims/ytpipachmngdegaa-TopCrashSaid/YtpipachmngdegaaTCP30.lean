import Derived.Test.YtpipachmngdegaaTCP12
import Derived.Test.YtpipachmngdegaaTCP14
import Derived.Lib.AppendStr
import Derived.Lib.Builder
import Derived.Lib.UnsafeStr
section
namespace Go.Proofs.Ytpipachmngdegaa
open Go Go.RowKit
set_option linter.unusedVariables false
set_option linter.unusedSimpArgs false
abbrev iM (b:Nat)(u:Bool):Value:= .pointer (if u=true then some ⟨b,0,none⟩ else none)
theorem mH (s:ByteArray):Lib.strCells s=s.data.toList.flatMap Enc.cells:=by
  unfold Lib.strCells;rw [List.map_eq_flatMap];rfl
theorem l5 (l:List UInt8):Lib.byteCells l=l.flatMap Enc.cells:=by
  unfold Lib.byteCells;rw [List.map_eq_flatMap];rfl
section
variable {P:Program}
theorem tE {w:World}{e t u ty:TypeId}{i:TypeInfo}(ht:P.underlying t=some (.slice e))(hu:P.underlying u=some .string)(hi:P.info? e=some i)(hz:i.zero=some (.int .u8 0))(hsize:i.size=1)(hby:i.bytes=1)
    {v:Value} {l:List UInt8} (hown:Own 0 e w v l) (s:ByteArray) (hlen:l.length+s.size≤140737488355328) :
    ∃v' w',(Builtin.append_ #[t,u] ty #[v,.string s]).run P w = .ok v' w'∧Own 0 e w' v' (l++s.data.toList)∧w.grownBy w' v.ownBlock ∧ ∀k∈cB v',k∈cB v∨w.heap.size≤k:=by
  have hfl:=cq l
  have hown':w.ownsRow 0 e 1 v l.length (l.flatMap Enc.cells):=hown
  obtain ⟨v',w',g1,g2,g3,g4⟩:=Lib.run_append_own_string (P:=P) w 0 t u ty e i ht hu hi hz hsize hby v l.length (l.flatMap Enc.cells) hown' s (by unfold maxLen;omega) hlen (Nat.zero_le _)
  refine ⟨v',w',g1,?_,g3,?_⟩
  ·
    rw [mH] at g2
    unfold Own
    rw [List.flatMap_append,List.length_append,show s.data.toList.length=s.size from by rw [Array.length_toList];rfl]
    exact g2
  ·
    rcases hown'.2 with ⟨rfl,h0⟩ | ⟨g,cap,cur,rfl,_,hg,hnc,hcm,hcs,htake⟩
    ·
      by_cases hm:s.size=0
      ·
        have:=g4.2 ⟨rfl,hm⟩
        subst this;intro k hk;cases hk
      ·
        have hr:=run_append_nil_string (P:=P) w t u ty e i (.int .u8 0) ht hu hi hz s (by omega) (by omega) (by rw [hby];omega)
        rw [hr] at g1
        injection g1 with g1 _
        subst g1
        intro k hk;simp [cB] at hk;subst hk;exact .inr (Nat.le_refl _)
    ·
      by_cases hroom:l.length+s.size≤cap
      ·
        have hr:=Lib.run_append_room_string (P:=P) w t u ty e i ht hu hi hsize g l.length cap cur hg s hroom (by omega)
        rw [hr] at g1
        injection g1 with g1 _
        subst g1
        intro k hk;exact .inl hk
      ·
        have holds:∀j u,(l.flatMap Enc.cells)[j]? = some u→w.cell? ((⟨g,0,none⟩:Addr).add j)=some u:=World.ownsRow.cells hown' (g:=g) rfl
        have hr:=Lib.run_append_grow_string (P:=P) w t u ty e i (.int .u8 0) ht hu hi hz ⟨g,0,none⟩ l.length cap (l.flatMap Enc.cells) (by rw [hsize];exact hown'.1) holds s (by omega) (by omega) (by rw [hby];exact growslice_fits (by omega) (by omega))
        rw [hr] at g1
        injection g1 with g1 _
        subst g1
        intro k hk;simp [cB] at hk;subst hk;exact .inr (Nat.le_refl _)
variable {n:Nat} {we:World} {X:List Nat} {L:Fm} {B F:List ah} {x y c:Operand} {xT yT ty:TypeId} {d:Nat} {pos:String} {cx:Array Edge} {g:Option (Nat×Bool)} {e:TypeId} {v:Value}
theorem s.tF {t u:TypeId}{ti:TypeInfo}{l:List UInt8}{s:ByteArray}(i:Nat)(hB:B[i]? = some (ah.row e v l))(hx:ev L x=some v)(hy:ev L y=some (.string s))
    (ht:P.underlying t=some (.slice e)) (hu:P.underlying u=some .string) (hi:P.info? e=some ti) (hz:ti.zero=some (.int .u8 0)) (hsize:ti.size=1) (hby:ti.bytes=1) (hlen:l.length+s.size≤140737488355328) (hd:Nat.blt d n=true) :
    Stp P n we X L B F ⟨some d,.call { callee:= .builtin .append,args:= #[x,y],argTypes:= #[t,u] },ty,pos,cx,g⟩ (fun z:Value=>(d,z)::L) (fun z=>B.set i (ah.row e z (l++s.data.toList))) (fun _=>F):=by
  intro K Q' a w ha hw hK
  have hown:Own 0 e w v l:=hw.b i hB
  obtain ⟨v',w',h1,h2,h3,h4⟩:=tE (P:=P) (ty:=ty) ht hu hi hz hsize hby hown s hlen
  unfold Oper.wp
  have hrun:(execOp a.eval ⟨some d,.call { callee:= .builtin .append,args:= #[x,y],argTypes:= #[t,u] },ty,pos,cx,g⟩).run P w = .ok (.value v') w':=by
    simp [execOp,resolve,invoke,builtin,ha.ev hx,ha.ev hy,h1]
  rw [hrun,Oper.upon_value]
  refine hK v' _ _ (ha.put d _ hd) (hw.turn hB (qm (α:=UInt8) h3) h2 (jX h2).1 fun k hk=>⟨((jX h2).2 k hk).2,h4 k hk⟩)
theorem nt {w:World}{b:Nat}{cs:List Value}{T:TypeId}(h:(ah.box b cs T).ok w):w.shape? b=some (T,cs.length):=by
  have h':w.heap[b]? = some (.cells cs.toArray T (0,0)):=h
  simp [World.shape?,h']
theorem q.zR {b i:Nat}{cs:List Value}{T t:TypeId}{j:TypeInfo}(hB:B[i]? = some (ah.box b cs T))(hx:ev L x=some (.pointer (some ⟨b,0,none⟩)))(hs:P.underlying xT=some (.pointer t))(hd:P.underlying yT=some .unsafePointer)(ht:P.info? t=some j)(hj:¬ j.size=0)(hc:0<cs.length) :
    Qt P n we X L B F (.convert xT yT x) ty (.pointer (some ⟨b,0,none⟩)):=fun _ _ _ _ a w ha hw=>by
  have h:=Lib.run_to_unsafe (P:=P) w ⟨b,0,none⟩ hs hd ht hj (nt (hw.b i hB)) hc
  simp [execOp,ha.ev hx,h]
theorem q.zS {b i:Nat}{cs:List Value}{T t:TypeId}{j:TypeInfo}(hB:B[i]? = some (ah.box b cs T))(hx:ev L x=some (.pointer (some ⟨b,0,none⟩)))(hs:P.underlying xT=some .unsafePointer)(hd:P.underlying yT=some (.pointer t))(ht:P.info? t=some j)(m:Nat)(hm:cs.length=m)(hl:liesAt P P.depth T (m / P.cellsOf T) 0 t 1=true) :
    Qt P n we X L B F (.convert xT yT x) ty (.pointer (some ⟨b,0,none⟩)):=fun _ _ _ _ a w ha hw=>by
  subst hm
  have h:=Lib.run_from_unsafe (P:=P) w ⟨b,0,none⟩ hs hd ht (nt (hw.b i hB)) hl
  simp [execOp,ha.ev hx,h]
theorem q.same {pT:TypeId}{a:Addr}{j:TypeInfo}(hx:ev L x=some (.pointer (some a)))(hy:ev L y=some (.pointer (some a)))(ht:P.underlying xT=some (.pointer pT))(hj:P.info? pT=some j):Qt P n we X L B F (.binOp .neq xT x y yT) ty (.bool false):=fun _ _ _ _ q w ha hw=>by
  simp only [execOp,ha.ev hx,ha.ev hy,eqGuard_at_pointer,Sem.run_bind,Sem.run_pure,Result.andThen_ok,Lib.run_neq_ptr_same w a ht hj]
theorem q.x6 {f:Nat}{fn:Func}{ts:Array TypeId}(hf:P.funcs[f]? = some fn)(hname:(fn.name == "runtime.NumGoroutine")=false)(hb:fn.body.isNone=true)(hn:Extern.findNext fn=none)(he:Extern.find fn=some Extern.AbiNoEscape.same)
    (hc:ev L c=some (.func (.func f) #[] #[])) (hx:ev L x=some v):Qt P n we X L B F (.call { callee:= .value c,args:= #[x],argTypes:=ts }) ty v:=fun _ _ _ _ a w ha hw=>by
  simp [execOp,resolve,ha.ev hc,Deferred.ofValue,invoke,ha.ev hx,run_callFunc_extern hf hname hb hn he,Lib.run_noEscape,Result.andThen]
theorem s.yR {i j b f T:Nat}{u:Bool}{l:List UInt8}{ts:Array TypeId}(eg:∀args w,(callFunc f args).run P w = .ok (.enter f args) w)(hb:B[i]? = some (ah.box b [iM b u,v] T))(hr:B[j]? = some (ah.row e v l))(hij:¬ i=j)
    (hc:ev L c=some (.func (.func f) #[] #[])) (hx:ev L x=some (.pointer (some ⟨b,0,none⟩)))
    (hcall:∀w,Lib.IsBuilder T e we.heap.size b (Lib.byteCells l) w→we.heap.size≤w.heap.size→Calls P f #[.pointer (some ⟨b,0,none⟩)] w fun en w'=>en = .returned (.string ⟨l.toArray⟩)∧Below we.heap.size w w') (hd:Nat.blt d n=true) :
    Stp P n we [] L B F ⟨some d,.call { callee:= .value c,args:= #[x],argTypes:=ts },ty,pos,cx,g⟩ (fun _:Unit=>(d,.string ⟨l.toArray⟩)::L) (fun _=>[]) (fun _=>[]):=by
  intro K Q' a w ha hw hK
  have x7:w.heap[b]? = some (.cells #[iM b u,v] T (0,0)):=hw.b i hb
  have hown:Own 0 e w v l:=hw.b j hr
  have zg:b∈blks B:=aZ.2 ⟨_,List.mem_of_getElem? hb,by simp [ah.box]⟩
  have hge:∀k∈blks B,we.heap.size≤k:=fun k hk=>by
    rcases Nat.lt_or_ge k we.heap.size with h|h
    · have:=(hw.own k hk).2 h;cases this
    · exact h
  have hown2:w.ownsRow we.heap.size e 1 v (Lib.byteCells l).length (Lib.byteCells l):=by
    rw [Lib.byteCells_length,l5]
    have h':w.ownsRow 0 e 1 v l.length (l.flatMap Enc.cells):=hown
    refine ⟨h'.1,?_⟩
    rcases h'.2 with h0|⟨gg,cap,cur,hv,_,rest⟩
    · exact .inl h0
    · refine .inr ⟨gg,cap,cur,hv,hge gg (aZ.2 ⟨_,List.mem_of_getElem? hr,by subst hv;simp [ah.row,cB]⟩),rest⟩
  have hne:v.ownBlock≠some b:=fun h=>by
    have hkv:b∈(ah.row e v l).blk:=by
      show b∈cB v
      unfold Value.ownBlock at h
      split at h
      · injection h with h;simp [cB,h]
      · cases h
    have hs:=hw.sep
    obtain ⟨l1,l2,e1⟩:∃l1 l2,B=l1++l2∧((ah.box b [iM b u,v] T∈l1∧ah.row e v l∈l2)∨(ah.row e v l∈l1∧ah.box b [iM b u,v] T∈l2)):=by
      rcases Nat.lt_or_gt_of_ne hij with h1|h1
      · exact ⟨B.take j,B.drop j,(List.take_append_drop j B).symm,.inl ⟨List.mem_of_getElem? (i:=i) (by rw [List.getElem?_take_of_lt h1];exact hb),List.mem_of_getElem? (i:=0) (by rw [List.getElem?_drop];exact hr)⟩⟩
      · exact ⟨B.take i,B.drop i,(List.take_append_drop i B).symm,.inr ⟨List.mem_of_getElem? (i:=j) (by rw [List.getElem?_take_of_lt h1];exact hr),List.mem_of_getElem? (i:=0) (by rw [List.getElem?_drop];exact hb)⟩⟩
    rw [e1.1,aL] at hs
    have hd':=(List.nodup_append.1 hs).2.2
    rcases e1.2 with ⟨h1,h2⟩ | ⟨h1,h2⟩
    · exact hd' b (aZ.2 ⟨_,h1,by simp [ah.box]⟩) b (aZ.2 ⟨_,h2,hkv⟩) rfl
    · exact hd' b (aZ.2 ⟨_,h1,hkv⟩) b (aZ.2 ⟨_,h2,by simp [ah.box]⟩) rfl
  have hIs:Lib.IsBuilder T e we.heap.size b (Lib.byteCells l) w:=by
    cases u with
    | true=>exact .inr ⟨hge b zg,v,x7,hown2,hne⟩
    | false=>exact .inl ⟨hge b zg,v,x7,hown2,hne⟩
  have wx:=hcall w hIs hw.upd.size
  unfold Oper.wp
  have hrun:(execOp a.eval ⟨some d,.call { callee:= .value c,args:= #[x],argTypes:=ts },ty,pos,cx,g⟩).run P w = .ok (.enter f #[.pointer (some ⟨b,0,none⟩)]) w:=by
    simp [execOp,resolve,ha.ev hc,Deferred.ofValue,invoke,ha.ev hx,eg]
  rw [hrun,Oper.upon_enter]
  refine wx.mono fun en w' h=>?_
  obtain ⟨rfl,h⟩:=h
  refine hK () _ _ (ha.put d _ hd) ⟨⟨h.os.trans hw.upd.os,h.tape.trans hw.upd.tape,h.output.trans hw.upd.output,Nat.le_trans hw.upd.size h.size,fun k hk hn=>(h.block k hk).trans (hw.upd.block k hk hn)⟩,by simp,by simp,by simp [blks],by simp [blks],by simp [blks]⟩
end
end Go.Proofs.Ytpipachmngdegaa
end
