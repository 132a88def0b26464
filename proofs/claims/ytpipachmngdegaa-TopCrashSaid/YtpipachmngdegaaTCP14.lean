import Derived.Test.YtpipachmngdegaaTCP12
import Derived.Laws.OwnMore
section
namespace Go.Proofs.Ytpipachmngdegaa
open Go Go.RowKit
set_option linter.unusedVariables false
section
variable {P:Program} {n:Nat} {we:World} {X:List Nat} {L:Fm} {B F:List ah} {x y z':Operand} {v:Value} {d:Nat} {ty:TypeId} {pos:String} {cx:Array Edge} {g:Option (Nat×Bool)} {t e:TypeId} {α:Type} [Enc α] {l:List α}
theorem s.xl {m:Nat}{i0:TypeInfo}{kd:IntKind}{z0:α}{zv:Value}(ht:jS P t=some (e,Enc.k α))(hi:P.info? e=some i0)(hz:i0.zero=some zv)(hzs:zv.cells=(Enc.cells z0).toArray)(hb:i0.bytes≤1000)(hx:ev L x=some (.int kd (m:Int)))(hy:ev L y=some (.int kd (m:Int)))(hm:m*Enc.k α≤1000000)(hd:Nat.blt d n=true) :
    Stp P n we X L B F ⟨some d,.makeSlice t x y,ty,pos,cx,g⟩ (fun b:Nat=>(d,.slice (some ⟨b,0,none⟩) m m)::L) (fun b=>ah.row e (.slice (some ⟨b,0,none⟩) m m) (List.replicate m z0)::B) (fun _=>F):=by
  intro K Q' a w ha hw hK
  obtain ⟨hu,hsz⟩:=cy (P:=P) w ht
  have hsize:i0.size=Enc.k α:=by
    unfold jS at ht;rw [hu] at ht;simp [hi] at ht;exact ht
  have hkp:=Enc.pos (α:=α)
  have hm1:m≤m*Enc.k α:=Nat.le_mul_of_pos_right m hkp
  have hml:m≤maxLen:=by simp [maxLen];omega
  have hbb:i0.bytes*m≤1000*1000000:=Nat.mul_le_mul hb (by omega)
  obtain ⟨w',hr,how,hg⟩:=run_makeSlice_full (P:=P) w 0 t e i0 zv (Enc.k α) hu hi hz hsize kd kd m (by omega) (by omega) hml (Nat.zero_le _)
  have hrun:(execOp a.eval ⟨some d,.makeSlice t x y,ty,pos,cx,g⟩).run P w = .ok (.value (.slice (some ⟨w.heap.size,0,none⟩) m m)) w':=by
    simp [execOp,ha.ev hx,ha.ev hy,hr]
  unfold Oper.wp
  rw [hrun,Oper.upon_value]
  have hcells:(madeCells zv.cells (m*Enc.k α)).toList=(List.replicate m z0).flatMap Enc.cells:=by
    have h1:=jy hzs m
    rw [← h1]
    have hs:zv.cells.size=Enc.k α:=by rw [hzs,List.size_toArray,Enc.len]
    simp [madeCells,Builtin.zeroCells,hs]
  rw [hcells] at how
  have hup:iN [] w w':=⟨hg.os,hg.tape,hg.output,hg.size,fun k hk _=>hg.block k hk (by simp)⟩
  have hlt:w.heap.size<w'.heap.size:=by
    rcases how.2 with ⟨h,_⟩ | ⟨gb,cap,cur,h,_,hgg,_⟩
    · simp at h
    · injection h with h _ _;injection h with h;injection h with h1;rw [h1];exact (Array.getElem?_eq_some_iff.1 hgg).1
  refine hK _ _ _ (ha.put d _ hd) ((hw.grow hup).new (r:=ah.row e (.slice (some ⟨w.heap.size,0,none⟩) m m) (List.replicate m z0)) ?_ (by simp [ah.row,cB]) (fun k hk=>?_))
  ·
    show Own 0 e w' _ _
    unfold Own;rw [List.length_replicate];exact how
  ·
    simp [ah.row,cB] at hk;subst hk
    exact ⟨hlt,hw.upd.size,fun h=>by have:=(hw.own _ h).1;omega,fun h=>by have:=(hw.gI _ h).1;omega⟩
theorem s.pG {o m:Nat}{u dst:Value}{l2:List α}{A:TypeId}(i:Nat)(B':List ah)(hB:B[i]? = some (ah.row e v l))(hs:∀w,Wd we X B F w→Sl w u l2)(hx:ev L x=some dst)(hdst:dst=cJ v o (Enc.k α)∨(dst=v∧o=0))(hy:ev L y=some u)(ht:jS P t=some (e,Enc.k α))
    (hm0:0<m) (hm1:m≤l2.length) (hm2:o+m≤l.length) (hm:m=l2.length∨o+m=l.length) (hB':B.set i (ah.row e v (l.take o++l2.take m++l.drop (o+m)))=B') (hd:Nat.blt d n=true) :
    Stp P n we X L B F ⟨some d,.call { callee:= .builtin .copy,args:= #[x,y],argTypes:= #[t,A] },ty,pos,cx,g⟩ (fun _:Unit=>(d,.int .i64 m)::L) (fun _=>B') (fun _=>F):=by
  intro K Q' ac w hac hw hK
  obtain ⟨hu,hsz⟩:=cy (P:=P) w ht
  have how:Own 0 e w v l:=hw.b i hB
  obtain ⟨A2,c2,rfl,h21,h22,h23⟩:=hs w hw
  have hk:=Enc.pos (α:=α)
  unfold Oper.wp
  obtain ⟨gb,cap,cur,rfl,_,hgg,hnc,hcm,hcs,htk⟩:=how.parts (by omega)
  obtain ⟨x0,hx0⟩:∃y0,l2[0]? = some y0:=⟨_,List.getElem?_eq_getElem (by omega)⟩
  obtain ⟨b2,off,rfl,hb2,_⟩:=h23 0 x0 hx0
  have hl3:(l2.take m).length=m:=by rw [List.length_take];omega
  have hsrc:∀j u,((l2.take m).flatMap Enc.cells)[j]? = some u→w.cell? ((⟨b2,off,none⟩:Addr).add j)=some u:=fun j u hj=>by
    obtain ⟨i',z,q,hi',hq,rfl⟩:=gu (l2.take m) j u hj
    obtain ⟨b3,w9,h3,_,hc3⟩:=h23 i' z (by
      rw [List.getElem?_take] at hi'
      split at hi'
      · exact hi'
      · cases hi')
    injection h3 with h3;injection h3 with e1 e2;subst e1;subst e2
    rw [addr_add,← Nat.add_assoc];exact hc3 q u hq
  have hfl:((l2.take m).flatMap Enc.cells).length=m*Enc.k α:=by rw [cq,hl3]
  have hld:=run_loadCells_list (P:=P) w ⟨b2,off,none⟩ ((l2.take m).flatMap Enc.cells) hsrc
  rw [hfl] at hld
  have hx':∃c3,ev L x=some (.slice (some ⟨gb,o*Enc.k α,none⟩) (l.length-o) c3):=by
    rcases hdst with rfl|⟨rfl,rfl⟩
    ·
      have hne:cap≠o:=by omega
      exact ⟨_,by rw [hx];simp only [cJ,if_neg hne];simp [addr_add];rfl⟩
    · exact ⟨_,by rw [hx];simp;rfl⟩
  obtain ⟨c3,hx'⟩:=hx'
  have hle:l.length*Enc.k α≤cap*Enc.k α:=Nat.mul_le_mul_right _ hnc
  have hol:o*Enc.k α+m*Enc.k α≤l.length*Enc.k α:=by rw [← Nat.add_mul];exact Nat.mul_le_mul_right _ hm2
  have hst:=run_storeCells_at P gb (o*Enc.k α) e ((l2.take m).flatMap Enc.cells) 0 cur w hgg (by rw [hfl,hcs];omega) (gp (l2.take m))
  have hrun:(execOp ac.eval ⟨some d,.call { callee:= .builtin .copy,args:= #[x,y],argTypes:= #[t,A] },ty,pos,cx,g⟩).run P w = .ok (.value (.int .i64 m)) (w.setRow gb (cur.toList.take (o*Enc.k α)++(l2.take m).flatMap Enc.cells++cur.toList.drop (o*Enc.k α+((l2.take m).flatMap Enc.cells).length)).toArray):=by
    have hmin:Nat.min l2.length (l.length-o)=m:=by rcases hm with h|h <;> (simp only [Nat.min_def];split <;> omega)
    simp only [Nat.add_zero] at hst
    simp [execOp,resolve,invoke,builtin,hac.ev hx',hac.ev hy,Builtin.copy_,run_underlying hu,Builtin.lenOf,Builtin.firstCells,hsz,hmin,goInt,hld,hst]
  rw [hrun,Oper.upon_value]
  have hll:(l.take o++l2.take m++l.drop (o+m)).length=l.length:=by simp;omega
  have h3:(cur.toList.take (o*Enc.k α)).length=o*Enc.k α:=by rw [List.length_take];first|omega|(simp;omega)
  have:=hw.ly (l':=l.take o++l2.take m++l.drop (o+m)) (cs':=cur.toList.take (o*Enc.k α)++(l2.take m).flatMap Enc.cells++cur.toList.drop (o*Enc.k α+((l2.take m).flatMap Enc.cells).length)) hB hgg hcm hcs (by simp only [List.length_append,h3,List.length_drop,hfl];first|omega|(simp;omega)) (by
      have e2:(o+m)*Enc.k α=o*Enc.k α+((l2.take m).flatMap Enc.cells).length:=by rw [Nat.add_mul,hfl]
      rw [hll,List.flatMap_append,List.flatMap_append,fZ l o,jj,← htk,e2]
      exact lx _ _ _ _ (by rw [hfl];omega) (by simp;omega)) (by omega)
  rw [hll] at this
  exact hK () _ _ (hac.put d _ hd) (hB'▸this)
end
theorem ofInt_u64 (a:Nat)(ha:a<18446744073709551616):(BitVec.ofInt 64 (a:Int)).toNat=a:=by
  rw [BitVec.ofInt_natCast,BitVec.toNat_ofNat];exact Nat.mod_eq_of_lt (by omega)
theorem u64_and1 {m r:Int}(h:r=m % 2∧0≤m∧m≤18446744073709551615):bits .and .u64 m 1=r:=by
  obtain ⟨rfl,h0,h1⟩:=h
  obtain ⟨a,rfl⟩:=Int.eq_ofNat_of_zero_le h0
  show IntKind.u64.wrap ((BitVec.ofInt 64 (a:Int) &&& BitVec.ofInt 64 ((1:Nat):Int)).toNat:Int)=_
  rw [BitVec.toNat_and,ofInt_u64 a (by omega),ofInt_u64 1 (by omega),Nat.and_one_is_mod,IntKind.wrap_u64]
  omega
theorem yL {m e:Int}{j:Nat}(he:e=(j:Int))(hj:j≤64):m.fdiv (2 ^ (min e.toNat 64))=m / ((2 ^ j:Nat):Int):=by
  subst he
  rw [Int.toNat_natCast,Nat.min_eq_left hj]
  have:((2 ^ j:Nat):Int)=2 ^ j:=by simp
  rw [this]
  exact Int.fdiv_eq_ediv_of_nonneg m (by rw [← this];exact Int.natCast_nonneg _)
theorem yM {a b:Nat}{c:Int}(h:c=(b:Int)):((a:Nat):Int).tmod c=((a % b:Nat):Int):=by
  subst h;rw [Int.tmod_eq_emod_of_nonneg (Int.natCast_nonneg a)];exact (Int.natCast_emod a b).symm
section
variable {P:Program} {n:Nat} {we:World} {X:List Nat} {L:Fm} {B F:List ah} {ty xT e:TypeId} {x y:Operand}
end
def qv (places:List (Nat×Nat)):List Value→List (Nat×List Value)→Option (List Value)
  | cells,[]=>some cells
  | cells,(i,v)::rest=>match places[i]? with
    | none=>none
    | some (off,size)=>bif Nat.beq v.length size&&Nat.ble (off+size) cells.length then qv places (cells.take off++v++cells.drop (off+size)) rest else none
theorem oG (places:List (Nat×Nat)):∀ (parts:List (Nat×Value)) (cells:List Value),lr places cells parts=qv places cells (parts.map fun p=>(p.1,p.2.cells.toList))
  | [],cells=>rfl
  | (i,v)::rest,cells=>by
    simp only [lr,List.map_cons,qv]
    cases places[i]? with
    | none=>rfl
    | some q =>
      obtain ⟨off,size⟩:=q
      simp only [oG places rest]
theorem mW:∀ (is:List Nat) (vs:List Value),(is.zip vs).map (fun p=>(p.1,p.2.cells.toList))=is.zip (vs.map fun v=>v.cells.toList)
  | [],vs=>by simp
  | i::is,[]=>by simp
  | i::is,v::vs=>by simp [mW is vs]
theorem vS:([]:List Value).map (fun v=>v.cells.toList)=[]:=rfl
theorem nL {v:Value}{vs:List Value}{u:List Value}{us:List (List Value)}(h:v.cells.toList=u)(hs:vs.map (fun v=>v.cells.toList)=us):(v::vs).map (fun v=>v.cells.toList)=u::us:=by
  rw [List.map_cons,h,hs]
theorem Sl.pH {α:Type}[Enc α]{w:World}{v:Value}{l:List α}(h:Sl w v l):v.cells.toList=[v]:=by rw [h.eu]
section
variable {P:Program} {n:Nat} {we:World} {X:List Nat} {L:Fm} {B F:List ah} {ty:TypeId}
theorem q.vT {t:TypeId}{parts:Array (Nat×Operand)}{places:List (Nat×Nat)}{zs vs cs:List Value}{us:List (List Value)}(ht:tB P t=some (places,zs))(hp:evs L (parts.toList.map (·.2))=some vs)
    (hv:∀w,Wd we X B F w→vs.map (fun v=>v.cells.toList)=us) (hf:qv places zs ((parts.toList.map (·.1)).zip us)=some cs) :
    Qt P n we X L B F (.build t parts) ty (.agg cs.toArray):=fun q1 q2 q3 q4 a w ha hw =>
  q.build ht hp (by rw [oG,mW,hv w hw];exact hf) q1 q2 q3 q4 a w ha hw
end
def sG (Bl Fl:List ah):Prop:= ∀f∈Fl,∃r∈Bl,(∀w,r.ok w→f.ok w) ∧ ∀k∈f.blk,k∈r.blk
theorem oH:sG [] []:=fun f hf=>by cases hf
theorem mX {α:Type}[Enc α]{Bl Fl:List ah}{e:TypeId}{v:Value}{l:List α}(h:sG Bl Fl):sG (ah.row e v l::Bl) (ah.ls v l::Fl):=fun f hf=>by
  rcases List.mem_cons.1 hf with rfl|hf
  · exact ⟨_,List.mem_cons_self ..,fun w hw=>Own.sl hw,fun k hk=>sC k hk⟩
  ·
    obtain ⟨r,hr,h1,h2⟩:=h f hf
    exact ⟨r,List.mem_cons_of_mem _ hr,h1,h2⟩
section
variable {we w w':World} {X:List Nat} {B0 Bl Br B1 F Fl:List ah}
theorem Wd.xm (hw:Wd we X (B0++(Bl++Br)) F w)(hl:sG Bl Fl):Wd we X (B0++Br) (Fl++F) w:=by
  have hs:=hw.sep
  rw [aL,aL] at hs
  obtain ⟨s1,s2,s3⟩:=List.nodup_append.1 hs
  obtain ⟨s4,s5,s6⟩:=List.nodup_append.1 s2
  have hsub:∀k∈blks (B0++Br),k∈blks (B0++(Bl++Br)):=fun k hk=>by
    rw [aL] at hk;rw [aL,aL]
    rcases List.mem_append.1 hk with hk|hk
    · exact List.mem_append.2 (.inl hk)
    · exact List.mem_append.2 (.inr (List.mem_append.2 (.inr hk)))
  refine ⟨hw.upd,fun r hr=>?_,fun r hr=>?_,?_,fun k hk=>hw.own k (hsub k hk),fun k hk=>?_⟩
  ·
    rcases List.mem_append.1 hr with hr|hr
    · exact hw.okB r (List.mem_append.2 (.inl hr))
    · exact hw.okB r (List.mem_append.2 (.inr (List.mem_append.2 (.inr hr))))
  ·
    rcases List.mem_append.1 hr with hr|hr
    ·
      obtain ⟨q,hq,h1,_⟩:=hl r hr
      exact h1 w (hw.okB q (List.mem_append.2 (.inr (List.mem_append.2 (.inl hq)))))
    · exact hw.okF r hr
  ·
    rw [aL]
    exact List.nodup_append.2 ⟨s1,s5,fun a ha b hb e=>s3 a ha b (List.mem_append.2 (.inr hb)) e⟩
  ·
    rw [aL] at hk
    rcases List.mem_append.1 hk with hk|hk
    ·
      obtain ⟨f,hf,hk⟩:=aZ.1 hk
      obtain ⟨q,hq,_,h2⟩:=hl f hf
      have hb:k∈blks Bl:=aZ.2 ⟨q,hq,h2 k hk⟩
      refine ⟨(hw.own k (by rw [aL,aL];exact List.mem_append.2 (.inr (List.mem_append.2 (.inl hb))))).1,fun hc=>?_⟩
      rw [aL] at hc
      rcases List.mem_append.1 hc with hc|hc
      · exact s3 k hc k (List.mem_append.2 (.inl hb)) rfl
      · exact s6 k hb k hc rfl
    · exact ⟨(hw.gI k hk).1,fun hc=>(hw.gI k hk).2 (hsub k hc)⟩
theorem Wd.wider (hw:Wd we X (B0++(Bl++Br)) F w)(hp:Wd w (blks B0++blks Br) (B1++[ah.held w (blks Br)]) [] w'):Wd w (blks B0++blks (Bl++Br)) (B1++[ah.held w (blks (Bl++Br))]) [] w':=by
  have hs:=hw.sep
  rw [aL,aL] at hs
  obtain ⟨s1,s2,s3⟩:=List.nodup_append.1 hs
  obtain ⟨s4,s5,s6⟩:=List.nodup_append.1 s2
  have hbl:∀k∈blks Bl,k<w.heap.size∧k∉blks B0++blks Br:=fun k hk=>by
    refine ⟨(hw.own k (by rw [aL,aL];exact List.mem_append.2 (.inr (List.mem_append.2 (.inl hk))))).1,fun hc=>?_⟩
    rcases List.mem_append.1 hc with hc|hc
    · exact s3 k hc k (List.mem_append.2 (.inl hk)) rfl
    · exact s6 k hk k hc rfl
  have hps:=hp.sep
  rw [cK] at hps
  obtain ⟨p1,p2,p3⟩:=List.nodup_append.1 hps
  have hb1:∀k∈blks B1,k∉blks Bl:=fun k hk hc =>
    (hbl k hc).2 ((hp.own k (by rw [cK];exact List.mem_append.2 (.inl hk))).2 (hbl k hc).1)
  refine ⟨hp.upd.mono fun k hk _=>?_,fun r hr=>?_,fun r hr=>(by cases hr),?_,fun k hk=>?_,fun k hk=>(by cases hk)⟩
  ·
    rcases List.mem_append.1 hk with hk|hk
    · exact List.mem_append.2 (.inl hk)
    · exact List.mem_append.2 (.inr (by rw [aL];exact List.mem_append.2 (.inr hk)))
  ·
    rcases List.mem_append.1 hr with hr|hr
    · exact hp.okB r (List.mem_append.2 (.inl hr))
    ·
      rw [List.mem_singleton.1 hr]
      intro k hk
      have hk:k∈blks (Bl++Br):=hk
      rw [aL] at hk
      rcases List.mem_append.1 hk with hk|hk
      · exact hp.upd.block k (hbl k hk).1 (hbl k hk).2
      · exact hp.okB (ah.held w (blks Br)) (List.mem_append.2 (.inr (List.mem_singleton.2 rfl))) k hk
  ·
    rw [cK,aL]
    refine List.nodup_append.2 ⟨p1,s2,fun a ha b hb e=>?_⟩
    subst e
    rcases List.mem_append.1 hb with hb|hb
    · exact hb1 a ha hb
    · exact p3 a ha a hb rfl
  ·
    rw [cK,aL] at hk
    rcases List.mem_append.1 hk with hk|hk
    ·
      have h1:=hp.own k (by rw [cK];exact List.mem_append.2 (.inl hk))
      refine ⟨h1.1,fun hlt=>?_⟩
      rcases List.mem_append.1 (h1.2 hlt) with h2|h2
      · exact List.mem_append.2 (.inl h2)
      · exact List.mem_append.2 (.inr (by rw [aL];exact List.mem_append.2 (.inr h2)))
    ·
      rcases List.mem_append.1 hk with hk2|hk2
      · exact ⟨Nat.lt_of_lt_of_le (hbl k hk2).1 hp.upd.size,fun _=>List.mem_append.2 (.inr (by rw [aL];exact hk))⟩
      · exact ⟨(hp.own k (by rw [cK];exact List.mem_append.2 (.inr hk2))).1,fun _=>List.mem_append.2 (.inr (by rw [aL];exact hk))⟩
end
section
variable {P:Program} {n:Nat} {we:World} {X:List Nat} {L:Fm} {B F:List ah} {d:Nat} {ty:TypeId} {pos:String} {cx:Array Edge} {g:Option (Nat×Bool)}
theorem s.sH {β:Type}{f:FuncId}{c:Operand}{xs:Array Operand}{ts:Array TypeId}{vs:List Value}{cap:Array Value}{B0 Bl Br F0 Fl:List ah}(is js:List Nat)(G:β→Value)(B1:β→List ah)(hp:cb B is=some (B0++(Bl++Br)))(ha':eL is=true)(hl:sG Bl Fl)(hj:cb (Fl++F) js=some F0)
    (eg:∀args w,(callFunc f args).run P w = .ok (.enter f args) w) (hargs:evs L xs.toList=some vs) (hc:ev L c=some (.func (.func f) #[] cap))
    (hcall:∀w own,Wd we X B F w→Wd w (blks B0++own) (B0++[ah.held w own]) F0 w→Calls P f (vs++cap.toList).toArray w fun e w' => ∃z,e = .returned (G z)∧Wd w (blks B0++own) (B1 z++[ah.held w own]) [] w') (hd:Nat.blt d n=true) :
    Stp P n we X L B F ⟨some d,.call { callee:= .value c,args:=xs,argTypes:=ts },ty,pos,cx,g⟩ (fun z=>(d,G z)::L) (fun z=>B1 z++(Bl++Br)) (fun _=>F):=by
  intro K Q' a w ha hw hK
  have hw2:=hw.vO is hp ha'
  have hw3:=hw2.xm hl
  unfold Oper.wp
  rw [jW ha hargs hc eg,Oper.upon_enter]
  refine (hcall w (blks Br) hw (hw3.nJ hj)).mono fun e w' he=>?_
  obtain ⟨z,rfl,ht⟩:=he
  exact hK z _ _ (ha.put d _ hd) (hw2.after (hw2.wider ht))
end
end Go.Proofs.Ytpipachmngdegaa
end
