import Derived.Test.YtbkfhjaibhnkmaaGreatDoorIMS6
import Derived.Laws.CopyRow
import Derived.Laws.MakeOwn
import Derived.Laws.IdiomStrings
namespace Go.Proofs.YtbkfhjaibhnkmaaGreatDoor
open Go Go.RowKit
set_option linter.unusedVariables false
set_option linter.unusedSimpArgs false
def iA:List Nat→Bool
  | []=>true
  | i::is => !(is.elem i)&&iA is
theorem ze {B:List ag}{i:Nat}{r:ag}(hi:B[i]? = some r)(h:(blks B).Nodup):r.blk.Nodup:=by
 induction B generalizing i with
 | nil=>simp at hi
 | cons q B ih =>
  obtain ⟨h1,h2,_⟩:=List.nodup_append.1 h
  cases i with
  | zero=>simp at hi;subst hi;exact h1
  | succ i=>exact ih (by simpa using hi) h2
theorem qU {B B':List ag}{i:Nat}{is:List Nat}(h:eI B (i::is)=some B'):∃r B'',B[i]? = some r∧eI B is=some B''∧B'=r::B'':=by
 simp only [eI] at h
 split at h
 ·
  rename_i r B'' h1 h2
  injection h with h
  exact ⟨r,B'',h1,h2,h.symm⟩
 ·cases h
theorem ou {B:List ag}:∀ {is:List Nat} {B':List ag},eI B is=some B' → ∀r∈B',∃i∈is,B[i]? = some r
 | [],B',h,r,hr=>by simp [eI] at h;subst h;simp at hr
 | i::is,B',h,r,hr=>by
  obtain ⟨r0,B'',h1,h2,rfl⟩:=qU h
  rcases List.mem_cons.1 hr with rfl|hr
  ·exact ⟨i,by simp,h1⟩
  ·obtain ⟨j,hj,hq⟩:=ou h2 r hr;exact ⟨j,by simp [hj],hq⟩
theorem mb {B:List ag}(hn:(blks B).Nodup):∀ {is:List Nat} {B':List ag},eI B is=some B'→iA is=true→(blks B').Nodup
 | [],B',h,_=>by simp [eI] at h;subst h;simp [blks]
 | i::is,B',h,ha=>by
  obtain ⟨r,B'',h1,h2,rfl⟩:=qU h
  simp only [iA,Bool.and_eq_true,Bool.not_eq_true'] at ha
  refine List.nodup_append.2 ⟨ze h1 hn,mb hn h2 ha.2,fun a ha' b hb e=>?_⟩
  subst e
  obtain ⟨q,hq,hqk⟩:=cW.1 hb
  obtain ⟨j,hj,hjq⟩:=ou h2 q hq
  refine gq h1 hjq (fun e=>?_) hn a ha' hqk
  subst e
  have:=ha.1;rw [List.elem_eq_contains] at this;simp at this;exact this hj
theorem Wd.uO {we w:World}{X:List Nat}{B F B' F':List ag}(is js:List Nat)(hi:eI B is=some B')(hj:eI F js=some F')(ha:iA is=true)(hw:Wd we X B F w):Wd we X B' F' w:=by
 have hm:∀r∈B',r∈B:=fun r hr=>by obtain ⟨i,_,h⟩:=ou hi r hr;exact List.mem_of_getElem? h
 have hF:=kF hj
 have hb:∀k∈blks B',k∈blks B:=fun k hk=>by obtain ⟨r,hr,hk⟩:=cW.1 hk;exact cW.2 ⟨r,hm r hr,hk⟩
 exact ⟨hw.upd,fun r h=>hw.okB r (hm r h),fun r h=>hw.okF r (hF r h),mb hw.sep hi ha,fun k hk=>hw.own k (hb k hk),fun k hk=>by
  obtain ⟨r,hr,hk⟩:=cW.1 hk
  have:=hw.nF k (cW.2 ⟨r,hF r hr,hk⟩)
  exact ⟨this.1,fun h=>this.2 (hb k h)⟩⟩
theorem aK{we:World}{X:List Nat}{B F B' F':List ag}(is js:List Nat)(hi:eI B is=some B')(hj:eI F js=some F')(ha:iA is=true):∀w,Wd we X B F w→Wd we X B' F' w:=fun _=>Wd.uO is js hi hj ha
theorem Wd.GD {we w:World}{X:List Nat}{B F B':List ag}(is:List Nat)(hi:eI B is=some B')(ha:iA is=true)(hw:Wd we X B F w):Wd we X B' F w:=by
 have hm:∀r∈B',r∈B:=fun r hr=>by obtain ⟨i,_,h⟩:=ou hi r hr;exact List.mem_of_getElem? h
 have hb:∀k∈blks B',k∈blks B:=fun k hk=>by obtain ⟨r,hr,hk⟩:=cW.1 hk;exact cW.2 ⟨r,hm r hr,hk⟩
 exact ⟨hw.upd,fun r h=>hw.okB r (hm r h),hw.okF,mb hw.sep hi ha,fun k hk=>hw.own k (hb k hk),fun k hk=>⟨(hw.nF k hk).1,fun h=>(hw.nF k hk).2 (hb k h)⟩⟩
structure Hnd (B0:List ag)(w:World):Prop where
  ok:∀r∈B0,r.ok w
  sep:(blks B0).Nodup
  lt:∀k∈blks B0,k<w.heap.size
structure Turned (B0 B1:List ag)(w w':World):Prop where
  upd:kC (blks B0) w w'
  ok:∀r∈B1,r.ok w'
  sep:(blks B1).Nodup
  own:∀k∈blks B1,k<w'.heap.size∧(k∈blks B0∨w.heap.size≤k)
def ag.all (B:List ag):ag:=⟨blks B,fun w => ∀r∈B,r.ok w,fun w w' h ho r hr=>r.loc w w' (fun k hk=>h k (cW.2 ⟨r,hr,hk⟩)) (ho r hr)⟩
theorem Wd.gather {we w:World}{X:List Nat}{B0 Br F:List ag}(hw:Wd we X (B0++Br) F w):Wd we X (ag.all B0::Br) F w:=by
 have e:blks (ag.all B0::Br)=blks (B0++Br):=by rw [cO];rfl
 exact ⟨hw.upd,fun r hr=>(List.mem_cons.1 hr).elim (fun h=>h▸fun q hq=>hw.okB q (List.mem_append.2 (.inl hq))) fun h=>hw.okB r (List.mem_append.2 (.inr h)),hw.okF,e▸hw.sep,e▸hw.own,e▸hw.nF⟩
theorem Wd.C8 {we w:World}{X:List Nat}{B0 Br F:List ag}(hw:Wd we X (ag.all B0::Br) F w):Wd we X (B0++Br) F w:=by
 have e:blks (ag.all B0::Br)=blks (B0++Br):=by rw [cO];rfl
 exact ⟨hw.upd,fun r hr=>(List.mem_append.1 hr).elim (fun h=>hw.okB (ag.all B0) (List.mem_cons_self ..) r h) fun h=>hw.okB r (List.mem_cons_of_mem _ h),hw.okF,e▸hw.sep,e▸hw.own,e▸hw.nF⟩
theorem Wd.turned {we w w':World}{X:List Nat}{B0 B1 Br F:List ag}(hw:Wd we X (B0++Br) F w)(h:Turned B0 B1 w w'):Wd we X (B1++Br) F w' :=
 (hw.gather.turn (i:=0) (r:=ag.all B0) (r':=ag.all B1) rfl h.upd h.ok h.sep h.own).C8
theorem Wd.held {we w:World}{X:List Nat}{B0 Br F:List ag}(hw:Wd we X (B0++Br) F w):Hnd B0 w :=
 ⟨fun r hr=>hw.okB r (List.mem_append.2 (.inl hr)),by have:=hw.sep;rw [cO] at this;exact (List.nodup_append.1 this).1,fun k hk=>(hw.own k (by rw [cO];exact List.mem_append.2 (.inl hk))).1⟩
theorem Wd.left {w w':World}{B0 B1 F:List ag}(hw:Wd w (blks B0) B1 F w'):Turned B0 B1 w w' :=
 ⟨hw.upd,hw.okB,hw.sep,fun k hk=>⟨(hw.own k hk).1,by
  by_cases h:k<w.heap.size
  ·exact .inl ((hw.own k hk).2 h)
  ·exact .inr (by omega)⟩⟩
theorem Hnd.start {B0:List ag}{w:World}(h:Hnd B0 w):Wd w (blks B0) B0 [] w :=
 ⟨kC.refl _ _,h.ok,by simp,h.sep,fun k hk=>⟨h.lt k hk,fun _=>hk⟩,by simp [blks]⟩
def ag.ls {α:Type}[Enc α](v:Value)(l:List α):ag:=⟨if l.isEmpty then [] else eO v,fun w=>Sl w v l,fun w w' h hs=>by
  cases l with
  | nil =>
    obtain ⟨A,c,rfl,h1,h2,h3⟩:=hs
    exact ⟨A,c,rfl,h1,h2,fun i x hx=>by simp at hx⟩
  | cons y l=>exact Ak (by simpa using h) hs⟩
theorem Wd.bq {we w:World}{X:List Nat}{B F:List ag}{α:Type}[Enc α]{v:Value}{l:List α}(i:Nat)(h:F[i]? = some (ag.ls v l))(hw:Wd we X B F w):Sl w v l:=hw.f i h
theorem bJ{we:World}{X:List Nat}{B F:List ag}{α:Type}[Enc α]{v:Value}{l:List α}(i:Nat)(h:F[i]? =some (ag.ls v l)):∀w,Wd we X B F w→Sl w v l:=fun _=>Wd.bq i h
theorem Er {w:World}{α:Type}[Enc α]{v:Value}{l:List α}(h:Sl w v l):∀k∈(ag.ls v l).blk,k<w.heap.size:=fun k hk=>by
 cases l with
 | nil=>simp [ag.ls] at hk
 | cons y l =>
  obtain ⟨A,c,rfl,h1,h2,h3⟩:=h
  obtain ⟨b,off,rfl,hb,_⟩:=h3 0 y rfl
  simp [ag.ls,eO] at hk;subst hk;exact hb
section
variable {P:Program} {n:Nat} {we:World} {X:List Nat} {Q:Exit→Act→World→Prop} {k k':List It} {L:Fm} {B F:List ag} {ops rest:List Oper}
variable {dst:Option Nat} {d:Nat} {ty:TypeId} {pos:String} {eV:Array Edge} {g:Option (Nat×Bool)} {v:Value}
variable {x y:Operand} {xT yT t e:TypeId} {α:Type} [Enc α] {l:List α}
theorem s.Ap {β:Type}{f:FuncId}{c:Operand}{xs:Array Operand}{ts:Array TypeId}{vs:List Value}{cap:Array Value}{B0 Br:List ag}(is:List Nat)(G:β→Value)(B1:β→List ag)(hp:eI B is=some (B0++Br))(ha':iA is=true)
 (eg:∀args w,(callFunc f args).run P w = .ok (.enter f args) w) (hargs:evs L xs.toList=some vs) (hc:ev L c=some (.func (.func f) #[] cap))
 (hcall:∀w,Wd we X B F w→Hnd B0 w→Calls P f (vs++cap.toList).toArray w fun e w' => ∃z,e = .returned (G z)∧Turned B0 (B1 z) w w') (hd:Nat.blt d n=true) :
 Stp P n we X L B F ⟨some d,.call { callee:= .value c,args:=xs,argTypes:=ts },ty,pos,eV,g⟩ (fun z=>(d,G z)::L) (fun z=>B1 z++Br) (fun _=>F):=by
 intro K Q' a w ha hw hK
 have hw2:=hw.GD is hp ha'
 unfold Oper.wp
 rw [oh ha hargs hc eg,Oper.upon_enter]
 refine (hcall w hw hw2.held).mono fun e w' he=>?_
 obtain ⟨z,rfl,ht⟩:=he
 exact hK z _ _ (ha.put d _ hd) (hw2.turned ht)
theorem q.qV {a:Addr}(hx:ev L x=some (.pointer (some a))):Qt P n we X L B F (.nilCheck x) ty (.pointer (some a)):=fun _ _ _ _ q w ha hw=>by
 simp [execOp,ha.ev hx]
theorem q.max {kd:IntKind}{a b r:Int}{ts:Array TypeId}(hx:ev L x=some (.int kd a))(hy:ev L y=some (.int kd b))(hr:max a b=r):Qt P n we X L B F (.call { callee:= .builtin .max,args:= #[x,y],argTypes:=ts }) ty (.int kd r):=fun _ _ _ _ q w ha hw=>by
 have e:(if b>a then b else a)=r:=by rw [← hr];split <;> omega
 simp [execOp,resolve,invoke,builtin,ha.ev hx,ha.ev hy,Builtin.max_,Builtin.max2,e]
theorem q.cat {a b:ByteArray}(hx:ev L x=some (.string a))(hy:ev L y=some (.string b))(h:a.size+b.size≤9223372036854775807):Qt P n we X L B F (.binOp .add xT x y yT) ty (.string (a++b)):=fun _ _ _ _ q w ha hw=>by
 have:¬ ((a.size+b.size:Nat):Int)>IntKind.i64.max:=by
  have:IntKind.i64.max=9223372036854775807:=by decide
  omega
 simp only [execOp,ha.ev hx,ha.ev hy,binOp,Op.stringOp]
 rw [if_neg this]
 simp [eqGuard]
theorem q.Iv {m:Int}(hx:ev L x=some (fc m))(hm:¬ m=0)(ht:P.underlying 82=some (.int .i64)):Qt P n we X L B F (.typeAssert x xT 82 true) ty (.tuple #[.int .i64 m,.bool true]):=fun _ _ _ _ q w ha hw=>by
 rw [oc hm] at hx
 simp [execOp,ha.ev hx,Instr.typeAssert,run_underlying ht]
instance:Enc UInt8:=⟨1,fun b=>[.int .u8 (b.toNat:Int)],fun _=>rfl,fun _ u hu=>by simp at hu;subst hu;rfl,by decide⟩
theorem q.Ij {l:List UInt8}(hs:∀w,Wd we X B F w→Sl w v l)(hx:ev L x=some v)(h1:oV P xT=some (e,1))(h2:P.underlying e=some (.int .u8))(h3:P.underlying yT=some .string):Qt P n we X L B F (.convert xT yT x) ty (.string ⟨l.toArray⟩):=fun _ _ _ _ q w ha hw=>by
 obtain ⟨A,c,rfl,hl,hm,hc⟩:=hs w hw
 obtain ⟨hu,_⟩:=e7 (P:=P) w h1
 cases l with
 | nil =>
  have:(convert xT yT (.slice A 0 c)).run P w = .ok (.string ⟨#[]⟩) w:=by
   cases A with
   | none=>rw [run_convert_bytes_string w xT yT e none 0 c hu h2 h3];rfl
   | some A=>exact run_convert_bytes_back (P:=P) w xT yT e A c [] hu h2 h3 (by simp)
  have hx':ev L x=some (.slice A 0 c):=hx
  simp only [execOp,ha.ev hx',Sem.run_bind,this,Result.andThen_ok,Sem.run_pure]
 | cons b l =>
  obtain ⟨bk,off,rfl,hb,_⟩:=hc 0 b rfl
  have:=run_convert_bytes_back (P:=P) w xT yT e ⟨bk,off,none⟩ c (b::l) hu h2 h3 (fun j hj=>by
   obtain ⟨b',off',hA,_,hcc⟩:=hc j (b::l)[j] (List.getElem?_eq_getElem hj)
   injection hA with hA;injection hA with hb1 ho1;subst hb1;subst ho1
   have:=hcc 0 _ (show (Enc.cells (b::l)[j])[0]? = some (.int .u8 ((b::l)[j].toNat:Int)) from rfl)
   rw [addr_add]
   simpa [Enc.k] using this)
  simp only [execOp,ha.ev hx,Sem.run_bind,this,Result.andThen_ok,Sem.run_pure]
theorem qW (cs us:List Value)(o m:Nat)(h:o+us.length≤m)(hm:m≤cs.length):(cs.take o++us++cs.drop (o+us.length)).take m=(cs.take m).take o++us++(cs.take m).drop (o+us.length):=by
 rw [List.take_take,Nat.min_eq_left (by omega),List.append_assoc,List.append_assoc,List.take_append,List.take_append,List.length_take,Nat.min_eq_left (by omega),List.take_of_length_le (l:=cs.take o) (by simp;omega),List.take_of_length_le (l:=us) (by omega),List.drop_take]
 congr 3;omega
theorem qX:∀ (l:List α) (j:Nat) (z:α),j<l.length→(l.set j z).flatMap Enc.cells=(l.flatMap Enc.cells).take (j*Enc.k α)++Enc.cells z++(l.flatMap Enc.cells).drop (j*Enc.k α+Enc.k α)
 | [],j,z,h=>by simp at h
 | y::l,0,z,h=>by
  have:=Enc.len y
  simp only [List.set_cons_zero,List.flatMap_cons,Nat.zero_mul,List.take_zero,List.nil_append,Nat.zero_add]
  rw [List.drop_append_of_le_length (by omega),List.drop_of_length_le (by omega)];simp
 | y::l,j+1,z,h=>by
  have hy:=Enc.len y
  have ih:=qX l j z (by simpa using h)
  simp only [List.set_cons_succ,List.flatMap_cons,ih]
  have e1:(j+1)*Enc.k α=Enc.k α+j*Enc.k α:=by rw [Nat.add_mul];omega
  rw [e1,← hy,List.take_length_add_append]
  have e2:(Enc.cells y).length+j*(Enc.cells y).length+(Enc.cells y).length=(Enc.cells y).length+(j*(Enc.cells y).length+(Enc.cells y).length):=by omega
  rw [e2,List.drop_length_add_append];simp [List.append_assoc]
theorem s.Iw {j:Nat}{z z':α}{u:Value}{us:List Value}(i:Nat)(B':List ag)(hB:B[i]? = some (ag.row e v l))(hj:l[j]? = some z')(hx:ev L x=some (ep v j (Enc.k α) 0))(hy:ev L y=some u)(hu:u.cells=us.toArray)(GF:us=Enc.cells z)
 (ht:(lf P xT=some us.length∨lg P xT=true∧us.length=1)) (hB':B.set i (ag.row e v (l.set j z))=B') :
 Stp P n we X L B F ⟨none,.store xT x y,ty,pos,eV,g⟩ (fun _:Unit=>L) (fun _=>B') (fun _=>F):=by
 intro K Q' a w ha hw hK
 have hjl:j<l.length:=(List.getElem?_eq_some_iff.1 hj).1
 have how:Own 0 e w v l:=hw.b i hB
 obtain ⟨hlen,hn|⟨gb,cap,cur,rfl,_,hgg,hnc,hcm,hcs,htk⟩⟩:=how
 ·omega
 have hk:us.length=Enc.k α:=by rw [GF,Enc.len]
 have hjk:j*Enc.k α+us.length≤l.length*Enc.k α:=by
  rw [hk];have:(j+1)*Enc.k α≤l.length*Enc.k α:=Nat.mul_le_mul_right _ hjl
  rw [Nat.add_mul] at this;omega
 have hlc:l.length*Enc.k α≤cap*Enc.k α:=Nat.mul_le_mul_right _ hnc
 have hsz:(sizeOf xT).run P w = .ok us.length w:=by
  rcases ht with h|⟨h,h'⟩
  ·exact (qo (P:=P) w h).2
  ·rw [h'];exact (qp (P:=P) w h).2
 have hst:=run_storeCells_at P gb (j*Enc.k α) e us 0 cur w hgg (by omega) (fun v hv=>Enc.one z v (GF▸hv))
 have hrun:(execOp a.eval ⟨none,.store xT x y,ty,pos,eV,g⟩).run P w = .ok .skip (w.setRow gb (cur.toList.take (j*Enc.k α)++us++cur.toList.drop (j*Enc.k α+us.length)).toArray):=by
  simp only [execOp,ha.ev hx,ha.ev hy,ep,Instr.storeAt,Instr.sureAddr,storeVar,hu,Sem.run_bind,Sem.run_pure,Result.andThen_ok,hsz]
  simp only [List.size_toArray,ne_eq,not_true_eq_false,if_false,Nat.add_zero,Nat.zero_add] at hst ⊢
  simp only [hst,Result.andThen_ok]
 unfold Oper.wp
 rw [hrun,Oper.upon_skip]
 subst hB'
 refine hK () _ _ (by simpa [Act.put] using ha) (hw.turn hB (lh w gb _) ?_ (by simp [ag.row,eO]) (fun k hk'=>?_))
 ·
  have hfl:(l.set j z).flatMap Enc.cells=(l.flatMap Enc.cells).take (j*Enc.k α)++us++(l.flatMap Enc.cells).drop (j*Enc.k α+us.length):=by
   rw [GF,Enc.len];exact qX l j z hjl
  refine ⟨by rw [dO],.inr ⟨gb,cap,_,by simp,Nat.zero_le _,setRow_heap w gb _ _ e _ hgg,by simpa using hnc,hcm,?_,?_⟩⟩
  ·simp;omega
  ·
   rw [hfl]
   have h1:(l.flatMap Enc.cells).length=l.length*Enc.k α:=dO l
   rw [← htk]
   simp only [List.length_set]
   exact qW _ _ _ _ (by omega) (by simp;omega)
 ·
  simp [ag.row,eO] at hk';subst hk'
  exact ⟨by simp [World.setRow];exact (Array.getElem?_eq_some_iff.1 hgg).1,.inl (by simp [ag.row,eO])⟩
theorem s.copy {u:Value}{l2:List α}{A:TypeId}(i:Nat)(B':List ag)(hB:B[i]? = some (ag.row e v l))(hs:∀w,Wd we X B F w→Sl w u l2)(hx:ev L x=some v)(hy:ev L y=some u)(hk:Enc.k α=1)(ht:oV P t=some (e,1))(hlen:l.length=l2.length)(hB':B.set i (ag.row e v l2)=B')(hd:Nat.blt d n=true) :
 Stp P n we X L B F ⟨some d,.call { callee:= .builtin .copy,args:= #[x,y],argTypes:= #[t,A] },ty,pos,eV,g⟩ (fun _:Unit=>(d,.int .i64 l2.length)::L) (fun _=>B') (fun _=>F):=by
 intro K Q' a w ha hw hK
 obtain ⟨hu,hsz⟩:=e7 (P:=P) w ht
 have hsize:(P.info? e).map (·.size)=some 1:=by
  unfold oV at ht;rw [hu] at ht
  cases hi:P.info? e with
  | none=>simp [hi] at ht
  | some i0=>simp [hi] at ht;simp [ht]
 have how:Own 0 e w v l:=hw.b i hB
 obtain ⟨hl0,hn|⟨gb,cap,cur,rfl,_,hgg,hnc,hcm,hcs,htk⟩⟩:=how
 ·
  obtain ⟨rfl,hl⟩:=hn
  have hl':l=[]:=List.eq_nil_of_length_eq_zero hl
  subst hl'
  have hl2:l2=[]:=List.eq_nil_of_length_eq_zero (by simpa using hlen.symm)
  subst hl2
  obtain ⟨A2,c,rfl,h1,h2,h3⟩:=hs w hw
  have hcp:=run_copy_none (P:=P) w t A ty e none A2 0 0 0 c hu hsize (by simp)
  have hrun:(execOp a.eval ⟨some d,.call { callee:= .builtin .copy,args:= #[x,y],argTypes:= #[t,A] },ty,pos,eV,g⟩).run P w = .ok (.value (.int .i64 0)) w:=by
   have hy':ev L y=some (.slice A2 0 c):=hy
   simp [execOp,resolve,invoke,builtin,ha.ev hx,ha.ev hy',hcp,goInt]
  unfold Oper.wp
  rw [hrun,Oper.upon_value]
  refine hK () _ _ (ha.put d _ hd) ?_
  have:B.set i (ag.row e (.slice none 0 0) ([]:List α))=B:=List.ext_getElem? fun j=>by
   rw [List.getElem?_set];split
   ·rename_i hij;subst hij;rw [hB];simp;exact (List.getElem?_eq_some_iff.1 hB).1
   ·rfl
  rw [← hB',this];exact hw
 ·
  have h2:=hs w hw
  obtain ⟨A2,c,rfl,h21,h22,h23⟩:=h2
  have hfl:(l2.flatMap Enc.cells).length=l2.length:=by rw [dO,hk,Nat.mul_one]
  by_cases he:l2=[]
  ·
   subst he
   have hl':l=[]:=List.eq_nil_of_length_eq_zero (by simpa using hlen)
   subst hl'
   have hcp:=run_copy_none (P:=P) w t A ty e (some ⟨gb,0,none⟩) A2 0 cap 0 c hu hsize (by simp)
   have hrun:(execOp a.eval ⟨some d,.call { callee:= .builtin .copy,args:= #[x,y],argTypes:= #[t,A] },ty,pos,eV,g⟩).run P w = .ok (.value (.int .i64 0)) w:=by
    have hy':ev L y=some (.slice A2 0 c):=hy
    have hx':ev L x=some (.slice (some ⟨gb,0,none⟩) 0 cap):=hx
    simp [execOp,resolve,invoke,builtin,ha.ev hx',ha.ev hy',hcp,goInt]
   unfold Oper.wp
   rw [hrun,Oper.upon_value]
   refine hK () _ _ (ha.put d _ hd) ?_
   have:B.set i (ag.row e (.slice (some ⟨gb,0,none⟩) ([]:List α).length cap) ([]:List α))=B:=List.ext_getElem? fun j=>by
    rw [List.getElem?_set];split
    ·rename_i hij;subst hij;rw [hB];simp;exact (List.getElem?_eq_some_iff.1 hB).1
    ·rfl
   rw [← hB',this];exact hw
  ·
   obtain ⟨y0,hy0⟩:∃y0,l2[0]? = some y0:=⟨_,List.getElem?_eq_getElem (by cases l2;exact absurd rfl he;simp)⟩
   obtain ⟨b2,off,rfl,hb2,_⟩:=h23 0 y0 hy0
   have hsrc:∀j u,(l2.flatMap Enc.cells)[j]? = some u→w.cell? ((⟨b2,off,none⟩:Addr).add j)=some u:=fun j u hj=>by
    obtain ⟨i',z,q,hi',hq,rfl⟩:=kE l2 j u hj
    obtain ⟨b',o',hA,_,hc⟩:=h23 i' z hi'
    injection hA with hA;injection hA with hA1 hA2;subst hA1;subst hA2
    rw [addr_add,← Nat.add_assoc];exact hc q u hq
   have hcap:cur.size=cap:=by rw [hcs,hk,Nat.mul_one]
   have hcp:=run_copy_row (P:=P) w t A ty e gb 0 l.length cap ⟨b2,off,none⟩ l2.length c cur e (l2.flatMap Enc.cells) hu hsize hgg (by rw [hfl,hlen];exact (Nat.min_self _).symm) hsrc (by rw [hfl];omega) (jC l2)
   have hrun:(execOp a.eval ⟨some d,.call { callee:= .builtin .copy,args:= #[x,y],argTypes:= #[t,A] },ty,pos,eV,g⟩).run P w = .ok (.value (.int .i64 l2.length)) (w.setRow gb (cur.toList.take 0++l2.flatMap Enc.cells++cur.toList.drop (0+(l2.flatMap Enc.cells).length)).toArray):=by
    simp only [execOp,Sem.run_bind,resolve,invoke,builtin,ha.ev hx,ha.ev hy,Sem.run_pure,Result.andThen_ok,List.map_toArray,List.map_cons,List.map_nil]
    rw [hcp];simp [goInt,hfl]
   unfold Oper.wp
   rw [hrun,Oper.upon_value]
   subst hB'
   refine hK () _ _ (ha.put d _ hd) (hw.turn hB (lh w gb _) ?_ (by simp [ag.row,eO]) (fun k hk'=>?_))
   ·
    refine ⟨by rw [dO],.inr ⟨gb,cap,_,by rw [hlen],Nat.zero_le _,setRow_heap w gb _ _ e _ hgg,by omega,hcm,?_,?_⟩⟩
    ·simp [hfl,hk];omega
    ·rw [hk,Nat.mul_one,← hfl];simp
   ·
    simp [ag.row,eO] at hk';subst hk'
    exact ⟨by simp [World.setRow];exact (Array.getElem?_eq_some_iff.1 hgg).1,.inl (by simp [ag.row,eO])⟩
end
end Go.Proofs.YtbkfhjaibhnkmaaGreatDoor
