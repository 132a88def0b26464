import Derived.Test.YtnmpibjlnninjaaGreatDoorKT3
import Derived.Lib.AppendZerosOnto
import Derived.Lib.Overlaps
namespace Go.Proofs.YtnmpibjlnninjaaGreatDoor
set_option linter.unusedVariables false
set_option linter.unusedSimpArgs false
set_option maxRecDepth 100000
set_option maxHeartbeats 90000000
section
open Go Go.RowKit
def lX (v:Value):Nat:=match v with | .slice _ _ c=>c|_=>0
def sl2 (v:Value)(lo hi k:Nat):Value:=match v with | .slice A _ c => .slice (if c=lo then A else A.map (·.add (lo*k))) (hi-lo) (c-lo)|_=>undef
def FK (v:Value)(lo hi m k:Nat):Value:=match v with | .slice A _ c => .slice (if m=lo then A else A.map (·.add (lo*k))) (hi-lo) (m-lo)|_=>undef
section
variable {P:Program} {n:Nat} {we:World} {X:List Nat} {Q:Exit->Act->World->Prop} {k k':List It} {L:Fm} {B F:List ah} {ops rest:List Oper}
variable {dst:Option Nat} {d:Nat} {op:Op} {ty:TypeId} {pos:String} {dr:Array Edge} {g:Option (Nat×Bool)} {g':Nat×Bool} {v:Value}
variable {x y z:Operand} {xT yT t e:TypeId} {kd T0 Yr:IntKind} {α:Type} [Enc α] {l:List α}
theorem q.cR {m:Int}{i kk:Nat}(hs:∀w,Wd we X B F w->Sl w v l)(hx:ev L x=some v)(hy:ev L y=some (.int kd m))(ht:lV P xT=some (e,kk))(hm:m=(i:Int))(hi:i<=l.length) :
 Qt P n we X L B F (.slice xT x (some y) none none) ty (YtnmpibjlnninjaaGreatDoor.cR v i kk):=fun _ _ _ _ a w ha hw=>by
 obtain ⟨A,c,rfl,h1,h2,h3⟩:=hs w hw
 obtain ⟨hu,hz⟩:=eE (P:=P) w ht
 subst hm
 simp only [execOp,ha.ev hx,Option.map_some,Option.map_none,ha.ev hy,Instr.sliceAt,Sem.run_bind,run_underlying hu,Result.andThen_ok,Instr.slice,Instr.sliceBounds,Instr.sliceBound,asIntOf,Sem.run_pure]
 rw [if_pos ⟨ae,ae⟩]
 simp [hz,YtnmpibjlnninjaaGreatDoor.cR]
theorem q.T1 {m:Int}{i kk:Nat}(hs:∀w,Wd we X B F w->Sl w v l)(hx:ev L x=some v)(hy:ev L y=some (.int kd m))(ht:lV P xT=some (e,kk))(hm:m=(i:Int))(hi:i<=lX v) :
 Qt P n we X L B F (.slice xT x none (some y) none) ty (YtnmpibjlnninjaaGreatDoor.jJ v i):=fun _ _ _ _ a w ha hw=>by
 obtain ⟨A,c,rfl,h1,h2,h3⟩:=hs w hw
 obtain ⟨hu,hz⟩:=eE (P:=P) w ht
 subst hm
 simp only [lX] at hi
 simp only [execOp,ha.ev hx,Option.map_some,Option.map_none,ha.ev hy,Instr.sliceAt,Sem.run_bind,run_underlying hu,Result.andThen_ok,Instr.slice,Instr.sliceBounds,Instr.sliceBound,asIntOf,Sem.run_pure]
 rw [if_pos ⟨ae,ae⟩]
 simp [hz,YtnmpibjlnninjaaGreatDoor.jJ]
 cases A <;> simp [Addr.add_zero']
theorem q.sl2 {m r:Int}{i j kk:Nat}(hs:∀w,Wd we X B F w->Sl w v l)(hx:ev L x=some v)(hy:ev L y=some (.int kd m))(hz':ev L z=some (.int T0 r))(ht:lV P xT=some (e,kk))(hm:m=(i:Int))(hr:r=(j:Int))(hij:i<=j)(hj:j<=lX v) :
 Qt P n we X L B F (.slice xT x (some y) (some z) none) ty (YtnmpibjlnninjaaGreatDoor.sl2 v i j kk):=fun _ _ _ _ a w ha hw=>by
 obtain ⟨A,c,rfl,h1,h2,h3⟩:=hs w hw
 obtain ⟨hu,hz⟩:=eE (P:=P) w ht
 subst hm;subst hr
 simp only [lX] at hj
 simp only [execOp,ha.ev hx,Option.map_some,Option.map_none,ha.ev hy,ha.ev hz',Instr.sliceAt,Sem.run_bind,run_underlying hu,Result.andThen_ok,Instr.slice,Instr.sliceBounds,Instr.sliceBound,asIntOf,Sem.run_pure]
 rw [if_pos ⟨ae,ae⟩]
 simp only [Sem.run_bind,Sem.run_pure,Result.andThen_ok]
 rw [if_pos ⟨ae,ae⟩]
 simp [hz,YtnmpibjlnninjaaGreatDoor.sl2]
theorem q.FK {m r s:Int}{i j q' kk:Nat}{zz:Operand}(hs:∀w,Wd we X B F w->Sl w v l)(hx:ev L x=some v)(hy:ev L y=some (.int kd m))(hz':ev L z=some (.int T0 r))(hzz:ev L zz=some (.int Yr s))(ht:lV P xT=some (e,kk))(hm:m=(i:Int))(hr:r=(j:Int))(Ys:s=(q':Int))(hij:i<=j)(hj:j<=q')(hq:q'<=l.length) :
 Qt P n we X L B F (.slice xT x (some y) (some z) (some zz)) ty (YtnmpibjlnninjaaGreatDoor.FK v i j q' kk):=fun _ _ _ _ a w ha hw=>by
 obtain ⟨A,c,rfl,h1,h2,h3⟩:=hs w hw
 obtain ⟨hu,hz⟩:=eE (P:=P) w ht
 subst hm;subst hr;subst Ys
 simp only [execOp,ha.ev hx,Option.map_some,Option.map_none,ha.ev hy,ha.ev hz',ha.ev hzz,Instr.sliceAt,Sem.run_bind,run_underlying hu,Result.andThen_ok,Instr.slice,Instr.sliceBounds,Instr.sliceBound,asIntOf,Sem.run_pure]
 rw [if_pos ⟨ae,ae⟩]
 simp only [Sem.run_bind,Sem.run_pure,Result.andThen_ok]
 rw [if_pos ⟨ae,ae⟩]
 simp only [Sem.run_bind,Sem.run_pure,Result.andThen_ok]
 rw [if_pos ⟨ae,ae⟩]
 simp [hz,YtnmpibjlnninjaaGreatDoor.FK]
theorem q.cap (hs:∀w,Wd we X B F w->Sl w v l)(hx:ev L x=some v)(ht:P.underlying xT=some (.slice e)):Qt P n we X L B F (.call { callee:= .builtin .cap,args:= #[x],argTypes:= #[xT]}) ty (.int .i64 (lX v)):=fun _ _ _ _ a w ha hw=>by
 obtain ⟨A,c,rfl,_⟩:=hs w hw
 simp [execOp,resolve,invoke,builtin,ha.ev hx,Builtin.cap_,run_underlying ht,goInt,lX]
theorem Own.parts {base:Nat}{w:World}(h:Own base e w v l)(h0:0<l.length):∃gb cap cur,v = .slice (some ⟨gb,0,none⟩) l.length cap/\base<=gb/\w.heap[gb]? = some (.cells cur e (0,0))/\l.length<=cap/\cap<=maxLen/\cur.size=cap*Enc.k α/\cur.toList.take (l.length*Enc.k α)=l.flatMap Enc.cells:=by
 rcases h.2 with ⟨_,h1⟩ | h1
 .omega
 omega
theorem Wd.rV {w:World}{gb cap:Nat}{cur:Array Value}{i:Nat}{l':List α}{cs':List Value}(hw:Wd we X B F w)(hB:B[i]? = some (ah.row e (.slice (some ⟨gb,0,none⟩) l.length cap) l))
 (hgg:w.heap[gb]? = some (.cells cur e (0,0))) (hcap:cap<=maxLen) (hcs:cur.size=cap*Enc.k α) (hsz:cs'.length=cur.size) (htk:cs'.take (l'.length*Enc.k α)=l'.flatMap Enc.cells) (hl':l'.length<=cap) :
 Wd we X (B.set i (ah.row e (.slice (some ⟨gb,0,none⟩) l'.length cap) l')) F (w.setRow gb cs'.toArray):=by
 refine hw.turn hB (oq w gb _) ?_ (by simp [ah.row,eA]) (fun k hk'=>?_)
 .exact ⟨by rw [dL],.inr ⟨gb,cap,_,rfl,Nat.zero_le _,setRow_heap w gb _ _ e _ hgg,hl',hcap,au,ae⟩⟩
 grind [ah.row,eA,World.setRow,Array.getElem?_eq_some_iff]
theorem j8:∀ (l:List α) (a:Nat),(l.take a).flatMap Enc.cells=(l.flatMap Enc.cells).take (a*Enc.k α)
 | [],a=>by simp
 | x::l,0=>by simp
 | x::l,a+1=>by
  have hx:=Enc.len x
  have:(a+1)*Enc.k α=(Enc.cells x).length+a*Enc.k α:=by rw [hx,Nat.add_mul];omega
  simp only [List.take_succ_cons,List.flatMap_cons,j8 l a,this]
  rw [List.take_length_add_append]
theorem lM:∀ (l:List α) (a:Nat),(l.drop a).flatMap Enc.cells=(l.flatMap Enc.cells).drop (a*Enc.k α)
 | [],a=>by simp
 | x::l,0=>by simp
 | x::l,a+1=>by
  have hx:=Enc.len x
  have:(a+1)*Enc.k α=(Enc.cells x).length+a*Enc.k α:=by rw [hx,Nat.add_mul];omega
  simp only [List.drop_succ_cons,List.flatMap_cons,lM l a,this]
  rw [List.drop_length_add_append]
theorem Own.to {base:Nat}{w:World}(h:Own base e w v l){a:Nat}(ha:a<=l.length):Own base e w (jJ v a) (l.take a):=by
 have hl:(l.take a).length=a:=au
 rcases h.2 with ⟨rfl,h1⟩ | ⟨gb,cap,cur,rfl,h3,h4,h5,h6,h7,h8⟩
 .
  have:l=[]:=List.eq_nil_of_length_eq_zero h1
  subst this
  have:a=0:=ae
  subst this
  assumption
 refine ⟨by rw [dL],.inr ⟨gb,cap,cur,by rw [hl];rfl,h3,h4,ae,h6,h7,?_⟩⟩
 grind [j8,Nat.min_eq_left,Nat.mul_le_mul_right]
theorem R.KL (i a:Nat)(B':List ah)(hB:B[i]? = some (ah.row e v l))(ha:a<=l.length)(hB':B.set i (ah.row e (jJ v a) (l.take a))=B')(h:Run P n we X Q k L B' F):Run P n we X Q k L B F:=fun ac w hac hw=>h ac w hac (by
 subst hB'
 have how:Own 0 e w v l:=hw.b i hB
 have hb2:eA (jJ v a)=eA v:=by
  rcases how.2 with ⟨rfl,_⟩ | ⟨gb,cap,cur,rfl,_⟩ <;> rfl
 refine hw.turn hB (lL.refl _ _) (how.to ha) (by show (eA _).Nodup;grind [ot]) (fun k hk=>?_)
 have hk':k∈eA v:=by rw [<- hb2];exact hk
 exact ⟨((ot how).2 k hk').2,.inl hk'⟩)
theorem s.uj {bytes a:Nat}{u:Value}{l2:List α}(i:Nat)(B':List ah)(hB:B[i]? = some (ah.row e v l))(hx:ev L x=some (jJ v a))(hy:ev L y=some u)(hs:∀w,Wd we X B F w->Sl w u l2)
 (ht:mI P t (Enc.k α)=some (e,bytes)) (h0:0<l.length) (ha2:a+l2.length<=l.length) (hB':B.set i (ah.row e (jJ v (a+l2.length)) (l.take a++l2))=B') (hd:Nat.blt d n=true) :
 Stp P n we X L B F ⟨some d,.call { callee:= .builtin .append,args:= #[x,y],argTypes:= #[t,t]},ty,pos,dr,g⟩ (fun _:Unit=>(d,jJ v (a+l2.length))::L) (fun _=>B') (fun _=>F):=by
 intro K Q' ac w hac hw hK
 obtain ⟨ti,z,g1,g2,g3,g4,g5,g6⟩:=uf ht
 have how:Own 0 e w v l:=hw.b i hB
 obtain ⟨gb,cap,cur,rfl,_,hgg,hnc,hcm,hcs,htk⟩:=how.parts h0
 obtain ⟨A2,c2,rfl,h21,h22,h23⟩:=hs w hw
 have hfl:(l2.flatMap Enc.cells).length=l2.length*ti.size:=by rw [dL,g4]
 have hk:=Enc.pos (α:=α)
 have hle:a*Enc.k α+l2.length*Enc.k α<=cap*Enc.k α:=by rw [<- Nat.add_mul];exact Nat.mul_le_mul_right _ ae
 have hla:(l.take a).length=a:=au
 have hl':(l.take a++l2).length=a+l2.length:=au
 have hnew:∀cs':List Value,cs'=cur.toList.take (a*ti.size)++l2.flatMap Enc.cells++cur.toList.drop (a*ti.size+(l2.flatMap Enc.cells).length)->cs'.length=cur.size/\cs'.take ((l.take a++l2).length*Enc.k α)=(l.take a++l2).flatMap Enc.cells:=fun cs' hcs'=>by
  have Yt:(cur.toList.take (a*Enc.k α)).length=a*Enc.k α:=au
  have e1:cur.toList.take (a*Enc.k α)=(l.take a).flatMap Enc.cells:=by
   grind [j8,Nat.min_eq_left,Nat.mul_le_mul_right]
  subst hcs'
  rw [g4] at hfl ⊢
  refine ⟨au,?_⟩
  rw [hl',List.flatMap_append,<- e1,List.take_append,List.length_append,Yt,hfl,Nat.add_mul,Nat.sub_self,List.take_zero,List.append_nil,List.take_of_length_le au]
 have hfin:∀cs',(cs'=cur.toList.take (a*ti.size)++l2.flatMap Enc.cells++cur.toList.drop (a*ti.size+(l2.flatMap Enc.cells).length))->Wd we X B' F (w.setRow gb cs'.toArray):=fun cs' hcs'=>by
  have:=hw.rV (l':=l.take a++l2) hB hgg hcm hcs (hnew cs' hcs').1 (hnew cs' hcs').2 ae
  grind [jJ]
 unfold Oper.wp
 cases A2 with
 | none =>
  have hl2:l2=[]:=by
   cases l2 with
   | nil=>rfl
   | cons x l2=>obtain ⟨b,off,h,_⟩:=h23 0 x rfl;cases h
  subst hl2
  have hself:w.setRow gb (cur.toList.take (a*ti.size)++(([]:List α).flatMap Enc.cells)++cur.toList.drop (a*ti.size+(([]:List α).flatMap Enc.cells).length)).toArray=w:=by
   simp only [List.flatMap_nil,List.append_nil,List.length_nil,Nat.add_zero,List.take_append_drop,Array.toArray_toList]
   grind [setRow_self]
  have hrun:(execOp ac.eval ⟨some d,.call { callee:= .builtin .append,args:= #[x,y],argTypes:= #[t,t]},ty,pos,dr,g⟩).run P w = .ok (.value (.slice (some ⟨gb,0,none⟩) a cap)) w:=by
   have hx':ev L x=some (.slice (some ⟨gb,0,none⟩) a cap):=hx
   have WA:a<=cap:=ae
   simp [execOp,resolve,invoke,builtin,hac.ev hx',hac.ev hy,Builtin.append_,run_underlying g1,sizeOf,typeInfo,g2,Builtin.lenOf,Builtin.firstCells,WA,storeCells]
  rw [hrun,Oper.upon_value]
  have:=hfin _ rfl
  rw [hself] at this
  exact hK () _ _ (hac.put d _ hd) this
 | some ad =>
  have hn:∀j u,(l2.flatMap Enc.cells)[j]? = some u->w.cell? (ad.add j)=some u:=fun j u hu=>by
   obtain ⟨i,x,q,q1,q2,q3⟩:=lW l2 j u hu
   obtain ⟨b,off,q4,q5,q6⟩:=h23 i x q1
   injection q4 with q4;subst q4
   rw [addr_add,q3,<- Nat.add_assoc];grind
  have hr:=run_append_room (P:=P) w t ty e ti g1 g2 gb a cap cur hgg ad l2.length c2 (l2.flatMap Enc.cells) hfl hn (kK l2) ae au
  have hrun:(execOp ac.eval ⟨some d,.call { callee:= .builtin .append,args:= #[x,y],argTypes:= #[t,t]},ty,pos,dr,g⟩).run P w = .ok (.value (.slice (some ⟨gb,0,none⟩) (a+l2.length) cap)) (w.setRow gb (cur.toList.take (a*ti.size)++l2.flatMap Enc.cells++cur.toList.drop (a*ti.size+(l2.flatMap Enc.cells).length)).toArray):=by
   have hx':ev L x=some (.slice (some ⟨gb,0,none⟩) a cap):=hx
   simp [execOp,resolve,invoke,builtin,hac.ev hx',hac.ev hy,hr]
  rw [hrun,Oper.upon_value]
  exact hK () _ _ (hac.put d _ hd) (hfin _ rfl)
theorem nk {z0:α}{z:Value}(hz:z.cells=(Enc.cells z0).toArray)(m:Nat):(Builtin.zeroCells z.cells m).toList=(List.replicate m z0).flatMap Enc.cells:=by
 have hk:=Enc.len z0
 have hp:=Enc.pos (α:=α)
 have hsz:z.cells.size=Enc.k α:=au
 refine List.ext_getElem? fun j=>?_
 have hfl:=dL (List.replicate m z0)
 rw [List.length_replicate] at hfl
 simp only [Builtin.zeroCells,hsz,Array.toList_map,Array.toList_range,List.getElem?_map]
 by_cases hj:j<m*Enc.k α
 .
  rw [List.getElem?_range hj]
  have hq:j / Enc.k α<m:=(Nat.div_lt_iff_lt_mul hp).2 hj
  have hr:j % Enc.k α<(Enc.cells z0).length:=by rw [hk];exact Nat.mod_lt _ hp
  have:=flat_get (List.replicate m z0) (j / Enc.k α) z0 (j % Enc.k α) (Enc.cells z0)[j % Enc.k α] au (List.getElem?_eq_getElem hr)
  grind [Nat.div_add_mod']
 grind
theorem s.WB {lo hi kk:Nat}(i:Nat)(hB:B[i]? = some (ah.row e v l))(hx:ev L x=some (sl2 v lo hi (Enc.k α)))(ht:lV P t=some (e,Enc.k α))(hz:(dZ P e).isSome=true)(hzs:∀z,dZ P e=some z->z.cells.size=Enc.k α /\ ∀u∈z.cells.toList,u.oneCell'=true)(hlo:l.length<=lo)(hh:lo<=hi)(hhi:hi<=lX v) :
 Stp P n we X L B F ⟨none,.call { callee:= .builtin .clear,args:= #[x],argTypes:= #[t]},ty,pos,dr,g⟩ (fun _:Unit=>L) (fun _=>B) (fun _=>F):=by
 intro K Q' ac w hac hw hK
 obtain ⟨hu,hsz⟩:=eE (P:=P) w ht
 have how:Own 0 e w v l:=hw.b i hB
 have hput:Fr n L (ac.put none (.tuple #[])):=af
 have hset:B.set i (ah.row e v l)=B:=List.ext_getElem? fun j=>by
  grind
 unfold Oper.wp
 rcases how.2 with ⟨rfl,h1⟩ | ⟨gb,cap,cur,rfl,_,hgg,hnc,hcm,hcs,htk⟩
 .
  simp only [lX] at hhi
  have:lo=0:=ae
  have:hi=0:=ae
  subst lo;subst hi
  have hx':ev L x=some (.slice none 0 0):=af
  have hrun:(execOp ac.eval ⟨none,.call { callee:= .builtin .clear,args:= #[x],argTypes:= #[t]},ty,pos,dr,g⟩).run P w = .ok (.value (.tuple #[])) w:=by
   simp [execOp,resolve,invoke,builtin,hac.ev hx',Builtin.clear_,run_underlying hu]
  rw [hrun,Oper.upon_value];exact hK () _ _ hput hw
 simp only [lX] at hhi
 by_cases h0:hi-lo=0
 .
  have hx':ev L x=some (.slice (if cap=lo then some ⟨gb,0,none⟩ else some ((⟨gb,0,none⟩:Addr).add (lo*Enc.k α))) 0 (cap-lo)):=by
   grind [sl2]
  have hrun:(execOp ac.eval ⟨none,.call { callee:= .builtin .clear,args:= #[x],argTypes:= #[t]},ty,pos,dr,g⟩).run P w = .ok (.value (.tuple #[])) w:=by
   have hx2:=hac.ev hx'
   split at hx2 <;> simp [execOp,resolve,invoke,builtin,hx2,Builtin.clear_,run_underlying hu]
  rw [hrun,Oper.upon_value];simp_all
 obtain ⟨z,hz1⟩:=Option.isSome_iff_exists.1 hz
 obtain ⟨hz2,hz3⟩:=hzs z hz1
 have hne:cap≠lo:=ae
 have hx':ev L x=some (.slice (some ⟨gb,lo*Enc.k α,none⟩) (hi-lo) (cap-lo)):=by
  simp_all [sl2,if_neg,addr_add]
 have hzl:(Builtin.zeroCells z.cells (hi-lo)).toList.length=(hi-lo)*Enc.k α:=by grind [Builtin.zeroCells]
 have hone:∀u∈(Builtin.zeroCells z.cells (hi-lo)).toList,u.oneCell'=true:=fun u hu=>by
  simp only [Builtin.zeroCells,Array.toList_map,List.mem_map] at hu
  grind [Enc.pos,Nat.mod_lt]
 have hle:lo*Enc.k α+(hi-lo)*Enc.k α<=cap*Enc.k α:=by rw [<- Nat.add_mul];exact Nat.mul_le_mul_right _ ae
 have hst:=run_storeCells_at P gb (lo*Enc.k α) e (Builtin.zeroCells z.cells (hi-lo)).toList 0 cur w hgg ae hone
 have hrun:(execOp ac.eval ⟨none,.call { callee:= .builtin .clear,args:= #[x],argTypes:= #[t]},ty,pos,dr,g⟩).run P w = .ok (.value (.tuple #[])) (w.setRow gb (cur.toList.take (lo*Enc.k α)++(Builtin.zeroCells z.cells (hi-lo)).toList++cur.toList.drop (lo*Enc.k α+(Builtin.zeroCells z.cells (hi-lo)).toList.length)).toArray):=by
  obtain ⟨mm,hmm⟩:∃mm,hi-lo=mm+1:=⟨hi-lo-1,ae⟩
  rw [hmm] at hx' hst ⊢
  simp only [Nat.add_zero] at hst
  simp only [execOp,resolve,invoke,builtin,hac.ev hx',Builtin.clear_,run_underlying hu,Sem.run_bind,Sem.run_pure,Result.andThen_ok,List.map_toArray,List.map_cons,List.map_nil,List.getElem?_toArray,List.getElem?_cons_zero,nD (P:=P) w hz1,hst]
 rw [hrun,Oper.upon_value]
 have hll:l.length*Enc.k α<=lo*Enc.k α:=Nat.mul_le_mul_right _ hlo
 have:=hw.rV (l':=l) (cs':=cur.toList.take (lo*Enc.k α)++(Builtin.zeroCells z.cells (hi-lo)).toList++cur.toList.drop (lo*Enc.k α+(Builtin.zeroCells z.cells (hi-lo)).toList.length)) hB hgg hcm hcs au (by
  grind) hnc
 simp_all
theorem s.Q9 {lo:Nat}{z0:α}{z:Value}(i:Nat)(B':List ah)(hB:B[i]? = some (ah.row e v l))(hx:ev L x=some (cR v lo (Enc.k α)))(ht:lV P t=some (e,Enc.k α))(hz:dZ P e=some z)(hzs:z.cells=(Enc.cells z0).toArray)(hlo:lo<=l.length)(hB':B.set i (ah.row e v (l.take lo++List.replicate (l.length-lo) z0))=B') :
 Stp P n we X L B F ⟨none,.call { callee:= .builtin .clear,args:= #[x],argTypes:= #[t]},ty,pos,dr,g⟩ (fun _:Unit=>L) (fun _=>B') (fun _=>F):=by
 intro K Q' ac w hac hw hK
 obtain ⟨hu,hsz⟩:=eE (P:=P) w ht
 have how:Own 0 e w v l:=hw.b i hB
 have hput:Fr n L (ac.put none (.tuple #[])):=af
 unfold Oper.wp
 by_cases h0:l.length-lo=0
 .
  have hl:l.take lo++List.replicate (l.length-lo) z0=l:=by grind [List.take_of_length_le]
  have ZJ:B'=B:=by
   rw [<- hB',hl]
   refine List.ext_getElem? fun j=>?_
   grind
  have hrun:(execOp ac.eval ⟨none,.call { callee:= .builtin .clear,args:= #[x],argTypes:= #[t]},ty,pos,dr,g⟩).run P w = .ok (.value (.tuple #[])) w:=by
   rcases how.2 with ⟨rfl,h1⟩ | ⟨gb,cap,cur,rfl,_,hgg,hnc,hcm,hcs,htk⟩
   .
    have hx':ev L x=some (.slice none 0 (0-lo)):=by
     grind [cR]
    simp [execOp,resolve,invoke,builtin,hac.ev hx',Builtin.clear_,run_underlying hu]
   have hx':ev L x=some (.slice (if cap=lo then some ⟨gb,0,none⟩ else some ((⟨gb,0,none⟩:Addr).add (lo*Enc.k α))) 0 (cap-lo)):=by
    grind [cR]
   have hx2:=hac.ev hx'
   split at hx2 <;> simp [execOp,resolve,invoke,builtin,hx2,Builtin.clear_,run_underlying hu]
  rw [hrun,Oper.upon_value]
  simp_all
 obtain ⟨gb,cap,cur,rfl,_,hgg,hnc,hcm,hcs,htk⟩:=how.parts ae
 have hne:cap≠lo:=ae
 have hx':ev L x=some (.slice (some ⟨gb,lo*Enc.k α,none⟩) (l.length-lo) (cap-lo)):=by
  simp_all [cR,if_neg,addr_add]
 have hzc:=nk hzs (l.length-lo)
 have hzl:(Builtin.zeroCells z.cells (l.length-lo)).toList.length=(l.length-lo)*Enc.k α:=by grind [dL,List.length_replicate]
 have hsum:lo*Enc.k α+(l.length-lo)*Enc.k α=l.length*Enc.k α:=by rw [<- Nat.add_mul];grind
 have hle:l.length*Enc.k α<=cap*Enc.k α:=Nat.mul_le_mul_right _ hnc
 have hst:=run_storeCells_at P gb (lo*Enc.k α) e (Builtin.zeroCells z.cells (l.length-lo)).toList 0 cur w hgg ae (by grind [kK])
 have hrun:(execOp ac.eval ⟨none,.call { callee:= .builtin .clear,args:= #[x],argTypes:= #[t]},ty,pos,dr,g⟩).run P w = .ok (.value (.tuple #[])) (w.setRow gb (cur.toList.take (lo*Enc.k α)++(Builtin.zeroCells z.cells (l.length-lo)).toList++cur.toList.drop (lo*Enc.k α+(Builtin.zeroCells z.cells (l.length-lo)).toList.length)).toArray):=by
  obtain ⟨mm,hmm⟩:∃mm,l.length-lo=mm+1:=⟨l.length-lo-1,ae⟩
  rw [hmm] at hx' hst ⊢
  simp only [Nat.add_zero] at hst
  simp only [execOp,resolve,invoke,builtin,hac.ev hx',Builtin.clear_,run_underlying hu,Sem.run_bind,Sem.run_pure,Result.andThen_ok,List.map_toArray,List.map_cons,List.map_nil,List.getElem?_toArray,List.getElem?_cons_zero,nD (P:=P) w hz,hst]
 rw [hrun,Oper.upon_value]
 have hll:(l.take lo++List.replicate (l.length-lo) z0).length=l.length:=au
 have h3:(cur.toList.take (lo*Enc.k α)).length=lo*Enc.k α:=au
 have:=hw.rV (l':=l.take lo++List.replicate (l.length-lo) z0) (cs':=cur.toList.take (lo*Enc.k α)++(Builtin.zeroCells z.cells (l.length-lo)).toList++cur.toList.drop (lo*Enc.k α+(Builtin.zeroCells z.cells (l.length-lo)).toList.length)) hB hgg hcm hcs au (by
  have e1:cur.toList.take (lo*Enc.k α)=(l.take lo).flatMap Enc.cells:=by
   grind [j8,Nat.min_eq_left]
  grind) ae
 simp_all
theorem s.vq {o:Nat}{u:Value}{l2:List α}{A:TypeId}(i:Nat)(B':List ah)(hB:B[i]? = some (ah.row e v l))(hs:∀w,Wd we X B F w->Sl w u l2)(hx:ev L x=some (cR v o (Enc.k α)))(hy:ev L y=some u)(ht:lV P t=some (e,Enc.k α))(hlen:o+l2.length<=l.length)(hB':B.set i (ah.row e v (l.take o++l2++l.drop (o+l2.length)))=B')(hd:Nat.blt d n=true) :
 Stp P n we X L B F ⟨some d,.call { callee:= .builtin .copy,args:= #[x,y],argTypes:= #[t,A]},ty,pos,dr,g⟩ (fun _:Unit=>(d,.int .i64 l2.length)::L) (fun _=>B') (fun _=>F):=by
 intro K Q' ac w hac hw hK
 obtain ⟨hu,hsz⟩:=eE (P:=P) w ht
 have how:Own 0 e w v l:=hw.b i hB
 obtain ⟨A2,c2,rfl,h21,h22,h23⟩:=hs w hw
 have hset:B.set i (ah.row e v l)=B:=List.ext_getElem? fun j=>by
  grind
 have hk:=Enc.pos (α:=α)
 unfold Oper.wp
 by_cases hl2:l2=[]
 .
  subst hl2
  have hl:l.take o++[]++l.drop (o+0)=l:=bC
  have hrun:(execOp ac.eval ⟨some d,.call { callee:= .builtin .copy,args:= #[x,y],argTypes:= #[t,A]},ty,pos,dr,g⟩).run P w = .ok (.value (.int .i64 0)) w:=by
   have hy':ev L y=some (.slice A2 0 c2):=hy
   have hmin:∀q,Nat.min 0 q=0:=fun q=>Nat.zero_min q
   have hld:∀ (a:Addr),(loadCells a 0).run P w = .ok #[] w:=fun a=>by rfl
   rcases how.2 with ⟨rfl,h1⟩ | ⟨gb,cap,cur,rfl,_,hgg,hnc,hcm,hcs,htk⟩
   .
    have hx':ev L x=some (.slice none (0-o) (0-o)):=by grind [cR]
    cases A2 <;> simp [execOp,resolve,invoke,builtin,hac.ev hx',hac.ev hy',Builtin.copy_,run_underlying hu,Builtin.lenOf,Builtin.firstCells,hsz,hmin,goInt,hld]
   have hx':ev L x=some (.slice (some (if cap=o then ⟨gb,0,none⟩ else ((⟨gb,0,none⟩:Addr).add (o*Enc.k α)))) (l.length-o) (cap-o)):=by
    grind [cR]
   cases A2 <;> simp [execOp,resolve,invoke,builtin,hac.ev hx',hac.ev hy',Builtin.copy_,run_underlying hu,Builtin.lenOf,Builtin.firstCells,hsz,hmin,goInt,hld,storeCells]
  rw [hrun,Oper.upon_value]
  rw [List.length_nil,hl,hset] at hB'
  exact hK () _ _ (hac.put d _ hd) (hB'▸hw)
 have Yu:0<l2.length:=List.length_pos_iff.2 hl2
 obtain ⟨gb,cap,cur,rfl,_,hgg,hnc,hcm,hcs,htk⟩:=how.parts ae
 obtain ⟨x0,hx0⟩:∃y0,l2[0]? = some y0:=⟨_,List.getElem?_eq_getElem Yu⟩
 obtain ⟨b2,off,rfl,hb2,_⟩:=h23 0 x0 hx0
 have hsrc:∀j u,(l2.flatMap Enc.cells)[j]? = some u->w.cell? ((⟨b2,off,none⟩:Addr).add j)=some u:=fun j u hj=>by
  grind [lW,addr_add,Nat.add_assoc]
 have hfl:(l2.flatMap Enc.cells).length=l2.length*Enc.k α:=dL l2
 have hld:=run_loadCells_list (P:=P) w ⟨b2,off,none⟩ (l2.flatMap Enc.cells) hsrc
 rw [hfl] at hld
 have hne:cap≠o:=ae
 have hx':ev L x=some (.slice (some ⟨gb,o*Enc.k α,none⟩) (l.length-o) (cap-o)):=by
  simp_all [cR,if_neg,addr_add]
 have hle:l.length*Enc.k α<=cap*Enc.k α:=Nat.mul_le_mul_right _ hnc
 have hol:o*Enc.k α+l2.length*Enc.k α<=l.length*Enc.k α:=by rw [<- Nat.add_mul];exact Nat.mul_le_mul_right _ hlen
 have hst:=run_storeCells_at P gb (o*Enc.k α) e (l2.flatMap Enc.cells) 0 cur w hgg ae (kK l2)
 have hrun:(execOp ac.eval ⟨some d,.call { callee:= .builtin .copy,args:= #[x,y],argTypes:= #[t,A]},ty,pos,dr,g⟩).run P w = .ok (.value (.int .i64 l2.length)) (w.setRow gb (cur.toList.take (o*Enc.k α)++l2.flatMap Enc.cells++cur.toList.drop (o*Enc.k α+(l2.flatMap Enc.cells).length)).toArray):=by
  have hmin:Nat.min l2.length (l.length-o)=l2.length:=Nat.min_eq_left ae
  simp only [Nat.add_zero] at hst
  simp [execOp,resolve,invoke,builtin,hac.ev hx',hac.ev hy,Builtin.copy_,run_underlying hu,Builtin.lenOf,Builtin.firstCells,hsz,hmin,goInt,hld,hst]
 rw [hrun,Oper.upon_value]
 have hll:(l.take o++l2++l.drop (o+l2.length)).length=l.length:=au
 have h3:(cur.toList.take (o*Enc.k α)).length=o*Enc.k α:=au
 have:=hw.rV (l':=l.take o++l2++l.drop (o+l2.length)) (cs':=cur.toList.take (o*Enc.k α)++l2.flatMap Enc.cells++cur.toList.drop (o*Enc.k α+(l2.flatMap Enc.cells).length)) hB hgg hcm hcs au (by
  grind [Nat.add_mul,j8,lM,sY]) ae
 rw [hll] at this
 exact hK () _ _ (hac.put d _ hd) (hB'▸this)
theorem s.T2 {o:Nat}{A:TypeId}(i:Nat)(B':List ah)(hB:B[i]? = some (ah.row e v l))(ho:o<l.length)(hroom:l.length+1<=lX v)(hx:ev L x=some (cR (jJ v (l.length+1)) (o+1) (Enc.k α)))(hy:ev L y=some (cR (jJ v (l.length+1)) o (Enc.k α)))(ht:lV P t=some (e,Enc.k α))(hB':B.set i (ah.row e (jJ v (l.length+1)) (l.take (o+1)++l.drop o))=B')(hd:Nat.blt d n=true) :
 Stp P n we X L B F ⟨some d,.call { callee:= .builtin .copy,args:= #[x,y],argTypes:= #[t,A]},ty,pos,dr,g⟩ (fun _:Unit=>(d,.int .i64 ((l.length-o:Nat):Int))::L) (fun _=>B') (fun _=>F):=by
 intro K Q' ac w hac hw hK
 obtain ⟨hu,hsz⟩:=eE (P:=P) w ht
 have how:Own 0 e w v l:=hw.b i hB
 obtain ⟨gb,cap,cur,rfl,_,hgg,hnc,hcm,hcs,htk⟩:=how.parts ae
 simp only [lX] at hroom
 have hk:=Enc.pos (α:=α)
 have hx':ev L x=some (.slice (if cap=o+1 then some ⟨gb,0,none⟩ else some ⟨gb,(o+1)*Enc.k α,none⟩) (l.length-o) (cap-(o+1))):=by
  simp_all [jJ,cR,Option.map_some,addr_add,Nat.zero_add]
 rw [if_neg ae] at hx'
 have hy':ev L y=some (.slice (some ⟨gb,o*Enc.k α,none⟩) (l.length+1-o) (cap-o)):=by
  rw [hy];simp only [jJ,cR,Option.map_some,addr_add,Nat.zero_add];grind
 have hfl:((l.drop o).flatMap Enc.cells).length=(l.length-o)*Enc.k α:=by rw [dL,List.length_drop]
 have hsrc:∀j u,((l.drop o).flatMap Enc.cells)[j]? = some u->w.cell? ((⟨gb,o*Enc.k α,none⟩:Addr).add j)=some u:=fun j u hj=>by
  grind [addr_add,lM,cell_of_row]
 have hld:=run_loadCells_list (P:=P) w ⟨gb,o*Enc.k α,none⟩ ((l.drop o).flatMap Enc.cells) hsrc
 rw [hfl] at hld
 have hle:(l.length+1)*Enc.k α<=cap*Enc.k α:=Nat.mul_le_mul_right _ hroom
 have hol:(o+1)*Enc.k α+(l.length-o)*Enc.k α=(l.length+1)*Enc.k α:=by rw [<- Nat.add_mul];grind
 have hst:=run_storeCells_at P gb ((o+1)*Enc.k α) e ((l.drop o).flatMap Enc.cells) 0 cur w hgg ae (kK _)
 have hrun:(execOp ac.eval ⟨some d,.call { callee:= .builtin .copy,args:= #[x,y],argTypes:= #[t,A]},ty,pos,dr,g⟩).run P w = .ok (.value (.int .i64 ((l.length-o:Nat):Int))) (w.setRow gb (cur.toList.take ((o+1)*Enc.k α)++(l.drop o).flatMap Enc.cells++cur.toList.drop ((o+1)*Enc.k α+((l.drop o).flatMap Enc.cells).length)).toArray):=by
  have hmin:Nat.min (l.length+1-o) (l.length-o)=l.length-o:=Nat.min_eq_right ae
  simp only [Nat.add_zero] at hst
  simp [execOp,resolve,invoke,builtin,hac.ev hx',hac.ev hy',Builtin.copy_,run_underlying hu,Builtin.lenOf,Builtin.firstCells,hsz,hmin,goInt,hld,hst]
 unfold Oper.wp
 rw [hrun,Oper.upon_value]
 have hll:(l.take (o+1)++l.drop o).length=l.length+1:=au
 have ho1:(o+1)*Enc.k α<=l.length*Enc.k α:=Nat.mul_le_mul_right _ ho
 have h3:(cur.toList.take ((o+1)*Enc.k α)).length=(o+1)*Enc.k α:=au
 have:=hw.rV (l':=l.take (o+1)++l.drop o) (cs':=cur.toList.take ((o+1)*Enc.k α)++(l.drop o).flatMap Enc.cells++cur.toList.drop ((o+1)*Enc.k α+((l.drop o).flatMap Enc.cells).length)) hB hgg hcm hcs au (by
  have e1:cur.toList.take ((o+1)*Enc.k α)=(l.take (o+1)).flatMap Enc.cells:=by
   grind [j8,Nat.min_eq_left]
  grind) ae
 rw [hll] at this
 exact hK () _ _ (hac.put d _ hd) (hB'▸this)
theorem s.Hj {o m bytes:Nat}{z0:α}{z:Value}{tn:TypeId}{kq kn:IntKind}{r:Int}(i:Nat)(hB:B[i]? = some (ah.row e v l))(hx:ev L x=some (jJ v o))(hy:ev L y=some (.int kq r))(hr:r=(m:Int))(ht:mI P t (Enc.k α)=some (e,bytes))(htn:P.underlying tn=some (.int kn))(hz:dZ P e=some z)(hzs:z.cells=(Enc.cells z0).toArray)
 (ho:o<=l.length) (hm:0<m) (hcap:lX v<o+m) (hbig:(o+m)*bytes<=70368744177664) (hml:o+m<=1000000000) (hd:Nat.blt d n=true) :
 Stp P n we X L B F ⟨some d,.call { callee:= .builtin .append,args:= #[x,y],argTypes:= #[t,tn]},ty,pos,dr,g⟩ (fun q:Value=>(d,q)::L) (fun q=>ah.row e q (l.take o++List.replicate m z0)::B) (fun _=>F):=by
 intro K Q' ac w hac hw hK
 subst hr
 obtain ⟨ti,zz,g1,g2,g3,g4,g5,g6⟩:=uf ht
 have hzz:zz=z:=by grind [dZ]
 subst hzz
 have how:Own 0 e w v l:=hw.b i hB
 have hk:=Enc.pos (α:=α)
 have hlo:(l.take o).length=o:=au
 obtain ⟨A,cap,rfl,hc1,hc2,hcl⟩:=how.sl
 simp only [lX] at hcap
 have hfo:(Builtin.firstCells ti.size o (.slice A o cap)).run P w.drew = .ok ((l.take o).flatMap Enc.cells).toArray w.drew:=by
  rw [g4]
  cases A with
  | none =>
   have h0:l.take o=[]:=by
    cases h:l.take o with
    | nil=>rfl
    | cons q qs =>
     have hq:l[0]? = some q:=by
      grind
     grind
   rw [h0] at hlo;simp at hlo
   subst hlo
   rfl
  | some ad =>
   have hsrc:∀j u,((l.take o).flatMap Enc.cells)[j]? = some u->w.drew.cell? (ad.add j)=some u:=fun j u hj=>by
    obtain ⟨i',q,s,hi',hq,rfl⟩:=lW (l.take o) j u hj
    rw [List.getElem?_take] at hi'
    split at hi'
    .
     obtain ⟨b3,Yv,h3,_,hc3⟩:=hcl i' q hi'
     injection h3 with h3;subst h3
     rw [addr_add,<- Nat.add_assoc];simp_all
    grind
   grind [run_firstCells_some,dL]
 have hns:Builtin.nextslicecap (o+m) cap*ti.bytes<=281474976710656:=by
  rw [g5];exact growslice_fits ae ae
 have hmb:m*ti.bytes<=281474976710656:=by
  grind
 have KB:=Go.Lib.run_append_grow_zeros (P:=P) w t tn ty e ti zz kq kn g1 htn g2 g3 A o cap ((l.take o).flatMap Enc.cells) hfo m hm ae hcap ae hmb hns
 have hx':ev L x=some (.slice A o cap):=hx
 have hrun:(execOp ac.eval ⟨some d,.call { callee:= .builtin .append,args:= #[x,y],argTypes:= #[t,tn]},ty,pos,dr,g⟩).run P w = .ok (.value (.slice (some ⟨w.heap.size,0,none⟩) (o+m) (grownCap w (o+m) cap e))) (w.drew.alloc (.cells (((l.take o).flatMap Enc.cells).toArray++Builtin.zeroCells zz.cells m++Builtin.zeroCells zz.cells (grownCap w (o+m) cap e-(o+m))) e)):=by
  simp only [execOp,resolve,invoke,builtin,hac.ev hx',hac.ev hy,Sem.run_bind,Sem.run_pure,Result.andThen_ok,List.map_toArray,List.map_cons,List.map_nil,KB]
 unfold Oper.wp
 rw [hrun,Oper.upon_value]
 have hwd:Wd we X B F w.drew:=hw.grow (lL.draw w)
 have hge:=grownCap_ge w (o+m) cap e
 have hzc:=nk hzs m
 have hzl:(Builtin.zeroCells zz.cells m).size=m*Enc.k α:=by rw [size_zeroCells,g6]
 have hll:(l.take o++List.replicate m z0).length=o+m:=au
 have WC:((l.take o).flatMap Enc.cells).length=o*Enc.k α:=by rw [dL,hlo]
 refine hK _ _ _ (hac.put d _ hd) (hwd.alloc (r:=ah.row e (.slice (some ⟨w.heap.size,0,none⟩) (o+m) (grownCap w (o+m) cap e)) (l.take o++List.replicate m z0)) ?_ rfl)
 refine ⟨au,.inr ⟨w.heap.size,grownCap w (o+m) cap e,_,au,Nat.zero_le _,heap_alloc_new w.drew _,ae,grownCap_le_maxLen w _ _ _ (by grind [maxLen]),?_,?_⟩⟩
 .
  simp only [Array.size_append,List.size_toArray,WC,hzl,size_zeroCells,g6,<- Nat.add_mul]
  grind
 grind [Array.toList_append,List.length_append,Nat.add_mul,List.take_of_length_le]
theorem KN {w:World}{ga:Nat}{NQ:Array Value}{t:TypeId}(h:w.heap[ga]? = some (.cells NQ t (0,0)))(o:Nat):w.frozen? ⟨ga,o,none⟩=false:=by
 grind [World.frozen?]
theorem q.XV {f:FuncId}{fn:Func}{c:Operand}{ts:Array TypeId}{tS tR:TypeId}{va vb WE:Value}{la lb:List α}{i j:Nat}(hf:P.funcs[f]? = some fn)(hname:(fn.name == "runtime.NumGoroutine")=false)
 (hb:fn.body.isNone=true) (hn:Extern.findNext fn=none) (he:Extern.find fn=some (Extern.SlicesOverlaps.overlaps #[tS,tS] #[tR])) (ht:lV P tS=some (e,Enc.k α))
 (hi:B[i]? = some (ah.row e va la)) (hj:B[j]? = some (ah.row e vb lb)) (hij:i≠j) (Yw:0<la.length) (Yx:0<lb.length) (hx:ev L x=some va) (hy:ev L y=some WE) {m q:Nat} (hv2:WE=YtnmpibjlnninjaaGreatDoor.cR (YtnmpibjlnninjaaGreatDoor.jJ vb m) q (Enc.k α)) (hc:ev L c=some (.func (.func f) #[] #[])) :
 Qt P n we X L B F (.call { callee:= .value c,args:= #[x,y],argTypes:=ts}) ty (.bool false):=fun _ _ _ _ ac w hac hw=>by
 have Yy:Own 0 e w va la:=hw.b i hi
 have Yz:Own 0 e w vb lb:=hw.b j hj
 obtain ⟨hu,hsz⟩:=eE (P:=P) w ht
 have hzz:∀w,(Go.sizeOf e).run P w = .ok (Enc.k α) w:=fun w=>(eE (P:=P) w ht).2
 obtain ⟨ga,T3,NQ,rfl,_,hga,hna,_,hca,_⟩:=Yy.parts Yw
 obtain ⟨gb,WG,T4,rfl,_,hgb,hnb,_,hcb,_⟩:=Yz.parts Yx
 obtain ⟨o,n',c',hv3⟩:∃o n' c',WE = .slice (some ⟨gb,o,none⟩) n' c':=by
  rw [hv2];simp only [YtnmpibjlnninjaaGreatDoor.jJ,YtnmpibjlnninjaaGreatDoor.cR,Option.map_some,addr_add]
  grind
 subst hv3
 have hne:ga≠gb:=fun e=>ic hi hj hij hw.sep ga (by simp [ah.row,eA]) (by grind [ah.row,eA])
 have hk:=Enc.pos (α:=α)
 have h1:1*Enc.k α<=WG*Enc.k α:=Nat.mul_le_mul_right _ ae
 have hsa:w.shape? ga=some (e,NQ.size):=by grind [World.shape?]
 have hsb:w.shape? gb=some (e,T4.size):=by grind [World.shape?]
 have hov:=Go.Lib.run_overlaps_apart (P:=P) w tS tR e hu (Enc.k α) hzz ⟨ga,0,none⟩ ⟨gb,o,none⟩ la.length T3 n' c' hne e e NQ.size T4.size hsa hsb ae (KN hga _) (KN hga _)
 have hcall:=run_callFunc_extern hf hname hb hn he #[.slice (some ⟨ga,0,none⟩) la.length T3,.slice (some ⟨gb,o,none⟩) n' c'] w
 have hy':ev L y=some (.slice (some ⟨gb,o,none⟩) n' c'):=hy
 simp [execOp,resolve,hac.ev hc,Deferred.ofValue,invoke,hac.ev hx,hac.ev hy',hcall,hov]
end
end
section
open Go Go.RowKit
def ah.held (w0:World)(own:List Nat):ah:=⟨own,fun w => ∀k∈own,w.heap[k]? = w0.heap[k]?,fun w w' h ho k hk=>(h k hk).trans (ho k hk)⟩
theorem fw (B:List ah)(w:World)(own:List Nat):blks (B++[ah.held w own])=blks B++own:=by
 grind [blks,ah.held,bf]
theorem FQ {F F0:List ah}{js:List Nat}(h:bP F js=some F0):∀k∈blks F0,k∈blks F:=fun k hk=>by
 grind [bD,nG]
section
variable {we w w':World} {X:List Nat} {B0 Br B1 F F0 F1:List ah}
theorem Wd.Bm (hw:Wd we X (B0++Br) F w){js:List Nat}(hj:bP F js=some F0):Wd w (blks B0++blks Br) (B0++[ah.held w (blks Br)]) F0 w:=by
 have hs:=hw.sep
 rw [bf] at hs
 refine ⟨lL.refl _ _,fun r hr=>?_,fun r hr=>hw.okF r (nG hj r hr),by grind [fw],fun k hk=>?_,fun k hk=>?_⟩
 .
  rcases List.mem_append.1 hr with hr|hr
  .exact hw.okB r (List.mem_append.2 (.inl hr))
  simp at hr;subst hr;exact fun k _=>rfl
 .
  rw [fw] at hk
  exact ⟨(hw.own k (by grind [bf])).1,fun _=>hk⟩
 rw [fw,<- bf]
 exact hw.lU k (FQ hj k hk)
theorem Wd.after (hw:Wd we X (B0++Br) F w)(hp:Wd w (blks B0++blks Br) (B1++[ah.held w (blks Br)]) F1 w'):Wd we X (B1++Br) (F1++F) w':=by
 have hout:∀k,k<w.heap.size->k∉blks (B0++Br)->w'.heap[k]? = w.heap[k]?:=fun k hk hn=>hp.upd.block k hk (by grind [bf])
 have T5:∀k∈blks Br,w'.heap[k]? = w.heap[k]?:=hp.okB (ah.held w (blks Br)) (List.mem_append.2 (.inr (List.mem_singleton.2 rfl)))
 have hsz:=hp.upd.size
 have hold:∀k∈blks B1,k<w.heap.size->k∈blks (B0++Br):=fun k hk hlt=>by
  rw [bf];exact (hp.own k (by grind [fw])).2 hlt
 refine ⟨⟨hp.upd.os.trans hw.upd.os,hp.upd.tape.trans hw.upd.tape,hp.upd.output.trans hw.upd.output,Nat.le_trans hw.upd.size hsz,fun k hk hx=>?_⟩,fun r hr=>?_,fun r hr=>?_,?_,fun k hk=>?_,fun k hk=>?_⟩
 .
  have hk2:k<w.heap.size:=Nat.lt_of_lt_of_le hk hw.upd.size
  exact (hout k hk2 (fun hb=>hx ((hw.own k hb).2 hk))).trans (hw.upd.block k hk hx)
 .
  rcases List.mem_append.1 hr with hr|hr
  .exact hp.okB r (List.mem_append.2 (.inl hr))
  exact r.loc w w' (fun k hk=>T5 k (bD.2 ⟨r,hr,hk⟩)) (hw.okB r (List.mem_append.2 (.inr hr)))
 .
  rcases List.mem_append.1 hr with hr|hr
  .exact hp.okF r hr
  refine r.loc w w' (fun k hk=>?_) (hw.okF r hr)
  have:=hw.lU k (bD.2 ⟨r,hr,hk⟩)
  grind
 .
  have:=hp.sep
  grind [fw,bf]
 .
  rw [bf] at hk
  have h1:=hp.own k (by grind [fw])
  refine ⟨h1.1,fun hlt=>?_⟩
  rcases List.mem_append.1 hk with hk|hk
  .exact (hw.own k (hold k hk (Nat.lt_of_lt_of_le hlt hw.upd.size))).2 hlt
  exact (hw.own k (by grind [bf])).2 hlt
 rw [bf] at hk
 rcases List.mem_append.1 hk with hk|hk
 .
  have:=hp.lU k hk
  grind [fw,bf]
 have:=hw.lU k hk
 grind [Nat.lt_of_lt_of_le,bf]
end
abbrev HN (w:World)(own:List Nat)(B F:List ah):Prop:=Wd w (blks B++own) (B++[ah.held w own]) F w
abbrev RC {β:Type}{w:World}{own:List Nat}{B0 F0:List ah}(P:Program)(f:FuncId)(ar:Array Value)(_:HN w own B0 F0)(G:β->Value)(B1 F1:β->List ah):Prop:=Calls P f ar w fun e w' => ∃z,e = .returned (G z)/\Wd w (blks B0++own) (B1 z++[ah.held w own]) (F1 z) w'
abbrev RS {σ β:Type}{w:World}{own:List Nat}{B0 F0:List ah}(P:Program)(f:FuncId)(ar:Array Value)(_:HN w own B0 F0)(s:σ)(G:σ->β->Value)(B1 F1:σ->β->List ah):Prop:=Calls P f ar w fun e w' => ∃z,e = .returned (G s z)/\Wd w (blks B0++own) (B1 s z++[ah.held w own]) (F1 s z) w'
section
variable {P:Program} {n:Nat} {we:World} {X:List Nat} {Q:Exit->Act->World->Prop} {k k':List It} {L:Fm} {B F:List ah} {ops rest:List Oper}
variable {dst:Option Nat} {d:Nat} {ty:TypeId} {pos:String} {dr:Array Edge} {g:Option (Nat×Bool)} {v:Value}
variable {x y:Operand} {xT yT t e:TypeId} {α:Type} [Enc α] {l:List α}
theorem s.aJ {β:Type}{f:FuncId}{c:Operand}{xs:Array Operand}{ts:Array TypeId}{vs:List Value}{cap:Array Value}{B0 Br F0:List ah}(is js:List Nat)(G:β->Value)(B1 F1:β->List ah)(hp:bP B is=some (B0++Br))(ha':d9 is=true)(hj:bP F js=some F0)
 (eg:∀args w,(callFunc f args).run P w = .ok (.enter f args) w) (hargs:evs L xs.toList=some vs) (hc:ev L c=some (.func (.func f) #[] cap))
 (hcall:∀w own,Wd we X B F w->Wd w (blks B0++own) (B0++[ah.held w own]) F0 w->Calls P f (vs++cap.toList).toArray w fun e w' => ∃z,e = .returned (G z)/\Wd w (blks B0++own) (B1 z++[ah.held w own]) (F1 z) w') (hd:Nat.blt d n=true) :
 Stp P n we X L B F ⟨some d,.call { callee:= .value c,args:=xs,argTypes:=ts},ty,pos,dr,g⟩ (fun z=>(d,G z)::L) (fun z=>B1 z++Br) (fun z=>F1 z++F):=by
 intro K Q' a w ha hw hK
 have hw2:=hw.NN is hp ha'
 unfold Oper.wp
 rw [pL ha hargs hc eg,Oper.upon_enter]
 refine (hcall w (blks Br) hw (hw2.Bm hj)).mono fun e w' he=>?_
 obtain ⟨z,rfl,ht⟩:=he
 exact hK z _ _ (ha.put d _ hd) (hw2.after ht)
theorem R.uk {f:FuncId}{fn:Func}{c:Code}{vs:List Value}{w:World}{R:Ending->World->Prop}(L:Fm)(hf:P.funcs[f]? = some fn)(hb:fn.body=some c)(hn:fn.ntmps=n)
 (hle:Nat.ble vs.length n=true) (hL:Q0 0 vs=L) (h0:Wd w X B F w) (h:Run P n w X (bodyPost P fn R) [.c c] L B F):Calls P f vs.toArray w R:=by
 have hle':vs.length<=n:=Nat.le_of_ble_eq_true hle
 refine calls_of_wp hf hb<|wp_mono (h _ w ⟨?_,rfl,fun i v hv=>?_⟩ h0) (fun e a w q=>by cases e <;> exact q)
 .simp [hn];omega
 rw [<- hL] at hv
 obtain ⟨h1,h2⟩:=wY vs 0 i v hv
 simp only [Nat.sub_zero] at h2
 have hi:i<vs.length:=(List.getElem?_eq_some_iff.1 h2).1
 show (vs.toArray++Array.replicate (fn.ntmps-vs.toArray.size) undef)[i]? = some v
 rw [Array.getElem?_append_left (by simpa using hi)]
 simpa using h2
section
variable {fn:Func} {β:Type} {B1 F1:β->List ah} {V:β->Value} {r1 r2 r3 r4:ResultVar} {v1 v2 v3 v4:Value}
theorem R.w0 (z:β)(is js:List Nat)(h:norm 200 k=[] ∨ ∃k',norm 200 k = .c .ret::k')(hr:fn.results = #[])(hp:bP B is=some (B1 z))(ha:d9 is=true)(hj:bP F js=some (F1 z))(e:V z = .tuple #[]):Run P n we X (bodyPost P fn fun en w' => ∃z,en = .returned (V z)/\Wd we X (B1 z) (F1 z) w') k L B F:=by
 rcases h with h|⟨k',h⟩
 .exact R.Wt h hr fun w hw=>⟨z,by rw [e],hw.KH is js hp hj ha⟩
 exact R.Wu h hr fun w hw=>⟨z,by rw [e],hw.KH is js hp hj ha⟩
theorem R.w1 (z:β)(is js:List Nat)(h:norm 200 k = .c .ret::k')(hr:fn.results = #[r1])(h1:RV P n we X L B F r1 v1)(hp:bP B is=some (B1 z))(ha:d9 is=true)(hj:bP F js=some (F1 z))(e:v1=V z):Run P n we X (bodyPost P fn fun en w' => ∃z,en = .returned (V z)/\Wd we X (B1 z) (F1 z) w') k L B F :=
 R.TW h hr h1 fun w hw=>⟨z,by rw [e],hw.KH is js hp hj ha⟩
theorem R.w2 (z:β)(is js:List Nat)(h:norm 200 k = .c .ret::k')(hr:fn.results = #[r1,r2])(h1:RV P n we X L B F r1 v1)(h2:RV P n we X L B F r2 v2)(hp:bP B is=some (B1 z))(ha:d9 is=true)(hj:bP F js=some (F1 z))(e : .tuple #[v1,v2]=V z):Run P n we X (bodyPost P fn fun en w' => ∃z,en = .returned (V z)/\Wd we X (B1 z) (F1 z) w') k L B F :=
 R.PZ h hr h1 h2 fun w hw=>⟨z,by rw [e],hw.KH is js hp hj ha⟩
theorem R.w3 (z:β)(is js:List Nat)(h:norm 200 k = .c .ret::k')(hr:fn.results = #[r1,r2,r3])(h1:RV P n we X L B F r1 v1)(h2:RV P n we X L B F r2 v2)(h3:RV P n we X L B F r3 v3)(hp:bP B is=some (B1 z))(ha:d9 is=true)(hj:bP F js=some (F1 z))(e : .tuple #[v1,v2,v3]=V z):Run P n we X (bodyPost P fn fun en w' => ∃z,en = .returned (V z)/\Wd we X (B1 z) (F1 z) w') k L B F :=
 R.P0 h hr h1 h2 h3 fun w hw=>⟨z,by rw [e],hw.KH is js hp hj ha⟩
theorem R.w4 (z:β)(is js:List Nat)(h:norm 200 k = .c .ret::k')(hr:fn.results = #[r1,r2,r3,r4])(h1:RV P n we X L B F r1 v1)(h2:RV P n we X L B F r2 v2)(h3:RV P n we X L B F r3 v3)(h4:RV P n we X L B F r4 v4)(hp:bP B is=some (B1 z))(ha:d9 is=true)(hj:bP F js=some (F1 z))(e : .tuple #[v1,v2,v3,v4]=V z):Run P n we X (bodyPost P fn fun en w' => ∃z,en = .returned (V z)/\Wd we X (B1 z) (F1 z) w') k L B F :=
 R.TX h hr h1 h2 h3 h4 fun w hw=>⟨z,by rw [e],hw.KH is js hp hj ha⟩
end
theorem Wd.xe {w W:World}{r r':ah}(hw:Wd we X B F w)(i j:Nat)(hi:B[i]? = some r)(hj:B[j]? = some r')(hij:i≠j)(hu:lL (blks [r']) w W):r.ok W :=
 r.loc w W (fun k hk=>hu.block k (hw.own k (bD.2 ⟨r,List.mem_of_getElem? hi,hk⟩)).1 (fun hc=>ic hi hj hij hw.sep k hk (by grind [blks]))) (hw.b i hi)
theorem Wd.P3 {w W:World}{r r':ah}(hw:Wd we X B F w)(i j:Nat)(hi:F[i]? = some r)(hj:B[j]? = some r')(hu:lL (blks [r']) w W):r.ok W :=
 r.loc w W (fun k hk=>by
  have:=hw.lU k (bD.2 ⟨r,List.mem_of_getElem? hi,hk⟩)
  exact hu.block k this.1 (fun hc=>this.2 (bD.2 ⟨r',List.mem_of_getElem? hj,by grind [blks]⟩))) (hw.f i hi)
theorem Wd.vT {w:World}{K own:List Nat}(hw:Wd we (K++own) B F w)(i:Nat)(hi:B[i]? = some (ah.held we own)):lL K we w :=
 ⟨hw.upd.os,hw.upd.tape,hw.upd.output,hw.upd.size,fun k hk hn=>by
  by_cases ho:k∈own
  .exact hw.b i hi k ho
  exact hw.upd.block k hk (fun h=>(List.mem_append.1 h).elim hn ho)⟩
theorem KO {v:Value}{l:List α}:∀k∈(ah.ls v l).blk,k∈eA v:=fun k hk=>by
 grind [ah.ls]
theorem Wd.aR {w:World}(hw:Wd we X B F w)(i:Nat)(B':List ah)(hB:B[i]? = some (ah.row e v l))(hB':B.eraseIdx i=B'):Wd we X B' (ah.ls v l::F) w:=by
 subst hB'
 have how:Own 0 e w v l:=hw.b i hB
 have hi:i<B.length:=(List.getElem?_eq_some_iff.1 hB).1
 have hsub:(B.eraseIdx i).Sublist B:=List.eraseIdx_sublist B i
 have hbs:(blks (B.eraseIdx i)).Sublist (blks B):=sV hsub
 have hmem:∀k∈eA v,k∈blks B:=fun k hk=>bD.2 ⟨_,List.mem_of_getElem? hB,hk⟩
 have hnot:∀k∈eA v,k∉blks (B.eraseIdx i):=fun k hk hb=>by
  obtain ⟨r,hr,hkr⟩:=bD.1 hb
  obtain ⟨j,hj⟩:=List.mem_iff_getElem?.1 hr
  rw [List.getElem?_eraseIdx] at hj
  split at hj
  .exact ic hB hj ae hw.sep k hk hkr
  exact ic hB hj ae hw.sep k hk hkr
 refine ⟨hw.upd,fun r hr=>hw.okB r (hsub.subset hr),fun r hr=>(List.mem_cons.1 hr).elim (fun e=>e▸how.sl) (hw.okF r),hbs.nodup hw.sep,fun k hk=>hw.own k (hbs.subset hk),fun k hk=>?_⟩
 rcases List.mem_append.1 hk with hk|hk
 .
  have hk':=KO k hk
  exact ⟨(hw.own k (hmem k hk')).1,hnot k hk'⟩
 exact ⟨(hw.lU k hk).1,fun h=>(hw.lU k hk).2 (hbs.subset h)⟩
theorem Wd.T6 {w:World}(hw:Wd we X B F w)(j:Nat)(r r':ah)(hF:F[j]? = some r)(hs:∀k∈r'.blk,k∈r.blk)(hr:r'.ok w):Wd we X B (r'::F) w :=
 hw.fact hr fun k hk=>hw.lU k (bD.2 ⟨r,List.mem_of_getElem? hF,hs k hk⟩)
theorem Wd.FR {w:World}(hw:Wd we X B F w):Wd we X B (ah.ls (α:=α) (.slice none 0 0) []::F) w:=hw.fact (Sl.nil w) (by simp [ah.ls])
theorem R.mp {B' F':List ah}(hm:∀w,Wd we X B F w->Wd we X B' F' w)(h:Run P n we X Q k L B' F'):Run P n we X Q k L B F:=fun a w ha hw=>h a w ha (hm w hw)
theorem R.pQ (hs:Sl we v l)(h:Run P n we [] Q k L B (ah.ls v l::F)):Run P n we [] Q k L B F:=R.nH (r:=ah.ls v l) hs (P2 hs) h
theorem q.nn {m:Int}{i kk q:Nat}{kd:IntKind}(hs:∀w,Wd we X B F w->Sl w v l)(hx:ev L x=some (YtnmpibjlnninjaaGreatDoor.jJ v q))(hy:ev L y=some (.int kd m))(ht:lV P xT=some (e,kk))(hm:m=(i:Int))(hi:i<=q)(hq:q<=lX v) :
 Qt P n we X L B F (.slice xT x (some y) none none) ty (YtnmpibjlnninjaaGreatDoor.cR (YtnmpibjlnninjaaGreatDoor.jJ v q) i kk):=fun _ _ _ _ a w ha hw=>by
 obtain ⟨A,c,rfl,h1,h2,h3⟩:=hs w hw
 obtain ⟨hu,hz⟩:=eE (P:=P) w ht
 subst hm
 simp only [lX] at hq
 have hx':ev L x=some (.slice A q c):=hx
 simp only [execOp,ha.ev hx',Option.map_some,Option.map_none,ha.ev hy,Instr.sliceAt,Sem.run_bind,run_underlying hu,Result.andThen_ok,Instr.slice,Instr.sliceBounds,Instr.sliceBound,asIntOf,Sem.run_pure]
 rw [if_pos ⟨ae,ae⟩]
 simp [hz,YtnmpibjlnninjaaGreatDoor.cR,YtnmpibjlnninjaaGreatDoor.jJ]
theorem s.Ab {lo hi:Nat}{z0:α}{z:Value}(i:Nat)(hB:B[i]? = some (ah.row e v l))(hx:ev L x=some (sl2 v lo hi (Enc.k α)))(ht:lV P t=some (e,Enc.k α))(hz:dZ P e=some z)(hzs:z.cells=(Enc.cells z0).toArray)(hlo:l.length<=lo)(hh:lo<=hi)(hhi:hi<=lX v) :
 Stp P n we X L B F ⟨none,.call { callee:= .builtin .clear,args:= #[x],argTypes:= #[t]},ty,pos,dr,g⟩ (fun _:Unit=>L) (fun _=>B) (fun _=>F) :=
 s.WB (kk:=0) i hB hx ht au (fun z' h=>by
  grind [Enc.len,Enc.one]) hlo hh hhi
theorem s.Bn {o o' m:Nat}{A:TypeId}(i:Nat)(B':List ah)(hB:B[i]? = some (ah.row e v l))(ho:o<l.length)(hm:m=l.length+1)(ho':o'=o+1)(hroom:l.length+1<=lX v)(hx:ev L x=some (cR (jJ v m) o' (Enc.k α)))(hy:ev L y=some (cR (jJ v m) o (Enc.k α)))(ht:lV P t=some (e,Enc.k α))(hB':B.set i (ah.row e (jJ v m) (l.take (o+1)++l.drop o))=B')(hd:Nat.blt d n=true) :
 Stp P n we X L B F ⟨some d,.call { callee:= .builtin .copy,args:= #[x,y],argTypes:= #[t,A]},ty,pos,dr,g⟩ (fun _:Unit=>(d,.int .i64 ((l.length-o:Nat):Int))::L) (fun _=>B') (fun _=>F):=by
 subst hm;subst ho'
 exact s.T2 i B' hB ho hroom hx hy ht hB' hd
theorem gF (v:Value)(i:Nat):lX (jJ v i)=lX v:=by
 cases v <;> rfl
theorem Own.cap {base:Nat}{w:World}{v:Value}{l:List α}(h:Own base e w v l):l.length<=lX v:=by
 obtain ⟨A,c,rfl,h1,_⟩:=h.sl
 exact h1
theorem Wd.cap {w:World}(hw:Wd we X B F w)(i:Nat)(hB:B[i]? = some (ah.row e v l)):l.length<=lX v:=Own.cap (hw.b i hB)
theorem Wd.cz {w:World}(hw:Wd we X B F w)(i:Nat)(hB:B[i]? = some (ah.row e v l)):l.length<=9223372036854775807:=Sl.dY (Own.sl (hw.b i hB))
theorem Wd.aZ {w:World}(hw:Wd we X B F w)(i:Nat)(hF:F[i]? = some (ah.ls v l)):l.length<=9223372036854775807:=Sl.dY (hw.cq i hF)
theorem Sl.one {w:World}{v:Value}{l:List α}(h:Sl w v l):v.oneCell'=true:=by
 obtain ⟨A,c,rfl,_⟩:=h;rfl
theorem Sl.cL {w:World}{v:Value}{l:List α}(h:Sl w v l):v.cells=[v].toArray:=by
 obtain ⟨A,c,rfl,_⟩:=h;rfl
theorem s.T7 {t:TypeId}{cs:List Value}(hx:ev L x=some v)(hv:∀w,Wd we X B F w->v.cells=cs.toArray)(hd:Nat.blt d n=true) :
 Stp P n we X L B F ⟨some d,.box t x,ty,pos,dr,g⟩ (fun b:Nat=>(d,.pointer (some ⟨b,0,none⟩))::L) (fun b=>ah.box b cs t::B) (fun _=>F):=by
 intro K Q' a w ha hw hK
 exact s.box hx (hv w hw) hd K Q' a w ha hw hK
theorem bV:∀u∈([]:List Value),u.oneCell'=true:=fun u hu=>by grind
theorem br {u:Value}{us:List Value}(h:u.oneCell'=true)(hs:∀q∈us,q.oneCell'=true):∀q∈u::us,q.oneCell'=true:=fun q hq=>(List.mem_cons.1 hq).elim (fun e=>e▸h) (hs q)
theorem xg {α β γ δ:Type}[Enc α][Enc β][Enc γ][Enc δ]{w:World}{a b c d x y:Value}{la:List α}{lb:List β}{lc:List γ}{ld:List δ}(h1:Sl w a la)(h2:Sl w b lb)(h3:Sl w c lc)(h4:Sl w d ld)(hx:x.oneCell'=true)(hy:y.oneCell'=true):∀q∈[a,b,c,d,x,y],q.oneCell'=true :=
 br (Sl.one h1) (br (Sl.one h2) (br (Sl.one h3) (br (Sl.one h4) (br hx (br hy bV)))))
theorem R.g9 (α β γ δ:Type)[Enc α][Enc β][Enc γ][Enc δ](h:Run P n we X Q k L B (ah.ls (α:=δ) (.slice none 0 0) []::ah.ls (α:=γ) (.slice none 0 0) []::ah.ls (α:=β) (.slice none 0 0) []::ah.ls (α:=α) (.slice none 0 0) []::F)):Run P n we X Q k L B F :=
 R.mp (fun _ hw=>hw.FR (α:=α)) (R.mp (fun _ hw=>hw.FR (α:=β)) (R.mp (fun _ hw=>hw.FR (α:=γ)) (R.mp (fun _ hw=>hw.FR (α:=δ)) h)))
theorem s.lr {b o:Nat}{cs us cs':List Value}{t:TypeId}{u:Value}(i:Nat)(B':List ah)(hB:B[i]? = some (ah.box b cs t))(hx:ev L x=some (.pointer (some ⟨b,o,none⟩)))(hy:ev L y=some u)(hu:∀w,Wd we X B F w->u.cells=us.toArray)
 (ht:(iP P xT=some us.length∨eX P xT=true/\us.length=1)) (hone:∀w,Wd we X B F w -> ∀q∈us,q.oneCell'=true) (hcs:cs.take o++us++cs.drop (o+us.length)=cs') (hl:Nat.ble (o+us.length) cs.length=true) (hB':B.set i (ah.box b cs' t)=B') :
 Stp P n we X L B F ⟨none,.store xT x y,ty,pos,dr,g⟩ (fun _:Unit=>L) (fun _=>B') (fun _=>F):=by
 intro K Q' a w ha hw hK
 exact s.st i B' hB hx hy (hu w hw) ht (List.all_eq_true.2 (hone w hw)) hcs hl hB' K Q' a w ha hw hK
theorem s.stP {j o:Nat}{z z':α}{u:Value}{us:List Value}(i:Nat)(B':List ah)(hB:B[i]? = some (ah.row e v l))(hj:l[j]? = some z')(hx:ev L x=some (ep v j (Enc.k α) o))(hy:ev L y=some u)(hu:u.cells=us.toArray)(V8:Enc.cells z=(Enc.cells z').take o++us++(Enc.cells z').drop (o+us.length))(hol:Nat.ble (o+us.length) (Enc.k α)=true)(h1:∀q∈us,q.oneCell'=true)
 (ht:(iP P xT=some us.length∨eX P xT=true/\us.length=1)) (hB':B.set i (ah.row e v (l.set j z))=B') :
 Stp P n we X L B F ⟨none,.store xT x y,ty,pos,dr,g⟩ (fun _:Unit=>L) (fun _=>B') (fun _=>F):=by
 intro K Q' a w ha hw hK
 have hjl:j<l.length:=(List.getElem?_eq_some_iff.1 hj).1
 have how:Own 0 e w v l:=hw.b i hB
 obtain ⟨gb,cap,cur,rfl,_,hgg,hnc,hcm,hcs,htk⟩:=how.parts ae
 have YA:o+us.length<=Enc.k α:=Nat.le_of_ble_eq_true hol
 have hjk:j*Enc.k α+Enc.k α<=l.length*Enc.k α:=by
  have:(j+1)*Enc.k α<=l.length*Enc.k α:=Nat.mul_le_mul_right _ hjl
  grind
 have hlc:l.length*Enc.k α<=cap*Enc.k α:=Nat.mul_le_mul_right _ hnc
 have hsz:(sizeOf xT).run P w = .ok us.length w:=by
  rcases ht with h|⟨h,h'⟩
  .exact (wn (P:=P) w h).2
  rw [h'];exact (wq (P:=P) w h).2
 have hst:=run_storeCells_at P gb (j*Enc.k α+o) e us 0 cur w hgg ae h1
 have hrun:(execOp a.eval ⟨none,.store xT x y,ty,pos,dr,g⟩).run P w = .ok .skip (w.setRow gb (cur.toList.take (j*Enc.k α+o)++us++cur.toList.drop (j*Enc.k α+o+us.length)).toArray):=by
  simp only [execOp,ha.ev hx,ha.ev hy,ep,Instr.storeAt,Instr.sureAddr,storeVar,hu,Sem.run_bind,Sem.run_pure,Result.andThen_ok,hsz]
  simp_all
 unfold Oper.wp
 rw [hrun,Oper.upon_skip]
 have hz:(l.flatMap Enc.cells).drop (j*Enc.k α)=Enc.cells z'++(l.flatMap Enc.cells).drop (j*Enc.k α+Enc.k α):=by
  have e1:l.drop j=z'::l.drop (j+1):=by
   grind [List.drop_eq_getElem_cons,List.getElem?_eq_some_iff]
  rw [<- lM,e1,List.flatMap_cons,lM,Nat.add_mul,Nat.one_mul]
 have hzl:=Enc.len z'
 have hll:(l.set j z).length=l.length:=List.length_set
 have h3:(cur.toList.take (j*Enc.k α+o)).length=j*Enc.k α+o:=au
 have:=hw.rV (l':=l.set j z) (cs':=cur.toList.take (j*Enc.k α+o)++us++cur.toList.drop (j*Enc.k α+o+us.length)) hB hgg hcm hcs au (by
  have hfl:=dL l
  rw [hll,xd l j z hjl,sY _ _ _ _ ae au,htk,V8]
  have a1:(l.flatMap Enc.cells).take (j*Enc.k α+o)=(l.flatMap Enc.cells).take (j*Enc.k α)++(Enc.cells z').take o:=by
   rw [List.take_add,hz,List.take_append_of_le_length ae]
  have a2:(l.flatMap Enc.cells).drop (j*Enc.k α+o+us.length)=(Enc.cells z').drop (o+us.length)++(l.flatMap Enc.cells).drop (j*Enc.k α+Enc.k α):=by
   rw [Nat.add_assoc,<- List.drop_drop,hz,List.drop_append_of_le_length ae]
  grind) ae
 simp_all [Act.put]
end
section
variable {P:Program} {n:Nat} {we:World} {X:List Nat} {L:Fm} {B F B2 F2:List ah}
theorem s.pre {β:Type}{o:Oper}{L':β->Fm}{B' F':β->List ah}(hm:∀w,Wd we X B F w->Wd we X B2 F2 w)(h:Stp P n we X L B2 F2 o L' B' F'):Stp P n we X L B F o L' B' F' :=
 fun K Q' a w ha hw hK=>h K Q' a w ha (hm w hw) hK
end
end
end Go.Proofs.YtnmpibjlnninjaaGreatDoor
