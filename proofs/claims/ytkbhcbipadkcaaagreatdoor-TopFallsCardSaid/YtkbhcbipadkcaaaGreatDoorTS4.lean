import Derived.Test.YtkbhcbipadkcaaaGreatDoorTS3
import Derived.Lib.AppendZerosOnto
import Derived.Lib.Overlaps
namespace Go.Proofs.YtkbhcbipadkcaaaGreatDoor
set_option linter.unusedVariables false
set_option linter.unusedSimpArgs false
set_option maxRecDepth 100000
set_option maxHeartbeats 90000000
open Go Go.RowKit
def lz (v:Value):Nat:=match v with | .slice _ _ c=>c|_=>0
def sl2 (v:Value)(lo hi k:Nat):Value:=match v with | .slice A _ c => .slice (if c=lo then A else A.map (·.add (lo*k))) (hi-lo) (c-lo)|_=>undef
def Er (v:Value)(lo hi m k:Nat):Value:=match v with | .slice A _ c => .slice (if m=lo then A else A.map (·.add (lo*k))) (hi-lo) (m-lo)|_=>undef
section
variable {P:Program} {n:Nat} {we:World} {X:List Nat} {Q:Exit->Act->World->Prop} {k k':List It} {L:Fm} {B F:List ag} {ops rest:List Oper}
variable {dst:Option Nat} {d:Nat} {op:Op} {ty:TypeId} {pos:String} {eh:Array Edge} {g:Option (Nat×Bool)} {g':Nat×Bool} {v:Value}
variable {x y z:Operand} {xT yT t e:TypeId} {kd Rr Vr:IntKind} {α:Type} [Enc α] {l:List α}
theorem Sl.slice {w:World}{v:Value}{l:List α}(h:Sl w v l):∃A,v = .slice A l.length (lz v)/\l.length<=lz v/\lz v<=maxLen:=by
 obtain ⟨A,c,rfl,h1,h2,_⟩:=h
 exact ⟨A,rfl,h1,h2⟩
theorem q.dA {m:Int}{i kk:Nat}(hs:∀w,Wd we X B F w->Sl w v l)(hx:ev L x=some v)(hy:ev L y=some (.int kd m))(ht:o9 P xT=some (e,kk))(hm:m=(i:Int))(hi:i<=l.length) :
 Qt P n we X L B F (.slice xT x (some y) none none) ty (YtkbhcbipadkcaaaGreatDoor.dA v i kk):=fun _ _ _ _ a w ha hw=>by
 obtain ⟨A,c,rfl,h1,h2,h3⟩:=hs w hw
 obtain ⟨hu,hz⟩:=eR (P:=P) w ht
 subst hm
 simp only [execOp,ha.ev hx,Option.map_some,Option.map_none,ha.ev hy,Instr.sliceAt,Sem.run_bind,run_underlying hu,Result.andThen_ok,Instr.slice,Instr.sliceBounds,Instr.sliceBound,asIntOf,Sem.run_pure]
 rw [if_pos ⟨by omega,by omega⟩]
 simp [hz,YtkbhcbipadkcaaaGreatDoor.dA]
theorem q.Rs {m:Int}{i kk:Nat}(hs:∀w,Wd we X B F w->Sl w v l)(hx:ev L x=some v)(hy:ev L y=some (.int kd m))(ht:o9 P xT=some (e,kk))(hm:m=(i:Int))(hi:i<=lz v) :
 Qt P n we X L B F (.slice xT x none (some y) none) ty (YtkbhcbipadkcaaaGreatDoor.kG v i):=fun _ _ _ _ a w ha hw=>by
 obtain ⟨A,c,rfl,h1,h2,h3⟩:=hs w hw
 obtain ⟨hu,hz⟩:=eR (P:=P) w ht
 subst hm
 simp only [lz] at hi
 simp only [execOp,ha.ev hx,Option.map_some,Option.map_none,ha.ev hy,Instr.sliceAt,Sem.run_bind,run_underlying hu,Result.andThen_ok,Instr.slice,Instr.sliceBounds,Instr.sliceBound,asIntOf,Sem.run_pure]
 rw [if_pos ⟨by omega,by omega⟩]
 simp [hz,YtkbhcbipadkcaaaGreatDoor.kG]
 cases A <;> simp [Addr.add_zero']
theorem q.sl2 {m r:Int}{i j kk:Nat}(hs:∀w,Wd we X B F w->Sl w v l)(hx:ev L x=some v)(hy:ev L y=some (.int kd m))(hz':ev L z=some (.int Rr r))(ht:o9 P xT=some (e,kk))(hm:m=(i:Int))(hr:r=(j:Int))(hij:i<=j)(hj:j<=lz v) :
 Qt P n we X L B F (.slice xT x (some y) (some z) none) ty (YtkbhcbipadkcaaaGreatDoor.sl2 v i j kk):=fun _ _ _ _ a w ha hw=>by
 obtain ⟨A,c,rfl,h1,h2,h3⟩:=hs w hw
 obtain ⟨hu,hz⟩:=eR (P:=P) w ht
 subst hm;subst hr
 simp only [lz] at hj
 simp only [execOp,ha.ev hx,Option.map_some,Option.map_none,ha.ev hy,ha.ev hz',Instr.sliceAt,Sem.run_bind,run_underlying hu,Result.andThen_ok,Instr.slice,Instr.sliceBounds,Instr.sliceBound,asIntOf,Sem.run_pure]
 rw [if_pos ⟨by omega,by omega⟩]
 simp only [Sem.run_bind,Sem.run_pure,Result.andThen_ok]
 rw [if_pos ⟨by omega,by omega⟩]
 simp [hz,YtkbhcbipadkcaaaGreatDoor.sl2]
theorem q.Er {m r s:Int}{i j q' kk:Nat}{zz:Operand}(hs:∀w,Wd we X B F w->Sl w v l)(hx:ev L x=some v)(hy:ev L y=some (.int kd m))(hz':ev L z=some (.int Rr r))(hzz:ev L zz=some (.int Vr s))(ht:o9 P xT=some (e,kk))(hm:m=(i:Int))(hr:r=(j:Int))(Vs:s=(q':Int))(hij:i<=j)(hj:j<=q')(hq:q'<=l.length) :
 Qt P n we X L B F (.slice xT x (some y) (some z) (some zz)) ty (YtkbhcbipadkcaaaGreatDoor.Er v i j q' kk):=fun _ _ _ _ a w ha hw=>by
 obtain ⟨A,c,rfl,h1,h2,h3⟩:=hs w hw
 obtain ⟨hu,hz⟩:=eR (P:=P) w ht
 subst hm;subst hr;subst Vs
 simp only [execOp,ha.ev hx,Option.map_some,Option.map_none,ha.ev hy,ha.ev hz',ha.ev hzz,Instr.sliceAt,Sem.run_bind,run_underlying hu,Result.andThen_ok,Instr.slice,Instr.sliceBounds,Instr.sliceBound,asIntOf,Sem.run_pure]
 rw [if_pos ⟨by omega,by omega⟩]
 simp only [Sem.run_bind,Sem.run_pure,Result.andThen_ok]
 rw [if_pos ⟨by omega,by omega⟩]
 simp only [Sem.run_bind,Sem.run_pure,Result.andThen_ok]
 rw [if_pos ⟨by omega,by omega⟩]
 simp [hz,YtkbhcbipadkcaaaGreatDoor.Er]
theorem q.cap (hs:∀w,Wd we X B F w->Sl w v l)(hx:ev L x=some v)(ht:P.underlying xT=some (.slice e)):Qt P n we X L B F (.call { callee:= .builtin .cap,args:= #[x],argTypes:= #[xT] }) ty (.int .i64 (lz v)):=fun _ _ _ _ a w ha hw=>by
 obtain ⟨A,c,rfl,_⟩:=hs w hw
 simp [execOp,resolve,invoke,builtin,ha.ev hx,Builtin.cap_,run_underlying ht,goInt,lz]
theorem Own.parts {base:Nat}{w:World}(h:Own base e w v l)(h0:0<l.length):∃gb cap cur,v = .slice (some ⟨gb,0,none⟩) l.length cap/\base<=gb/\w.heap[gb]? = some (.cells cur e (0,0))/\l.length<=cap/\cap<=maxLen/\cur.size=cap*Enc.k α/\cur.toList.take (l.length*Enc.k α)=l.flatMap Enc.cells:=by
 rcases h.2 with ⟨_,h1⟩ | h1
 .omega
 .
  obtain ⟨gb,cap,cur,h2,h3,h4,h5,h6,h7,h8⟩:=h1
  exact ⟨gb,cap,cur,h2,h3,h4,h5,h6,h7,h8⟩
theorem Wd.rH {w:World}{gb cap:Nat}{cur:Array Value}{i:Nat}{l':List α}{cs':List Value}(hw:Wd we X B F w)(hB:B[i]? = some (ag.row e (.slice (some ⟨gb,0,none⟩) l.length cap) l))
 (hgg:w.heap[gb]? = some (.cells cur e (0,0))) (hcap:cap<=maxLen) (hcs:cur.size=cap*Enc.k α) (hsz:cs'.length=cur.size) (htk:cs'.take (l'.length*Enc.k α)=l'.flatMap Enc.cells) (hl':l'.length<=cap) :
 Wd we X (B.set i (ag.row e (.slice (some ⟨gb,0,none⟩) l'.length cap) l')) F (w.setRow gb cs'.toArray):=by
 refine hw.turn hB (od w gb _) ?_ (by simp [ag.row,dW]) (fun k hk'=>?_)
 .exact ⟨by rw [di],.inr ⟨gb,cap,_,rfl,Nat.zero_le _,setRow_heap w gb _ _ e _ hgg,hl',hcap,by simpa [hsz] using hcs,by simpa using htk⟩⟩
 .
  simp [ag.row,dW] at hk';subst hk'
  exact ⟨by simp [World.setRow];exact (Array.getElem?_eq_some_iff.1 hgg).1,.inl (by simp [ag.row,dW])⟩
theorem kK:∀ (l:List α) (a:Nat),(l.take a).flatMap Enc.cells=(l.flatMap Enc.cells).take (a*Enc.k α)
 | [],a=>by simp
 | x::l,0=>by simp
 | x::l,a+1=>by
  have hx:=Enc.len x
  have:(a+1)*Enc.k α=(Enc.cells x).length+a*Enc.k α:=by rw [hx,Nat.add_mul];omega
  simp only [List.take_succ_cons,List.flatMap_cons,kK l a,this]
  rw [List.take_length_add_append]
theorem lZ:∀ (l:List α) (a:Nat),(l.drop a).flatMap Enc.cells=(l.flatMap Enc.cells).drop (a*Enc.k α)
 | [],a=>by simp
 | x::l,0=>by simp
 | x::l,a+1=>by
  have hx:=Enc.len x
  have:(a+1)*Enc.k α=(Enc.cells x).length+a*Enc.k α:=by rw [hx,Nat.add_mul];omega
  simp only [List.drop_succ_cons,List.flatMap_cons,lZ l a,this]
  rw [List.drop_length_add_append]
theorem Own.to {base:Nat}{w:World}(h:Own base e w v l){a:Nat}(ha:a<=l.length):Own base e w (kG v a) (l.take a):=by
 have hl:(l.take a).length=a:=by rw [List.length_take];omega
 rcases h.2 with ⟨rfl,h1⟩ | ⟨gb,cap,cur,rfl,h3,h4,h5,h6,h7,h8⟩
 .
  have:l=[]:=List.eq_nil_of_length_eq_zero h1
  subst this
  have:a=0:=by simpa using ha
  subst this
  exact Own.nil _ _ _
 .
  refine ⟨by rw [di],.inr ⟨gb,cap,cur,by rw [hl];rfl,h3,h4,by omega,h6,h7,?_⟩⟩
  rw [hl,kK,<- h8,List.take_take,Nat.min_eq_left (Nat.mul_le_mul_right _ ha)]
theorem R.IZ (i a:Nat)(B':List ag)(hB:B[i]? = some (ag.row e v l))(ha:a<=l.length)(hB':B.set i (ag.row e (kG v a) (l.take a))=B')(h:Run P n we X Q k L B' F):Run P n we X Q k L B F:=fun ac w hac hw=>h ac w hac (by
 subst hB'
 have how:Own 0 e w v l:=hw.b i hB
 have hb2:dW (kG v a)=dW v:=by
  rcases how.2 with ⟨rfl,_⟩ | ⟨gb,cap,cur,rfl,_⟩ <;> rfl
 refine hw.turn hB (lR.refl _ _) (how.to ha) (by show (dW _).Nodup;rw [hb2];exact (og how).1) (fun k hk=>?_)
 have hk':k∈dW v:=by rw [<- hb2];exact hk
 exact ⟨((og how).2 k hk').2,.inl hk'⟩)
theorem s.tE {bytes a:Nat}{u:Value}{l2:List α}(i:Nat)(B':List ag)(hB:B[i]? = some (ag.row e v l))(hx:ev L x=some (kG v a))(hy:ev L y=some u)(hs:∀w,Wd we X B F w->Sl w u l2)
 (ht:sD P t (Enc.k α)=some (e,bytes)) (h0:0<l.length) (ha2:a+l2.length<=l.length) (hB':B.set i (ag.row e (kG v (a+l2.length)) (l.take a++l2))=B') (hd:Nat.blt d n=true) :
 Stp P n we X L B F ⟨some d,.call { callee:= .builtin .append,args:= #[x,y],argTypes:= #[t,t] },ty,pos,eh,g⟩ (fun _:Unit=>(d,kG v (a+l2.length))::L) (fun _=>B') (fun _=>F):=by
 intro K Q' ac w hac hw hK
 obtain ⟨ti,z,g1,g2,g3,g4,g5,g6⟩:=tD ht
 have how:Own 0 e w v l:=hw.b i hB
 obtain ⟨gb,cap,cur,rfl,_,hgg,hnc,hcm,hcs,htk⟩:=how.parts h0
 obtain ⟨A2,c2,rfl,h21,h22,h23⟩:=hs w hw
 have hfl:(l2.flatMap Enc.cells).length=l2.length*ti.size:=by rw [di,g4]
 have hk:=Enc.pos (α:=α)
 have hle:a*Enc.k α+l2.length*Enc.k α<=cap*Enc.k α:=by rw [<- Nat.add_mul];exact Nat.mul_le_mul_right _ (by omega)
 have hla:(l.take a).length=a:=by rw [List.length_take];omega
 have hl':(l.take a++l2).length=a+l2.length:=by rw [List.length_append,hla]
 have hnew:∀cs':List Value,cs'=cur.toList.take (a*ti.size)++l2.flatMap Enc.cells++cur.toList.drop (a*ti.size+(l2.flatMap Enc.cells).length)->cs'.length=cur.size/\cs'.take ((l.take a++l2).length*Enc.k α)=(l.take a++l2).flatMap Enc.cells:=fun cs' hcs'=>by
  have T5:(cur.toList.take (a*Enc.k α)).length=a*Enc.k α:=by rw [List.length_take];simp;omega
  have e1:cur.toList.take (a*Enc.k α)=(l.take a).flatMap Enc.cells:=by
   rw [kK,<- htk,List.take_take,Nat.min_eq_left (Nat.mul_le_mul_right _ (by omega))]
  subst hcs'
  rw [g4] at hfl ⊢
  refine ⟨by simp only [List.length_append,T5,hfl,List.length_drop];simp;omega,?_⟩
  rw [hl',List.flatMap_append,<- e1,List.take_append,List.length_append,T5,hfl,Nat.add_mul,Nat.sub_self,List.take_zero,List.append_nil,List.take_of_length_le (by simp only [List.length_append,T5,hfl];omega)]
 have hfin:∀cs',(cs'=cur.toList.take (a*ti.size)++l2.flatMap Enc.cells++cur.toList.drop (a*ti.size+(l2.flatMap Enc.cells).length))->Wd we X B' F (w.setRow gb cs'.toArray):=fun cs' hcs'=>by
  have:=hw.rH (l':=l.take a++l2) hB hgg hcm hcs (hnew cs' hcs').1 (hnew cs' hcs').2 (by omega)
  rw [<- hB']
  simpa [hl',kG] using this
 unfold Oper.wp
 cases A2 with
 | none =>
  have hl2:l2=[]:=by
   cases l2 with
   | nil=>rfl
   | cons x l2=>obtain ⟨b,off,h,_⟩:=h23 0 x rfl;cases h
  subst hl2
  have hself:w.setRow gb (cur.toList.take (a*ti.size)++(([]:List α).flatMap Enc.cells)++cur.toList.drop (a*ti.size+(([]:List α).flatMap Enc.cells).length)).toArray=w:=by
   simp only [List.flatMap_nil,List.append_nil,List.length_nil,Nat.add_zero,List.take_append_drop,Array.toArray_toList]
   exact setRow_self w gb cur e (0,0) hgg
  have hrun:(execOp ac.eval ⟨some d,.call { callee:= .builtin .append,args:= #[x,y],argTypes:= #[t,t] },ty,pos,eh,g⟩).run P w = .ok (.value (.slice (some ⟨gb,0,none⟩) a cap)) w:=by
   have hx':ev L x=some (.slice (some ⟨gb,0,none⟩) a cap):=hx
   have T6:a<=cap:=by omega
   simp [execOp,resolve,invoke,builtin,hac.ev hx',hac.ev hy,Builtin.append_,run_underlying g1,sizeOf,typeInfo,g2,Builtin.lenOf,Builtin.firstCells,T6,storeCells]
  rw [hrun,Oper.upon_value]
  have:=hfin _ rfl
  rw [hself] at this
  exact hK () _ _ (hac.put d _ hd) this
 | some ad =>
  have hn:∀j u,(l2.flatMap Enc.cells)[j]? = some u->w.cell? (ad.add j)=some u:=fun j u hu=>by
   obtain ⟨i,x,q,q1,q2,q3⟩:=me l2 j u hu
   obtain ⟨b,off,q4,q5,q6⟩:=h23 i x q1
   injection q4 with q4;subst q4
   rw [addr_add,q3,<- Nat.add_assoc];exact q6 q u q2
  have hr:=run_append_room (P:=P) w t ty e ti g1 g2 gb a cap cur hgg ad l2.length c2 (l2.flatMap Enc.cells) hfl hn (lx l2) (by omega) (by rw [hfl,g4,hcs];exact hle)
  have hrun:(execOp ac.eval ⟨some d,.call { callee:= .builtin .append,args:= #[x,y],argTypes:= #[t,t] },ty,pos,eh,g⟩).run P w = .ok (.value (.slice (some ⟨gb,0,none⟩) (a+l2.length) cap)) (w.setRow gb (cur.toList.take (a*ti.size)++l2.flatMap Enc.cells++cur.toList.drop (a*ti.size+(l2.flatMap Enc.cells).length)).toArray):=by
   have hx':ev L x=some (.slice (some ⟨gb,0,none⟩) a cap):=hx
   simp [execOp,resolve,invoke,builtin,hac.ev hx',hac.ev hy,hr]
  rw [hrun,Oper.upon_value]
  exact hK () _ _ (hac.put d _ hd) (hfin _ rfl)
theorem ng {z0:α}{z:Value}(hz:z.cells=(Enc.cells z0).toArray)(m:Nat):(Builtin.zeroCells z.cells m).toList=(List.replicate m z0).flatMap Enc.cells:=by
 have hk:=Enc.len z0
 have hp:=Enc.pos (α:=α)
 have hsz:z.cells.size=Enc.k α:=by rw [hz];simpa using hk
 refine List.ext_getElem? fun j=>?_
 have hfl:=di (List.replicate m z0)
 rw [List.length_replicate] at hfl
 simp only [Builtin.zeroCells,hsz,Array.toList_map,Array.toList_range,List.getElem?_map]
 by_cases hj:j<m*Enc.k α
 .
  rw [List.getElem?_range hj]
  have hq:j / Enc.k α<m:=(Nat.div_lt_iff_lt_mul hp).2 hj
  have hr:j % Enc.k α<(Enc.cells z0).length:=by rw [hk];exact Nat.mod_lt _ hp
  have:=flat_get (List.replicate m z0) (j / Enc.k α) z0 (j % Enc.k α) (Enc.cells z0)[j % Enc.k α] (by rw [List.getElem?_replicate,if_pos hq]) (List.getElem?_eq_getElem hr)
  rw [Nat.div_add_mod'] at this
  rw [this]
  simp [hz,getElem!_pos,hr]
 .rw [List.getElem?_eq_none (by simpa using Nat.le_of_not_lt hj),List.getElem?_eq_none (by rw [hfl];omega)];rfl
theorem s.T7 {lo hi kk:Nat}(i:Nat)(hB:B[i]? = some (ag.row e v l))(hx:ev L x=some (sl2 v lo hi (Enc.k α)))(ht:o9 P t=some (e,Enc.k α))(hz:(gi P e).isSome=true)(hzs:∀z,gi P e=some z->z.cells.size=Enc.k α /\ ∀u∈z.cells.toList,u.oneCell'=true)(hlo:l.length<=lo)(hh:lo<=hi)(hhi:hi<=lz v) :
 Stp P n we X L B F ⟨none,.call { callee:= .builtin .clear,args:= #[x],argTypes:= #[t] },ty,pos,eh,g⟩ (fun _:Unit=>L) (fun _=>B) (fun _=>F):=by
 intro K Q' ac w hac hw hK
 obtain ⟨hu,hsz⟩:=eR (P:=P) w ht
 have how:Own 0 e w v l:=hw.b i hB
 have hput:Fr n L (ac.put none (.tuple #[])):=by simpa [Act.put] using hac
 have hset:B.set i (ag.row e v l)=B:=List.ext_getElem? fun j=>by
  rw [List.getElem?_set];split
  .rename_i hij;subst hij;rw [hB];simp;exact (List.getElem?_eq_some_iff.1 hB).1
  .rfl
 unfold Oper.wp
 rcases how.2 with ⟨rfl,h1⟩ | ⟨gb,cap,cur,rfl,_,hgg,hnc,hcm,hcs,htk⟩
 .
  simp only [lz] at hhi
  have:lo=0:=by omega
  have:hi=0:=by omega
  subst lo;subst hi
  have hx':ev L x=some (.slice none 0 0):=by simpa [sl2] using hx
  have hrun:(execOp ac.eval ⟨none,.call { callee:= .builtin .clear,args:= #[x],argTypes:= #[t] },ty,pos,eh,g⟩).run P w = .ok (.value (.tuple #[])) w:=by
   simp [execOp,resolve,invoke,builtin,hac.ev hx',Builtin.clear_,run_underlying hu]
  rw [hrun,Oper.upon_value];exact hK () _ _ hput hw
 .
  simp only [lz] at hhi
  by_cases h0:hi-lo=0
  .
   have hx':ev L x=some (.slice (if cap=lo then some ⟨gb,0,none⟩ else some ((⟨gb,0,none⟩:Addr).add (lo*Enc.k α))) 0 (cap-lo)):=by
    rw [hx];simp only [sl2,h0];split <;> rfl
   have hrun:(execOp ac.eval ⟨none,.call { callee:= .builtin .clear,args:= #[x],argTypes:= #[t] },ty,pos,eh,g⟩).run P w = .ok (.value (.tuple #[])) w:=by
    have hx2:=hac.ev hx'
    split at hx2 <;> simp [execOp,resolve,invoke,builtin,hx2,Builtin.clear_,run_underlying hu]
   rw [hrun,Oper.upon_value];exact hK () _ _ hput hw
  .
   obtain ⟨z,hz1⟩:=Option.isSome_iff_exists.1 hz
   obtain ⟨hz2,hz3⟩:=hzs z hz1
   have hne:cap≠lo:=by omega
   have hx':ev L x=some (.slice (some ⟨gb,lo*Enc.k α,none⟩) (hi-lo) (cap-lo)):=by
    rw [hx];simp only [sl2,if_neg hne];simp [addr_add]
   have hzl:(Builtin.zeroCells z.cells (hi-lo)).toList.length=(hi-lo)*Enc.k α:=by simp [Builtin.zeroCells,hz2]
   have hone:∀u∈(Builtin.zeroCells z.cells (hi-lo)).toList,u.oneCell'=true:=fun u hu=>by
    simp only [Builtin.zeroCells,Array.toList_map,List.mem_map] at hu
    obtain ⟨j,_,rfl⟩:=hu
    have hp:=Enc.pos (α:=α)
    have hj:j % z.cells.size<z.cells.size:=Nat.mod_lt _ (by omega)
    rw [getElem!_pos z.cells (j % z.cells.size) hj]
    exact hz3 _ (by simp)
   have hle:lo*Enc.k α+(hi-lo)*Enc.k α<=cap*Enc.k α:=by rw [<- Nat.add_mul];exact Nat.mul_le_mul_right _ (by omega)
   have hst:=run_storeCells_at P gb (lo*Enc.k α) e (Builtin.zeroCells z.cells (hi-lo)).toList 0 cur w hgg (by rw [hzl,hcs];exact hle) hone
   have hrun:(execOp ac.eval ⟨none,.call { callee:= .builtin .clear,args:= #[x],argTypes:= #[t] },ty,pos,eh,g⟩).run P w = .ok (.value (.tuple #[])) (w.setRow gb (cur.toList.take (lo*Enc.k α)++(Builtin.zeroCells z.cells (hi-lo)).toList++cur.toList.drop (lo*Enc.k α+(Builtin.zeroCells z.cells (hi-lo)).toList.length)).toArray):=by
    obtain ⟨mm,hmm⟩:∃mm,hi-lo=mm+1:=⟨hi-lo-1,by omega⟩
    rw [hmm] at hx' hst ⊢
    simp only [Nat.add_zero] at hst
    simp only [execOp,resolve,invoke,builtin,hac.ev hx',Builtin.clear_,run_underlying hu,Sem.run_bind,Sem.run_pure,Result.andThen_ok,List.map_toArray,List.map_cons,List.map_nil,List.getElem?_toArray,List.getElem?_cons_zero,nz (P:=P) w hz1,hst]
   rw [hrun,Oper.upon_value]
   have hll:l.length*Enc.k α<=lo*Enc.k α:=Nat.mul_le_mul_right _ hlo
   have:=hw.rH (l':=l) (cs':=cur.toList.take (lo*Enc.k α)++(Builtin.zeroCells z.cells (hi-lo)).toList++cur.toList.drop (lo*Enc.k α+(Builtin.zeroCells z.cells (hi-lo)).toList.length)) hB hgg hcm hcs (by simp only [List.length_append,List.length_take,List.length_drop,hzl];simp;omega) (by
    rw [List.append_assoc,List.take_append_of_le_length (by simp;omega),List.take_take,Nat.min_eq_left hll,htk]) hnc
   rw [hset] at this
   exact hK () _ _ hput this
theorem s.OL {lo:Nat}{z0:α}{z:Value}(i:Nat)(B':List ag)(hB:B[i]? = some (ag.row e v l))(hx:ev L x=some (dA v lo (Enc.k α)))(ht:o9 P t=some (e,Enc.k α))(hz:gi P e=some z)(hzs:z.cells=(Enc.cells z0).toArray)(hlo:lo<=l.length)(hB':B.set i (ag.row e v (l.take lo++List.replicate (l.length-lo) z0))=B') :
 Stp P n we X L B F ⟨none,.call { callee:= .builtin .clear,args:= #[x],argTypes:= #[t] },ty,pos,eh,g⟩ (fun _:Unit=>L) (fun _=>B') (fun _=>F):=by
 intro K Q' ac w hac hw hK
 obtain ⟨hu,hsz⟩:=eR (P:=P) w ht
 have how:Own 0 e w v l:=hw.b i hB
 have hput:Fr n L (ac.put none (.tuple #[])):=by simpa [Act.put] using hac
 unfold Oper.wp
 by_cases h0:l.length-lo=0
 .
  have hl:l.take lo++List.replicate (l.length-lo) z0=l:=by rw [h0,List.take_of_length_le (by omega)];simp
  have Vt:B'=B:=by
   rw [<- hB',hl]
   refine List.ext_getElem? fun j=>?_
   rw [List.getElem?_set];split
   .rename_i hij;subst hij;rw [hB];simp;exact (List.getElem?_eq_some_iff.1 hB).1
   .rfl
  have hrun:(execOp ac.eval ⟨none,.call { callee:= .builtin .clear,args:= #[x],argTypes:= #[t] },ty,pos,eh,g⟩).run P w = .ok (.value (.tuple #[])) w:=by
   rcases how.2 with ⟨rfl,h1⟩ | ⟨gb,cap,cur,rfl,_,hgg,hnc,hcm,hcs,htk⟩
   .
    have hx':ev L x=some (.slice none 0 (0-lo)):=by
     rw [hx];simp [dA]
    simp [execOp,resolve,invoke,builtin,hac.ev hx',Builtin.clear_,run_underlying hu]
   .
    have hx':ev L x=some (.slice (if cap=lo then some ⟨gb,0,none⟩ else some ((⟨gb,0,none⟩:Addr).add (lo*Enc.k α))) 0 (cap-lo)):=by
     rw [hx];simp only [dA,h0];split <;> rfl
    have hx2:=hac.ev hx'
    split at hx2 <;> simp [execOp,resolve,invoke,builtin,hx2,Builtin.clear_,run_underlying hu]
  rw [hrun,Oper.upon_value]
  exact hK () _ _ hput (Vt▸hw)
 .
  obtain ⟨gb,cap,cur,rfl,_,hgg,hnc,hcm,hcs,htk⟩:=how.parts (by omega)
  have hne:cap≠lo:=by omega
  have hx':ev L x=some (.slice (some ⟨gb,lo*Enc.k α,none⟩) (l.length-lo) (cap-lo)):=by
   rw [hx];simp only [dA,if_neg hne];simp [addr_add]
  have hzc:=ng hzs (l.length-lo)
  have hzl:(Builtin.zeroCells z.cells (l.length-lo)).toList.length=(l.length-lo)*Enc.k α:=by rw [hzc,di,List.length_replicate]
  have hsum:lo*Enc.k α+(l.length-lo)*Enc.k α=l.length*Enc.k α:=by rw [<- Nat.add_mul];congr 1;omega
  have hle:l.length*Enc.k α<=cap*Enc.k α:=Nat.mul_le_mul_right _ hnc
  have hst:=run_storeCells_at P gb (lo*Enc.k α) e (Builtin.zeroCells z.cells (l.length-lo)).toList 0 cur w hgg (by rw [hzl,hcs];omega) (by rw [hzc];exact lx _)
  have hrun:(execOp ac.eval ⟨none,.call { callee:= .builtin .clear,args:= #[x],argTypes:= #[t] },ty,pos,eh,g⟩).run P w = .ok (.value (.tuple #[])) (w.setRow gb (cur.toList.take (lo*Enc.k α)++(Builtin.zeroCells z.cells (l.length-lo)).toList++cur.toList.drop (lo*Enc.k α+(Builtin.zeroCells z.cells (l.length-lo)).toList.length)).toArray):=by
   obtain ⟨mm,hmm⟩:∃mm,l.length-lo=mm+1:=⟨l.length-lo-1,by omega⟩
   rw [hmm] at hx' hst ⊢
   simp only [Nat.add_zero] at hst
   simp only [execOp,resolve,invoke,builtin,hac.ev hx',Builtin.clear_,run_underlying hu,Sem.run_bind,Sem.run_pure,Result.andThen_ok,List.map_toArray,List.map_cons,List.map_nil,List.getElem?_toArray,List.getElem?_cons_zero,nz (P:=P) w hz,hst]
  rw [hrun,Oper.upon_value]
  have hll:(l.take lo++List.replicate (l.length-lo) z0).length=l.length:=by simp;omega
  have h3:(cur.toList.take (lo*Enc.k α)).length=lo*Enc.k α:=by rw [List.length_take];simp;omega
  have:=hw.rH (l':=l.take lo++List.replicate (l.length-lo) z0) (cs':=cur.toList.take (lo*Enc.k α)++(Builtin.zeroCells z.cells (l.length-lo)).toList++cur.toList.drop (lo*Enc.k α+(Builtin.zeroCells z.cells (l.length-lo)).toList.length)) hB hgg hcm hcs (by simp only [List.length_append,h3,List.length_drop,hzl];simp;omega) (by
   have e1:cur.toList.take (lo*Enc.k α)=(l.take lo).flatMap Enc.cells:=by
    rw [kK,<- htk,List.take_take,Nat.min_eq_left (by omega)]
   rw [hll,List.flatMap_append,<- hzc,<- e1,List.take_append_of_le_length (by simp only [List.length_append,h3,hzl];omega),List.take_of_length_le (by simp only [List.length_append,h3,hzl];omega)]) (by omega)
  rw [hll] at this
  exact hK () _ _ hput (hB'▸this)
theorem s.uz {o:Nat}{u:Value}{l2:List α}{A:TypeId}(i:Nat)(B':List ag)(hB:B[i]? = some (ag.row e v l))(hs:∀w,Wd we X B F w->Sl w u l2)(hx:ev L x=some (dA v o (Enc.k α)))(hy:ev L y=some u)(ht:o9 P t=some (e,Enc.k α))(hlen:o+l2.length<=l.length)(hB':B.set i (ag.row e v (l.take o++l2++l.drop (o+l2.length)))=B')(hd:Nat.blt d n=true) :
 Stp P n we X L B F ⟨some d,.call { callee:= .builtin .copy,args:= #[x,y],argTypes:= #[t,A] },ty,pos,eh,g⟩ (fun _:Unit=>(d,.int .i64 l2.length)::L) (fun _=>B') (fun _=>F):=by
 intro K Q' ac w hac hw hK
 obtain ⟨hu,hsz⟩:=eR (P:=P) w ht
 have how:Own 0 e w v l:=hw.b i hB
 obtain ⟨A2,c2,rfl,h21,h22,h23⟩:=hs w hw
 have hset:B.set i (ag.row e v l)=B:=List.ext_getElem? fun j=>by
  rw [List.getElem?_set];split
  .rename_i hij;subst hij;rw [hB];simp;exact (List.getElem?_eq_some_iff.1 hB).1
  .rfl
 have hk:=Enc.pos (α:=α)
 unfold Oper.wp
 by_cases hl2:l2=[]
 .
  subst hl2
  have hl:l.take o++[]++l.drop (o+0)=l:=by simp
  have hrun:(execOp ac.eval ⟨some d,.call { callee:= .builtin .copy,args:= #[x,y],argTypes:= #[t,A] },ty,pos,eh,g⟩).run P w = .ok (.value (.int .i64 0)) w:=by
   have hy':ev L y=some (.slice A2 0 c2):=hy
   have hmin:∀q,Nat.min 0 q=0:=fun q=>Nat.zero_min q
   have hld:∀ (a:Addr),(loadCells a 0).run P w = .ok #[] w:=fun a=>by simpa using run_loadCells_list (P:=P) w a [] (by simp)
   rcases how.2 with ⟨rfl,h1⟩ | ⟨gb,cap,cur,rfl,_,hgg,hnc,hcm,hcs,htk⟩
   .
    have hx':ev L x=some (.slice none (0-o) (0-o)):=by rw [hx];simp [dA]
    cases A2 <;> simp [execOp,resolve,invoke,builtin,hac.ev hx',hac.ev hy',Builtin.copy_,run_underlying hu,Builtin.lenOf,Builtin.firstCells,hsz,hmin,goInt,hld]
   .
    have hx':ev L x=some (.slice (some (if cap=o then ⟨gb,0,none⟩ else ((⟨gb,0,none⟩:Addr).add (o*Enc.k α)))) (l.length-o) (cap-o)):=by
     rw [hx];simp only [dA];split <;> rfl
    cases A2 <;> simp [execOp,resolve,invoke,builtin,hac.ev hx',hac.ev hy',Builtin.copy_,run_underlying hu,Builtin.lenOf,Builtin.firstCells,hsz,hmin,goInt,hld,storeCells]
  rw [hrun,Oper.upon_value]
  rw [List.length_nil,hl,hset] at hB'
  exact hK () _ _ (hac.put d _ hd) (hB'▸hw)
 .
  have Vu:0<l2.length:=List.length_pos_iff.2 hl2
  obtain ⟨gb,cap,cur,rfl,_,hgg,hnc,hcm,hcs,htk⟩:=how.parts (by omega)
  obtain ⟨x0,hx0⟩:∃y0,l2[0]? = some y0:=⟨_,List.getElem?_eq_getElem Vu⟩
  obtain ⟨b2,off,rfl,hb2,_⟩:=h23 0 x0 hx0
  have hsrc:∀j u,(l2.flatMap Enc.cells)[j]? = some u->w.cell? ((⟨b2,off,none⟩:Addr).add j)=some u:=fun j u hj=>by
   obtain ⟨i',z,q,hi',hq,rfl⟩:=me l2 j u hj
   obtain ⟨b3,Rt,h3,_,hc3⟩:=h23 i' z hi'
   injection h3 with h3;injection h3 with e1 e2;subst e1;subst e2
   rw [addr_add,<- Nat.add_assoc];exact hc3 q u hq
  have hfl:(l2.flatMap Enc.cells).length=l2.length*Enc.k α:=di l2
  have hld:=run_loadCells_list (P:=P) w ⟨b2,off,none⟩ (l2.flatMap Enc.cells) hsrc
  rw [hfl] at hld
  have hne:cap≠o:=by omega
  have hx':ev L x=some (.slice (some ⟨gb,o*Enc.k α,none⟩) (l.length-o) (cap-o)):=by
   rw [hx];simp only [dA,if_neg hne];simp [addr_add]
  have hle:l.length*Enc.k α<=cap*Enc.k α:=Nat.mul_le_mul_right _ hnc
  have hol:o*Enc.k α+l2.length*Enc.k α<=l.length*Enc.k α:=by rw [<- Nat.add_mul];exact Nat.mul_le_mul_right _ hlen
  have hst:=run_storeCells_at P gb (o*Enc.k α) e (l2.flatMap Enc.cells) 0 cur w hgg (by rw [hfl,hcs];omega) (lx l2)
  have hrun:(execOp ac.eval ⟨some d,.call { callee:= .builtin .copy,args:= #[x,y],argTypes:= #[t,A] },ty,pos,eh,g⟩).run P w = .ok (.value (.int .i64 l2.length)) (w.setRow gb (cur.toList.take (o*Enc.k α)++l2.flatMap Enc.cells++cur.toList.drop (o*Enc.k α+(l2.flatMap Enc.cells).length)).toArray):=by
   have hmin:Nat.min l2.length (l.length-o)=l2.length:=Nat.min_eq_left (by omega)
   simp only [Nat.add_zero] at hst
   simp [execOp,resolve,invoke,builtin,hac.ev hx',hac.ev hy,Builtin.copy_,run_underlying hu,Builtin.lenOf,Builtin.firstCells,hsz,hmin,goInt,hld,hst]
  rw [hrun,Oper.upon_value]
  have hll:(l.take o++l2++l.drop (o+l2.length)).length=l.length:=by simp;omega
  have h3:(cur.toList.take (o*Enc.k α)).length=o*Enc.k α:=by rw [List.length_take];simp;omega
  have:=hw.rH (l':=l.take o++l2++l.drop (o+l2.length)) (cs':=cur.toList.take (o*Enc.k α)++l2.flatMap Enc.cells++cur.toList.drop (o*Enc.k α+(l2.flatMap Enc.cells).length)) hB hgg hcm hcs (by simp only [List.length_append,h3,List.length_drop,hfl];simp;omega) (by
   have e2:(o+l2.length)*Enc.k α=o*Enc.k α+(l2.flatMap Enc.cells).length:=by rw [Nat.add_mul,hfl]
   rw [hll,List.flatMap_append,List.flatMap_append,kK,lZ,<- htk,e2]
   exact sI _ _ _ _ (by rw [hfl];omega) (by simp;omega)) (by omega)
  rw [hll] at this
  exact hK () _ _ (hac.put d _ hd) (hB'▸this)
theorem s.Ru {o:Nat}{A:TypeId}(i:Nat)(B':List ag)(hB:B[i]? = some (ag.row e v l))(ho:o<l.length)(hroom:l.length+1<=lz v)(hx:ev L x=some (dA (kG v (l.length+1)) (o+1) (Enc.k α)))(hy:ev L y=some (dA (kG v (l.length+1)) o (Enc.k α)))(ht:o9 P t=some (e,Enc.k α))(hB':B.set i (ag.row e (kG v (l.length+1)) (l.take (o+1)++l.drop o))=B')(hd:Nat.blt d n=true) :
 Stp P n we X L B F ⟨some d,.call { callee:= .builtin .copy,args:= #[x,y],argTypes:= #[t,A] },ty,pos,eh,g⟩ (fun _:Unit=>(d,.int .i64 ((l.length-o:Nat):Int))::L) (fun _=>B') (fun _=>F):=by
 intro K Q' ac w hac hw hK
 obtain ⟨hu,hsz⟩:=eR (P:=P) w ht
 have how:Own 0 e w v l:=hw.b i hB
 obtain ⟨gb,cap,cur,rfl,_,hgg,hnc,hcm,hcs,htk⟩:=how.parts (by omega)
 simp only [lz] at hroom
 have hk:=Enc.pos (α:=α)
 have hx':ev L x=some (.slice (if cap=o+1 then some ⟨gb,0,none⟩ else some ⟨gb,(o+1)*Enc.k α,none⟩) (l.length-o) (cap-(o+1))):=by
  rw [hx];simp only [kG,dA,Option.map_some,addr_add,Nat.zero_add,show l.length+1-(o+1)=l.length-o by omega]
 rw [if_neg (by omega)] at hx'
 have hy':ev L y=some (.slice (some ⟨gb,o*Enc.k α,none⟩) (l.length+1-o) (cap-o)):=by
  rw [hy];simp only [kG,dA,Option.map_some,addr_add,Nat.zero_add];rw [if_neg (by omega)]
 have hfl:((l.drop o).flatMap Enc.cells).length=(l.length-o)*Enc.k α:=by rw [di,List.length_drop]
 have hsrc:∀j u,((l.drop o).flatMap Enc.cells)[j]? = some u->w.cell? ((⟨gb,o*Enc.k α,none⟩:Addr).add j)=some u:=fun j u hj=>by
  rw [addr_add]
  rw [lZ,<- htk,List.getElem?_drop,List.getElem?_take] at hj
  split at hj
  .rw [cell_of_row w gb (o*Enc.k α+j) _ _ _ hgg];simpa using hj
  .cases hj
 have hld:=run_loadCells_list (P:=P) w ⟨gb,o*Enc.k α,none⟩ ((l.drop o).flatMap Enc.cells) hsrc
 rw [hfl] at hld
 have hle:(l.length+1)*Enc.k α<=cap*Enc.k α:=Nat.mul_le_mul_right _ hroom
 have hol:(o+1)*Enc.k α+(l.length-o)*Enc.k α=(l.length+1)*Enc.k α:=by rw [<- Nat.add_mul];congr 1;omega
 have hst:=run_storeCells_at P gb ((o+1)*Enc.k α) e ((l.drop o).flatMap Enc.cells) 0 cur w hgg (by rw [hfl,hcs];omega) (lx _)
 have hrun:(execOp ac.eval ⟨some d,.call { callee:= .builtin .copy,args:= #[x,y],argTypes:= #[t,A] },ty,pos,eh,g⟩).run P w = .ok (.value (.int .i64 ((l.length-o:Nat):Int))) (w.setRow gb (cur.toList.take ((o+1)*Enc.k α)++(l.drop o).flatMap Enc.cells++cur.toList.drop ((o+1)*Enc.k α+((l.drop o).flatMap Enc.cells).length)).toArray):=by
  have hmin:Nat.min (l.length+1-o) (l.length-o)=l.length-o:=Nat.min_eq_right (by omega)
  simp only [Nat.add_zero] at hst
  simp [execOp,resolve,invoke,builtin,hac.ev hx',hac.ev hy',Builtin.copy_,run_underlying hu,Builtin.lenOf,Builtin.firstCells,hsz,hmin,goInt,hld,hst]
 unfold Oper.wp
 rw [hrun,Oper.upon_value]
 have hll:(l.take (o+1)++l.drop o).length=l.length+1:=by simp;omega
 have ho1:(o+1)*Enc.k α<=l.length*Enc.k α:=Nat.mul_le_mul_right _ ho
 have h3:(cur.toList.take ((o+1)*Enc.k α)).length=(o+1)*Enc.k α:=by rw [List.length_take];simp;omega
 have:=hw.rH (l':=l.take (o+1)++l.drop o) (cs':=cur.toList.take ((o+1)*Enc.k α)++(l.drop o).flatMap Enc.cells++cur.toList.drop ((o+1)*Enc.k α+((l.drop o).flatMap Enc.cells).length)) hB hgg hcm hcs (by simp only [List.length_append,h3,List.length_drop,hfl];simp;omega) (by
  have e1:cur.toList.take ((o+1)*Enc.k α)=(l.take (o+1)).flatMap Enc.cells:=by
   rw [kK,<- htk,List.take_take,Nat.min_eq_left ho1]
  rw [hll,List.flatMap_append,<- e1,List.take_append_of_le_length (by simp only [List.length_append,h3,hfl];omega),List.take_of_length_le (by simp only [List.length_append,h3,hfl];omega)]) (by omega)
 rw [hll] at this
 exact hK () _ _ (hac.put d _ hd) (hB'▸this)
theorem s.FY {o m bytes:Nat}{z0:α}{z:Value}{tn:TypeId}{kq kn:IntKind}{r:Int}(i:Nat)(hB:B[i]? = some (ag.row e v l))(hx:ev L x=some (kG v o))(hy:ev L y=some (.int kq r))(hr:r=(m:Int))(ht:sD P t (Enc.k α)=some (e,bytes))(htn:P.underlying tn=some (.int kn))(hz:gi P e=some z)(hzs:z.cells=(Enc.cells z0).toArray)
 (ho:o<=l.length) (hm:0<m) (hcap:lz v<o+m) (hbig:(o+m)*bytes<=70368744177664) (hml:o+m<=1000000000) (hd:Nat.blt d n=true) :
 Stp P n we X L B F ⟨some d,.call { callee:= .builtin .append,args:= #[x,y],argTypes:= #[t,tn] },ty,pos,eh,g⟩ (fun q:Value=>(d,q)::L) (fun q=>ag.row e q (l.take o++List.replicate m z0)::B) (fun _=>F):=by
 intro K Q' ac w hac hw hK
 subst hr
 obtain ⟨ti,zz,g1,g2,g3,g4,g5,g6⟩:=tD ht
 have hzz:zz=z:=by unfold gi at hz;rw [g2] at hz;simp [g3] at hz;exact hz
 subst hzz
 have how:Own 0 e w v l:=hw.b i hB
 have hk:=Enc.pos (α:=α)
 have hlo:(l.take o).length=o:=by rw [List.length_take];omega
 obtain ⟨A,cap,rfl,hc1,hc2,hcl⟩:=how.sl
 simp only [lz] at hcap
 have hfo:(Builtin.firstCells ti.size o (.slice A o cap)).run P w.drew = .ok ((l.take o).flatMap Enc.cells).toArray w.drew:=by
  rw [g4]
  cases A with
  | none =>
   have h0:l.take o=[]:=by
    cases h:l.take o with
    | nil=>rfl
    | cons q qs =>
     have hq:l[0]? = some q:=by
      have:=congrArg (·[0]?) h
      simp only [List.getElem?_take,List.getElem?_cons_zero] at this
      split at this
      .exact this
      .cases this
     obtain ⟨b,off,hh,_⟩:=hcl 0 q hq;cases hh
   rw [h0] at hlo;simp at hlo
   subst hlo
   simp [Builtin.firstCells,h0]
  | some ad =>
   have hsrc:∀j u,((l.take o).flatMap Enc.cells)[j]? = some u->w.drew.cell? (ad.add j)=some u:=fun j u hj=>by
    obtain ⟨i',q,s,hi',hq,rfl⟩:=me (l.take o) j u hj
    rw [List.getElem?_take] at hi'
    split at hi'
    .
     obtain ⟨b3,Rt,h3,_,hc3⟩:=hcl i' q hi'
     injection h3 with h3;subst h3
     rw [addr_add,<- Nat.add_assoc];exact hc3 s u hq
    .cases hi'
   have:=run_firstCells_some (P:=P) w.drew (Enc.k α) o ad o cap ((l.take o).flatMap Enc.cells) (by rw [di,hlo]) hsrc
   exact this
 have hns:Builtin.nextslicecap (o+m) cap*ti.bytes<=281474976710656:=by
  rw [g5];exact growslice_fits (by omega) (by omega)
 have hmb:m*ti.bytes<=281474976710656:=by
  rw [g5];have:m*bytes<=(o+m)*bytes:=Nat.mul_le_mul_right _ (by omega);omega
 have IV:=Go.Lib.run_append_grow_zeros (P:=P) w t tn ty e ti zz kq kn g1 htn g2 g3 A o cap ((l.take o).flatMap Enc.cells) hfo m hm (by rw [g4];exact hk) hcap (by omega) hmb hns
 have hx':ev L x=some (.slice A o cap):=hx
 have hrun:(execOp ac.eval ⟨some d,.call { callee:= .builtin .append,args:= #[x,y],argTypes:= #[t,tn] },ty,pos,eh,g⟩).run P w = .ok (.value (.slice (some ⟨w.heap.size,0,none⟩) (o+m) (grownCap w (o+m) cap e))) (w.drew.alloc (.cells (((l.take o).flatMap Enc.cells).toArray++Builtin.zeroCells zz.cells m++Builtin.zeroCells zz.cells (grownCap w (o+m) cap e-(o+m))) e)):=by
  simp only [execOp,resolve,invoke,builtin,hac.ev hx',hac.ev hy,Sem.run_bind,Sem.run_pure,Result.andThen_ok,List.map_toArray,List.map_cons,List.map_nil,IV]
 unfold Oper.wp
 rw [hrun,Oper.upon_value]
 have hwd:Wd we X B F w.drew:=hw.grow (lR.draw w)
 have hge:=grownCap_ge w (o+m) cap e
 have hzc:=ng hzs m
 have hzl:(Builtin.zeroCells zz.cells m).size=m*Enc.k α:=by rw [size_zeroCells,g6]
 have hll:(l.take o++List.replicate m z0).length=o+m:=by rw [List.length_append,hlo,List.length_replicate]
 have OM:((l.take o).flatMap Enc.cells).length=o*Enc.k α:=by rw [di,hlo]
 refine hK _ _ _ (hac.put d _ hd) (hwd.alloc (r:=ag.row e (.slice (some ⟨w.heap.size,0,none⟩) (o+m) (grownCap w (o+m) cap e)) (l.take o++List.replicate m z0)) ?_ rfl)
 refine ⟨by rw [di],.inr ⟨w.heap.size,grownCap w (o+m) cap e,_,by rw [hll],Nat.zero_le _,heap_alloc_new w.drew _,by rw [hll];exact hge,grownCap_le_maxLen w _ _ _ (by unfold maxLen;omega),?_,?_⟩⟩
 .
  simp only [Array.size_append,List.size_toArray,OM,hzl,size_zeroCells,g6,<- Nat.add_mul]
  congr 1;omega
 .
  have e0:(Builtin.zeroCells zz.cells m).toList.length=m*Enc.k α:=by simpa using hzl
  simp only [Array.toList_append,hll,List.flatMap_append]
  rw [<- hzc,List.take_append_of_le_length (by simp only [List.length_append,OM,e0,Nat.add_mul];omega),List.take_of_length_le (by simp only [List.length_append,OM,e0,Nat.add_mul];omega)]
theorem I0 {w:World}{ga:Nat}{LW:Array Value}{t:TypeId}(h:w.heap[ga]? = some (.cells LW t (0,0)))(o:Nat):w.frozen? ⟨ga,o,none⟩=false:=by
 simp only [World.frozen?,h]
 simp
theorem q.UQ {f:FuncId}{fn:Func}{c:Operand}{ts:Array TypeId}{tS tR:TypeId}{va vb T8:Value}{la lb:List α}{i j:Nat}(hf:P.funcs[f]? = some fn)(hname:(fn.name == "runtime.NumGoroutine")=false)
 (hb:fn.body.isNone=true) (hn:Extern.findNext fn=none) (he:Extern.find fn=some (Extern.SlicesOverlaps.overlaps #[tS,tS] #[tR])) (ht:o9 P tS=some (e,Enc.k α))
 (hi:B[i]? = some (ag.row e va la)) (hj:B[j]? = some (ag.row e vb lb)) (hij:i≠j) (Vv:0<la.length) (Vw:0<lb.length) (hx:ev L x=some va) (hy:ev L y=some T8) {m q:Nat} (hv2:T8=YtkbhcbipadkcaaaGreatDoor.dA (YtkbhcbipadkcaaaGreatDoor.kG vb m) q (Enc.k α)) (hc:ev L c=some (.func (.func f) #[] #[])) :
 Qt P n we X L B F (.call { callee:= .value c,args:= #[x,y],argTypes:=ts }) ty (.bool false):=fun _ _ _ _ ac w hac hw=>by
 have Vx:Own 0 e w va la:=hw.b i hi
 have Vy:Own 0 e w vb lb:=hw.b j hj
 obtain ⟨hu,hsz⟩:=eR (P:=P) w ht
 have hzz:∀w,(Go.sizeOf e).run P w = .ok (Enc.k α) w:=fun w=>(eR (P:=P) w ht).2
 obtain ⟨ga,Rv,LW,rfl,_,hga,hna,_,hca,_⟩:=Vx.parts Vv
 obtain ⟨gb,T9,Rw,rfl,_,hgb,hnb,_,hcb,_⟩:=Vy.parts Vw
 obtain ⟨o,n',c',hv3⟩:∃o n' c',T8 = .slice (some ⟨gb,o,none⟩) n' c':=by
  rw [hv2];simp only [YtkbhcbipadkcaaaGreatDoor.kG,YtkbhcbipadkcaaaGreatDoor.dA,Option.map_some,addr_add]
  split
  .exact ⟨_,_,_,rfl⟩
  .exact ⟨_,_,_,rfl⟩
 subst hv3
 have hne:ga≠gb:=fun e=>iR hi hj hij hw.sep ga (by simp [ag.row,dW]) (by simp [ag.row,dW,e])
 have hk:=Enc.pos (α:=α)
 have h1:1*Enc.k α<=T9*Enc.k α:=Nat.mul_le_mul_right _ (by omega)
 have hsa:w.shape? ga=some (e,LW.size):=by simp [World.shape?,hga]
 have hsb:w.shape? gb=some (e,Rw.size):=by simp [World.shape?,hgb]
 have hov:=Go.Lib.run_overlaps_apart (P:=P) w tS tR e hu (Enc.k α) hzz ⟨ga,0,none⟩ ⟨gb,o,none⟩ la.length Rv n' c' hne e e LW.size Rw.size hsa hsb (by omega) (I0 hga _) (I0 hga _)
 have hcall:=run_callFunc_extern hf hname hb hn he #[.slice (some ⟨ga,0,none⟩) la.length Rv,.slice (some ⟨gb,o,none⟩) n' c'] w
 have hy':ev L y=some (.slice (some ⟨gb,o,none⟩) n' c'):=hy
 simp [execOp,resolve,hac.ev hc,Deferred.ofValue,invoke,hac.ev hx,hac.ev hy',hcall,hov]
end
end Go.Proofs.YtkbhcbipadkcaaaGreatDoor
