import Derived.Test.YtbkfhjaibhnkmaaGreatDoorTSD33
import Derived.Test.YtbkfhjaibhnkmaaGreatDoorTSD10
import Derived.Lib.Bytealg
import Derived.Sort.Walk0
section
namespace Go.Proofs.YtbkfhjaibhnkmaaGreatDoor
set_option linter.unusedVariables false
theorem rP {l:List df}(h:(ay l).2=true):Inv (ay l).1∧Sz 80 (ay l).1:=by
 obtain ⟨h1,h2,_⟩:=sM h
 rw [h2];exact ⟨wU l,(ub l).up h1⟩
section
variable {r:ap}
end
end Go.Proofs.YtbkfhjaibhnkmaaGreatDoor
end
section
namespace Go.Proofs.YtbkfhjaibhnkmaaGreatDoor
set_option linter.unusedVariables false
section
variable {r:ap}
theorem pZ {ws:List aj}{ts:List Int}:∀ {ns:List Note},(∀n∈ns,n.Port∈ts∧fP ws n=n)→e9 ws ts ns=ns
 | [],_=>rfl
 | n::ns,h=>by
  obtain ⟨h1,h2⟩:=h n (List.mem_cons_self ..)
  rw [mK,if_pos h1,h2,pZ (fun m hm=>h m (List.mem_cons_of_mem _ hm))]
theorem vh {ws:List aj}{ts:List Int}{ns:List Note}(h:∀n∈ns,n.Port∈ts):gA ws ts ns=[]:=by
 refine List.eq_nil_iff_forall_not_mem.2 fun j hj=>?_
 obtain ⟨m,hm,_,hp,_⟩:=rN.1 hj
 exact hp (h m hm)
theorem Inv.uk (h:Inv r):∀n∈r.Notes,n.Port∈aY r.ai:=fun n hn=>by
 obtain ⟨t,ht,e,_⟩:=h.port n hn
 obtain ⟨w,hw,e2⟩:=h.used t ht
 exact (fG h.tree).2 ⟨w,hw,by rw [e2,e]⟩
theorem Inv.fix (h:Inv r):∀n∈r.Notes,fP r.ai n=n:=fun n hn=>by
 unfold fP;split
 ·
  rename_i hf
  have h0:=h.fJ n hn
  have:n.aj=0:=by
   by_cases hp:0<n.aj
   ·
    obtain ⟨w,hw,e⟩:=h.e5 n hn hp
    have:=hM hw;rw [e] at this;omega
   ·omega
  cases n;simp only [] at this ⊢;rw [this]
 ·rfl
theorem s9 (h:Inv r)(T:List ah)(H:List Held)(hT:∀t∈T,∀w∈r.ai,w.ah≠t.ID)(hH:H.filter (fun h => !decide (bL r.ai h.aj<0))=r.Held)(a b:Int):bq ⟨r.ai,r.Things++T,H,r.Notes,a,b⟩=⟨r.ai,r.Things,r.Held,r.Notes,a,b⟩:=by
 have hl:jU ⟨r.ai,r.Things++T,H,r.Notes,a,b⟩=[]:=vh h.uk
 rw [kg (by rw [hl];rfl)]
 unfold ew
 dsimp only
 have h1:(r.Things++T).filter (fun t => !!decide (t.ID∈aY r.ai))=r.Things:=by
  have k1:r.Things.filter (fun t => !!decide (t.ID∈aY r.ai))=r.Things:=List.filter_eq_self.2 fun t ht=>by
   obtain ⟨w,hw,e⟩:=h.used t ht
   simp only [Bool.not_not,decide_eq_true_eq]
   exact (fG h.tree).2 ⟨w,hw,e⟩
  have k2:T.filter (fun t => !!decide (t.ID∈aY r.ai))=[]:=List.filter_eq_nil_iff.2 fun t ht=>by
   simp only [Bool.not_not,decide_eq_true_eq]
   intro hm
   obtain ⟨w,hw,e⟩:=(fG h.tree).1 hm
   exact hT t ht w hw e
  rw [List.filter_append,k1,k2,List.append_nil]
 rw [h1,hH,pZ (fun n hn=>⟨h.uk n hn,h.fix n hn⟩)]
theorem Inv.vj (h:Inv r){H:List Held}(hs:∀x∈H,x∈r.Held):H.filter (fun h => !decide (bL r.ai h.aj<0))=H :=
 List.filter_eq_self.2 fun x hx=>by
  have:=gE.2 (h.dz x (hs x hx))
  simp only [Bool.not_eq_true',decide_eq_false_iff_not];omega
theorem oO (h:Inv r):bq r=r:=by
 have:=s9 h [] r.Held (fun t ht=>by cases ht) (h.vj (fun x hx=>hx)) r.ae r.af
 rw [List.append_nil] at this
 exact this
theorem AA {l:List Held}{x y:Held}(hx:x∈l)(hy:y∈l)(e:x.aj=y.aj)(h:cH l x.aj≤1):x=y:=by
 obtain ⟨A,B,rfl⟩:=List.append_of_mem hx
 unfold cH at h
 rw [List.countP_append,List.countP_cons,if_pos (by simp)] at h
 have key:∀ (C:List Held),y∈C→0<C.countP (fun h=>h.aj==x.aj):=fun C hC=>List.countP_pos_iff.2 ⟨y,hC,by simp [e]⟩
 rcases List.mem_append.1 hy with hy|hy
 ·have:=key A hy;omega
 ·
  rcases List.mem_cons.1 hy with hy|hy
  ·exact hy.symm
  ·have:=key B hy;omega
theorem Inv.one (h:Inv r){x y:Held}(hx:x∈r.Held)(hy:y∈r.Held)(e:x.aj=y.aj):x=y:=by
 obtain ⟨w,hw,e2⟩:=h.dz x hx
 have:=h.once w hw
 exact AA hx hy e (by rw [← e2];omega)
end
end Go.Proofs.YtbkfhjaibhnkmaaGreatDoor
end
section
namespace Go.Proofs.YtbkfhjaibhnkmaaGreatDoor
set_option linter.unusedVariables false
section
variable {r:ap}
theorem nj:∀ (ns:List Note) (l:List aj),cj l→cj (eY ns l)
 | [],l,h=>h
 | n::ns,l,h=>by
  show cj (eY ns (if 0<n.aj then without l n.aj else l))
  refine nj ns _ ?_
  split
  ·exact h.wo _
  ·exact h
theorem oP:∀ (ns:List Note) (l:List aj) (w:aj),w∈eY ns l→(∃y∈l,Like w y) ∧ ∀n∈ns,0<n.aj→w.ID≠n.aj
 | [],l,w,h=>⟨⟨w,h,Like.refl w⟩,fun n hn=>by cases hn⟩
 | n::ns,l,w,h=>by
  obtain ⟨⟨y,hy,hl⟩,hn⟩:=oP ns (if 0<n.aj then without l n.aj else l) w h
  by_cases h0:0<n.aj
  ·
   rw [if_pos h0] at hy
   obtain ⟨z,hz,hne,rfl⟩:=eJ.1 hy
   refine ⟨⟨z,hz,hl.trans (nH _ _ z)⟩,fun m hm hm0=>?_⟩
   rcases List.mem_cons.1 hm with e|hm
   ·rw [e,hl.id,(gu z).1];exact hne
   ·exact hn m hm hm0
  ·
   rw [if_neg h0] at hy
   refine ⟨⟨y,hy,hl⟩,fun m hm hm0=>?_⟩
   rcases List.mem_cons.1 hm with e|hm
   ·rw [e] at hm0;exact absurd hm0 h0
   ·exact hn m hm hm0
theorem lz:∀ (ns:List Note) (l:List aj) (y:aj),y∈l→(∀n∈ns,0<n.aj→y.ID≠n.aj) → ∃w∈eY ns l,Like w y
 | [],l,y,h,_=>⟨y,h,Like.refl y⟩
 | n::ns,l,y,h,hn=>by
  by_cases h0:0<n.aj
  ·
   obtain ⟨w,hw,k⟩:=lz ns (without l n.aj) (iD n.aj (dy l n.aj) y) (eJ.2 ⟨y,h,hn n (List.mem_cons_self ..) h0,rfl⟩) (fun m hm hm0=>by rw [(gu y).1];exact hn m (List.mem_cons_of_mem _ hm) hm0)
   refine ⟨w,?_,k.trans (nH _ _ y)⟩
   show w∈eY ns (if 0<n.aj then without l n.aj else l)
   rw [if_pos h0];exact hw
  ·
   obtain ⟨w,hw,k⟩:=lz ns l y h (fun m hm hm0=>hn m (List.mem_cons_of_mem _ hm) hm0)
   refine ⟨w,?_,k⟩
   show w∈eY ns (if 0<n.aj then without l n.aj else l)
   rw [if_neg h0];exact hw
theorem wV {ns:List Note}{j:Int}(h:cN ns j=0):∀n∈ns,0<n.aj→j≠n.aj:=fun n hn _ e=>by
 have:=Ax hn;rw [← e] at this;omega
theorem Inv.vk (h:Inv r):Pre ⟨eY r.Notes r.ai,r.Things,r.Held,[],r.ae,r.af⟩:=by
 have hs:=fun w hw=>oP r.Notes r.ai w hw
 refine { tree:=nj _ _ h.tree,good:=h.good,ly:=?_,jV:=h.jV,kP:=h.kP,jY:=h.jY,jZ:=h.jZ,eZ:=h.eZ,nG:=h.nG,fH:=h.fH,fI:=h.fI,fN:=h.fN,thing:=?_,port:=fun n hn=>(by cases hn),f9:=fun n hn=>(by cases hn),wait:=fun q=>by simp [ey],fJ:=fun n hn=>(by cases hn),once:=?_ }
 ·intro w hw;obtain ⟨⟨y,hy,k⟩,_⟩:=hs w hw;rw [k.id];exact h.ly y hy
 ·intro w hw;obtain ⟨⟨y,hy,k⟩,_⟩:=hs w hw;rw [k.th];exact h.thing y hy
 ·
  intro w hw
  obtain ⟨⟨y,hy,k⟩,hn⟩:=hs w hw
  have h1:=h.once y hy
  have h2:cN r.Notes w.ID=0:=List.countP_eq_zero.2 fun n hnn e=>by
   have e:n.aj=w.ID:=by simpa using e
   have:=(h.tree.mem hy).id1
   exact hn n hnn (by rw [e,k.id];omega) e.symm
  show cH r.Held w.ID+cN [] w.ID=1
  rw [← k.id] at h1;simp only [cN,List.countP_nil] at h2 ⊢;unfold cN at h1;omega
theorem mN:∀ (a b:List Int),a.Nodup→(∀x∈a,x∈b)→a.length≤b.length
 | [],b,_,_=>Nat.zero_le _
 | x::a,b,hn,hs=>by
  obtain ⟨h1,h2⟩:=List.nodup_cons.1 hn
  obtain ⟨A,B,rfl⟩:=List.append_of_mem (hs x (List.mem_cons_self ..))
  have:=mN a (A++B) h2 fun y hy=>by
   have h3:=hs y (List.mem_cons_of_mem _ hy)
   rcases List.mem_append.1 h3 with h3|h3
   ·exact List.mem_append.2 (.inl h3)
   ·
    rcases List.mem_cons.1 h3 with e|h3
    ·exact absurd (e▸hy) h1
    ·exact List.mem_append.2 (.inr h3)
  simp only [List.length_cons,List.length_append] at this ⊢;omega
theorem wW (h:Inv r)(hn:r.Notes=[]):r.Held.length=r.ai.length:=by
 have h1:(r.ai.map aj.ID).Nodup:=List.Pairwise.imp (fun h=>Int.ne_of_lt h) (List.pairwise_map.2 h.tree.is.rise)
 have h2:(r.Held.map Held.aj).Nodup:=by
  refine List.pairwise_iff_getElem.2 fun i j hi hj hij e=>?_
  rw [List.length_map] at hi hj
  rw [List.getElem_map,List.getElem_map] at e
  have:=h.one (List.getElem_mem hi) (List.getElem_mem hj) e
  have h3:=List.pairwise_iff_getElem.1 (fV h.good) i j hi hj hij
  rw [this] at h3
  exact l4 h3
 have a:=mN (r.Held.map Held.aj) (r.ai.map aj.ID) h2 fun x hx=>by
  obtain ⟨y,hy,rfl⟩:=List.mem_map.1 hx
  obtain ⟨w,hw,e⟩:=h.dz y hy
  exact List.mem_map.2 ⟨w,hw,e⟩
 have b:=mN (r.ai.map aj.ID) (r.Held.map Held.aj) h1 fun x hx=>by
  obtain ⟨w,hw,rfl⟩:=List.mem_map.1 hx
  have h3:=h.once w hw
  rw [hn] at h3;simp only [cN,List.countP_nil] at h3
  obtain ⟨y,hy,e⟩:=List.countP_pos_iff.1 (show 0<cH r.Held w.ID by omega)
  exact List.mem_map.2 ⟨y,hy,by simpa using e⟩
 simp only [List.length_map] at a b;omega
theorem ji (h:Inv r):Inv (aR r)∧(aR r).Notes=[]∧(aR r).Held=r.Held∧(aR r).Held.length=(aR r).ai.length∧aR (aR r)=aR r:=by
 have hp:=h.vk
 have hi:Inv (aR r):=mL hp
 have hl:jU ⟨eY r.Notes r.ai,r.Things,r.Held,[],r.ae,r.af⟩=[]:=rfl
 have hd:aR r=ew ⟨eY r.Notes r.ai,r.Things,r.Held,[],r.ae,r.af⟩:=kg (by rw [hl];rfl)
 have hn:(aR r).Notes=[]:=by rw [hd];rfl
 refine ⟨hi,hn,?_,wW hi hn,?_⟩
 ·
  rw [hd]
  show r.Held.filter _=r.Held
  refine List.filter_eq_self.2 fun x hx=>?_
  obtain ⟨w,hw,e⟩:=h.dz x hx
  have h1:=h.once w hw;have h2:=Aw hx;rw [← e] at h2
  obtain ⟨v,hv,k⟩:=lz r.Notes r.ai w hw (wV (by omega))
  have h3:0≤bL (eY r.Notes r.ai) x.aj:=gE.2 ⟨v,hv,by rw [k.id,e]⟩
  simp only [Bool.not_eq_true',decide_eq_false_iff_not];omega
 ·
  have hs:=oO hi
  generalize aR r=x at hn hs
  cases x with
  | mk W T H N a b =>
   have hn':N=[]:=hn
   subst hn'
   exact hs
end
end Go.Proofs.YtbkfhjaibhnkmaaGreatDoor
end
section
namespace Go.Proofs.YtbkfhjaibhnkmaaGreatDoor
open Go
set_option linter.unusedVariables false
theorem um (a:ByteArray):a.toList=a.data.toList:=Lib.toList_data a
theorem lA {a b:ByteArray}(h:a.data.toList=b.data.toList):a=b:=by
 cases a with|mk x=>cases b with|mk y=>congr;exact Array.toList_inj.1 h
theorem iP (a b:ByteArray):fT a b=true↔a.data.toList<b.data.toList:=by
 unfold fT;rw [Proofs.bytesLess_eq,um,um];exact decide_eq_true_iff
theorem fO (a:ByteArray):fT a a=false:=by
 rw [Bool.eq_false_iff];intro h;exact List.lt_irrefl _ ((iP a a).1 h)
theorem mO {a b c:ByteArray}(h:fT a b=true)(k:fT b c=true):fT a c=true:=(iP _ _).2 (List.lt_trans ((iP _ _).1 h) ((iP _ _).1 k))
theorem jj {a b:ByteArray}(h:fT a b=true):fT b a=false:=by
 rw [Bool.eq_false_iff];intro k;have:=mO h k;rw [fO] at this;cases this
theorem rQ:∀ (x y:List UInt8),x<y∨x=y∨y<x
 | [],[] => .inr (.inl rfl)
 | [],_::_ => .inl (List.Lex.nil)
 | _::_,[] => .inr (.inr (List.Lex.nil))
 | a::x,b::y=>by
  rcases Nat.lt_trichotomy a.toNat b.toNat with h|h|h
  ·exact .inl (List.Lex.rel (UInt8.lt_iff_toNat_lt.2 h))
  ·
   have e:a=b:=UInt8.toNat_inj.1 h
   subst e
   rcases rQ x y with h|h|h
   ·exact .inl (List.Lex.cons h)
   ·exact .inr (.inl (by rw [h]))
   ·exact .inr (.inr (List.Lex.cons h))
  ·exact .inr (.inr (List.Lex.rel (UInt8.lt_iff_toNat_lt.2 h)))
theorem uo (a b:ByteArray):fT a b=true∨a=b∨fT b a=true:=by
 rcases rQ a.data.toList b.data.toList with h|h|h
 ·exact .inl ((iP _ _).2 h)
 ·exact .inr (.inl (lA h))
 ·exact .inr (.inr ((iP _ _).2 h))
theorem AB {a b:ByteArray}(h:fT a b=false)(hn:a≠b):fT b a=true:=by
 rcases uo a b with k|k|k
 ·rw [h] at k;cases k
 ·exact absurd k hn
 ·exact k
def wX (a b:ByteArray):Int:=if fT a b=true then -1 else if a=b then 0 else 1
theorem p5 {a b:ByteArray}:wX a b=0↔a=b:=by
 unfold wX
 by_cases h:fT a b=true
 ·
  rw [if_pos h];constructor
  ·intro k;cases k
  ·intro k;subst k;rw [fO] at h;cases h
 ·
  rw [if_neg h];by_cases k:a=b
  ·rw [if_pos k];simp [k]
  ·rw [if_neg k];simp [k]
theorem wY {a b:ByteArray}:wX a b<0↔fT a b=true:=by
 unfold wX
 by_cases h:fT a b=true
 ·rw [if_pos h];simp [h]
 ·
  rw [if_neg h];by_cases k:a=b
  ·rw [if_pos k];simp [h]
  ·rw [if_neg k];simp [h]
end Go.Proofs.YtbkfhjaibhnkmaaGreatDoor
end
