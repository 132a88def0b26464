import Derived.Test.YtbkfhjaibhnkmaaGreatDoorIMS29
section
namespace Go.Proofs.YtbkfhjaibhnkmaaGreatDoor
set_option linter.unusedVariables false
section
variable {r:ar}
theorem tr (ns:List Note)(n:Note)(q:Int):eM (ns++[n]) q=eM ns q+(if n.Port=q then 1 else 0):=by
 unfold eM;rw [List.filter_append,List.length_append]
 by_cases h:n.Port=q
 ·rw [if_pos h];simp [h]
 ·rw [if_neg h];simp [h]
theorem yL (ns:List Note)(n:Note)(j:Int):cN (ns++[n]) j=cN ns j+(if n.ak=j then 1 else 0):=by
 unfold cN;rw [List.countP_append,List.countP_cons]
 by_cases h:n.ak=j
 ·rw [if_pos (by simpa using h),if_pos h];simp
 ·rw [if_neg (by simpa using h),if_neg h];simp
theorem m5 {p:Place}{k q:Int}(h:(aM r p k q).2.2=0):(au r p).2=0∧(aM r p k q).1=(au r p).1∧fF (au r p).1.Rights q=true ∧ ∃t∈r.Things,t.ID=(au r p).1.ao∧t.Kind=k:=by
 obtain ⟨h1,h2,h3,i,t,_,ht,e,e2,_⟩:=iJ h
 exact ⟨h1,h2,h3,t,List.mem_of_getElem? ht,e,e2⟩
theorem xA {p:Place}{d:ByteArray}{s a:Int}(h:(bU r p d s a).2=0):(aM r p 2 2).2.2=0∧d.size≤8∧eM r.Notes (au r p).1.ao≠3 ∧
 (s<0∧(bU r p d s a).1=⟨r.ai,r.Things,r.Held,r.Notes++[⟨(au r p).1.ao,d,(au r p).1.aI,0⟩],r.ae,r.af⟩ ∨
  0≤s∧fF (au r p).1.Rights 4=true∧(au r ⟨p.aj,s⟩).2=0∧r.ae≤999∧(derived (au r ⟨p.aj,s⟩).1 r.ae a 0).2=0 ∧
  (bU r p d s a).1=⟨r.ai++[(derived (au r ⟨p.aj,s⟩).1 r.ae a 0).1],r.Things,r.Held,r.Notes++[⟨(au r p).1.ao,d,(au r p).1.aI,(derived (au r ⟨p.aj,s⟩).1 r.ae a 0).1.ID⟩],r.ae+1,r.af⟩):=by
 unfold bU at h ⊢
 by_cases h1:(aM r p 2 2).2.2=0
 ·
  have he:=(m5 h1).2.1
  rw [if_pos h1] at h ⊢
  by_cases h2:8<d.size
  ·rw [if_pos h2] at h;simp at h
  ·
   rw [if_neg h2] at h ⊢
   by_cases h3:eM r.Notes (aM r p 2 2).1.ao=3
   ·rw [if_pos h3] at h;simp at h
   ·
    rw [if_neg h3] at h ⊢
    rw [he] at h3
    by_cases h4:s<0
    ·rw [if_pos h4,he];exact ⟨h1,by omega,h3,.inl ⟨h4,rfl⟩⟩
    ·
     rw [if_neg h4] at h ⊢
     by_cases h5:fF (aM r p 2 2).1.Rights 4=true
     ·
      rw [if_pos h5] at h ⊢
      by_cases h6:(au r ⟨p.aj,s⟩).2=0
      ·
       rw [if_pos h6] at h ⊢
       by_cases h7:999<r.ae
       ·rw [if_pos h7] at h;simp at h
       ·
        rw [if_neg h7] at h ⊢
        by_cases h8:(derived (au r ⟨p.aj,s⟩).1 r.ae a 0).2=0
        ·
         rw [if_pos h8,he];rw [he] at h5
         exact ⟨h1,by omega,h3,.inr ⟨by omega,h5,h6,by omega,h8,rfl⟩⟩
        ·rw [if_neg h8] at h;exact absurd h h8
      ·rw [if_neg h6] at h;exact absurd h h6
     ·rw [if_neg h5] at h;simp at h
 ·rw [if_neg h1] at h;exact absurd h h1
theorem Inv.send (h:Inv r){p:Place}{d:ByteArray}{s a:Int}(hm:(bU r p d s a).2=0):Inv (bU r p d s a).1:=by
 obtain ⟨hy,hd,h3,hc⟩:=xA hm
 obtain ⟨hg,_,_,t,ht,hti,htk⟩:=m5 hy
 obtain ⟨_,hgm,_⟩:=h.get hg
 have hw:=h.tree.mem hgm
 have EO:∀q,eM r.Notes q+(if (au r p).1.ao=q then 1 else 0)≤3:=fun q=>by
  have:=h.wait q
  split
  ·rename_i e;rw [e] at h3;omega
  ·omega
 have tj:∀ (k:Int) (n:Note),n∈r.Notes++[⟨(au r p).1.ao,d,(au r p).1.aI,k⟩] → ∃t∈r.Things,t.ID=n.Port∧t.Kind=2:=fun k n hn=>by
  rcases List.mem_append.1 hn with hn|hn
  ·exact h.port n hn
  ·rw [List.mem_singleton.1 hn];exact ⟨t,ht,hti,htk⟩
 have hnd:∀ (k:Int) (n:Note),n∈r.Notes++[⟨(au r p).1.ao,d,(au r p).1.aI,k⟩]→n.Data.size≤8∧0≤n.aI∧n.aI≤99:=fun k n hn=>by
  rcases List.mem_append.1 hn with hn|hn
  ·exact h.hM n hn
  ·rw [List.mem_singleton.1 hn];exact ⟨hd,hw.Fv,hw.Fw⟩
 rcases hc with ⟨h4,he⟩ | ⟨h4,h5,h6,h7,h8,he⟩
 ·
  rw [he]
  refine { tree:=h.tree,good:=h.good,nD:=h.nD,ki:=h.ki,lC:=h.lC,kv:=h.kv,ky:=h.ky,fP:=h.fP,qn:=h.qn,gD:=h.gD,gE:=h.gE,gh:=h.gh,thing:=h.thing,port:=tj 0,hM:=hnd 0,wait:=fun q=>?_,gF:=?_,once:=?_,fQ:=?_,eo:=h.eo,used:=h.used }
  ·show eM (r.Notes++[_]) q≤3;rw [tr];exact EO q
  ·
   intro n hn
   rcases List.mem_append.1 hn with hn|hn
   ·exact h.gF n hn
   ·rw [List.mem_singleton.1 hn];exact Int.le_refl 0
  ·
   intro w hw
   show cH r.Held w.ID+cN (r.Notes++[_]) w.ID=1
   have:=h.once w hw;have:=(h.tree.mem hw).id1
   rw [yL,if_neg (by dsimp only;omega)];omega
  ·
   intro n hn h0
   rcases List.mem_append.1 hn with hn|hn
   ·exact h.fQ n hn h0
   ·rw [List.mem_singleton.1 hn] at h0;exact absurd h0 (by dsimp only;omega)
 ·
  obtain ⟨_,HV,_⟩:=h.get h6
  obtain ⟨BN,hid,hth,_⟩:=h.derive HV h7 h8
  rw [he]
  generalize hx:(derived (au r ⟨p.aj,s⟩).1 r.ae a 0).1=x at *
  have n1:=h.ki;have hfr:=h.fresh
  refine { tree:=BN,good:=h.good,nD:=?_,ki:=by show 1≤r.ae+1;omega,lC:=by show r.ae+1≤1000;omega,kv:=h.kv,ky:=h.ky,fP:=h.fP,qn:=h.qn,gD:=h.gD,gE:=h.gE,gh:=h.gh,thing:=?_,port:=tj x.ID,hM:=hnd x.ID,wait:=fun q=>?_,gF:=?_,once:=?_,fQ:=?_,eo:=?_,used:=?_ }
  ·
   intro w hw
   show w.ID<r.ae+1
   rcases List.mem_append.1 hw with hw|hw
   ·have:=h.nD w hw;omega
   ·rw [List.mem_singleton.1 hw,hid];omega
  ·
   intro w hw
   rcases List.mem_append.1 hw with hw|hw
   ·exact h.thing w hw
   ·rw [List.mem_singleton.1 hw,hth];exact h.thing _ HV
  ·show eM (r.Notes++[_]) q≤3;rw [tr];exact EO q
  ·
   intro n hn
   rcases List.mem_append.1 hn with hn|hn
   ·exact h.gF n hn
   ·rw [List.mem_singleton.1 hn];show 0≤x.ID;omega
  ·
   intro w hw
   show cH r.Held w.ID+cN (r.Notes++[_]) w.ID=1
   rw [yL];dsimp only
   rcases List.mem_append.1 hw with hw|hw
   ·
    have:=h.nD w hw;have:=h.once w hw
    rw [if_neg (by omega)];omega
   ·rw [List.mem_singleton.1 hw,if_pos rfl,hid];omega
  ·
   intro n hn h0
   rcases List.mem_append.1 hn with hn|hn
   ·
    obtain ⟨w,hw,e⟩:=h.fQ n hn h0
    exact ⟨w,List.mem_append.2 (.inl hw),e⟩
   ·rw [List.mem_singleton.1 hn];exact ⟨x,List.mem_append.2 (.inr (List.mem_singleton.2 rfl)),rfl⟩
  ·
   intro y hy
   obtain ⟨w,hw,e⟩:=h.eo y hy
   exact ⟨w,List.mem_append.2 (.inl hw),e⟩
  ·
   intro t ht
   obtain ⟨w,hw,e⟩:=h.used t ht
   exact ⟨w,List.mem_append.2 (.inl hw),e⟩
theorem xB {p:Place}(h:(bC r p).2.2.2=0):(aM r p 2 1).2.2=0 ∧ ∃ (i:Nat) (n:Note),r.Notes[i]? = some n∧n.Port=(au r p).1.ao∧(∀ (j:Nat) y,j<i→r.Notes[j]? = some y→¬ y.Port=(au r p).1.ao)∧(bC r p).2.1=n ∧
 (0<n.ak∧0≤dA r.Held p.aj∧(bC r p).2.2.1=dA r.Held p.aj∧(bC r p).1=⟨r.ai,r.Things,cw r.Held ⟨p.aj,dA r.Held p.aj⟩ n.ak,pj r.Notes i,r.ae,r.af⟩ ∨
  n.ak≤0∧(bC r p).2.2.1 = -1∧(bC r p).1=⟨r.ai,r.Things,r.Held,pj r.Notes i,r.ae,r.af⟩):=by
 unfold bC at h ⊢
 by_cases h1:(aM r p 2 1).2.2=0
 ·
  have he:=(m5 h1).2.1
  rw [if_pos h1] at h ⊢
  rw [he] at h ⊢
  rcases hJ (fun n:Note=>n.Port==(au r p).1.ao) r.Notes with ⟨hf,hn⟩ | ⟨i,n,hf,hn,hp,hb,_⟩
  ·
   rw [hf,show decide ((0:Int) ≤ -1)=false from rfl] at h
   cases hq:r.Notes[(-1:Int).toNat]? <;> rw [hq] at h <;> simp at h
  ·
   have hn':r.Notes[i]? = some n:=hn
   have hfi:idxOf (fun n:Note=>n.Port==(au r p).1.ao) r.Notes=(i:Int):=hf
   rw [hfi,Int.toNat_natCast,hn',decide_eq_true (by omega)] at h ⊢
   dsimp only at h ⊢
   refine ⟨h1,i,n,hn',by simpa using hp,fun j y hj hy=>by simpa using hb j y hj hy,?_⟩
   by_cases h2:0<n.ak
   ·
    rw [if_pos h2] at h ⊢
    by_cases h3:dA r.Held p.aj<0
    ·rw [if_pos h3] at h;simp at h
    ·rw [if_neg h3];exact ⟨rfl,.inl ⟨h2,by omega,rfl,rfl⟩⟩
   ·rw [if_neg h2];exact ⟨rfl,.inr ⟨by omega,rfl,rfl⟩⟩
 ·rw [if_neg h1] at h;exact absurd h h1
theorem free_at {l:List Held}{h:Int}(hf:0≤dA l h):dA l h≤5∧jY l ⟨h,dA l h⟩=0:=by
 rcases free_spec l h with ⟨a,_⟩ | ⟨_,b,c,_⟩
 ·omega
 ·exact ⟨b,c⟩
theorem xC {p:Place}{k:Int}(h:bu p=0)(h0:0≤k)(h5:k≤5):bu ⟨p.aj,k⟩=0:=by
 have:=ck h
 unfold bu;dsimp only;split <;> first|rfl|omega
theorem Inv.notes (h:Inv r){m:List Held}{ns:List Note}(hg:Good m)(hc:∀w∈r.ai,cH m w.ID+cN ns w.ID=1)(hs:∀x∈m,∃w∈r.ai,w.ID=x.ak)(hn:∀n∈ns,n∈r.Notes)(hw:∀q,eM ns q≤eM r.Notes q):Inv ⟨r.ai,r.Things,m,ns,r.ae,r.af⟩ :=
 { tree:=h.tree,good:=hg,nD:=h.nD,ki:=h.ki,lC:=h.lC,kv:=h.kv,ky:=h.ky,fP:=h.fP,qn:=h.qn,gD:=h.gD,gE:=h.gE,gh:=h.gh,thing:=h.thing,port:=fun n k=>h.port n (hn n k),hM:=fun n k=>h.hM n (hn n k),wait:=fun q=>Nat.le_trans (hw q) (h.wait q),gF:=fun n k=>h.gF n (hn n k),once:=hc,fQ:=fun n k=>h.fQ n (hn n k),eo:=hs,used:=h.used }
theorem Inv.take (h:Inv r){p:Place}(hm:(bC r p).2.2.2=0):Inv (bC r p).1:=by
 obtain ⟨hy,i,n,hn,hp,hb,_,hc⟩:=xB hm
 obtain ⟨hg,_⟩:=m5 hy
 obtain ⟨hpf,_⟩:=h.get hg
 have hcut:=fun j=>FG hn j
 have hsub:∀x∈pj r.Notes i,x∈r.Notes:=fun x hx=>DF hx
 rcases hc with ⟨h0,hf,_,he⟩ | ⟨h0,_,he⟩
 ·
  rw [he]
  obtain ⟨h5,ha⟩:=free_at hf
  have hi:n.ak≠0:=by omega
  have hq:=xC hpf hf h5
  refine h.notes (jR h.good hq) (fun w hw=>?_) (fun x hx=>?_) hsub (fun q=>tf q)
  ·
   rw [uo h.good ha hi]
   have h1:=h.once w hw;have h2:=hcut w.ID
   omega
  ·
   rcases (oI h.good ha hi).1 hx with e|hx
   ·rw [e];exact h.fQ n (List.mem_of_getElem? hn) h0
   ·exact h.eo x hx
 ·
  rw [he]
  refine h.notes h.good (fun w hw=>?_) h.eo hsub (fun q=>tf q)
  have h1:=h.once w hw;have h2:=hcut w.ID;have h3:=(h.tree.mem hw).id1
  rw [if_neg (by omega)] at h2
  omega
theorem Inv.do (h:Inv r){a:gL}(hm:(cr r a).2=0):Inv (cr r a).1:=by
 unfold cr at hm ⊢
 by_cases h1:a.Kind=(⟨#[109,97,107,101]⟩:ByteArray)
 ·rw [if_pos h1] at hm ⊢;exact h.make hm
 ·
  rw [if_neg h1] at hm ⊢
  by_cases h2:a.Kind=(⟨#[103,105,118,101]⟩:ByteArray)
  ·rw [if_pos h2] at hm ⊢;exact h.give hm
  ·
   rw [if_neg h2] at hm ⊢
   by_cases h3:a.Kind=(⟨#[109,111,118,101]⟩:ByteArray)
   ·rw [if_pos h3] at hm ⊢;exact h.move hm
   ·
    rw [if_neg h3] at hm ⊢
    by_cases h4:a.Kind=(⟨#[100,114,111,112]⟩:ByteArray)
    ·rw [if_pos h4] at hm ⊢;exact h.drop hm
    ·
     rw [if_neg h4] at hm ⊢
     by_cases h5:a.Kind=(⟨#[114,101,118,111,107,101]⟩:ByteArray)
     ·rw [if_pos h5] at hm ⊢;exact h.FH hm
     ·
      rw [if_neg h5] at hm ⊢
      by_cases h6:a.Kind=(⟨#[119,114,105,116,101]⟩:ByteArray)
      ·rw [if_pos h6] at hm ⊢;exact h.write hm
      ·
       rw [if_neg h6] at hm ⊢
       by_cases h7:a.Kind=(⟨#[115,101,110,100]⟩:ByteArray)
       ·rw [if_pos h7] at hm ⊢;exact h.send hm
       ·
        rw [if_neg h7] at hm ⊢
        by_cases h8:a.Kind=(⟨#[116,97,107,101]⟩:ByteArray)
        ·rw [if_pos h8] at hm ⊢;exact h.take hm
        ·rw [if_neg h8];exact h
theorem oK (h:Inv r):r.Held.length≤24:=BK h.good
end
end Go.Proofs.YtbkfhjaibhnkmaaGreatDoor
end
section
namespace Go.Proofs.YtbkfhjaibhnkmaaGreatDoor
set_option linter.unusedVariables false
section
variable {r:ar}
end
end Go.Proofs.YtbkfhjaibhnkmaaGreatDoor
end
section
namespace Go.Proofs.YtbkfhjaibhnkmaaGreatDoor
set_option linter.unusedVariables false
section
variable {r:ar}
theorem tt {ws:List ak}{ts:List Int}:∀ {ns:List Note},(∀n∈ns,n.Port∈ts∧gN ws n=n)→fH ws ts ns=ns
 | [],_=>rfl
 | n::ns,h=>by
  obtain ⟨h1,h2⟩:=h n (List.mem_cons_self ..)
  rw [pw,if_pos h1,h2,tt (fun m hm=>h m (List.mem_cons_of_mem _ hm))]
theorem zF {ws:List ak}{ts:List Int}{ns:List Note}(h:∀n∈ns,n.Port∈ts):f5 ws ts ns=[]:=by
 refine List.eq_nil_iff_forall_not_mem.2 fun j hj=>?_
 obtain ⟨m,hm,_,hp,_⟩:=vU.1 hj
 exact hp (h m hm)
theorem Inv.yM (h:Inv r):∀n∈r.Notes,n.Port∈aX r.ai:=fun n hn=>by
 obtain ⟨t,ht,e,_⟩:=h.port n hn
 obtain ⟨w,hw,e2⟩:=h.used t ht
 exact (gC h.tree).2 ⟨w,hw,by rw [e2,e]⟩
theorem Inv.fix (h:Inv r):∀n∈r.Notes,gN r.ai n=n:=fun n hn=>by
 unfold gN;split
 ·
  rename_i hf
  have h0:=h.gF n hn
  have:n.ak=0:=by
   by_cases hp:0<n.ak
   ·
    obtain ⟨w,hw,e⟩:=h.fQ n hn hp
    have:=iG hw;rw [e] at this;omega
   ·omega
  cases n;simp only [] at this ⊢;rw [this]
 ·rfl
theorem xD (h:Inv r)(T:List ao)(H:List Held)(hT:∀t∈T,∀w∈r.ai,w.ao≠t.ID)(hH:H.filter (fun h => !decide (cB r.ai h.ak<0))=r.Held)(a b:Int):aY ⟨r.ai,r.Things++T,H,r.Notes,a,b⟩=⟨r.ai,r.Things,r.Held,r.Notes,a,b⟩:=by
 have hl:ka ⟨r.ai,r.Things++T,H,r.Notes,a,b⟩=[]:=zF h.yM
 rw [kb (by rw [hl];rfl)]
 unfold eS
 dsimp only
 have h1:(r.Things++T).filter (fun t => !!decide (t.ID∈aX r.ai))=r.Things:=by
  have k1:r.Things.filter (fun t => !!decide (t.ID∈aX r.ai))=r.Things:=List.filter_eq_self.2 fun t ht=>by
   obtain ⟨w,hw,e⟩:=h.used t ht
   simp only [Bool.not_not,decide_eq_true_eq]
   exact (gC h.tree).2 ⟨w,hw,e⟩
  have k2:T.filter (fun t => !!decide (t.ID∈aX r.ai))=[]:=List.filter_eq_nil_iff.2 fun t ht=>by
   simp only [Bool.not_not,decide_eq_true_eq]
   intro hm
   obtain ⟨w,hw,e⟩:=(gC h.tree).1 hm
   exact hT t ht w hw e
  rw [List.filter_append,k1,k2,List.append_nil]
 rw [h1,hH,tt (fun n hn=>⟨h.yM n hn,h.fix n hn⟩)]
theorem Inv.zG (h:Inv r){H:List Held}(hs:∀x∈H,x∈r.Held):H.filter (fun h => !decide (cB r.ai h.ak<0))=H :=
 List.filter_eq_self.2 fun x hx=>by
  have:=gB.2 (h.eo x (hs x hx))
  simp only [Bool.not_eq_true',decide_eq_false_iff_not];omega
theorem rW (h:Inv r):aY r=r:=by
 have:=xD h [] r.Held (fun t ht=>by cases ht) (h.zG (fun x hx=>hx)) r.ae r.af
 rw [List.append_nil] at this
 exact this
theorem FJ {l:List Held}{x y:Held}(hx:x∈l)(hy:y∈l)(e:x.ak=y.ak)(h:cH l x.ak≤1):x=y:=by
 obtain ⟨A,B,rfl⟩:=List.append_of_mem hx
 unfold cH at h
 rw [List.countP_append,List.countP_cons,if_pos (by simp)] at h
 have key:∀ (C:List Held),y∈C→0<C.countP (fun h=>h.ak==x.ak):=fun C hC=>List.countP_pos_iff.2 ⟨y,hC,by simp [e]⟩
 rcases List.mem_append.1 hy with hy|hy
 ·have:=key A hy;omega
 ·
  rcases List.mem_cons.1 hy with hy|hy
  ·exact hy.symm
  ·have:=key B hy;omega
theorem Inv.one (h:Inv r){x y:Held}(hx:x∈r.Held)(hy:y∈r.Held)(e:x.ak=y.ak):x=y:=by
 obtain ⟨w,hw,e2⟩:=h.eo x hx
 have:=h.once w hw
 exact FJ hx hy e (by rw [← e2];omega)
end
end Go.Proofs.YtbkfhjaibhnkmaaGreatDoor
end
section
namespace Go.Proofs.YtbkfhjaibhnkmaaGreatDoor
set_option linter.unusedVariables false
section
variable {r:ar}
theorem mE:∀ (ns:List Note) (l:List ak),cR l→cR (fe ns l)
 | [],l,h=>h
 | n::ns,l,h=>by
  show cR (fe ns (if 0<n.ak then without l n.ak else l))
  refine mE ns _ ?_
  split
  ·exact h.wo _
  ·exact h
theorem rX:∀ (ns:List Note) (l:List ak) (w:ak),w∈fe ns l→(∃y∈l,Like w y) ∧ ∀n∈ns,0<n.ak→w.ID≠n.ak
 | [],l,w,h=>⟨⟨w,h,Like.refl w⟩,fun n hn=>by cases hn⟩
 | n::ns,l,w,h=>by
  obtain ⟨⟨y,hy,hl⟩,hn⟩:=rX ns (if 0<n.ak then without l n.ak else l) w h
  by_cases h0:0<n.ak
  ·
   rw [if_pos h0] at hy
   obtain ⟨z,hz,hne,rfl⟩:=fC.1 hy
   refine ⟨⟨z,hz,hl.trans (qC _ _ z)⟩,fun m hm hm0=>?_⟩
   rcases List.mem_cons.1 hm with e|hm
   ·rw [e,hl.id,(ij z).1];exact hne
   ·exact hn m hm hm0
  ·
   rw [if_neg h0] at hy
   refine ⟨⟨y,hy,hl⟩,fun m hm hm0=>?_⟩
   rcases List.mem_cons.1 hm with e|hm
   ·rw [e] at hm0;exact absurd hm0 h0
   ·exact hn m hm hm0
theorem nU:∀ (ns:List Note) (l:List ak) (y:ak),y∈l→(∀n∈ns,0<n.ak→y.ID≠n.ak) → ∃w∈fe ns l,Like w y
 | [],l,y,h,_=>⟨y,h,Like.refl y⟩
 | n::ns,l,y,h,hn=>by
  by_cases h0:0<n.ak
  ·
   obtain ⟨w,hw,k⟩:=nU ns (without l n.ak) (jt n.ak (ey l n.ak) y) (fC.2 ⟨y,h,hn n (List.mem_cons_self ..) h0,rfl⟩) (fun m hm hm0=>by rw [(ij y).1];exact hn m (List.mem_cons_of_mem _ hm) hm0)
   refine ⟨w,?_,k.trans (qC _ _ y)⟩
   show w∈fe ns (if 0<n.ak then without l n.ak else l)
   rw [if_pos h0];exact hw
  ·
   obtain ⟨w,hw,k⟩:=nU ns l y h (fun m hm hm0=>hn m (List.mem_cons_of_mem _ hm) hm0)
   refine ⟨w,?_,k⟩
   show w∈fe ns (if 0<n.ak then without l n.ak else l)
   rw [if_neg h0];exact hw
theorem BP {ns:List Note}{j:Int}(h:cN ns j=0):∀n∈ns,0<n.ak→j≠n.ak:=fun n hn _ e=>by
 have:=FE hn;rw [← e] at this;omega
theorem Inv.tu (h:Inv r):Pre ⟨fe r.Notes r.ai,r.Things,r.Held,[],r.ae,r.af⟩:=by
 have hs:=fun w hw=>rX r.Notes r.ai w hw
 refine { tree:=mE _ _ h.tree,good:=h.good,nD:=?_,ki:=h.ki,lC:=h.lC,kv:=h.kv,ky:=h.ky,fP:=h.fP,qn:=h.qn,gD:=h.gD,gE:=h.gE,gh:=h.gh,thing:=?_,port:=fun n hn=>(by cases hn),hM:=fun n hn=>(by cases hn),wait:=fun q=>by simp [eM],gF:=fun n hn=>(by cases hn),once:=?_ }
 ·intro w hw;obtain ⟨⟨y,hy,k⟩,_⟩:=hs w hw;rw [k.id];exact h.nD y hy
 ·intro w hw;obtain ⟨⟨y,hy,k⟩,_⟩:=hs w hw;rw [k.th];exact h.thing y hy
 ·
  intro w hw
  obtain ⟨⟨y,hy,k⟩,hn⟩:=hs w hw
  have h1:=h.once y hy
  have h2:cN r.Notes w.ID=0:=List.countP_eq_zero.2 fun n hnn e=>by
   have e:n.ak=w.ID:=by simpa using e
   have:=(h.tree.mem hy).id1
   exact hn n hnn (by rw [e,k.id];omega) e.symm
  show cH r.Held w.ID+cN [] w.ID=1
  rw [← k.id] at h1;simp only [cN,List.countP_nil] at h2 ⊢;unfold cN at h1;omega
theorem py:∀ (a b:List Int),a.Nodup→(∀x∈a,x∈b)→a.length≤b.length
 | [],b,_,_=>Nat.zero_le _
 | x::a,b,hn,hs=>by
  obtain ⟨h1,h2⟩:=List.nodup_cons.1 hn
  obtain ⟨A,B,rfl⟩:=List.append_of_mem (hs x (List.mem_cons_self ..))
  have:=py a (A++B) h2 fun y hy=>by
   have h3:=hs y (List.mem_cons_of_mem _ hy)
   rcases List.mem_append.1 h3 with h3|h3
   ·exact List.mem_append.2 (.inl h3)
   ·
    rcases List.mem_cons.1 h3 with e|h3
    ·exact absurd (e▸hy) h1
    ·exact List.mem_append.2 (.inr h3)
  simp only [List.length_cons,List.length_append] at this ⊢;omega
theorem BQ (h:Inv r)(hn:r.Notes=[]):r.Held.length=r.ai.length:=by
 have h1:(r.ai.map ak.ID).Nodup:=List.Pairwise.imp (fun h=>Int.ne_of_lt h) (List.pairwise_map.2 h.tree.is.rise)
 have h2:(r.Held.map Held.ak).Nodup:=by
  refine List.pairwise_iff_getElem.2 fun i j hi hj hij e=>?_
  rw [List.length_map] at hi hj
  rw [List.getElem_map,List.getElem_map] at e
  have:=h.one (List.getElem_mem hi) (List.getElem_mem hj) e
  have h3:=List.pairwise_iff_getElem.1 (fV h.good) i j hi hj hij
  rw [this] at h3
  exact oF h3
 have a:=py (r.Held.map Held.ak) (r.ai.map ak.ID) h2 fun x hx=>by
  obtain ⟨y,hy,rfl⟩:=List.mem_map.1 hx
  obtain ⟨w,hw,e⟩:=h.eo y hy
  exact List.mem_map.2 ⟨w,hw,e⟩
 have b:=py (r.ai.map ak.ID) (r.Held.map Held.ak) h1 fun x hx=>by
  obtain ⟨w,hw,rfl⟩:=List.mem_map.1 hx
  have h3:=h.once w hw
  rw [hn] at h3;simp only [cN,List.countP_nil] at h3
  obtain ⟨y,hy,e⟩:=List.countP_pos_iff.1 (show 0<cH r.Held w.ID by omega)
  exact List.mem_map.2 ⟨y,hy,by simpa using e⟩
 simp only [List.length_map] at a b;omega
theorem iM (h:Inv r):Inv (aH r)∧(aH r).Notes=[]∧(aH r).Held=r.Held∧(aH r).Held.length=(aH r).ai.length∧aH (aH r)=aH r:=by
 have hp:=h.tu
 have hi:Inv (aH r):=px hp
 have hl:ka ⟨fe r.Notes r.ai,r.Things,r.Held,[],r.ae,r.af⟩=[]:=rfl
 have hd:aH r=eS ⟨fe r.Notes r.ai,r.Things,r.Held,[],r.ae,r.af⟩:=kb (by rw [hl];rfl)
 have hn:(aH r).Notes=[]:=by rw [hd];rfl
 refine ⟨hi,hn,?_,BQ hi hn,?_⟩
 ·
  rw [hd]
  show r.Held.filter _=r.Held
  refine List.filter_eq_self.2 fun x hx=>?_
  obtain ⟨w,hw,e⟩:=h.eo x hx
  have h1:=h.once w hw;have h2:=FD hx;rw [← e] at h2
  obtain ⟨v,hv,k⟩:=nU r.Notes r.ai w hw (BP (by omega))
  have h3:0≤cB (fe r.Notes r.ai) x.ak:=gB.2 ⟨v,hv,by rw [k.id,e]⟩
  simp only [Bool.not_eq_true',decide_eq_false_iff_not];omega
 ·
  have hs:=rW hi
  generalize aH r=x at hn hs
  cases x with
  | mk W T H N a b =>
   have hn':N=[]:=hn
   subst hn'
   exact hs
end
end Go.Proofs.YtbkfhjaibhnkmaaGreatDoor
end
