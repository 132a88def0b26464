import Derived.Test.YtkbhcbipadkcaaaGreatDoorTO35
import Derived.Lib.Atoi
import Derived.Lib.ItoaNum
import Derived.Lib.Repeat
namespace Go.Proofs.YtkbhcbipadkcaaaGreatDoor
set_option linter.unusedVariables false
set_option linter.unusedSimpArgs false
section
section
variable {r:aC}
theorem zV (ns:List Note)(n:Note)(q:Int):gh (ns++[n]) q=gh ns q+(if n.Port=q then 1 else 0):=by
 unfold gh;rw [List.filter_append,List.length_append]
 by_cases h:n.Port=q
 .rw [if_pos h];simp [h]
 .rw [if_neg h];simp [h]
theorem GA (ns:List Note)(n:Note)(j:Int):cN (ns++[n]) j=cN ns j+(if n.aj=j then 1 else 0):=by
 unfold cN;rw [List.countP_append,List.countP_cons]
 by_cases h:n.aj=j
 .rw [if_pos (by simpa using h),if_pos h];simp
 .rw [if_neg (by simpa using h),if_neg h];simp
theorem ra {p:Place}{k q:Int}(h:(cC r p k q).2.2=0):(aS r p).2=0/\(cC r p k q).1=(aS r p).1/\ji (aS r p).1.Rights q=true /\ ∃t∈r.Things,t.ID=(aS r p).1.aE/\t.Kind=k:=by
 obtain ⟨h1,h2,h3,i,t,_,ht,e,e2,_⟩:=qU h
 exact ⟨h1,h2,h3,t,List.mem_of_getElem? ht,e,e2⟩
theorem xY {p:Place}{d:ByteArray}{s a:Int}(h:(dN r p d s a).2=0):(cC r p 2 2).2.2=0/\d.size<=8/\gh r.Notes (aS r p).1.aE≠3 /\
 (s<0/\(dN r p d s a).1=⟨r.ak,r.Things,r.Held,r.Notes++[⟨(aS r p).1.aE,d,(aS r p).1.aQ,0⟩],r.ae,r.ah⟩ ∨
  0<=s/\ji (aS r p).1.Rights 4=true/\(aS r ⟨p.aB,s⟩).2=0/\r.ae<=999/\(derived (aS r ⟨p.aB,s⟩).1 r.ae a 0).2=0 /\
  (dN r p d s a).1=⟨r.ak++[(derived (aS r ⟨p.aB,s⟩).1 r.ae a 0).1],r.Things,r.Held,r.Notes++[⟨(aS r p).1.aE,d,(aS r p).1.aQ,(derived (aS r ⟨p.aB,s⟩).1 r.ae a 0).1.ID⟩],r.ae+1,r.ah⟩):=by
 unfold dN at h ⊢
 by_cases h1:(cC r p 2 2).2.2=0
 .
  have he:=(ra h1).2.1
  rw [if_pos h1] at h ⊢
  by_cases h2:8<d.size
  .rw [if_pos h2] at h;simp at h
  .
   rw [if_neg h2] at h ⊢
   by_cases h3:gh r.Notes (cC r p 2 2).1.aE=3
   .rw [if_pos h3] at h;simp at h
   .
    rw [if_neg h3] at h ⊢
    rw [he] at h3
    by_cases h4:s<0
    .rw [if_pos h4,he];exact ⟨h1,by omega,h3,.inl ⟨h4,rfl⟩⟩
    .
     rw [if_neg h4] at h ⊢
     by_cases h5:ji (cC r p 2 2).1.Rights 4=true
     .
      rw [if_pos h5] at h ⊢
      by_cases h6:(aS r ⟨p.aB,s⟩).2=0
      .
       rw [if_pos h6] at h ⊢
       by_cases h7:999<r.ae
       .rw [if_pos h7] at h;simp at h
       .
        rw [if_neg h7] at h ⊢
        by_cases h8:(derived (aS r ⟨p.aB,s⟩).1 r.ae a 0).2=0
        .
         rw [if_pos h8,he];rw [he] at h5
         exact ⟨h1,by omega,h3,.inr ⟨by omega,h5,h6,by omega,h8,rfl⟩⟩
        .rw [if_neg h8] at h;exact absurd h h8
      .rw [if_neg h6] at h;exact absurd h h6
     .rw [if_neg h5] at h;simp at h
 .rw [if_neg h1] at h;exact absurd h h1
theorem Inv.send (h:Inv r){p:Place}{d:ByteArray}{s a:Int}(hm:(dN r p d s a).2=0):Inv (dN r p d s a).1:=by
 obtain ⟨hy,hd,h3,hc⟩:=xY hm
 obtain ⟨hg,_,_,t,ht,hti,htk⟩:=ra hy
 obtain ⟨_,hgm,_⟩:=h.get hg
 have hw:=h.tree.mem hgm
 have Oq:∀q,gh r.Notes q+(if (aS r p).1.aE=q then 1 else 0)<=3:=fun q=>by
  have:=h.wait q
  split
  .rename_i e;rw [e] at h3;omega
  .omega
 have zS:∀ (k:Int) (n:Note),n∈r.Notes++[⟨(aS r p).1.aE,d,(aS r p).1.aQ,k⟩] -> ∃t∈r.Things,t.ID=n.Port/\t.Kind=2:=fun k n hn=>by
  rcases List.mem_append.1 hn with hn|hn
  .exact h.port n hn
  .rw [List.mem_singleton.1 hn];exact ⟨t,ht,hti,htk⟩
 have hnd:∀ (k:Int) (n:Note),n∈r.Notes++[⟨(aS r p).1.aE,d,(aS r p).1.aQ,k⟩]->n.Data.size<=8/\0<=n.aQ/\n.aQ<=99:=fun k n hn=>by
  rcases List.mem_append.1 hn with hn|hn
  .exact h.kF n hn
  .rw [List.mem_singleton.1 hn];exact ⟨hd,hw.Qh,hw.Qi⟩
 rcases hc with ⟨h4,he⟩ | ⟨h4,h5,h6,h7,h8,he⟩
 .
  rw [he]
  refine { tree:=h.tree,good:=h.good,sj:=h.sj,oX:=h.oX,qZ:=h.qZ,pA:=h.pA,pB:=h.pB,jq:=h.jq,vC:=h.vC,jB:=h.jB,jC:=h.jC,jr:=h.jr,thing:=h.thing,port:=zS 0,kF:=hnd 0,wait:=fun q=>?_,jD:=?_,once:=?_,iy:=?_,eP:=h.eP,used:=h.used }
  .show gh (r.Notes++[_]) q<=3;rw [zV];exact Oq q
  .
   intro n hn
   rcases List.mem_append.1 hn with hn|hn
   .exact h.jD n hn
   .rw [List.mem_singleton.1 hn];exact Int.le_refl 0
  .
   intro w hw
   show cH r.Held w.ID+cN (r.Notes++[_]) w.ID=1
   have:=h.once w hw;have:=(h.tree.mem hw).id1
   rw [GA,if_neg (by dsimp only;omega)];omega
  .
   intro n hn h0
   rcases List.mem_append.1 hn with hn|hn
   .exact h.iy n hn h0
   .rw [List.mem_singleton.1 hn] at h0;exact absurd h0 (by dsimp only;omega)
 .
  obtain ⟨_,S1,_⟩:=h.get h6
  obtain ⟨Gy,hid,hth,_⟩:=h.derive S1 h7 h8
  rw [he]
  generalize hx:(derived (aS r ⟨p.aB,s⟩).1 r.ae a 0).1=x at *
  have n1:=h.oX;have hfr:=h.fresh
  refine { tree:=Gy,good:=h.good,sj:=?_,oX:=by show 1<=r.ae+1;omega,qZ:=by show r.ae+1<=1000;omega,pA:=h.pA,pB:=h.pB,jq:=h.jq,vC:=h.vC,jB:=h.jB,jC:=h.jC,jr:=h.jr,thing:=?_,port:=zS x.ID,kF:=hnd x.ID,wait:=fun q=>?_,jD:=?_,once:=?_,iy:=?_,eP:=?_,used:=?_ }
  .
   intro w hw
   show w.ID<r.ae+1
   rcases List.mem_append.1 hw with hw|hw
   .have:=h.sj w hw;omega
   .rw [List.mem_singleton.1 hw,hid];omega
  .
   intro w hw
   rcases List.mem_append.1 hw with hw|hw
   .exact h.thing w hw
   .rw [List.mem_singleton.1 hw,hth];exact h.thing _ S1
  .show gh (r.Notes++[_]) q<=3;rw [zV];exact Oq q
  .
   intro n hn
   rcases List.mem_append.1 hn with hn|hn
   .exact h.jD n hn
   .rw [List.mem_singleton.1 hn];show 0<=x.ID;omega
  .
   intro w hw
   show cH r.Held w.ID+cN (r.Notes++[_]) w.ID=1
   rw [GA];dsimp only
   rcases List.mem_append.1 hw with hw|hw
   .
    have:=h.sj w hw;have:=h.once w hw
    rw [if_neg (by omega)];omega
   .rw [List.mem_singleton.1 hw,if_pos rfl,hid];omega
  .
   intro n hn h0
   rcases List.mem_append.1 hn with hn|hn
   .
    obtain ⟨w,hw,e⟩:=h.iy n hn h0
    exact ⟨w,List.mem_append.2 (.inl hw),e⟩
   .rw [List.mem_singleton.1 hn];exact ⟨x,List.mem_append.2 (.inr (List.mem_singleton.2 rfl)),rfl⟩
  .
   intro y hy
   obtain ⟨w,hw,e⟩:=h.eP y hy
   exact ⟨w,List.mem_append.2 (.inl hw),e⟩
  .
   intro t ht
   obtain ⟨w,hw,e⟩:=h.used t ht
   exact ⟨w,List.mem_append.2 (.inl hw),e⟩
theorem xZ {p:Place}(h:(eB r p).2.2.2=0):(cC r p 2 1).2.2=0 /\ ∃ (i:Nat) (n:Note),r.Notes[i]? = some n/\n.Port=(aS r p).1.aE/\(∀ (j:Nat) y,j<i->r.Notes[j]? = some y->¬ y.Port=(aS r p).1.aE)/\(eB r p).2.1=n /\
 (0<n.aj/\0<=je r.Held p.aB/\(eB r p).2.2.1=je r.Held p.aB/\(eB r p).1=⟨r.ak,r.Things,fP r.Held ⟨p.aB,je r.Held p.aB⟩ n.aj,ub r.Notes i,r.ae,r.ah⟩ ∨
  n.aj<=0/\(eB r p).2.2.1 = -1/\(eB r p).1=⟨r.ak,r.Things,r.Held,ub r.Notes i,r.ae,r.ah⟩):=by
 unfold eB at h ⊢
 by_cases h1:(cC r p 2 1).2.2=0
 .
  have he:=(ra h1).2.1
  rw [if_pos h1] at h ⊢
  rw [he] at h ⊢
  rcases j5 (fun n:Note=>n.Port==(aS r p).1.aE) r.Notes with ⟨hf,hn⟩ | ⟨i,n,hf,hn,hp,hb,_⟩
  .
   rw [hf,show decide ((0:Int) <= -1)=false from rfl] at h
   cases hq:r.Notes[(-1:Int).toNat]? <;> rw [hq] at h <;> simp at h
  .
   have hn':r.Notes[i]? = some n:=hn
   have hfi:idxOf (fun n:Note=>n.Port==(aS r p).1.aE) r.Notes=(i:Int):=hf
   rw [hfi,Int.toNat_natCast,hn',decide_eq_true (by omega)] at h ⊢
   dsimp only at h ⊢
   refine ⟨h1,i,n,hn',by simpa using hp,fun j y hj hy=>by simpa using hb j y hj hy,?_⟩
   by_cases h2:0<n.aj
   .
    rw [if_pos h2] at h ⊢
    by_cases h3:je r.Held p.aB<0
    .rw [if_pos h3] at h;simp at h
    .rw [if_neg h3];exact ⟨rfl,.inl ⟨h2,by omega,rfl,rfl⟩⟩
   .rw [if_neg h2];exact ⟨rfl,.inr ⟨by omega,rfl,rfl⟩⟩
 .rw [if_neg h1] at h;exact absurd h h1
theorem free_at {l:List Held}{h:Int}(hf:0<=je l h):je l h<=5/\mU l ⟨h,je l h⟩=0:=by
 rcases free_spec l h with ⟨a,_⟩ | ⟨_,b,c,_⟩
 .omega
 .exact ⟨b,c⟩
theorem Fe {p:Place}{k:Int}(h:aY p=0)(h0:0<=k)(h5:k<=5):aY ⟨p.aB,k⟩=0:=by
 have:=cu h
 unfold aY;dsimp only;split <;> first|rfl|omega
theorem Inv.notes (h:Inv r){m:List Held}{ns:List Note}(hg:Good m)(hc:∀w∈r.ak,cH m w.ID+cN ns w.ID=1)(hs:∀x∈m,∃w∈r.ak,w.ID=x.aj)(hn:∀n∈ns,n∈r.Notes)(hw:∀q,gh ns q<=gh r.Notes q):Inv ⟨r.ak,r.Things,m,ns,r.ae,r.ah⟩ :=
 { tree:=h.tree,good:=hg,sj:=h.sj,oX:=h.oX,qZ:=h.qZ,pA:=h.pA,pB:=h.pB,jq:=h.jq,vC:=h.vC,jB:=h.jB,jC:=h.jC,jr:=h.jr,thing:=h.thing,port:=fun n k=>h.port n (hn n k),kF:=fun n k=>h.kF n (hn n k),wait:=fun q=>Nat.le_trans (hw q) (h.wait q),jD:=fun n k=>h.jD n (hn n k),once:=hc,iy:=fun n k=>h.iy n (hn n k),eP:=hs,used:=h.used }
theorem Inv.take (h:Inv r){p:Place}(hm:(eB r p).2.2.2=0):Inv (eB r p).1:=by
 obtain ⟨hy,i,n,hn,hp,hb,_,hc⟩:=xZ hm
 obtain ⟨hg,_⟩:=ra hy
 obtain ⟨hpf,_⟩:=h.get hg
 have hcut:=fun j=>Qs hn j
 have hsub:∀x∈ub r.Notes i,x∈r.Notes:=fun x hx=>MZ hx
 rcases hc with ⟨h0,hf,_,he⟩ | ⟨h0,_,he⟩
 .
  rw [he]
  obtain ⟨h5,ha⟩:=free_at hf
  have hi:n.aj≠0:=by omega
  have hq:=Fe hpf hf h5
  refine h.notes (mI h.good hq) (fun w hw=>?_) (fun x hx=>?_) hsub (fun q=>zP q)
  .
   rw [BJ h.good ha hi]
   have h1:=h.once w hw;have h2:=hcut w.ID
   omega
  .
   rcases (lE h.good ha hi).1 hx with e|hx
   .rw [e];exact h.iy n (List.mem_of_getElem? hn) h0
   .exact h.eP x hx
 .
  rw [he]
  refine h.notes h.good (fun w hw=>?_) h.eP hsub (fun q=>zP q)
  have h1:=h.once w hw;have h2:=hcut w.ID;have h3:=(h.tree.mem hw).id1
  rw [if_neg (by omega)] at h2
  omega
theorem Inv.do (h:Inv r){a:eh}(hm:(cQ r a).2=0):Inv (cQ r a).1:=by
 unfold cQ at hm ⊢
 by_cases h1:a.Kind=(⟨#[109,97,107,101]⟩:ByteArray)
 .rw [if_pos h1] at hm ⊢;exact h.make hm
 .
  rw [if_neg h1] at hm ⊢
  by_cases h2:a.Kind=(⟨#[103,105,118,101]⟩:ByteArray)
  .rw [if_pos h2] at hm ⊢;exact h.give hm
  .
   rw [if_neg h2] at hm ⊢
   by_cases h3:a.Kind=(⟨#[109,111,118,101]⟩:ByteArray)
   .rw [if_pos h3] at hm ⊢;exact h.move hm
   .
    rw [if_neg h3] at hm ⊢
    by_cases h4:a.Kind=(⟨#[100,114,111,112]⟩:ByteArray)
    .rw [if_pos h4] at hm ⊢;exact h.drop hm
    .
     rw [if_neg h4] at hm ⊢
     by_cases h5:a.Kind=(⟨#[114,101,118,111,107,101]⟩:ByteArray)
     .rw [if_pos h5] at hm ⊢;exact h.Qu hm
     .
      rw [if_neg h5] at hm ⊢
      by_cases h6:a.Kind=(⟨#[119,114,105,116,101]⟩:ByteArray)
      .rw [if_pos h6] at hm ⊢;exact h.write hm
      .
       rw [if_neg h6] at hm ⊢
       by_cases h7:a.Kind=(⟨#[115,101,110,100]⟩:ByteArray)
       .rw [if_pos h7] at hm ⊢;exact h.send hm
       .
        rw [if_neg h7] at hm ⊢
        by_cases h8:a.Kind=(⟨#[116,97,107,101]⟩:ByteArray)
        .rw [if_pos h8] at hm ⊢;exact h.take hm
        .rw [if_neg h8];exact h
theorem tw (h:Inv r):r.Held.length<=24:=KV h.good
end
end
section
section
variable {r:aC}
end
end
section
section
variable {r:aC}
theorem zW {ws:List aj}{ts:List Int}:∀ {ns:List Note},(∀n∈ns,n.Port∈ts/\jE ws n=n)->ig ws ts ns=ns
 | [],_=>rfl
 | n::ns,h=>by
  obtain ⟨h1,h2⟩:=h n (List.mem_cons_self ..)
  rw [uf,if_pos h1,h2,zW (fun m hm=>h m (List.mem_cons_of_mem _ hm))]
theorem Ib {ws:List aj}{ts:List Int}{ns:List Note}(h:∀n∈ns,n.Port∈ts):kJ ws ts ns=[]:=by
 refine List.eq_nil_iff_forall_not_mem.2 fun j hj=>?_
 obtain ⟨m,hm,_,hp,_⟩:=Dv.1 hj
 exact hp (h m hm)
theorem Inv.GB (h:Inv r):∀n∈r.Notes,n.Port∈bT r.ak:=fun n hn=>by
 obtain ⟨t,ht,e,_⟩:=h.port n hn
 obtain ⟨w,hw,e2⟩:=h.used t ht
 exact (lf h.tree).2 ⟨w,hw,by rw [e2,e]⟩
theorem Inv.fix (h:Inv r):∀n∈r.Notes,jE r.ak n=n:=fun n hn=>by
 unfold jE;split
 .
  rename_i hf
  have h0:=h.jD n hn
  have:n.aj=0:=by
   by_cases hp:0<n.aj
   .
    obtain ⟨w,hw,e⟩:=h.iy n hn hp
    have:=mb hw;rw [e] at this;omega
   .omega
  cases n;simp only [] at this ⊢;rw [this]
 .rfl
theorem Ff (h:Inv r)(T:List aE)(H:List Held)(hT:∀t∈T,∀w∈r.ak,w.aE≠t.ID)(hH:H.filter (fun h => !decide (cG r.ak h.aj<0))=r.Held)(a b:Int):dR ⟨r.ak,r.Things++T,H,r.Notes,a,b⟩=⟨r.ak,r.Things,r.Held,r.Notes,a,b⟩:=by
 have hl:po ⟨r.ak,r.Things++T,H,r.Notes,a,b⟩=[]:=Ib h.GB
 rw [ql (by rw [hl];rfl)]
 unfold fJ
 dsimp only
 have h1:(r.Things++T).filter (fun t => !!decide (t.ID∈bT r.ak))=r.Things:=by
  have k1:r.Things.filter (fun t => !!decide (t.ID∈bT r.ak))=r.Things:=List.filter_eq_self.2 fun t ht=>by
   obtain ⟨w,hw,e⟩:=h.used t ht
   simp only [Bool.not_not,decide_eq_true_eq]
   exact (lf h.tree).2 ⟨w,hw,e⟩
  have k2:T.filter (fun t => !!decide (t.ID∈bT r.ak))=[]:=List.filter_eq_nil_iff.2 fun t ht=>by
   simp only [Bool.not_not,decide_eq_true_eq]
   intro hm
   obtain ⟨w,hw,e⟩:=(lf h.tree).1 hm
   exact hT t ht w hw e
  rw [List.filter_append,k1,k2,List.append_nil]
 rw [h1,hH,zW (fun n hn=>⟨h.GB n hn,h.fix n hn⟩)]
theorem Inv.Ic (h:Inv r){H:List Held}(hs:∀x∈H,x∈r.Held):H.filter (fun h => !decide (cG r.ak h.aj<0))=H :=
 List.filter_eq_self.2 fun x hx=>by
  have:=k9.2 (h.eP x (hs x hx))
  simp only [Bool.not_eq_true',decide_eq_false_iff_not];omega
theorem ya (h:Inv r):dR r=r:=by
 have:=Ff h [] r.Held (fun t ht=>by cases ht) (h.Ic (fun x hx=>hx)) r.ae r.ah
 rw [List.append_nil] at this
 exact this
theorem Qv {l:List Held}{x y:Held}(hx:x∈l)(hy:y∈l)(e:x.aj=y.aj)(h:cH l x.aj<=1):x=y:=by
 obtain ⟨A,B,rfl⟩:=List.append_of_mem hx
 unfold cH at h
 rw [List.countP_append,List.countP_cons,if_pos (by simp)] at h
 have key:∀ (C:List Held),y∈C->0<C.countP (fun h=>h.aj==x.aj):=fun C hC=>List.countP_pos_iff.2 ⟨y,hC,by simp [e]⟩
 rcases List.mem_append.1 hy with hy|hy
 .have:=key A hy;omega
 .
  rcases List.mem_cons.1 hy with hy|hy
  .exact hy.symm
  .have:=key B hy;omega
theorem Inv.one (h:Inv r){x y:Held}(hx:x∈r.Held)(hy:y∈r.Held)(e:x.aj=y.aj):x=y:=by
 obtain ⟨w,hw,e2⟩:=h.eP x hx
 have:=h.once w hw
 exact Qv hx hy e (by rw [<- e2];omega)
end
end
section
section
variable {r:aC}
theorem uT:∀ (ns:List Note) (l:List aj),cR l->cR (hZ ns l)
 | [],l,h=>h
 | n::ns,l,h=>by
  show cR (hZ ns (if 0<n.aj then without l n.aj else l))
  refine uT ns _ ?_
  split
  .exact h.wo _
  .exact h
theorem yb:∀ (ns:List Note) (l:List aj) (w:aj),w∈hZ ns l->(∃y∈l,Like w y) /\ ∀n∈ns,0<n.aj->w.ID≠n.aj
 | [],l,w,h=>⟨⟨w,h,Like.refl w⟩,fun n hn=>by cases hn⟩
 | n::ns,l,w,h=>by
  obtain ⟨⟨y,hy,hl⟩,hn⟩:=yb ns (if 0<n.aj then without l n.aj else l) w h
  by_cases h0:0<n.aj
  .
   rw [if_pos h0] at hy
   obtain ⟨z,hz,hne,rfl⟩:=gK.1 hy
   refine ⟨⟨z,hz,hl.trans (vD _ _ z)⟩,fun m hm hm0=>?_⟩
   rcases List.mem_cons.1 hm with e|hm
   .rw [e,hl.id,(kC z).1];exact hne
   .exact hn m hm hm0
  .
   rw [if_neg h0] at hy
   refine ⟨⟨y,hy,hl⟩,fun m hm hm0=>?_⟩
   rcases List.mem_cons.1 hm with e|hm
   .rw [e] at hm0;exact absurd hm0 h0
   .exact hn m hm hm0
theorem sk:∀ (ns:List Note) (l:List aj) (y:aj),y∈l->(∀n∈ns,0<n.aj->y.ID≠n.aj) -> ∃w∈hZ ns l,Like w y
 | [],l,y,h,_=>⟨y,h,Like.refl y⟩
 | n::ns,l,y,h,hn=>by
  by_cases h0:0<n.aj
  .
   obtain ⟨w,hw,k⟩:=sk ns (without l n.aj) (mM n.aj (eO l n.aj) y) (gK.2 ⟨y,h,hn n (List.mem_cons_self ..) h0,rfl⟩) (fun m hm hm0=>by rw [(kC y).1];exact hn m (List.mem_cons_of_mem _ hm) hm0)
   refine ⟨w,?_,k.trans (vD _ _ y)⟩
   show w∈hZ ns (if 0<n.aj then without l n.aj else l)
   rw [if_pos h0];exact hw
  .
   obtain ⟨w,hw,k⟩:=sk ns l y h (fun m hm hm0=>hn m (List.mem_cons_of_mem _ hm) hm0)
   refine ⟨w,?_,k⟩
   show w∈hZ ns (if 0<n.aj then without l n.aj else l)
   rw [if_neg h0];exact hw
theorem K6 {ns:List Note}{j:Int}(h:cN ns j=0):∀n∈ns,0<n.aj->j≠n.aj:=fun n hn _ e=>by
 have:=Qr hn;rw [<- e] at this;omega
theorem Inv.Ie (h:Inv r):Pre ⟨hZ r.Notes r.ak,r.Things,r.Held,[],r.ae,r.ah⟩:=by
 have hs:=fun w hw=>yb r.Notes r.ak w hw
 refine { tree:=uT _ _ h.tree,good:=h.good,sj:=?_,oX:=h.oX,qZ:=h.qZ,pA:=h.pA,pB:=h.pB,jq:=h.jq,vC:=h.vC,jB:=h.jB,jC:=h.jC,jr:=h.jr,thing:=?_,port:=fun n hn=>(by cases hn),kF:=fun n hn=>(by cases hn),wait:=fun q=>by simp [gh],jD:=fun n hn=>(by cases hn),once:=?_ }
 .intro w hw;obtain ⟨⟨y,hy,k⟩,_⟩:=hs w hw;rw [k.id];exact h.sj y hy
 .intro w hw;obtain ⟨⟨y,hy,k⟩,_⟩:=hs w hw;rw [k.th];exact h.thing y hy
 .
  intro w hw
  obtain ⟨⟨y,hy,k⟩,hn⟩:=hs w hw
  have h1:=h.once y hy
  have h2:cN r.Notes w.ID=0:=List.countP_eq_zero.2 fun n hnn e=>by
   have e:n.aj=w.ID:=by simpa using e
   have:=(h.tree.mem hy).id1
   exact hn n hnn (by rw [e,k.id];omega) e.symm
  show cH r.Held w.ID+cN [] w.ID=1
  rw [<- k.id] at h1;simp only [cN,List.countP_nil] at h2 ⊢;unfold cN at h1;omega
theorem uh:∀ (a b:List Int),a.Nodup->(∀x∈a,x∈b)->a.length<=b.length
 | [],b,_,_=>Nat.zero_le _
 | x::a,b,hn,hs=>by
  obtain ⟨h1,h2⟩:=List.nodup_cons.1 hn
  obtain ⟨A,B,rfl⟩:=List.append_of_mem (hs x (List.mem_cons_self ..))
  have:=uh a (A++B) h2 fun y hy=>by
   have h3:=hs y (List.mem_cons_of_mem _ hy)
   rcases List.mem_append.1 h3 with h3|h3
   .exact List.mem_append.2 (.inl h3)
   .
    rcases List.mem_cons.1 h3 with e|h3
    .exact absurd (e▸hy) h1
    .exact List.mem_append.2 (.inr h3)
  simp only [List.length_cons,List.length_append] at this ⊢;omega
theorem K7 (h:Inv r)(hn:r.Notes=[]):r.Held.length=r.ak.length:=by
 have h1:(r.ak.map aj.ID).Nodup:=List.Pairwise.imp (fun h=>Int.ne_of_lt h) (List.pairwise_map.2 h.tree.is.rise)
 have h2:(r.Held.map Held.aj).Nodup:=by
  refine List.pairwise_iff_getElem.2 fun i j hi hj hij e=>?_
  rw [List.length_map] at hi hj
  rw [List.getElem_map,List.getElem_map] at e
  have:=h.one (List.getElem_mem hi) (List.getElem_mem hj) e
  have h3:=List.pairwise_iff_getElem.1 (jP h.good) i j hi hj hij
  rw [this] at h3
  exact tg h3
 have a:=uh (r.Held.map Held.aj) (r.ak.map aj.ID) h2 fun x hx=>by
  obtain ⟨y,hy,rfl⟩:=List.mem_map.1 hx
  obtain ⟨w,hw,e⟩:=h.eP y hy
  exact List.mem_map.2 ⟨w,hw,e⟩
 have b:=uh (r.ak.map aj.ID) (r.Held.map Held.aj) h1 fun x hx=>by
  obtain ⟨w,hw,rfl⟩:=List.mem_map.1 hx
  have h3:=h.once w hw
  rw [hn] at h3;simp only [cN,List.countP_nil] at h3
  obtain ⟨y,hy,e⟩:=List.countP_pos_iff.1 (show 0<cH r.Held w.ID by omega)
  exact List.mem_map.2 ⟨y,hy,by simpa using e⟩
 simp only [List.length_map] at a b;omega
theorem jz (h:Inv r):Inv (aZ r)/\(aZ r).Notes=[]/\(aZ r).Held=r.Held/\(aZ r).Held.length=(aZ r).ak.length/\aZ (aZ r)=aZ r:=by
 have hp:=h.Ie
 have hi:Inv (aZ r):=ug hp
 have hl:po ⟨hZ r.Notes r.ak,r.Things,r.Held,[],r.ae,r.ah⟩=[]:=rfl
 have hd:aZ r=fJ ⟨hZ r.Notes r.ak,r.Things,r.Held,[],r.ae,r.ah⟩:=ql (by rw [hl];rfl)
 have hn:(aZ r).Notes=[]:=by rw [hd];rfl
 refine ⟨hi,hn,?_,K7 hi hn,?_⟩
 .
  rw [hd]
  show r.Held.filter _=r.Held
  refine List.filter_eq_self.2 fun x hx=>?_
  obtain ⟨w,hw,e⟩:=h.eP x hx
  have h1:=h.once w hw;have h2:=Qq hx;rw [<- e] at h2
  obtain ⟨v,hv,k⟩:=sk r.Notes r.ak w hw (K6 (by omega))
  have h3:0<=cG (hZ r.Notes r.ak) x.aj:=k9.2 ⟨v,hv,by rw [k.id,e]⟩
  simp only [Bool.not_eq_true',decide_eq_false_iff_not];omega
 .
  have hs:=ya hi
  generalize aZ r=x at hn hs
  cases x with
  | mk W T H N a b =>
   have hn':N=[]:=hn
   subst hn'
   exact hs
theorem Dx {k:Nat}(h:Sz k r):Sz k (aZ r) :=
 oV _ _ ⟨Nat.le_trans (xK _ _) h.wl,h.tl,h.hl,Nat.zero_le _,zN _ _ h.ri,h.w0,h.w1,h.t0,h.t1⟩
end
end
def gS (n:Int):ByteArray:=⟨(Lib.itoa n).toArray⟩
def bK (n:Int):ByteArray:=⟨(Lib.repeatL [48] (4-(gS n).size)).toArray⟩++gS n
def vp (s:ByteArray):Option Int:=match Lib.atoi s.data.toList with|some n=>if bK n=s then some n else none|none=>none
def jN (s:ByteArray):Nat->Option (List Int)
  | 0=>some []
  | k+1=>match jN s k with
    | some l=>match vp (s.extract (4*k) (4*k+4)) with|some n=>some (l++[n])|none=>none
    | none=>none
def dV (s:ByteArray)(m:Nat):Option (List Int):=if s.size<4*m then none else jN s m
theorem ui {s:ByteArray}:∀ {k:Nat} {l:List Int},jN s k=some l->l.length=k
 | 0,l,h=>by simp [jN] at h;subst h;rfl
 | k+1,l,h=>by
  simp only [jN] at h
  split at h
  .
   rename_i l' h'
   split at h
   .injection h with h;subst h;simp [ui h']
   .cases h
  .cases h
theorem Fg {s:ByteArray}{k:Nat}{l:List Int}{n:Int}(h:jN s k=some l)(hn:vp (s.extract (4*k) (4*k+4))=some n):jN s (k+1)=some (l++[n]):=by simp only [jN,h,hn]
theorem yc {s:ByteArray}:∀ {m k:Nat},k<=m->jN s k=none->jN s m=none
 | 0,k,hk,h=>by
  have:k=0:=by omega
  subst this;exact h
 | m+1,k,hk,h=>by
  rcases Nat.lt_or_ge k (m+1) with h1|h1
  .simp only [jN,yc (m:=m) (by omega) h]
  .
   have:k=m+1:=by omega
   subst this;exact h
theorem Ig {s:ByteArray}{k m:Nat}{l:List Int}(hk:k<m)(h:jN s k=some l)(hn:vp (s.extract (4*k) (4*k+4))=none):jN s m=none :=
 yc (k:=k+1) (by omega) (by simp only [jN,h,hn])
theorem Ih {s:ByteArray}{m:Nat}{l:List Int}(h:dV s m=some l):l.length=m/\4*m<=s.size:=by
 unfold dV at h;split at h
 .cases h
 .exact ⟨ui h,by omega⟩
def kH:ByteArray:=⟨#[104]⟩
def kT:ByteArray:=⟨#[116]⟩
def kW:ByteArray:=⟨#[119]⟩
def kX:ByteArray:=⟨#[120]⟩
def hrow (h:Held):Change:=⟨kH++gS h.Place.aB++gS h.Place.Slot,bK h.aj,false⟩
def lY (t:aE):Change:=⟨kT++bK t.ID,bK t.Kind++t.Data,false⟩
def og (w:aj):Change:=⟨kW++bK w.ID,bK w.aE++bK w.Rights++bK w.aQ++bK w.From,false⟩
def Dy (r:aC):Change:=⟨kX,bK r.ae++bK r.ah,false⟩
def rowsOf (q:aC):List Change:=q.Held.map hrow++q.Things.map lY++q.ak.map og++[Dy q]
def bF (r:aC):List Change:=rowsOf (aZ r)
def M1 (s:ByteArray)(i:Nat):Int:=(bf s i:Int)
def S2 (c:Change):Place:=⟨M1 c.Key 1-48,M1 c.Key 2-48⟩
def Ii (r:aC)(h:Held):aC:=⟨r.ak,r.Things,r.Held++[h],r.Notes,r.ae,r.ah⟩
def Ij (r:aC)(t:aE):aC:=⟨r.ak,r.Things++[t],r.Held,r.Notes,r.ae,r.ah⟩
def Dz (r:aC)(w:aj):aC:=⟨r.ak++[w],r.Things,r.Held,r.Notes,r.ae,r.ah⟩
def M3 (r:aC)(a b:Int):aC:=⟨r.ak,r.Things,r.Held,r.Notes,a,b⟩
def Ik (o:Option (List Int))(j:Nat):Int:=((o.getD [])[j]?).getD 0
def rowP (r:aC)(c:Change):aC×Bool :=
  if c.Key.size=0 then (r,false) else
  let key:=dV (c.Key.extract 1 c.Key.size) 1
  let ok:=key.isSome&&decide (c.Key.size=5)
  let n1:=dV c.Val 1
  let n4:=dV c.Val 4
  let n2:=dV c.Val 2
  if bf c.Key 0=104 then (if n1.isSome=false∨c.Val.size≠4∨c.Key.size≠3 then (r,false) else (Ii r ⟨S2 c,Ik n1 0⟩,decide (aY (S2 c)=0)))
  else if bf c.Key 0=116 then (if ok=false∨n1.isSome=false∨12<c.Val.size then (r,false) else (Ij r ⟨Ik key 0,Ik n1 0,c.Val.extract 4 c.Val.size⟩,decide (Ik n1 0=1∨Ik n1 0=2/\c.Val.size=4)))
  else if bf c.Key 0=119 then (if ok=false∨n4.isSome=false∨c.Val.size≠16 then (r,false) else (Dz r ⟨Ik key 0,Ik n4 0,Ik n4 1,Ik n4 2,Ik n4 3⟩,true))
  else if c.Key≠kX∨n2.isSome=false∨c.Val.size≠8 then (r,false) else (M3 r (Ik n2 0) (Ik n2 1),true)
def sq (pv:Option ByteArray)(c:Change):Bool:=match pv with|some k=>jA k c.Key|none=>true
def pgo:List Change->Option ByteArray->aC->Option aC
  | [],_,r=>some r
  | c::l,pv,r=>if sq pv c && !c.Gone&&(rowP r c).2 then pgo l (some c.Key) (rowP r c).1 else none
structure Whole (r:aC):Prop where
  tree:cR r.ak
  jr:r.Things.length<=10
  oX:1<=r.ae
  qZ:r.ae<=1000
  pA:1<=r.ah
  pB:r.ah<=1000
  hlen:r.Held.length=r.ak.length
  eP:∀h∈r.Held,0<=cG r.ak h.aj
  once:(r.Held.map Held.aj).Nodup
  things:r.Things.map aE.ID=bT r.ak
  Ot:∀w,r.ak.getLast? = some w->w.ID<r.ae
  Ou:∀t,r.Things.getLast? = some t->t.ID<r.ah
noncomputable def dW (r:aC):Bool:= @decide (Whole r) (Classical.propDecidable _)
noncomputable def bX (l:List Change):aC×Int:=match pgo l none r0 with|some r=>if dW r=true then (r,0) else (r0,4)|none=>(r0,4)
theorem yd {r:aC}(h:Whole r):dW r=true:=by unfold dW;simp [h]
theorem gu {r:aC}(h:¬ Whole r):dW r=false:=by unfold dW;simp [h]
end Go.Proofs.YtkbhcbipadkcaaaGreatDoor
