import Derived.Test.YtkbhcbipadkcaaaGreatDoorTO35
import Derived.Lib.Atoi
import Derived.Lib.ItoaNum
import Derived.Lib.Repeat
namespace Go.Proofs.YtkbhcbipadkcaaaGreatDoor
set_option linter.unusedVariables false
set_option linter.unusedSimpArgs false
section
section
variable {r:aC}
theorem Aa (ns:List Note)(n:Note)(q:Int):gh (ns++[n]) q=gh ns q+(if n.Port=q then 1 else 0):=by
 unfold gh;rw [List.filter_append,List.length_append]
 by_cases h:n.Port=q
 .rw [if_pos h];simp [h]
 .rw [if_neg h];simp [h]
theorem GH (ns:List Note)(n:Note)(j:Int):cN (ns++[n]) j=cN ns j+(if n.aj=j then 1 else 0):=by
 unfold cN;rw [List.countP_append,List.countP_cons]
 by_cases h:n.aj=j
 .rw [if_pos (by simpa using h),if_pos h];simp
 .rw [if_neg (by simpa using h),if_neg h];simp
theorem rk {p:Place}{k q:Int}(h:(cC r p k q).2.2=0):(aS r p).2=0/\(cC r p k q).1=(aS r p).1/\ji (aS r p).1.Rights q=true /\ ∃t∈r.Things,t.ID=(aS r p).1.aE/\t.Kind=k:=by
 obtain ⟨h1,h2,h3,i,t,_,ht,e,e2,_⟩:=qX h
 exact ⟨h1,h2,h3,t,List.mem_of_getElem? ht,e,e2⟩
theorem yd {p:Place}{d:ByteArray}{s a:Int}(h:(dO r p d s a).2=0):(cC r p 2 2).2.2=0/\d.size<=8/\gh r.Notes (aS r p).1.aE≠3 /\
 (s<0/\(dO r p d s a).1=⟨r.ak,r.Things,r.Held,r.Notes++[⟨(aS r p).1.aE,d,(aS r p).1.aQ,0⟩],r.ae,r.ah⟩ ∨
  0<=s/\ji (aS r p).1.Rights 4=true/\(aS r ⟨p.aB,s⟩).2=0/\r.ae<=999/\(derived (aS r ⟨p.aB,s⟩).1 r.ae a 0).2=0 /\
  (dO r p d s a).1=⟨r.ak++[(derived (aS r ⟨p.aB,s⟩).1 r.ae a 0).1],r.Things,r.Held,r.Notes++[⟨(aS r p).1.aE,d,(aS r p).1.aQ,(derived (aS r ⟨p.aB,s⟩).1 r.ae a 0).1.ID⟩],r.ae+1,r.ah⟩):=by
 unfold dO at h ⊢
 by_cases h1:(cC r p 2 2).2.2=0
 .
  have he:=(rk h1).2.1
  rw [if_pos h1] at h ⊢
  by_cases h2:8<d.size
  .rw [if_pos h2] at h;simp at h
  .
   rw [if_neg h2] at h ⊢
   by_cases h3:gh r.Notes (cC r p 2 2).1.aE=3
   .rw [if_pos h3] at h;simp at h
   .
    rw [if_neg h3] at h ⊢
    rw [he] at h3
    by_cases h4:s<0
    .rw [if_pos h4,he];exact ⟨h1,by omega,h3,.inl ⟨h4,rfl⟩⟩
    .
     rw [if_neg h4] at h ⊢
     by_cases h5:ji (cC r p 2 2).1.Rights 4=true
     .
      rw [if_pos h5] at h ⊢
      by_cases h6:(aS r ⟨p.aB,s⟩).2=0
      .
       rw [if_pos h6] at h ⊢
       by_cases h7:999<r.ae
       .rw [if_pos h7] at h;simp at h
       .
        rw [if_neg h7] at h ⊢
        by_cases h8:(derived (aS r ⟨p.aB,s⟩).1 r.ae a 0).2=0
        .
         rw [if_pos h8,he];rw [he] at h5
         exact ⟨h1,by omega,h3,.inr ⟨by omega,h5,h6,by omega,h8,rfl⟩⟩
        .rw [if_neg h8] at h;exact absurd h h8
      .rw [if_neg h6] at h;exact absurd h h6
     .rw [if_neg h5] at h;simp at h
 .rw [if_neg h1] at h;exact absurd h h1
theorem Inv.send (h:Inv r){p:Place}{d:ByteArray}{s a:Int}(hm:(dO r p d s a).2=0):Inv (dO r p d s a).1:=by
 obtain ⟨hy,hd,h3,hc⟩:=yd hm
 obtain ⟨hg,_,_,t,ht,hti,htk⟩:=rk hy
 obtain ⟨_,hgm,_⟩:=h.get hg
 have hw:=h.tree.mem hgm
 have Oz:∀q,gh r.Notes q+(if (aS r p).1.aE=q then 1 else 0)<=3:=fun q=>by
  have:=h.wait q
  split
  .rename_i e;rw [e] at h3;omega
  .omega
 have zX:∀ (k:Int) (n:Note),n∈r.Notes++[⟨(aS r p).1.aE,d,(aS r p).1.aQ,k⟩] -> ∃t∈r.Things,t.ID=n.Port/\t.Kind=2:=fun k n hn=>by
  rcases List.mem_append.1 hn with hn|hn
  .exact h.port n hn
  .rw [List.mem_singleton.1 hn];exact ⟨t,ht,hti,htk⟩
 have hnd:∀ (k:Int) (n:Note),n∈r.Notes++[⟨(aS r p).1.aE,d,(aS r p).1.aQ,k⟩]->n.Data.size<=8/\0<=n.aQ/\n.aQ<=99:=fun k n hn=>by
  rcases List.mem_append.1 hn with hn|hn
  .exact h.kE n hn
  .rw [List.mem_singleton.1 hn];exact ⟨hd,hw.Qo,hw.Qp⟩
 rcases hc with ⟨h4,he⟩ | ⟨h4,h5,h6,h7,h8,he⟩
 .
  rw [he]
  refine { tree:=h.tree,good:=h.good,su:=h.su,oY:=h.oY,rj:=h.rj,pC:=h.pC,pD:=h.pD,jq:=h.jq,vH:=h.vH,jB:=h.jB,jC:=h.jC,jr:=h.jr,thing:=h.thing,port:=zX 0,kE:=hnd 0,wait:=fun q=>?_,jD:=?_,once:=?_,iy:=?_,eQ:=h.eQ,used:=h.used }
  .show gh (r.Notes++[_]) q<=3;rw [Aa];exact Oz q
  .
   intro n hn
   rcases List.mem_append.1 hn with hn|hn
   .exact h.jD n hn
   .rw [List.mem_singleton.1 hn];exact Int.le_refl 0
  .
   intro w hw
   show cH r.Held w.ID+cN (r.Notes++[_]) w.ID=1
   have:=h.once w hw;have:=(h.tree.mem hw).id1
   rw [GH,if_neg (by dsimp only;omega)];omega
  .
   intro n hn h0
   rcases List.mem_append.1 hn with hn|hn
   .exact h.iy n hn h0
   .rw [List.mem_singleton.1 hn] at h0;exact absurd h0 (by dsimp only;omega)
 .
  obtain ⟨_,S8,_⟩:=h.get h6
  obtain ⟨GF,hid,hth,_⟩:=h.derive S8 h7 h8
  rw [he]
  generalize hx:(derived (aS r ⟨p.aB,s⟩).1 r.ae a 0).1=x at *
  have n1:=h.oY;have hfr:=h.fresh
  refine { tree:=GF,good:=h.good,su:=?_,oY:=by show 1<=r.ae+1;omega,rj:=by show r.ae+1<=1000;omega,pC:=h.pC,pD:=h.pD,jq:=h.jq,vH:=h.vH,jB:=h.jB,jC:=h.jC,jr:=h.jr,thing:=?_,port:=zX x.ID,kE:=hnd x.ID,wait:=fun q=>?_,jD:=?_,once:=?_,iy:=?_,eQ:=?_,used:=?_ }
  .
   intro w hw
   show w.ID<r.ae+1
   rcases List.mem_append.1 hw with hw|hw
   .have:=h.su w hw;omega
   .rw [List.mem_singleton.1 hw,hid];omega
  .
   intro w hw
   rcases List.mem_append.1 hw with hw|hw
   .exact h.thing w hw
   .rw [List.mem_singleton.1 hw,hth];exact h.thing _ S8
  .show gh (r.Notes++[_]) q<=3;rw [Aa];exact Oz q
  .
   intro n hn
   rcases List.mem_append.1 hn with hn|hn
   .exact h.jD n hn
   .rw [List.mem_singleton.1 hn];show 0<=x.ID;omega
  .
   intro w hw
   show cH r.Held w.ID+cN (r.Notes++[_]) w.ID=1
   rw [GH];dsimp only
   rcases List.mem_append.1 hw with hw|hw
   .
    have:=h.su w hw;have:=h.once w hw
    rw [if_neg (by omega)];omega
   .rw [List.mem_singleton.1 hw,if_pos rfl,hid];omega
  .
   intro n hn h0
   rcases List.mem_append.1 hn with hn|hn
   .
    obtain ⟨w,hw,e⟩:=h.iy n hn h0
    exact ⟨w,List.mem_append.2 (.inl hw),e⟩
   .rw [List.mem_singleton.1 hn];exact ⟨x,List.mem_append.2 (.inr (List.mem_singleton.2 rfl)),rfl⟩
  .
   intro y hy
   obtain ⟨w,hw,e⟩:=h.eQ y hy
   exact ⟨w,List.mem_append.2 (.inl hw),e⟩
  .
   intro t ht
   obtain ⟨w,hw,e⟩:=h.used t ht
   exact ⟨w,List.mem_append.2 (.inl hw),e⟩
theorem ye {p:Place}(h:(eC r p).2.2.2=0):(cC r p 2 1).2.2=0 /\ ∃ (i:Nat) (n:Note),r.Notes[i]? = some n/\n.Port=(aS r p).1.aE/\(∀ (j:Nat) y,j<i->r.Notes[j]? = some y->¬ y.Port=(aS r p).1.aE)/\(eC r p).2.1=n /\
 (0<n.aj/\0<=je r.Held p.aB/\(eC r p).2.2.1=je r.Held p.aB/\(eC r p).1=⟨r.ak,r.Things,fP r.Held ⟨p.aB,je r.Held p.aB⟩ n.aj,ug r.Notes i,r.ae,r.ah⟩ ∨
  n.aj<=0/\(eC r p).2.2.1 = -1/\(eC r p).1=⟨r.ak,r.Things,r.Held,ug r.Notes i,r.ae,r.ah⟩):=by
 unfold eC at h ⊢
 by_cases h1:(cC r p 2 1).2.2=0
 .
  have he:=(rk h1).2.1
  rw [if_pos h1] at h ⊢
  rw [he] at h ⊢
  rcases j5 (fun n:Note=>n.Port==(aS r p).1.aE) r.Notes with ⟨hf,hn⟩ | ⟨i,n,hf,hn,hp,hb,_⟩
  .
   rw [hf,show decide ((0:Int) <= -1)=false from rfl] at h
   cases hq:r.Notes[(-1:Int).toNat]? <;> rw [hq] at h <;> simp at h
  .
   have hn':r.Notes[i]? = some n:=hn
   have hfi:idxOf (fun n:Note=>n.Port==(aS r p).1.aE) r.Notes=(i:Int):=hf
   rw [hfi,Int.toNat_natCast,hn',decide_eq_true (by omega)] at h ⊢
   dsimp only at h ⊢
   refine ⟨h1,i,n,hn',by simpa using hp,fun j y hj hy=>by simpa using hb j y hj hy,?_⟩
   by_cases h2:0<n.aj
   .
    rw [if_pos h2] at h ⊢
    by_cases h3:je r.Held p.aB<0
    .rw [if_pos h3] at h;simp at h
    .rw [if_neg h3];exact ⟨rfl,.inl ⟨h2,by omega,rfl,rfl⟩⟩
   .rw [if_neg h2];exact ⟨rfl,.inr ⟨by omega,rfl,rfl⟩⟩
 .rw [if_neg h1] at h;exact absurd h h1
theorem free_at {l:List Held}{h:Int}(hf:0<=je l h):je l h<=5/\mV l ⟨h,je l h⟩=0:=by
 rcases free_spec l h with ⟨a,_⟩ | ⟨_,b,c,_⟩
 .omega
 .exact ⟨b,c⟩
theorem Fi {p:Place}{k:Int}(h:aY p=0)(h0:0<=k)(h5:k<=5):aY ⟨p.aB,k⟩=0:=by
 have:=cu h
 unfold aY;dsimp only;split <;> first|rfl|omega
theorem Inv.notes (h:Inv r){m:List Held}{ns:List Note}(hg:Good m)(hc:∀w∈r.ak,cH m w.ID+cN ns w.ID=1)(hs:∀x∈m,∃w∈r.ak,w.ID=x.aj)(hn:∀n∈ns,n∈r.Notes)(hw:∀q,gh ns q<=gh r.Notes q):Inv ⟨r.ak,r.Things,m,ns,r.ae,r.ah⟩ :=
 { tree:=h.tree,good:=hg,su:=h.su,oY:=h.oY,rj:=h.rj,pC:=h.pC,pD:=h.pD,jq:=h.jq,vH:=h.vH,jB:=h.jB,jC:=h.jC,jr:=h.jr,thing:=h.thing,port:=fun n k=>h.port n (hn n k),kE:=fun n k=>h.kE n (hn n k),wait:=fun q=>Nat.le_trans (hw q) (h.wait q),jD:=fun n k=>h.jD n (hn n k),once:=hc,iy:=fun n k=>h.iy n (hn n k),eQ:=hs,used:=h.used }
theorem Inv.take (h:Inv r){p:Place}(hm:(eC r p).2.2.2=0):Inv (eC r p).1:=by
 obtain ⟨hy,i,n,hn,hp,hb,_,hc⟩:=ye hm
 obtain ⟨hg,_⟩:=rk hy
 obtain ⟨hpf,_⟩:=h.get hg
 have hcut:=fun j=>QA hn j
 have hsub:∀x∈ug r.Notes i,x∈r.Notes:=fun x hx=>M6 hx
 rcases hc with ⟨h0,hf,_,he⟩ | ⟨h0,_,he⟩
 .
  rw [he]
  obtain ⟨h5,ha⟩:=free_at hf
  have hi:n.aj≠0:=by omega
  have hq:=Fi hpf hf h5
  refine h.notes (mJ h.good hq) (fun w hw=>?_) (fun x hx=>?_) hsub (fun q=>zU q)
  .
   rw [BO h.good ha hi]
   have h1:=h.once w hw;have h2:=hcut w.ID
   omega
  .
   rcases (lD h.good ha hi).1 hx with e|hx
   .rw [e];exact h.iy n (List.mem_of_getElem? hn) h0
   .exact h.eQ x hx
 .
  rw [he]
  refine h.notes h.good (fun w hw=>?_) h.eQ hsub (fun q=>zU q)
  have h1:=h.once w hw;have h2:=hcut w.ID;have h3:=(h.tree.mem hw).id1
  rw [if_neg (by omega)] at h2
  omega
theorem Inv.do (h:Inv r){a:ej}(hm:(cQ r a).2=0):Inv (cQ r a).1:=by
 unfold cQ at hm ⊢
 by_cases h1:a.Kind=(⟨#[109,97,107,101]⟩:ByteArray)
 .rw [if_pos h1] at hm ⊢;exact h.make hm
 .
  rw [if_neg h1] at hm ⊢
  by_cases h2:a.Kind=(⟨#[103,105,118,101]⟩:ByteArray)
  .rw [if_pos h2] at hm ⊢;exact h.give hm
  .
   rw [if_neg h2] at hm ⊢
   by_cases h3:a.Kind=(⟨#[109,111,118,101]⟩:ByteArray)
   .rw [if_pos h3] at hm ⊢;exact h.move hm
   .
    rw [if_neg h3] at hm ⊢
    by_cases h4:a.Kind=(⟨#[100,114,111,112]⟩:ByteArray)
    .rw [if_pos h4] at hm ⊢;exact h.drop hm
    .
     rw [if_neg h4] at hm ⊢
     by_cases h5:a.Kind=(⟨#[114,101,118,111,107,101]⟩:ByteArray)
     .rw [if_pos h5] at hm ⊢;exact h.QB hm
     .
      rw [if_neg h5] at hm ⊢
      by_cases h6:a.Kind=(⟨#[119,114,105,116,101]⟩:ByteArray)
      .rw [if_pos h6] at hm ⊢;exact h.write hm
      .
       rw [if_neg h6] at hm ⊢
       by_cases h7:a.Kind=(⟨#[115,101,110,100]⟩:ByteArray)
       .rw [if_pos h7] at hm ⊢;exact h.send hm
       .
        rw [if_neg h7] at hm ⊢
        by_cases h8:a.Kind=(⟨#[116,97,107,101]⟩:ByteArray)
        .rw [if_pos h8] at hm ⊢;exact h.take hm
        .rw [if_neg h8];exact h
theorem tE (h:Inv r):r.Held.length<=24:=K1 h.good
end
end
section
section
variable {r:aC}
end
end
section
section
variable {r:aC}
theorem Ab {ws:List aj}{ts:List Int}:∀ {ns:List Note},(∀n∈ns,n.Port∈ts/\jE ws n=n)->ig ws ts ns=ns
 | [],_=>rfl
 | n::ns,h=>by
  obtain ⟨h1,h2⟩:=h n (List.mem_cons_self ..)
  rw [uj,if_pos h1,h2,Ab (fun m hm=>h m (List.mem_cons_of_mem _ hm))]
theorem Ii {ws:List aj}{ts:List Int}{ns:List Note}(h:∀n∈ns,n.Port∈ts):kI ws ts ns=[]:=by
 refine List.eq_nil_iff_forall_not_mem.2 fun j hj=>?_
 obtain ⟨m,hm,_,hp,_⟩:=Dz.1 hj
 exact hp (h m hm)
theorem Inv.GI (h:Inv r):∀n∈r.Notes,n.Port∈bU r.ak:=fun n hn=>by
 obtain ⟨t,ht,e,_⟩:=h.port n hn
 obtain ⟨w,hw,e2⟩:=h.used t ht
 exact (k9 h.tree).2 ⟨w,hw,by rw [e2,e]⟩
theorem Inv.fix (h:Inv r):∀n∈r.Notes,jE r.ak n=n:=fun n hn=>by
 unfold jE;split
 .
  rename_i hf
  have h0:=h.jD n hn
  have:n.aj=0:=by
   by_cases hp:0<n.aj
   .
    obtain ⟨w,hw,e⟩:=h.iy n hn hp
    have:=mb hw;rw [e] at this;omega
   .omega
  cases n;simp only [] at this ⊢;rw [this]
 .rfl
theorem Fj (h:Inv r)(T:List aE)(H:List Held)(hT:∀t∈T,∀w∈r.ak,w.aE≠t.ID)(hH:H.filter (fun h => !decide (cG r.ak h.aj<0))=r.Held)(a b:Int):dS ⟨r.ak,r.Things++T,H,r.Notes,a,b⟩=⟨r.ak,r.Things,r.Held,r.Notes,a,b⟩:=by
 have hl:pw ⟨r.ak,r.Things++T,H,r.Notes,a,b⟩=[]:=Ii h.GI
 rw [qp (by rw [hl];rfl)]
 unfold fJ
 dsimp only
 have h1:(r.Things++T).filter (fun t => !!decide (t.ID∈bU r.ak))=r.Things:=by
  have k1:r.Things.filter (fun t => !!decide (t.ID∈bU r.ak))=r.Things:=List.filter_eq_self.2 fun t ht=>by
   obtain ⟨w,hw,e⟩:=h.used t ht
   simp only [Bool.not_not,decide_eq_true_eq]
   exact (k9 h.tree).2 ⟨w,hw,e⟩
  have k2:T.filter (fun t => !!decide (t.ID∈bU r.ak))=[]:=List.filter_eq_nil_iff.2 fun t ht=>by
   simp only [Bool.not_not,decide_eq_true_eq]
   intro hm
   obtain ⟨w,hw,e⟩:=(k9 h.tree).1 hm
   exact hT t ht w hw e
  rw [List.filter_append,k1,k2,List.append_nil]
 rw [h1,hH,Ab (fun n hn=>⟨h.GI n hn,h.fix n hn⟩)]
theorem Inv.Ij (h:Inv r){H:List Held}(hs:∀x∈H,x∈r.Held):H.filter (fun h => !decide (cG r.ak h.aj<0))=H :=
 List.filter_eq_self.2 fun x hx=>by
  have:=kZ.2 (h.eQ x (hs x hx))
  simp only [Bool.not_eq_true',decide_eq_false_iff_not];omega
theorem yg (h:Inv r):dS r=r:=by
 have:=Fj h [] r.Held (fun t ht=>by cases ht) (h.Ij (fun x hx=>hx)) r.ae r.ah
 rw [List.append_nil] at this
 exact this
theorem QC {l:List Held}{x y:Held}(hx:x∈l)(hy:y∈l)(e:x.aj=y.aj)(h:cH l x.aj<=1):x=y:=by
 obtain ⟨A,B,rfl⟩:=List.append_of_mem hx
 unfold cH at h
 rw [List.countP_append,List.countP_cons,if_pos (by simp)] at h
 have key:∀ (C:List Held),y∈C->0<C.countP (fun h=>h.aj==x.aj):=fun C hC=>List.countP_pos_iff.2 ⟨y,hC,by simp [e]⟩
 rcases List.mem_append.1 hy with hy|hy
 .have:=key A hy;omega
 .
  rcases List.mem_cons.1 hy with hy|hy
  .exact hy.symm
  .have:=key B hy;omega
theorem Inv.one (h:Inv r){x y:Held}(hx:x∈r.Held)(hy:y∈r.Held)(e:x.aj=y.aj):x=y:=by
 obtain ⟨w,hw,e2⟩:=h.eQ x hx
 have:=h.once w hw
 exact QC hx hy e (by rw [<- e2];omega)
end
end
section
section
variable {r:aC}
theorem uY:∀ (ns:List Note) (l:List aj),cR l->cR (hZ ns l)
 | [],l,h=>h
 | n::ns,l,h=>by
  show cR (hZ ns (if 0<n.aj then without l n.aj else l))
  refine uY ns _ ?_
  split
  .exact h.wo _
  .exact h
theorem yh:∀ (ns:List Note) (l:List aj) (w:aj),w∈hZ ns l->(∃y∈l,Like w y) /\ ∀n∈ns,0<n.aj->w.ID≠n.aj
 | [],l,w,h=>⟨⟨w,h,Like.refl w⟩,fun n hn=>by cases hn⟩
 | n::ns,l,w,h=>by
  obtain ⟨⟨y,hy,hl⟩,hn⟩:=yh ns (if 0<n.aj then without l n.aj else l) w h
  by_cases h0:0<n.aj
  .
   rw [if_pos h0] at hy
   obtain ⟨z,hz,hne,rfl⟩:=gK.1 hy
   refine ⟨⟨z,hz,hl.trans (vI _ _ z)⟩,fun m hm hm0=>?_⟩
   rcases List.mem_cons.1 hm with e|hm
   .rw [e,hl.id,(kB z).1];exact hne
   .exact hn m hm hm0
  .
   rw [if_neg h0] at hy
   refine ⟨⟨y,hy,hl⟩,fun m hm hm0=>?_⟩
   rcases List.mem_cons.1 hm with e|hm
   .rw [e] at hm0;exact absurd hm0 h0
   .exact hn m hm hm0
theorem sy:∀ (ns:List Note) (l:List aj) (y:aj),y∈l->(∀n∈ns,0<n.aj->y.ID≠n.aj) -> ∃w∈hZ ns l,Like w y
 | [],l,y,h,_=>⟨y,h,Like.refl y⟩
 | n::ns,l,y,h,hn=>by
  by_cases h0:0<n.aj
  .
   obtain ⟨w,hw,k⟩:=sy ns (without l n.aj) (mN n.aj (eP l n.aj) y) (gK.2 ⟨y,h,hn n (List.mem_cons_self ..) h0,rfl⟩) (fun m hm hm0=>by rw [(kB y).1];exact hn m (List.mem_cons_of_mem _ hm) hm0)
   refine ⟨w,?_,k.trans (vI _ _ y)⟩
   show w∈hZ ns (if 0<n.aj then without l n.aj else l)
   rw [if_pos h0];exact hw
  .
   obtain ⟨w,hw,k⟩:=sy ns l y h (fun m hm hm0=>hn m (List.mem_cons_of_mem _ hm) hm0)
   refine ⟨w,?_,k⟩
   show w∈hZ ns (if 0<n.aj then without l n.aj else l)
   rw [if_neg h0];exact hw
theorem Lc {ns:List Note}{j:Int}(h:cN ns j=0):∀n∈ns,0<n.aj->j≠n.aj:=fun n hn _ e=>by
 have:=Qz hn;rw [<- e] at this;omega
theorem Inv.Ik (h:Inv r):Pre ⟨hZ r.Notes r.ak,r.Things,r.Held,[],r.ae,r.ah⟩:=by
 have hs:=fun w hw=>yh r.Notes r.ak w hw
 refine { tree:=uY _ _ h.tree,good:=h.good,su:=?_,oY:=h.oY,rj:=h.rj,pC:=h.pC,pD:=h.pD,jq:=h.jq,vH:=h.vH,jB:=h.jB,jC:=h.jC,jr:=h.jr,thing:=?_,port:=fun n hn=>(by cases hn),kE:=fun n hn=>(by cases hn),wait:=fun q=>by simp [gh],jD:=fun n hn=>(by cases hn),once:=?_ }
 .intro w hw;obtain ⟨⟨y,hy,k⟩,_⟩:=hs w hw;rw [k.id];exact h.su y hy
 .intro w hw;obtain ⟨⟨y,hy,k⟩,_⟩:=hs w hw;rw [k.th];exact h.thing y hy
 .
  intro w hw
  obtain ⟨⟨y,hy,k⟩,hn⟩:=hs w hw
  have h1:=h.once y hy
  have h2:cN r.Notes w.ID=0:=List.countP_eq_zero.2 fun n hnn e=>by
   have e:n.aj=w.ID:=by simpa using e
   have:=(h.tree.mem hy).id1
   exact hn n hnn (by rw [e,k.id];omega) e.symm
  show cH r.Held w.ID+cN [] w.ID=1
  rw [<- k.id] at h1;simp only [cN,List.countP_nil] at h2 ⊢;unfold cN at h1;omega
theorem um:∀ (a b:List Int),a.Nodup->(∀x∈a,x∈b)->a.length<=b.length
 | [],b,_,_=>Nat.zero_le _
 | x::a,b,hn,hs=>by
  obtain ⟨h1,h2⟩:=List.nodup_cons.1 hn
  obtain ⟨A,B,rfl⟩:=List.append_of_mem (hs x (List.mem_cons_self ..))
  have:=um a (A++B) h2 fun y hy=>by
   have h3:=hs y (List.mem_cons_of_mem _ hy)
   rcases List.mem_append.1 h3 with h3|h3
   .exact List.mem_append.2 (.inl h3)
   .
    rcases List.mem_cons.1 h3 with e|h3
    .exact absurd (e▸hy) h1
    .exact List.mem_append.2 (.inr h3)
  simp only [List.length_cons,List.length_append] at this ⊢;omega
theorem Ld (h:Inv r)(hn:r.Notes=[]):r.Held.length=r.ak.length:=by
 have h1:(r.ak.map aj.ID).Nodup:=List.Pairwise.imp (fun h=>Int.ne_of_lt h) (List.pairwise_map.2 h.tree.is.rise)
 have h2:(r.Held.map Held.aj).Nodup:=by
  refine List.pairwise_iff_getElem.2 fun i j hi hj hij e=>?_
  rw [List.length_map] at hi hj
  rw [List.getElem_map,List.getElem_map] at e
  have:=h.one (List.getElem_mem hi) (List.getElem_mem hj) e
  have h3:=List.pairwise_iff_getElem.1 (jP h.good) i j hi hj hij
  rw [this] at h3
  exact tu h3
 have a:=um (r.Held.map Held.aj) (r.ak.map aj.ID) h2 fun x hx=>by
  obtain ⟨y,hy,rfl⟩:=List.mem_map.1 hx
  obtain ⟨w,hw,e⟩:=h.eQ y hy
  exact List.mem_map.2 ⟨w,hw,e⟩
 have b:=um (r.ak.map aj.ID) (r.Held.map Held.aj) h1 fun x hx=>by
  obtain ⟨w,hw,rfl⟩:=List.mem_map.1 hx
  have h3:=h.once w hw
  rw [hn] at h3;simp only [cN,List.countP_nil] at h3
  obtain ⟨y,hy,e⟩:=List.countP_pos_iff.1 (show 0<cH r.Held w.ID by omega)
  exact List.mem_map.2 ⟨y,hy,by simpa using e⟩
 simp only [List.length_map] at a b;omega
theorem jz (h:Inv r):Inv (aZ r)/\(aZ r).Notes=[]/\(aZ r).Held=r.Held/\(aZ r).Held.length=(aZ r).ak.length/\aZ (aZ r)=aZ r:=by
 have hp:=h.Ik
 have hi:Inv (aZ r):=uk hp
 have hl:pw ⟨hZ r.Notes r.ak,r.Things,r.Held,[],r.ae,r.ah⟩=[]:=rfl
 have hd:aZ r=fJ ⟨hZ r.Notes r.ak,r.Things,r.Held,[],r.ae,r.ah⟩:=qp (by rw [hl];rfl)
 have hn:(aZ r).Notes=[]:=by rw [hd];rfl
 refine ⟨hi,hn,?_,Ld hi hn,?_⟩
 .
  rw [hd]
  show r.Held.filter _=r.Held
  refine List.filter_eq_self.2 fun x hx=>?_
  obtain ⟨w,hw,e⟩:=h.eQ x hx
  have h1:=h.once w hw;have h2:=Qy hx;rw [<- e] at h2
  obtain ⟨v,hv,k⟩:=sy r.Notes r.ak w hw (Lc (by omega))
  have h3:0<=cG (hZ r.Notes r.ak) x.aj:=kZ.2 ⟨v,hv,by rw [k.id,e]⟩
  simp only [Bool.not_eq_true',decide_eq_false_iff_not];omega
 .
  have hs:=yg hi
  generalize aZ r=x at hn hs
  cases x with
  | mk W T H N a b =>
   have hn':N=[]:=hn
   subst hn'
   exact hs
theorem DF {k:Nat}(h:Sz k r):Sz k (aZ r) :=
 oW _ _ ⟨Nat.le_trans (xQ _ _) h.wl,h.tl,h.hl,Nat.zero_le _,zS _ _ h.ri,h.w0,h.w1,h.t0,h.t1⟩
end
end
def gS (n:Int):ByteArray:=⟨(Lib.itoa n).toArray⟩
def bM (n:Int):ByteArray:=⟨(Lib.repeatL [48] (4-(gS n).size)).toArray⟩++gS n
def vx (s:ByteArray):Option Int:=match Lib.atoi s.data.toList with|some n=>if bM n=s then some n else none|none=>none
def jN (s:ByteArray):Nat->Option (List Int)
  | 0=>some []
  | k+1=>match jN s k with
    | some l=>match vx (s.extract (4*k) (4*k+4)) with|some n=>some (l++[n])|none=>none
    | none=>none
def dW (s:ByteArray)(m:Nat):Option (List Int):=if s.size<4*m then none else jN s m
theorem uo {s:ByteArray}:∀ {k:Nat} {l:List Int},jN s k=some l->l.length=k
 | 0,l,h=>by simp [jN] at h;subst h;rfl
 | k+1,l,h=>by
  simp only [jN] at h
  split at h
  .
   rename_i l' h'
   split at h
   .injection h with h;subst h;simp [uo h']
   .cases h
  .cases h
theorem Fo {s:ByteArray}{k:Nat}{l:List Int}{n:Int}(h:jN s k=some l)(hn:vx (s.extract (4*k) (4*k+4))=some n):jN s (k+1)=some (l++[n]):=by simp only [jN,h,hn]
theorem yi {s:ByteArray}:∀ {m k:Nat},k<=m->jN s k=none->jN s m=none
 | 0,k,hk,h=>by
  have:k=0:=by omega
  subst this;exact h
 | m+1,k,hk,h=>by
  rcases Nat.lt_or_ge k (m+1) with h1|h1
  .simp only [jN,yi (m:=m) (by omega) h]
  .
   have:k=m+1:=by omega
   subst this;exact h
theorem Il {s:ByteArray}{k m:Nat}{l:List Int}(hk:k<m)(h:jN s k=some l)(hn:vx (s.extract (4*k) (4*k+4))=none):jN s m=none :=
 yi (k:=k+1) (by omega) (by simp only [jN,h,hn])
theorem Im {s:ByteArray}{m:Nat}{l:List Int}(h:dW s m=some l):l.length=m/\4*m<=s.size:=by
 unfold dW at h;split at h
 .cases h
 .exact ⟨uo h,by omega⟩
def kH:ByteArray:=⟨#[104]⟩
def kT:ByteArray:=⟨#[116]⟩
def kW:ByteArray:=⟨#[119]⟩
def kX:ByteArray:=⟨#[120]⟩
def hrow (h:Held):Change:=⟨kH++gS h.Place.aB++gS h.Place.Slot,bM h.aj,false⟩
def lY (t:aE):Change:=⟨kT++bM t.ID,bM t.Kind++t.Data,false⟩
def om (w:aj):Change:=⟨kW++bM w.ID,bM w.aE++bM w.Rights++bM w.aQ++bM w.From,false⟩
def DG (r:aC):Change:=⟨kX,bM r.ae++bM r.ah,false⟩
def rowsOf (q:aC):List Change:=q.Held.map hrow++q.Things.map lY++q.ak.map om++[DG q]
def bH (r:aC):List Change:=rowsOf (aZ r)
def M8 (s:ByteArray)(i:Nat):Int:=(bf s i:Int)
def S9 (c:Change):Place:=⟨M8 c.Key 1-48,M8 c.Key 2-48⟩
def Io (r:aC)(h:Held):aC:=⟨r.ak,r.Things,r.Held++[h],r.Notes,r.ae,r.ah⟩
def Ip (r:aC)(t:aE):aC:=⟨r.ak,r.Things++[t],r.Held,r.Notes,r.ae,r.ah⟩
def DI (r:aC)(w:aj):aC:=⟨r.ak++[w],r.Things,r.Held,r.Notes,r.ae,r.ah⟩
def M9 (r:aC)(a b:Int):aC:=⟨r.ak,r.Things,r.Held,r.Notes,a,b⟩
def Iq (o:Option (List Int))(j:Nat):Int:=((o.getD [])[j]?).getD 0
def rowP (r:aC)(c:Change):aC×Bool :=
  if c.Key.size=0 then (r,false) else
  let key:=dW (c.Key.extract 1 c.Key.size) 1
  let ok:=key.isSome&&decide (c.Key.size=5)
  let n1:=dW c.Val 1
  let n4:=dW c.Val 4
  let n2:=dW c.Val 2
  if bf c.Key 0=104 then (if n1.isSome=false∨c.Val.size≠4∨c.Key.size≠3 then (r,false) else (Io r ⟨S9 c,Iq n1 0⟩,decide (aY (S9 c)=0)))
  else if bf c.Key 0=116 then (if ok=false∨n1.isSome=false∨12<c.Val.size then (r,false) else (Ip r ⟨Iq key 0,Iq n1 0,c.Val.extract 4 c.Val.size⟩,decide (Iq n1 0=1∨Iq n1 0=2/\c.Val.size=4)))
  else if bf c.Key 0=119 then (if ok=false∨n4.isSome=false∨c.Val.size≠16 then (r,false) else (DI r ⟨Iq key 0,Iq n4 0,Iq n4 1,Iq n4 2,Iq n4 3⟩,true))
  else if c.Key≠kX∨n2.isSome=false∨c.Val.size≠8 then (r,false) else (M9 r (Iq n2 0) (Iq n2 1),true)
def sA (pv:Option ByteArray)(c:Change):Bool:=match pv with|some k=>jA k c.Key|none=>true
def pgo:List Change->Option ByteArray->aC->Option aC
  | [],_,r=>some r
  | c::l,pv,r=>if sA pv c && !c.Gone&&(rowP r c).2 then pgo l (some c.Key) (rowP r c).1 else none
structure Whole (r:aC):Prop where
  tree:cR r.ak
  jr:r.Things.length<=10
  oY:1<=r.ae
  rj:r.ae<=1000
  pC:1<=r.ah
  pD:r.ah<=1000
  hlen:r.Held.length=r.ak.length
  eQ:∀h∈r.Held,0<=cG r.ak h.aj
  once:(r.Held.map Held.aj).Nodup
  things:r.Things.map aE.ID=bU r.ak
  OA:∀w,r.ak.getLast? = some w->w.ID<r.ae
  OB:∀t,r.Things.getLast? = some t->t.ID<r.ah
noncomputable def dX (r:aC):Bool:= @decide (Whole r) (Classical.propDecidable _)
noncomputable def bY (l:List Change):aC×Int:=match pgo l none r0 with|some r=>if dX r=true then (r,0) else (r0,4)|none=>(r0,4)
theorem yj {r:aC}(h:Whole r):dX r=true:=by unfold dX;simp [h]
theorem gu {r:aC}(h:¬ Whole r):dX r=false:=by unfold dX;simp [h]
end Go.Proofs.YtkbhcbipadkcaaaGreatDoor
