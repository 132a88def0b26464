import Derived.Test.YtkbhcbipadkcaaaGreatDoorTO35
import Derived.Lib.Atoi
import Derived.Lib.ItoaNum
import Derived.Lib.Repeat
namespace Go.Proofs.YtkbhcbipadkcaaaGreatDoor
set_option linter.unusedVariables false
set_option linter.unusedSimpArgs false
section
section
variable {r:aD}
theorem Aa (ns:List Note)(n:Note)(q:Int):gi (ns++[n]) q=gi ns q+(if n.Port=q then 1 else 0):=by
 unfold gi;rw [List.filter_append,List.length_append]
 by_cases h:n.Port=q
 .rw [if_pos h];simp [h]
 .rw [if_neg h];simp [h]
theorem GF (ns:List Note)(n:Note)(j:Int):cN (ns++[n]) j=cN ns j+(if n.ap=j then 1 else 0):=by
 unfold cN;rw [List.countP_append,List.countP_cons]
 by_cases h:n.ap=j
 .rw [if_pos (by simpa using h),if_pos h];simp
 .rw [if_neg (by simpa using h),if_neg h];simp
theorem ra {p:Place}{k q:Int}(h:(bR r p k q).2.2=0):(aQ r p).2=0/\(bR r p k q).1=(aQ r p).1/\jh (aQ r p).1.Rights q=true /\ ∃t∈r.Things,t.ID=(aQ r p).1.aE/\t.Kind=k:=by
 obtain ⟨h1,h2,h3,i,t,_,ht,e,e2,_⟩:=qU h
 exact ⟨h1,h2,h3,t,List.mem_of_getElem? ht,e,e2⟩
theorem yc {p:Place}{d:ByteArray}{s a:Int}(h:(dO r p d s a).2=0):(bR r p 2 2).2.2=0/\d.size<=8/\gi r.Notes (aQ r p).1.aE≠3 /\
 (s<0/\(dO r p d s a).1=⟨r.aj,r.Things,r.Held,r.Notes++[⟨(aQ r p).1.aE,d,(aQ r p).1.aN,0⟩],r.ae,r.ah⟩ \/
  0<=s/\jh (aQ r p).1.Rights 4=true/\(aQ r ⟨p.az,s⟩).2=0/\r.ae<=999/\(derived (aQ r ⟨p.az,s⟩).1 r.ae a 0).2=0 /\
  (dO r p d s a).1=⟨r.aj++[(derived (aQ r ⟨p.az,s⟩).1 r.ae a 0).1],r.Things,r.Held,r.Notes++[⟨(aQ r p).1.aE,d,(aQ r p).1.aN,(derived (aQ r ⟨p.az,s⟩).1 r.ae a 0).1.ID⟩],r.ae+1,r.ah⟩):=by
 unfold dO at h ⊢
 by_cases h1:(bR r p 2 2).2.2=0
 .
  have he:=(ra h1).2.1
  rw [if_pos h1] at h ⊢
  by_cases h2:8<d.size
  .rw [if_pos h2] at h;simp at h
  .
   rw [if_neg h2] at h ⊢
   by_cases h3:gi r.Notes (bR r p 2 2).1.aE=3
   .rw [if_pos h3] at h;simp at h
   .
    rw [if_neg h3] at h ⊢
    rw [he] at h3
    by_cases h4:s<0
    .rw [if_pos h4,he];exact ⟨h1,by omega,h3,.inl ⟨h4,rfl⟩⟩
    .
     rw [if_neg h4] at h ⊢
     by_cases h5:jh (bR r p 2 2).1.Rights 4=true
     .
      rw [if_pos h5] at h ⊢
      by_cases h6:(aQ r ⟨p.az,s⟩).2=0
      .
       rw [if_pos h6] at h ⊢
       by_cases h7:999<r.ae
       .rw [if_pos h7] at h;simp at h
       .
        rw [if_neg h7] at h ⊢
        by_cases h8:(derived (aQ r ⟨p.az,s⟩).1 r.ae a 0).2=0
        .
         rw [if_pos h8,he];rw [he] at h5
         exact ⟨h1,by omega,h3,.inr ⟨by omega,h5,h6,by omega,h8,rfl⟩⟩
        .rw [if_neg h8] at h;exact absurd h h8
      .rw [if_neg h6] at h;exact absurd h h6
     .rw [if_neg h5] at h;simp at h
 .rw [if_neg h1] at h;exact absurd h h1
theorem Inv.send (h:Inv r){p:Place}{d:ByteArray}{s a:Int}(hm:(dO r p d s a).2=0):Inv (dO r p d s a).1:=by
 obtain ⟨hy,hd,h3,hc⟩:=yc hm
 obtain ⟨hg,_,_,t,ht,hti,htk⟩:=ra hy
 obtain ⟨_,hgm,_⟩:=h.get hg
 have hw:=h.tree.mem hgm
 have Ou:∀q,gi r.Notes q+(if (aQ r p).1.aE=q then 1 else 0)<=3:=fun q=>by
  have:=h.wait q
  split
  .rename_i e;rw [e] at h3;omega
  .omega
 have zX:∀ (k:Int) (n:Note),n∈r.Notes++[⟨(aQ r p).1.aE,d,(aQ r p).1.aN,k⟩] -> ∃t∈r.Things,t.ID=n.Port/\t.Kind=2:=fun k n hn=>by
  rcases List.mem_append.1 hn with hn|hn
  .exact h.port n hn
  .rw [List.mem_singleton.1 hn];exact ⟨t,ht,hti,htk⟩
 have hnd:∀ (k:Int) (n:Note),n∈r.Notes++[⟨(aQ r p).1.aE,d,(aQ r p).1.aN,k⟩]->n.Data.size<=8/\0<=n.aN/\n.aN<=99:=fun k n hn=>by
  rcases List.mem_append.1 hn with hn|hn
  .exact h.kC n hn
  .rw [List.mem_singleton.1 hn];exact ⟨hd,hw.Qi,hw.Qj⟩
 rcases hc with ⟨h4,he⟩ | ⟨h4,h5,h6,h7,h8,he⟩
 .
  rw [he]
  refine { tree:=h.tree,good:=h.good,sq:=h.sq,oV:=h.oV,qZ:=h.qZ,pz:=h.pz,pA:=h.pA,jo:=h.jo,vC:=h.vC,jA:=h.jA,jB:=h.jB,jq:=h.jq,thing:=h.thing,port:=zX 0,kC:=hnd 0,wait:=fun q=>?_,jC:=?_,once:=?_,iw:=?_,eQ:=h.eQ,used:=h.used }
  .show gi (r.Notes++[_]) q<=3;rw [Aa];exact Ou q
  .
   intro n hn
   rcases List.mem_append.1 hn with hn|hn
   .exact h.jC n hn
   .rw [List.mem_singleton.1 hn];exact Int.le_refl 0
  .
   intro w hw
   show cH r.Held w.ID+cN (r.Notes++[_]) w.ID=1
   have:=h.once w hw;have:=(h.tree.mem hw).id1
   rw [GF,if_neg (by dsimp only;omega)];omega
  .
   intro n hn h0
   rcases List.mem_append.1 hn with hn|hn
   .exact h.iw n hn h0
   .rw [List.mem_singleton.1 hn] at h0;exact absurd h0 (by dsimp only;omega)
 .
  obtain ⟨_,S2,_⟩:=h.get h6
  obtain ⟨GB,hid,hth,_⟩:=h.derive S2 h7 h8
  rw [he]
  generalize hx:(derived (aQ r ⟨p.az,s⟩).1 r.ae a 0).1=x at *
  have n1:=h.oV;have hfr:=h.fresh
  refine { tree:=GB,good:=h.good,sq:=?_,oV:=by show 1<=r.ae+1;omega,qZ:=by show r.ae+1<=1000;omega,pz:=h.pz,pA:=h.pA,jo:=h.jo,vC:=h.vC,jA:=h.jA,jB:=h.jB,jq:=h.jq,thing:=?_,port:=zX x.ID,kC:=hnd x.ID,wait:=fun q=>?_,jC:=?_,once:=?_,iw:=?_,eQ:=?_,used:=?_ }
  .
   intro w hw
   show w.ID<r.ae+1
   rcases List.mem_append.1 hw with hw|hw
   .have:=h.sq w hw;omega
   .rw [List.mem_singleton.1 hw,hid];omega
  .
   intro w hw
   rcases List.mem_append.1 hw with hw|hw
   .exact h.thing w hw
   .rw [List.mem_singleton.1 hw,hth];exact h.thing _ S2
  .show gi (r.Notes++[_]) q<=3;rw [Aa];exact Ou q
  .
   intro n hn
   rcases List.mem_append.1 hn with hn|hn
   .exact h.jC n hn
   .rw [List.mem_singleton.1 hn];show 0<=x.ID;omega
  .
   intro w hw
   show cH r.Held w.ID+cN (r.Notes++[_]) w.ID=1
   rw [GF];dsimp only
   rcases List.mem_append.1 hw with hw|hw
   .
    have:=h.sq w hw;have:=h.once w hw
    rw [if_neg (by omega)];omega
   .rw [List.mem_singleton.1 hw,if_pos rfl,hid];omega
  .
   intro n hn h0
   rcases List.mem_append.1 hn with hn|hn
   .
    obtain ⟨w,hw,e⟩:=h.iw n hn h0
    exact ⟨w,List.mem_append.2 (.inl hw),e⟩
   .rw [List.mem_singleton.1 hn];exact ⟨x,List.mem_append.2 (.inr (List.mem_singleton.2 rfl)),rfl⟩
  .
   intro y hy
   obtain ⟨w,hw,e⟩:=h.eQ y hy
   exact ⟨w,List.mem_append.2 (.inl hw),e⟩
  .
   intro t ht
   obtain ⟨w,hw,e⟩:=h.used t ht
   exact ⟨w,List.mem_append.2 (.inl hw),e⟩
theorem yd {p:Place}(h:(eC r p).2.2.2=0):(bR r p 2 1).2.2=0 /\ ∃ (i:Nat) (n:Note),r.Notes[i]? = some n/\n.Port=(aQ r p).1.aE/\(∀ (j:Nat) y,j<i->r.Notes[j]? = some y->¬ y.Port=(aQ r p).1.aE)/\(eC r p).2.1=n /\
 (0<n.ap/\0<=iO r.Held p.az/\(eC r p).2.2.1=iO r.Held p.az/\(eC r p).1=⟨r.aj,r.Things,fL r.Held ⟨p.az,iO r.Held p.az⟩ n.ap,ud r.Notes i,r.ae,r.ah⟩ \/
  n.ap<=0/\(eC r p).2.2.1 = -1/\(eC r p).1=⟨r.aj,r.Things,r.Held,ud r.Notes i,r.ae,r.ah⟩):=by
 unfold eC at h ⊢
 by_cases h1:(bR r p 2 1).2.2=0
 .
  have he:=(ra h1).2.1
  rw [if_pos h1] at h ⊢
  rw [he] at h ⊢
  rcases j3 (fun n:Note=>n.Port==(aQ r p).1.aE) r.Notes with ⟨hf,hn⟩ | ⟨i,n,hf,hn,hp,hb,_⟩
  .
   rw [hf,show decide ((0:Int) <= -1)=false from rfl] at h
   cases hq:r.Notes[(-1:Int).toNat]? <;> rw [hq] at h <;> simp at h
  .
   have hn':r.Notes[i]? = some n:=hn
   have hfi:idxOf (fun n:Note=>n.Port==(aQ r p).1.aE) r.Notes=(i:Int):=hf
   rw [hfi,Int.toNat_natCast,hn',decide_eq_true (by omega)] at h ⊢
   dsimp only at h ⊢
   refine ⟨h1,i,n,hn',by simpa using hp,fun j y hj hy=>by simpa using hb j y hj hy,?_⟩
   by_cases h2:0<n.ap
   .
    rw [if_pos h2] at h ⊢
    by_cases h3:iO r.Held p.az<0
    .rw [if_pos h3] at h;simp at h
    .rw [if_neg h3];exact ⟨rfl,.inl ⟨h2,by omega,rfl,rfl⟩⟩
   .rw [if_neg h2];exact ⟨rfl,.inr ⟨by omega,rfl,rfl⟩⟩
 .rw [if_neg h1] at h;exact absurd h h1
theorem free_at {l:List Held}{h:Int}(hf:0<=iO l h):iO l h<=5/\mT l ⟨h,iO l h⟩=0:=by
 rcases free_spec l h with ⟨a,_⟩ | ⟨_,b,c,_⟩
 .omega
 .exact ⟨b,c⟩
theorem Fh {p:Place}{k:Int}(h:aY p=0)(h0:0<=k)(h5:k<=5):aY ⟨p.az,k⟩=0:=by
 have:=cC h
 unfold aY;dsimp only;split <;> first|rfl|omega
theorem Inv.notes (h:Inv r){m:List Held}{ns:List Note}(hg:Good m)(hc:∀w∈r.aj,cH m w.ID+cN ns w.ID=1)(hs:∀x∈m,∃w∈r.aj,w.ID=x.ap)(hn:∀n∈ns,n∈r.Notes)(hw:∀q,gi ns q<=gi r.Notes q):Inv ⟨r.aj,r.Things,m,ns,r.ae,r.ah⟩ :=
 { tree:=h.tree,good:=hg,sq:=h.sq,oV:=h.oV,qZ:=h.qZ,pz:=h.pz,pA:=h.pA,jo:=h.jo,vC:=h.vC,jA:=h.jA,jB:=h.jB,jq:=h.jq,thing:=h.thing,port:=fun n k=>h.port n (hn n k),kC:=fun n k=>h.kC n (hn n k),wait:=fun q=>Nat.le_trans (hw q) (h.wait q),jC:=fun n k=>h.jC n (hn n k),once:=hc,iw:=fun n k=>h.iw n (hn n k),eQ:=hs,used:=h.used }
theorem Inv.take (h:Inv r){p:Place}(hm:(eC r p).2.2.2=0):Inv (eC r p).1:=by
 obtain ⟨hy,i,n,hn,hp,hb,_,hc⟩:=yd hm
 obtain ⟨hg,_⟩:=ra hy
 obtain ⟨hpf,_⟩:=h.get hg
 have hcut:=fun j=>Qu hn j
 have hsub:∀x∈ud r.Notes i,x∈r.Notes:=fun x hx=>M0 hx
 rcases hc with ⟨h0,hf,_,he⟩ | ⟨h0,_,he⟩
 .
  rw [he]
  obtain ⟨h5,ha⟩:=free_at hf
  have hi:n.ap≠0:=by omega
  have hq:=Fh hpf hf h5
  refine h.notes (mM h.good hq) (fun w hw=>?_) (fun x hx=>?_) hsub (fun q=>zU q)
  .
   rw [BO h.good ha hi]
   have h1:=h.once w hw;have h2:=hcut w.ID
   omega
  .
   rcases (lC h.good ha hi).1 hx with e|hx
   .rw [e];exact h.iw n (List.mem_of_getElem? hn) h0
   .exact h.eQ x hx
 .
  rw [he]
  refine h.notes h.good (fun w hw=>?_) h.eQ hsub (fun q=>zU q)
  have h1:=h.once w hw;have h2:=hcut w.ID;have h3:=(h.tree.mem hw).id1
  rw [if_neg (by omega)] at h2
  omega
theorem Inv.do (h:Inv r){a:ej}(hm:(cR r a).2=0):Inv (cR r a).1:=by
 unfold cR at hm ⊢
 by_cases h1:a.Kind=(⟨#[109,97,107,101]⟩:ByteArray)
 .rw [if_pos h1] at hm ⊢;exact h.make hm
 .
  rw [if_neg h1] at hm ⊢
  by_cases h2:a.Kind=(⟨#[103,105,118,101]⟩:ByteArray)
  .rw [if_pos h2] at hm ⊢;exact h.give hm
  .
   rw [if_neg h2] at hm ⊢
   by_cases h3:a.Kind=(⟨#[109,111,118,101]⟩:ByteArray)
   .rw [if_pos h3] at hm ⊢;exact h.move hm
   .
    rw [if_neg h3] at hm ⊢
    by_cases h4:a.Kind=(⟨#[100,114,111,112]⟩:ByteArray)
    .rw [if_pos h4] at hm ⊢;exact h.drop hm
    .
     rw [if_neg h4] at hm ⊢
     by_cases h5:a.Kind=(⟨#[114,101,118,111,107,101]⟩:ByteArray)
     .rw [if_pos h5] at hm ⊢;exact h.Qv hm
     .
      rw [if_neg h5] at hm ⊢
      by_cases h6:a.Kind=(⟨#[119,114,105,116,101]⟩:ByteArray)
      .rw [if_pos h6] at hm ⊢;exact h.write hm
      .
       rw [if_neg h6] at hm ⊢
       by_cases h7:a.Kind=(⟨#[115,101,110,100]⟩:ByteArray)
       .rw [if_pos h7] at hm ⊢;exact h.send hm
       .
        rw [if_neg h7] at hm ⊢
        by_cases h8:a.Kind=(⟨#[116,97,107,101]⟩:ByteArray)
        .rw [if_pos h8] at hm ⊢;exact h.take hm
        .rw [if_neg h8];exact h
theorem tC (h:Inv r):r.Held.length<=24:=KX h.good
end
end
section
section
variable {r:aD}
end
end
section
section
variable {r:aD}
theorem Ab {ws:List ap}{ts:List Int}:∀ {ns:List Note},(∀n∈ns,n.Port∈ts/\jD ws n=n)->ij ws ts ns=ns
 | [],_=>rfl
 | n::ns,h=>by
  obtain ⟨h1,h2⟩:=h n (List.mem_cons_self ..)
  rw [uh,if_pos h1,h2,Ab (fun m hm=>h m (List.mem_cons_of_mem _ hm))]
theorem Ig {ws:List ap}{ts:List Int}{ns:List Note}(h:∀n∈ns,n.Port∈ts):kF ws ts ns=[]:=by
 refine List.eq_nil_iff_forall_not_mem.2 fun j hj=>?_
 obtain ⟨m,hm,_,hp,_⟩:=DC.1 hj
 exact hp (h m hm)
theorem Inv.GG (h:Inv r):∀n∈r.Notes,n.Port∈bW r.aj:=fun n hn=>by
 obtain ⟨t,ht,e,_⟩:=h.port n hn
 obtain ⟨w,hw,e2⟩:=h.used t ht
 exact (kZ h.tree).2 ⟨w,hw,by rw [e2,e]⟩
theorem Inv.fix (h:Inv r):∀n∈r.Notes,jD r.aj n=n:=fun n hn=>by
 unfold jD;split
 .
  rename_i hf
  have h0:=h.jC n hn
  have:n.ap=0:=by
   by_cases hp:0<n.ap
   .
    obtain ⟨w,hw,e⟩:=h.iw n hn hp
    have:=mg hw;rw [e] at this;omega
   .omega
  cases n;simp only [] at this ⊢;rw [this]
 .rfl
theorem Fi (h:Inv r)(T:List aE)(H:List Held)(hT:∀t∈T,∀w∈r.aj,w.aE≠t.ID)(hH:H.filter (fun h => !decide (cK r.aj h.ap<0))=r.Held)(a b:Int):dS ⟨r.aj,r.Things++T,H,r.Notes,a,b⟩=⟨r.aj,r.Things,r.Held,r.Notes,a,b⟩:=by
 have hl:pk ⟨r.aj,r.Things++T,H,r.Notes,a,b⟩=[]:=Ig h.GG
 rw [ql (by rw [hl];rfl)]
 unfold fN
 dsimp only
 have h1:(r.Things++T).filter (fun t => !!decide (t.ID∈bW r.aj))=r.Things:=by
  have k1:r.Things.filter (fun t => !!decide (t.ID∈bW r.aj))=r.Things:=List.filter_eq_self.2 fun t ht=>by
   obtain ⟨w,hw,e⟩:=h.used t ht
   simp only [Bool.not_not,decide_eq_true_eq]
   exact (kZ h.tree).2 ⟨w,hw,e⟩
  have k2:T.filter (fun t => !!decide (t.ID∈bW r.aj))=[]:=List.filter_eq_nil_iff.2 fun t ht=>by
   simp only [Bool.not_not,decide_eq_true_eq]
   intro hm
   obtain ⟨w,hw,e⟩:=(kZ h.tree).1 hm
   exact hT t ht w hw e
  rw [List.filter_append,k1,k2,List.append_nil]
 rw [h1,hH,Ab (fun n hn=>⟨h.GG n hn,h.fix n hn⟩)]
theorem Inv.Ih (h:Inv r){H:List Held}(hs:∀x∈H,x∈r.Held):H.filter (fun h => !decide (cK r.aj h.ap<0))=H :=
 List.filter_eq_self.2 fun x hx=>by
  have:=kY.2 (h.eQ x (hs x hx))
  simp only [Bool.not_eq_true',decide_eq_false_iff_not];omega
theorem ye (h:Inv r):dS r=r:=by
 have:=Fi h [] r.Held (fun t ht=>by cases ht) (h.Ih (fun x hx=>hx)) r.ae r.ah
 rw [List.append_nil] at this
 exact this
theorem Qw {l:List Held}{x y:Held}(hx:x∈l)(hy:y∈l)(e:x.ap=y.ap)(h:cH l x.ap<=1):x=y:=by
 obtain ⟨A,B,rfl⟩:=List.append_of_mem hx
 unfold cH at h
 rw [List.countP_append,List.countP_cons,if_pos (by simp)] at h
 have key:∀ (C:List Held),y∈C->0<C.countP (fun h=>h.ap==x.ap):=fun C hC=>List.countP_pos_iff.2 ⟨y,hC,by simp [e]⟩
 rcases List.mem_append.1 hy with hy|hy
 .have:=key A hy;omega
 .
  rcases List.mem_cons.1 hy with hy|hy
  .exact hy.symm
  .have:=key B hy;omega
theorem Inv.one (h:Inv r){x y:Held}(hx:x∈r.Held)(hy:y∈r.Held)(e:x.ap=y.ap):x=y:=by
 obtain ⟨w,hw,e2⟩:=h.eQ x hx
 have:=h.once w hw
 exact Qw hx hy e (by rw [<- e2];omega)
end
end
section
section
variable {r:aD}
theorem uT:∀ (ns:List Note) (l:List ap),cT l->cT (ia ns l)
 | [],l,h=>h
 | n::ns,l,h=>by
  show cT (ia ns (if 0<n.ap then without l n.ap else l))
  refine uT ns _ ?_
  split
  .exact h.wo _
  .exact h
theorem yg:∀ (ns:List Note) (l:List ap) (w:ap),w∈ia ns l->(∃y∈l,Like w y) /\ ∀n∈ns,0<n.ap->w.ID≠n.ap
 | [],l,w,h=>⟨⟨w,h,Like.refl w⟩,fun n hn=>by cases hn⟩
 | n::ns,l,w,h=>by
  obtain ⟨⟨y,hy,hl⟩,hn⟩:=yg ns (if 0<n.ap then without l n.ap else l) w h
  by_cases h0:0<n.ap
  .
   rw [if_pos h0] at hy
   obtain ⟨z,hz,hne,rfl⟩:=gL.1 hy
   refine ⟨⟨z,hz,hl.trans (vD _ _ z)⟩,fun m hm hm0=>?_⟩
   rcases List.mem_cons.1 hm with e|hm
   .rw [e,hl.id,(kz z).1];exact hne
   .exact hn m hm hm0
  .
   rw [if_neg h0] at hy
   refine ⟨⟨y,hy,hl⟩,fun m hm hm0=>?_⟩
   rcases List.mem_cons.1 hm with e|hm
   .rw [e] at hm0;exact absurd hm0 h0
   .exact hn m hm hm0
theorem sr:∀ (ns:List Note) (l:List ap) (y:ap),y∈l->(∀n∈ns,0<n.ap->y.ID≠n.ap) -> ∃w∈ia ns l,Like w y
 | [],l,y,h,_=>⟨y,h,Like.refl y⟩
 | n::ns,l,y,h,hn=>by
  by_cases h0:0<n.ap
  .
   obtain ⟨w,hw,k⟩:=sr ns (without l n.ap) (mP n.ap (eP l n.ap) y) (gL.2 ⟨y,h,hn n (List.mem_cons_self ..) h0,rfl⟩) (fun m hm hm0=>by rw [(kz y).1];exact hn m (List.mem_cons_of_mem _ hm) hm0)
   refine ⟨w,?_,k.trans (vD _ _ y)⟩
   show w∈ia ns (if 0<n.ap then without l n.ap else l)
   rw [if_pos h0];exact hw
  .
   obtain ⟨w,hw,k⟩:=sr ns l y h (fun m hm hm0=>hn m (List.mem_cons_of_mem _ hm) hm0)
   refine ⟨w,?_,k⟩
   show w∈ia ns (if 0<n.ap then without l n.ap else l)
   rw [if_neg h0];exact hw
theorem K8 {ns:List Note}{j:Int}(h:cN ns j=0):∀n∈ns,0<n.ap->j≠n.ap:=fun n hn _ e=>by
 have:=Qs hn;rw [<- e] at this;omega
theorem Inv.Ii (h:Inv r):Pre ⟨ia r.Notes r.aj,r.Things,r.Held,[],r.ae,r.ah⟩:=by
 have hs:=fun w hw=>yg r.Notes r.aj w hw
 refine { tree:=uT _ _ h.tree,good:=h.good,sq:=?_,oV:=h.oV,qZ:=h.qZ,pz:=h.pz,pA:=h.pA,jo:=h.jo,vC:=h.vC,jA:=h.jA,jB:=h.jB,jq:=h.jq,thing:=?_,port:=fun n hn=>(by cases hn),kC:=fun n hn=>(by cases hn),wait:=fun q=>by simp [gi],jC:=fun n hn=>(by cases hn),once:=?_ }
 .intro w hw;obtain ⟨⟨y,hy,k⟩,_⟩:=hs w hw;rw [k.id];exact h.sq y hy
 .intro w hw;obtain ⟨⟨y,hy,k⟩,_⟩:=hs w hw;rw [k.th];exact h.thing y hy
 .
  intro w hw
  obtain ⟨⟨y,hy,k⟩,hn⟩:=hs w hw
  have h1:=h.once y hy
  have h2:cN r.Notes w.ID=0:=List.countP_eq_zero.2 fun n hnn e=>by
   have e:n.ap=w.ID:=by simpa using e
   have:=(h.tree.mem hy).id1
   exact hn n hnn (by rw [e,k.id];omega) e.symm
  show cH r.Held w.ID+cN [] w.ID=1
  rw [<- k.id] at h1;simp only [cN,List.countP_nil] at h2 ⊢;unfold cN at h1;omega
theorem uj:∀ (a b:List Int),a.Nodup->(∀x∈a,x∈b)->a.length<=b.length
 | [],b,_,_=>Nat.zero_le _
 | x::a,b,hn,hs=>by
  obtain ⟨h1,h2⟩:=List.nodup_cons.1 hn
  obtain ⟨A,B,rfl⟩:=List.append_of_mem (hs x (List.mem_cons_self ..))
  have:=uj a (A++B) h2 fun y hy=>by
   have h3:=hs y (List.mem_cons_of_mem _ hy)
   rcases List.mem_append.1 h3 with h3|h3
   .exact List.mem_append.2 (.inl h3)
   .
    rcases List.mem_cons.1 h3 with e|h3
    .exact absurd (e▸hy) h1
    .exact List.mem_append.2 (.inr h3)
  simp only [List.length_cons,List.length_append] at this ⊢;omega
theorem K9 (h:Inv r)(hn:r.Notes=[]):r.Held.length=r.aj.length:=by
 have h1:(r.aj.map ap.ID).Nodup:=List.Pairwise.imp (fun h=>Int.ne_of_lt h) (List.pairwise_map.2 h.tree.is.rise)
 have h2:(r.Held.map Held.ap).Nodup:=by
  refine List.pairwise_iff_getElem.2 fun i j hi hj hij e=>?_
  rw [List.length_map] at hi hj
  rw [List.getElem_map,List.getElem_map] at e
  have:=h.one (List.getElem_mem hi) (List.getElem_mem hj) e
  have h3:=List.pairwise_iff_getElem.1 (jN h.good) i j hi hj hij
  rw [this] at h3
  exact tq h3
 have a:=uj (r.Held.map Held.ap) (r.aj.map ap.ID) h2 fun x hx=>by
  obtain ⟨y,hy,rfl⟩:=List.mem_map.1 hx
  obtain ⟨w,hw,e⟩:=h.eQ y hy
  exact List.mem_map.2 ⟨w,hw,e⟩
 have b:=uj (r.aj.map ap.ID) (r.Held.map Held.ap) h1 fun x hx=>by
  obtain ⟨w,hw,rfl⟩:=List.mem_map.1 hx
  have h3:=h.once w hw
  rw [hn] at h3;simp only [cN,List.countP_nil] at h3
  obtain ⟨y,hy,e⟩:=List.countP_pos_iff.1 (show 0<cH r.Held w.ID by omega)
  exact List.mem_map.2 ⟨y,hy,by simpa using e⟩
 simp only [List.length_map] at a b;omega
theorem jy (h:Inv r):Inv (aR r)/\(aR r).Notes=[]/\(aR r).Held=r.Held/\(aR r).Held.length=(aR r).aj.length/\aR (aR r)=aR r:=by
 have hp:=h.Ii
 have hi:Inv (aR r):=ui hp
 have hl:pk ⟨ia r.Notes r.aj,r.Things,r.Held,[],r.ae,r.ah⟩=[]:=rfl
 have hd:aR r=fN ⟨ia r.Notes r.aj,r.Things,r.Held,[],r.ae,r.ah⟩:=ql (by rw [hl];rfl)
 have hn:(aR r).Notes=[]:=by rw [hd];rfl
 refine ⟨hi,hn,?_,K9 hi hn,?_⟩
 .
  rw [hd]
  show r.Held.filter _=r.Held
  refine List.filter_eq_self.2 fun x hx=>?_
  obtain ⟨w,hw,e⟩:=h.eQ x hx
  have h1:=h.once w hw;have h2:=Qr hx;rw [<- e] at h2
  obtain ⟨v,hv,k⟩:=sr r.Notes r.aj w hw (K8 (by omega))
  have h3:0<=cK (ia r.Notes r.aj) x.ap:=kY.2 ⟨v,hv,by rw [k.id,e]⟩
  simp only [Bool.not_eq_true',decide_eq_false_iff_not];omega
 .
  have hs:=ye hi
  generalize aR r=x at hn hs
  cases x with
  | mk W T H N a b =>
   have hn':N=[]:=hn
   subst hn'
   exact hs
theorem DG {k:Nat}(h:Sz k r):Sz k (aR r) :=
 oT _ _ ⟨Nat.le_trans (xP _ _) h.wl,h.tl,h.hl,Nat.zero_le _,zS _ _ h.ri,h.w0,h.w1,h.t0,h.t1⟩
end
end
def gU (n:Int):ByteArray:=⟨(Lib.itoa n).toArray⟩
def bO (n:Int):ByteArray:=⟨(Lib.repeatL [48] (4-(gU n).size)).toArray⟩++gU n
def vp (s:ByteArray):Option Int:=match Lib.atoi s.data.toList with|some n=>if bO n=s then some n else none|none=>none
def jM (s:ByteArray):Nat->Option (List Int)
  | 0=>some []
  | k+1=>match jM s k with
    | some l=>match vp (s.extract (4*k) (4*k+4)) with|some n=>some (l++[n])|none=>none
    | none=>none
def dW (s:ByteArray)(m:Nat):Option (List Int):=if s.size<4*m then none else jM s m
theorem uk {s:ByteArray}:∀ {k:Nat} {l:List Int},jM s k=some l->l.length=k
 | 0,l,h=>by simp [jM] at h;subst h;rfl
 | k+1,l,h=>by
  simp only [jM] at h
  split at h
  .
   rename_i l' h'
   split at h
   .injection h with h;subst h;simp [uk h']
   .cases h
  .cases h
theorem Fj {s:ByteArray}{k:Nat}{l:List Int}{n:Int}(h:jM s k=some l)(hn:vp (s.extract (4*k) (4*k+4))=some n):jM s (k+1)=some (l++[n]):=by simp only [jM,h,hn]
theorem yh {s:ByteArray}:∀ {m k:Nat},k<=m->jM s k=none->jM s m=none
 | 0,k,hk,h=>by
  have:k=0:=by omega
  subst this;exact h
 | m+1,k,hk,h=>by
  rcases Nat.lt_or_ge k (m+1) with h1|h1
  .simp only [jM,yh (m:=m) (by omega) h]
  .
   have:k=m+1:=by omega
   subst this;exact h
theorem Ij {s:ByteArray}{k m:Nat}{l:List Int}(hk:k<m)(h:jM s k=some l)(hn:vp (s.extract (4*k) (4*k+4))=none):jM s m=none :=
 yh (k:=k+1) (by omega) (by simp only [jM,h,hn])
theorem Ik {s:ByteArray}{m:Nat}{l:List Int}(h:dW s m=some l):l.length=m/\4*m<=s.size:=by
 unfold dW at h;split at h
 .cases h
 .exact ⟨uk h,by omega⟩
def kH:ByteArray:=⟨#[104]⟩
def kT:ByteArray:=⟨#[116]⟩
def kW:ByteArray:=⟨#[119]⟩
def kX:ByteArray:=⟨#[120]⟩
def hrow (h:Held):Change:=⟨kH++gU h.Place.az++gU h.Place.Slot,bO h.ap,false⟩
def l4 (t:aE):Change:=⟨kT++bO t.ID,bO t.Kind++t.Data,false⟩
def od (w:ap):Change:=⟨kW++bO w.ID,bO w.aE++bO w.Rights++bO w.aN++bO w.From,false⟩
def DI (r:aD):Change:=⟨kX,bO r.ae++bO r.ah,false⟩
def rowsOf (q:aD):List Change:=q.Held.map hrow++q.Things.map l4++q.aj.map od++[DI q]
def bL (r:aD):List Change:=rowsOf (aR r)
def M3 (s:ByteArray)(i:Nat):Int:=(bf s i:Int)
def S3 (c:Change):Place:=⟨M3 c.Key 1-48,M3 c.Key 2-48⟩
def Il (r:aD)(h:Held):aD:=⟨r.aj,r.Things,r.Held++[h],r.Notes,r.ae,r.ah⟩
def Im (r:aD)(t:aE):aD:=⟨r.aj,r.Things++[t],r.Held,r.Notes,r.ae,r.ah⟩
def DJ (r:aD)(w:ap):aD:=⟨r.aj++[w],r.Things,r.Held,r.Notes,r.ae,r.ah⟩
def M4 (r:aD)(a b:Int):aD:=⟨r.aj,r.Things,r.Held,r.Notes,a,b⟩
def Io (o:Option (List Int))(j:Nat):Int:=((o.getD [])[j]?).getD 0
def rowP (r:aD)(c:Change):aD×Bool :=
  if c.Key.size=0 then (r,false) else
  let key:=dW (c.Key.extract 1 c.Key.size) 1
  let ok:=key.isSome&&decide (c.Key.size=5)
  let n1:=dW c.Val 1
  let n4:=dW c.Val 4
  let n2:=dW c.Val 2
  if bf c.Key 0=104 then (if n1.isSome=false\/c.Val.size≠4\/c.Key.size≠3 then (r,false) else (Il r ⟨S3 c,Io n1 0⟩,decide (aY (S3 c)=0)))
  else if bf c.Key 0=116 then (if ok=false\/n1.isSome=false\/12<c.Val.size then (r,false) else (Im r ⟨Io key 0,Io n1 0,c.Val.extract 4 c.Val.size⟩,decide (Io n1 0=1\/Io n1 0=2/\c.Val.size=4)))
  else if bf c.Key 0=119 then (if ok=false\/n4.isSome=false\/c.Val.size≠16 then (r,false) else (DJ r ⟨Io key 0,Io n4 0,Io n4 1,Io n4 2,Io n4 3⟩,true))
  else if c.Key≠kX\/n2.isSome=false\/c.Val.size≠8 then (r,false) else (M4 r (Io n2 0) (Io n2 1),true)
def su (pv:Option ByteArray)(c:Change):Bool:=match pv with|some k=>jz k c.Key|none=>true
def pgo:List Change->Option ByteArray->aD->Option aD
  | [],_,r=>some r
  | c::l,pv,r=>if su pv c && !c.Gone&&(rowP r c).2 then pgo l (some c.Key) (rowP r c).1 else none
structure Whole (r:aD):Prop where
  tree:cT r.aj
  jq:r.Things.length<=10
  oV:1<=r.ae
  qZ:r.ae<=1000
  pz:1<=r.ah
  pA:r.ah<=1000
  hlen:r.Held.length=r.aj.length
  eQ:∀h∈r.Held,0<=cK r.aj h.ap
  once:(r.Held.map Held.ap).Nodup
  things:r.Things.map aE.ID=bW r.aj
  Ov:∀w,r.aj.getLast? = some w->w.ID<r.ae
  Ow:∀t,r.Things.getLast? = some t->t.ID<r.ah
noncomputable def dX (r:aD):Bool:= @decide (Whole r) (Classical.propDecidable _)
noncomputable def cb (l:List Change):aD×Int:=match pgo l none r0 with|some r=>if dX r=true then (r,0) else (r0,4)|none=>(r0,4)
theorem yi {r:aD}(h:Whole r):dX r=true:=by unfold dX;simp [h]
theorem gv {r:aD}(h:¬ Whole r):dX r=false:=by unfold dX;simp [h]
end Go.Proofs.YtkbhcbipadkcaaaGreatDoor
