import Derived.Test.YtbkfhjaibhnkmaaGreatDoorTSD32
namespace Go.Proofs.YtbkfhjaibhnkmaaGreatDoor
set_option linter.unusedVariables false
section
variable {r:ap}
theorem pY (ns:List Note)(n:Note)(q:Int):ey (ns++[n]) q=ey ns q+(if n.Port=q then 1 else 0):=by
 unfold ey;rw [List.filter_append,List.length_append]
 by_cases h:n.Port=q
 ·rw [if_pos h];simp [h]
 ·rw [if_neg h];simp [h]
theorem uj (ns:List Note)(n:Note)(j:Int):cN (ns++[n]) j=cN ns j+(if n.aj=j then 1 else 0):=by
 unfold cN;rw [List.countP_append,List.countP_cons]
 by_cases h:n.aj=j
 ·rw [if_pos (by simpa using h),if_pos h];simp
 ·rw [if_neg (by simpa using h),if_neg h];simp
theorem kL {p:Place}{k q:Int}(h:(aO r p k q).2.2=0):(au r p).2=0∧(aO r p k q).1=(au r p).1∧fB (au r p).1.Rights q=true ∧ ∃t∈r.Things,t.ID=(au r p).1.ah∧t.Kind=k:=by
 obtain ⟨h1,h2,h3,i,t,_,ht,e,e2,_⟩:=kD h
 exact ⟨h1,h2,h3,t,List.mem_of_getElem? ht,e,e2⟩
theorem s6 {p:Place}{d:ByteArray}{s a:Int}(h:(bZ r p d s a).2=0):(aO r p 2 2).2.2=0∧d.size≤8∧ey r.Notes (au r p).1.ah≠3 ∧
 (s<0∧(bZ r p d s a).1=⟨r.ai,r.Things,r.Held,r.Notes++[⟨(au r p).1.ah,d,(au r p).1.aG,0⟩],r.ae,r.af⟩ ∨
  0≤s∧fB (au r p).1.Rights 4=true∧(au r ⟨p.ao,s⟩).2=0∧r.ae≤999∧(derived (au r ⟨p.ao,s⟩).1 r.ae a 0).2=0 ∧
  (bZ r p d s a).1=⟨r.ai++[(derived (au r ⟨p.ao,s⟩).1 r.ae a 0).1],r.Things,r.Held,r.Notes++[⟨(au r p).1.ah,d,(au r p).1.aG,(derived (au r ⟨p.ao,s⟩).1 r.ae a 0).1.ID⟩],r.ae+1,r.af⟩):=by
 unfold bZ at h ⊢
 by_cases h1:(aO r p 2 2).2.2=0
 ·
  have he:=(kL h1).2.1
  rw [if_pos h1] at h ⊢
  by_cases h2:8<d.size
  ·rw [if_pos h2] at h;simp at h
  ·
   rw [if_neg h2] at h ⊢
   by_cases h3:ey r.Notes (aO r p 2 2).1.ah=3
   ·rw [if_pos h3] at h;simp at h
   ·
    rw [if_neg h3] at h ⊢
    rw [he] at h3
    by_cases h4:s<0
    ·rw [if_pos h4,he];exact ⟨h1,by omega,h3,.inl ⟨h4,rfl⟩⟩
    ·
     rw [if_neg h4] at h ⊢
     by_cases h5:fB (aO r p 2 2).1.Rights 4=true
     ·
      rw [if_pos h5] at h ⊢
      by_cases h6:(au r ⟨p.ao,s⟩).2=0
      ·
       rw [if_pos h6] at h ⊢
       by_cases h7:999<r.ae
       ·rw [if_pos h7] at h;simp at h
       ·
        rw [if_neg h7] at h ⊢
        by_cases h8:(derived (au r ⟨p.ao,s⟩).1 r.ae a 0).2=0
        ·
         rw [if_pos h8,he];rw [he] at h5
         exact ⟨h1,by omega,h3,.inr ⟨by omega,h5,h6,by omega,h8,rfl⟩⟩
        ·rw [if_neg h8] at h;exact absurd h h8
      ·rw [if_neg h6] at h;exact absurd h h6
     ·rw [if_neg h5] at h;simp at h
 ·rw [if_neg h1] at h;exact absurd h h1
theorem Inv.send (h:Inv r){p:Place}{d:ByteArray}{s a:Int}(hm:(bZ r p d s a).2=0):Inv (bZ r p d s a).1:=by
 obtain ⟨hy,hd,h3,hc⟩:=s6 hm
 obtain ⟨hg,_,_,t,ht,hti,htk⟩:=kL hy
 obtain ⟨_,hgm,_⟩:=h.get hg
 have hw:=h.tree.mem hgm
 have zu:∀q,ey r.Notes q+(if (au r p).1.ah=q then 1 else 0)≤3:=fun q=>by
  have:=h.wait q
  split
  ·rename_i e;rw [e] at h3;omega
  ·omega
 have pW:∀ (k:Int) (n:Note),n∈r.Notes++[⟨(au r p).1.ah,d,(au r p).1.aG,k⟩] → ∃t∈r.Things,t.ID=n.Port∧t.Kind=2:=fun k n hn=>by
  rcases List.mem_append.1 hn with hn|hn
  ·exact h.port n hn
  ·rw [List.mem_singleton.1 hn];exact ⟨t,ht,hti,htk⟩
 have hnd:∀ (k:Int) (n:Note),n∈r.Notes++[⟨(au r p).1.ah,d,(au r p).1.aG,k⟩]→n.Data.size≤8∧0≤n.aG∧n.aG≤99:=fun k n hn=>by
  rcases List.mem_append.1 hn with hn|hn
  ·exact h.f9 n hn
  ·rw [List.mem_singleton.1 hn];exact ⟨hd,hw.Ba,hw.Bb⟩
 rcases hc with ⟨h4,he⟩ | ⟨h4,h5,h6,h7,h8,he⟩
 ·
  rw [he]
  refine { tree:=h.tree,good:=h.good,ly:=h.ly,jV:=h.jV,kP:=h.kP,jY:=h.jY,jZ:=h.jZ,eZ:=h.eZ,nG:=h.nG,fH:=h.fH,fI:=h.fI,fN:=h.fN,thing:=h.thing,port:=pW 0,f9:=hnd 0,wait:=fun q=>?_,fJ:=?_,once:=?_,e5:=?_,dz:=h.dz,used:=h.used }
  ·show ey (r.Notes++[_]) q≤3;rw [pY];exact zu q
  ·
   intro n hn
   rcases List.mem_append.1 hn with hn|hn
   ·exact h.fJ n hn
   ·rw [List.mem_singleton.1 hn];exact Int.le_refl 0
  ·
   intro w hw
   show cH r.Held w.ID+cN (r.Notes++[_]) w.ID=1
   have:=h.once w hw;have:=(h.tree.mem hw).id1
   rw [uj,if_neg (by dsimp only;omega)];omega
  ·
   intro n hn h0
   rcases List.mem_append.1 hn with hn|hn
   ·exact h.e5 n hn h0
   ·rw [List.mem_singleton.1 hn] at h0;exact absurd h0 (by dsimp only;omega)
 ·
  obtain ⟨_,CK,_⟩:=h.get h6
  obtain ⟨wS,hid,hth,_⟩:=h.derive CK h7 h8
  rw [he]
  generalize hx:(derived (au r ⟨p.ao,s⟩).1 r.ae a 0).1=x at *
  have n1:=h.jV;have hfr:=h.fresh
  refine { tree:=wS,good:=h.good,ly:=?_,jV:=by show 1≤r.ae+1;omega,kP:=by show r.ae+1≤1000;omega,jY:=h.jY,jZ:=h.jZ,eZ:=h.eZ,nG:=h.nG,fH:=h.fH,fI:=h.fI,fN:=h.fN,thing:=?_,port:=pW x.ID,f9:=hnd x.ID,wait:=fun q=>?_,fJ:=?_,once:=?_,e5:=?_,dz:=?_,used:=?_ }
  ·
   intro w hw
   show w.ID<r.ae+1
   rcases List.mem_append.1 hw with hw|hw
   ·have:=h.ly w hw;omega
   ·rw [List.mem_singleton.1 hw,hid];omega
  ·
   intro w hw
   rcases List.mem_append.1 hw with hw|hw
   ·exact h.thing w hw
   ·rw [List.mem_singleton.1 hw,hth];exact h.thing _ CK
  ·show ey (r.Notes++[_]) q≤3;rw [pY];exact zu q
  ·
   intro n hn
   rcases List.mem_append.1 hn with hn|hn
   ·exact h.fJ n hn
   ·rw [List.mem_singleton.1 hn];show 0≤x.ID;omega
  ·
   intro w hw
   show cH r.Held w.ID+cN (r.Notes++[_]) w.ID=1
   rw [uj];dsimp only
   rcases List.mem_append.1 hw with hw|hw
   ·
    have:=h.ly w hw;have:=h.once w hw
    rw [if_neg (by omega)];omega
   ·rw [List.mem_singleton.1 hw,if_pos rfl,hid];omega
  ·
   intro n hn h0
   rcases List.mem_append.1 hn with hn|hn
   ·
    obtain ⟨w,hw,e⟩:=h.e5 n hn h0
    exact ⟨w,List.mem_append.2 (.inl hw),e⟩
   ·rw [List.mem_singleton.1 hn];exact ⟨x,List.mem_append.2 (.inr (List.mem_singleton.2 rfl)),rfl⟩
  ·
   intro y hy
   obtain ⟨w,hw,e⟩:=h.dz y hy
   exact ⟨w,List.mem_append.2 (.inl hw),e⟩
  ·
   intro t ht
   obtain ⟨w,hw,e⟩:=h.used t ht
   exact ⟨w,List.mem_append.2 (.inl hw),e⟩
theorem s7 {p:Place}(h:(bU r p).2.2.2=0):(aO r p 2 1).2.2=0 ∧ ∃ (i:Nat) (n:Note),r.Notes[i]? = some n∧n.Port=(au r p).1.ah∧(∀ (j:Nat) y,j<i→r.Notes[j]? = some y→¬ y.Port=(au r p).1.ah)∧(bU r p).2.1=n ∧
 (0<n.aj∧0≤eu r.Held p.ao∧(bU r p).2.2.1=eu r.Held p.ao∧(bU r p).1=⟨r.ai,r.Things,cE r.Held ⟨p.ao,eu r.Held p.ao⟩ n.aj,mH r.Notes i,r.ae,r.af⟩ ∨
  n.aj≤0∧(bU r p).2.2.1 = -1∧(bU r p).1=⟨r.ai,r.Things,r.Held,mH r.Notes i,r.ae,r.af⟩):=by
 unfold bU at h ⊢
 by_cases h1:(aO r p 2 1).2.2=0
 ·
  have he:=(kL h1).2.1
  rw [if_pos h1] at h ⊢
  rw [he] at h ⊢
  rcases f8 (fun n:Note=>n.Port==(au r p).1.ah) r.Notes with ⟨hf,hn⟩ | ⟨i,n,hf,hn,hp,hb,_⟩
  ·
   rw [hf,show decide ((0:Int) ≤ -1)=false from rfl] at h
   cases hq:r.Notes[(-1:Int).toNat]? <;> rw [hq] at h <;> simp at h
  ·
   have hn':r.Notes[i]? = some n:=hn
   have hfi:idxOf (fun n:Note=>n.Port==(au r p).1.ah) r.Notes=(i:Int):=hf
   rw [hfi,Int.toNat_natCast,hn',decide_eq_true (by omega)] at h ⊢
   dsimp only at h ⊢
   refine ⟨h1,i,n,hn',by simpa using hp,fun j y hj hy=>by simpa using hb j y hj hy,?_⟩
   by_cases h2:0<n.aj
   ·
    rw [if_pos h2] at h ⊢
    by_cases h3:eu r.Held p.ao<0
    ·rw [if_pos h3] at h;simp at h
    ·rw [if_neg h3];exact ⟨rfl,.inl ⟨h2,by omega,rfl,rfl⟩⟩
   ·rw [if_neg h2];exact ⟨rfl,.inr ⟨by omega,rfl,rfl⟩⟩
 ·rw [if_neg h1] at h;exact absurd h h1
theorem free_at {l:List Held}{h:Int}(hf:0≤eu l h):eu l h≤5∧iQ l ⟨h,eu l h⟩=0:=by
 rcases free_spec l h with ⟨a,_⟩ | ⟨_,b,c,_⟩
 ·omega
 ·exact ⟨b,c⟩
theorem s8 {p:Place}{k:Int}(h:aX p=0)(h0:0≤k)(h5:k≤5):aX ⟨p.ao,k⟩=0:=by
 have:=bS h
 unfold aX;dsimp only;split <;> first|rfl|omega
theorem Inv.notes (h:Inv r){m:List Held}{ns:List Note}(hg:Good m)(hc:∀w∈r.ai,cH m w.ID+cN ns w.ID=1)(hs:∀x∈m,∃w∈r.ai,w.ID=x.aj)(hn:∀n∈ns,n∈r.Notes)(hw:∀q,ey ns q≤ey r.Notes q):Inv ⟨r.ai,r.Things,m,ns,r.ae,r.af⟩ :=
 { tree:=h.tree,good:=hg,ly:=h.ly,jV:=h.jV,kP:=h.kP,jY:=h.jY,jZ:=h.jZ,eZ:=h.eZ,nG:=h.nG,fH:=h.fH,fI:=h.fI,fN:=h.fN,thing:=h.thing,port:=fun n k=>h.port n (hn n k),f9:=fun n k=>h.f9 n (hn n k),wait:=fun q=>Nat.le_trans (hw q) (h.wait q),fJ:=fun n k=>h.fJ n (hn n k),once:=hc,e5:=fun n k=>h.e5 n (hn n k),dz:=hs,used:=h.used }
theorem Inv.take (h:Inv r){p:Place}(hm:(bU r p).2.2.2=0):Inv (bU r p).1:=by
 obtain ⟨hy,i,n,hn,hp,hb,_,hc⟩:=s7 hm
 obtain ⟨hg,_⟩:=kL hy
 obtain ⟨hpf,_⟩:=h.get hg
 have hcut:=fun j=>Ay hn j
 have hsub:∀x∈mH r.Notes i,x∈r.Notes:=fun x hx=>yA hx
 rcases hc with ⟨h0,hf,_,he⟩ | ⟨h0,_,he⟩
 ·
  rw [he]
  obtain ⟨h5,ha⟩:=free_at hf
  have hi:n.aj≠0:=by omega
  have hq:=s8 hpf hf h5
  refine h.notes (jh h.good hq) (fun w hw=>?_) (fun x hx=>?_) hsub (fun q=>pT q)
  ·
   rw [qy h.good ha hi]
   have h1:=h.once w hw;have h2:=hcut w.ID
   omega
  ·
   rcases (l7 h.good ha hi).1 hx with e|hx
   ·rw [e];exact h.e5 n (List.mem_of_getElem? hn) h0
   ·exact h.dz x hx
 ·
  rw [he]
  refine h.notes h.good (fun w hw=>?_) h.dz hsub (fun q=>pT q)
  have h1:=h.once w hw;have h2:=hcut w.ID;have h3:=(h.tree.mem hw).id1
  rw [if_neg (by omega)] at h2
  omega
theorem Inv.do (h:Inv r){a:df}(hm:(fh r a).2=0):Inv (fh r a).1:=by
 unfold fh at hm ⊢
 by_cases h1:a.Kind=(⟨#[109,97,107,101]⟩:ByteArray)
 ·rw [if_pos h1] at hm ⊢;exact h.make hm
 ·
  rw [if_neg h1] at hm ⊢
  by_cases h2:a.Kind=(⟨#[103,105,118,101]⟩:ByteArray)
  ·rw [if_pos h2] at hm ⊢;exact h.give hm
  ·
   rw [if_neg h2] at hm ⊢
   by_cases h3:a.Kind=(⟨#[109,111,118,101]⟩:ByteArray)
   ·rw [if_pos h3] at hm ⊢;exact h.move hm
   ·
    rw [if_neg h3] at hm ⊢
    by_cases h4:a.Kind=(⟨#[100,114,111,112]⟩:ByteArray)
    ·rw [if_pos h4] at hm ⊢;exact h.drop hm
    ·
     rw [if_neg h4] at hm ⊢
     by_cases h5:a.Kind=(⟨#[114,101,118,111,107,101]⟩:ByteArray)
     ·rw [if_pos h5] at hm ⊢;exact h.Az hm
     ·
      rw [if_neg h5] at hm ⊢
      by_cases h6:a.Kind=(⟨#[119,114,105,116,101]⟩:ByteArray)
      ·rw [if_pos h6] at hm ⊢;exact h.write hm
      ·
       rw [if_neg h6] at hm ⊢
       by_cases h7:a.Kind=(⟨#[115,101,110,100]⟩:ByteArray)
       ·rw [if_pos h7] at hm ⊢;exact h.send hm
       ·
        rw [if_neg h7] at hm ⊢
        by_cases h8:a.Kind=(⟨#[116,97,107,101]⟩:ByteArray)
        ·rw [if_pos h8] at hm ⊢;exact h.take hm
        ·rw [if_neg h8];exact h
theorem wU (l:List df):Inv (grow l):=rA (fun _ r=>Inv r) Inv.new (fun k r a h=>by
 unfold k7;split
 ·exact h.do (by assumption)
 ·exact h) l
theorem oN (h:Inv r):r.Held.length≤24:=wO h.good
end
end Go.Proofs.YtbkfhjaibhnkmaaGreatDoor
