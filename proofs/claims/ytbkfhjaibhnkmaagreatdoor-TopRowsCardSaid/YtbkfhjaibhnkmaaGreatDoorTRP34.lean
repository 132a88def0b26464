import Derived.Test.YtbkfhjaibhnkmaaGreatDoorTRP33
namespace Go.Proofs.YtbkfhjaibhnkmaaGreatDoor
set_option linter.unusedVariables false
section
variable {r:au}
theorem oM (ns:List Note)(n:Note)(q:Int):dX (ns++[n]) q=dX ns q+(if n.Port=q then 1 else 0):=by
  unfold dX;rw [List.filter_append,List.length_append]
  by_cases h:n.Port=q
  · rw [if_pos h];simp [h]
  · rw [if_neg h];simp [h]
theorem sO (ns:List Note)(n:Note)(j:Int):cN (ns++[n]) j=cN ns j+(if n.ak=j then 1 else 0):=by
  unfold cN;rw [List.countP_append,List.countP_cons]
  by_cases h:n.ak=j
  · rw [if_pos (by simpa using h),if_pos h];simp
  · rw [if_neg (by simpa using h),if_neg h];simp
theorem j6 {p:Place}{k q:Int}(h:(ay r p k q).2.2=0):(ap r p).2=0∧(ay r p k q).1=(ap r p).1∧eY (ap r p).1.Rights q=true ∧ ∃t∈r.Things,t.ID=(ap r p).1.ai∧t.Kind=k:=by
  obtain ⟨h1,h2,h3,i,t,_,ht,e,e2,_⟩:=jX h
  exact ⟨h1,h2,h3,t,List.mem_of_getElem? ht,e,e2⟩
theorem rG {p:Place}{d:ByteArray}{s a:Int}(h:(bO r p d s a).2=0):(ay r p 2 2).2.2=0∧d.size≤8∧dX r.Notes (ap r p).1.ai≠3 ∧
    (s<0∧(bO r p d s a).1=⟨r.aj,r.Things,r.Held,r.Notes++[⟨(ap r p).1.ai,d,(ap r p).1.ar,0⟩],r.ae,r.af⟩ ∨
     0≤s∧eY (ap r p).1.Rights 4=true∧(ap r ⟨p.ag,s⟩).2=0∧r.ae≤999∧(derived (ap r ⟨p.ag,s⟩).1 r.ae a 0).2=0 ∧
     (bO r p d s a).1=⟨r.aj++[(derived (ap r ⟨p.ag,s⟩).1 r.ae a 0).1],r.Things,r.Held,r.Notes++[⟨(ap r p).1.ai,d,(ap r p).1.ar,(derived (ap r ⟨p.ag,s⟩).1 r.ae a 0).1.ID⟩],r.ae+1,r.af⟩):=by
  unfold bO at h ⊢
  by_cases h1:(ay r p 2 2).2.2=0
  ·
    have he:=(j6 h1).2.1
    rw [if_pos h1] at h ⊢
    by_cases h2:8<d.size
    · rw [if_pos h2] at h;simp at h
    ·
      rw [if_neg h2] at h ⊢
      by_cases h3:dX r.Notes (ay r p 2 2).1.ai=3
      · rw [if_pos h3] at h;simp at h
      ·
        rw [if_neg h3] at h ⊢
        rw [he] at h3
        by_cases h4:s<0
        · rw [if_pos h4,he];exact ⟨h1,by omega,h3,.inl ⟨h4,rfl⟩⟩
        ·
          rw [if_neg h4] at h ⊢
          by_cases h5:eY (ay r p 2 2).1.Rights 4=true
          ·
            rw [if_pos h5] at h ⊢
            by_cases h6:(ap r ⟨p.ag,s⟩).2=0
            ·
              rw [if_pos h6] at h ⊢
              by_cases h7:999<r.ae
              · rw [if_pos h7] at h;simp at h
              ·
                rw [if_neg h7] at h ⊢
                by_cases h8:(derived (ap r ⟨p.ag,s⟩).1 r.ae a 0).2=0
                ·
                  rw [if_pos h8,he];rw [he] at h5
                  exact ⟨h1,by omega,h3,.inr ⟨by omega,h5,h6,by omega,h8,rfl⟩⟩
                · rw [if_neg h8] at h;exact absurd h h8
            · rw [if_neg h6] at h;exact absurd h h6
          · rw [if_neg h5] at h;simp at h
  · rw [if_neg h1] at h;exact absurd h h1
theorem Inv.send (h:Inv r){p:Place}{d:ByteArray}{s a:Int}(hm:(bO r p d s a).2=0):Inv (bO r p d s a).1:=by
  obtain ⟨hy,hd,h3,hc⟩:=rG hm
  obtain ⟨hg,_,_,t,ht,hti,htk⟩:=j6 hy
  obtain ⟨_,hgm,_⟩:=h.get hg
  have hw:=h.tree.mem hgm
  have xY:∀q,dX r.Notes q+(if (ap r p).1.ai=q then 1 else 0)≤3:=fun q=>by
    have:=h.wait q
    split
    · rename_i e;rw [e] at h3;omega
    · omega
  have oK:∀ (k:Int) (n:Note),n∈r.Notes++[⟨(ap r p).1.ai,d,(ap r p).1.ar,k⟩] → ∃t∈r.Things,t.ID=n.Port∧t.Kind=2:=fun k n hn=>by
    rcases List.mem_append.1 hn with hn|hn
    · exact h.port n hn
    · rw [List.mem_singleton.1 hn];exact ⟨t,ht,hti,htk⟩
  have hnd:∀ (k:Int) (n:Note),n∈r.Notes++[⟨(ap r p).1.ai,d,(ap r p).1.ar,k⟩]→n.Data.size≤8∧0≤n.ar∧n.ar≤99:=fun k n hn=>by
    rcases List.mem_append.1 hn with hn|hn
    · exact h.fP n hn
    · rw [List.mem_singleton.1 hn];exact ⟨hd,hw.yJ,hw.yK⟩
  rcases hc with ⟨h4,he⟩ | ⟨h4,h5,h6,h7,h8,he⟩
  ·
    rw [he]
    refine { tree:=h.tree,good:=h.good,kF:=h.kF,jk:=h.jk,j4:=h.j4,jo:=h.jo,jq:=h.jq,e8:=h.e8,mJ:=h.mJ,fc:=h.fc,fe:=h.fe,fj:=h.fj,thing:=h.thing,port:=oK 0,fP:=hnd 0,wait:=fun q=>?_,ff:=?_,once:=?_,eK:=?_,dk:=h.dk,used:=h.used }
    · show dX (r.Notes++[_]) q≤3;rw [oM];exact xY q
    ·
      intro n hn
      rcases List.mem_append.1 hn with hn|hn
      · exact h.ff n hn
      · rw [List.mem_singleton.1 hn];exact Int.le_refl 0
    ·
      intro w hw
      show cH r.Held w.ID+cN (r.Notes++[_]) w.ID=1
      have:=h.once w hw;have:=(h.tree.mem hw).id1
      rw [sO,if_neg (by dsimp only;omega)];omega
    ·
      intro n hn h0
      rcases List.mem_append.1 hn with hn|hn
      · exact h.eK n hn h0
      · rw [List.mem_singleton.1 hn] at h0;exact absurd h0 (by dsimp only;omega)
  ·
    obtain ⟨_,AO,_⟩:=h.get h6
    obtain ⟨vA,hid,hth,_⟩:=h.derive AO h7 h8
    rw [he]
    generalize hx:(derived (ap r ⟨p.ag,s⟩).1 r.ae a 0).1=x at *
    have n1:=h.jk;have hfr:=h.fresh
    refine { tree:=vA,good:=h.good,kF:=?_,jk:=by show 1≤r.ae+1;omega,j4:=by show r.ae+1≤1000;omega,jo:=h.jo,jq:=h.jq,e8:=h.e8,mJ:=h.mJ,fc:=h.fc,fe:=h.fe,fj:=h.fj,thing:=?_,port:=oK x.ID,fP:=hnd x.ID,wait:=fun q=>?_,ff:=?_,once:=?_,eK:=?_,dk:=?_,used:=?_ }
    ·
      intro w hw
      show w.ID<r.ae+1
      rcases List.mem_append.1 hw with hw|hw
      · have:=h.kF w hw;omega
      · rw [List.mem_singleton.1 hw,hid];omega
    ·
      intro w hw
      rcases List.mem_append.1 hw with hw|hw
      · exact h.thing w hw
      · rw [List.mem_singleton.1 hw,hth];exact h.thing _ AO
    · show dX (r.Notes++[_]) q≤3;rw [oM];exact xY q
    ·
      intro n hn
      rcases List.mem_append.1 hn with hn|hn
      · exact h.ff n hn
      · rw [List.mem_singleton.1 hn];show 0≤x.ID;omega
    ·
      intro w hw
      show cH r.Held w.ID+cN (r.Notes++[_]) w.ID=1
      rw [sO];dsimp only
      rcases List.mem_append.1 hw with hw|hw
      ·
        have:=h.kF w hw;have:=h.once w hw
        rw [if_neg (by omega)];omega
      · rw [List.mem_singleton.1 hw,if_pos rfl,hid];omega
    ·
      intro n hn h0
      rcases List.mem_append.1 hn with hn|hn
      ·
        obtain ⟨w,hw,e⟩:=h.eK n hn h0
        exact ⟨w,List.mem_append.2 (.inl hw),e⟩
      · rw [List.mem_singleton.1 hn];exact ⟨x,List.mem_append.2 (.inr (List.mem_singleton.2 rfl)),rfl⟩
    ·
      intro y hy
      obtain ⟨w,hw,e⟩:=h.dk y hy
      exact ⟨w,List.mem_append.2 (.inl hw),e⟩
    ·
      intro t ht
      obtain ⟨w,hw,e⟩:=h.used t ht
      exact ⟨w,List.mem_append.2 (.inl hw),e⟩
theorem rH {p:Place}(h:(bD r p).2.2.2=0):(ay r p 2 1).2.2=0 ∧ ∃ (i:Nat) (n:Note),r.Notes[i]? = some n∧n.Port=(ap r p).1.ai∧(∀ (j:Nat) y,j<i→r.Notes[j]? = some y→¬ y.Port=(ap r p).1.ai)∧(bD r p).2.1=n ∧
    (0<n.ak∧0≤dR r.Held p.ag∧(bD r p).2.2.1=dR r.Held p.ag∧(bD r p).1=⟨r.aj,r.Things,ck r.Held ⟨p.ag,dR r.Held p.ag⟩ n.ak,lJ r.Notes i,r.ae,r.af⟩ ∨
     n.ak≤0∧(bD r p).2.2.1 = -1∧(bD r p).1=⟨r.aj,r.Things,r.Held,lJ r.Notes i,r.ae,r.af⟩):=by
  unfold bD at h ⊢
  by_cases h1:(ay r p 2 1).2.2=0
  ·
    have he:=(j6 h1).2.1
    rw [if_pos h1] at h ⊢
    rw [he] at h ⊢
    rcases fB (fun n:Note=>n.Port==(ap r p).1.ai) r.Notes with ⟨hf,hn⟩ | ⟨i,n,hf,hn,hp,hb,_⟩
    ·
      rw [hf,show decide ((0:Int) ≤ -1)=false from rfl] at h
      cases hq:r.Notes[(-1:Int).toNat]? <;> rw [hq] at h <;> simp at h
    ·
      have hn':r.Notes[i]? = some n:=hn
      have hfi:idxOf (fun n:Note=>n.Port==(ap r p).1.ai) r.Notes=(i:Int):=hf
      rw [hfi,Int.toNat_natCast,hn',decide_eq_true (by omega)] at h ⊢
      dsimp only at h ⊢
      refine ⟨h1,i,n,hn',by simpa using hp,fun j y hj hy=>by simpa using hb j y hj hy,?_⟩
      by_cases h2:0<n.ak
      ·
        rw [if_pos h2] at h ⊢
        by_cases h3:dR r.Held p.ag<0
        · rw [if_pos h3] at h;simp at h
        · rw [if_neg h3];exact ⟨rfl,.inl ⟨h2,by omega,rfl,rfl⟩⟩
      · rw [if_neg h2];exact ⟨rfl,.inr ⟨by omega,rfl,rfl⟩⟩
  · rw [if_neg h1] at h;exact absurd h h1
theorem free_at {l:List Held}{h:Int}(hf:0≤dR l h):dR l h≤5∧hY l ⟨h,dR l h⟩=0:=by
  rcases free_spec l h with ⟨a,_⟩ | ⟨_,b,c,_⟩
  · omega
  · exact ⟨b,c⟩
theorem rJ {p:Place}{k:Int}(h:aW p=0)(h0:0≤k)(h5:k≤5):aW ⟨p.ag,k⟩=0:=by
  have:=bS h
  unfold aW;dsimp only;split <;> first|rfl|omega
theorem Inv.notes (h:Inv r){m:List Held}{ns:List Note}(hg:Good m)(hc:∀w∈r.aj,cH m w.ID+cN ns w.ID=1)(hs:∀x∈m,∃w∈r.aj,w.ID=x.ak)(hn:∀n∈ns,n∈r.Notes)(hw:∀q,dX ns q≤dX r.Notes q):Inv ⟨r.aj,r.Things,m,ns,r.ae,r.af⟩ :=
  { tree:=h.tree,good:=hg,kF:=h.kF,jk:=h.jk,j4:=h.j4,jo:=h.jo,jq:=h.jq,e8:=h.e8,mJ:=h.mJ,fc:=h.fc,fe:=h.fe,fj:=h.fj,thing:=h.thing,port:=fun n k=>h.port n (hn n k),fP:=fun n k=>h.fP n (hn n k),wait:=fun q=>Nat.le_trans (hw q) (h.wait q),ff:=fun n k=>h.ff n (hn n k),once:=hc,eK:=fun n k=>h.eK n (hn n k),dk:=hs,used:=h.used }
theorem Inv.take (h:Inv r){p:Place}(hm:(bD r p).2.2.2=0):Inv (bD r p).1:=by
  obtain ⟨hy,i,n,hn,hp,hb,_,hc⟩:=rH hm
  obtain ⟨hg,_⟩:=j6 hy
  obtain ⟨hpf,_⟩:=h.get hg
  have hcut:=fun j=>y9 hn j
  have hsub:∀x∈lJ r.Notes i,x∈r.Notes:=fun x hx=>xd hx
  rcases hc with ⟨h0,hf,_,he⟩ | ⟨h0,_,he⟩
  ·
    rw [he]
    obtain ⟨h5,ha⟩:=free_at hf
    have hi:n.ak≠0:=by omega
    have hq:=rJ hpf hf h5
    refine h.notes (iF h.good hq) (fun w hw=>?_) (fun x hx=>?_) hsub (fun q=>oH q)
    ·
      rw [pn h.good ha hi]
      have h1:=h.once w hw;have h2:=hcut w.ID
      omega
    ·
      rcases (lq h.good ha hi).1 hx with e|hx
      · rw [e];exact h.eK n (List.mem_of_getElem? hn) h0
      · exact h.dk x hx
  ·
    rw [he]
    refine h.notes h.good (fun w hw=>?_) h.dk hsub (fun q=>oH q)
    have h1:=h.once w hw;have h2:=hcut w.ID;have h3:=(h.tree.mem hw).id1
    rw [if_neg (by omega)] at h2
    omega
theorem Inv.do (h:Inv r){a:df}(hm:(eM r a).2=0):Inv (eM r a).1:=by
  unfold eM at hm ⊢
  by_cases h1:a.Kind=(⟨#[109,97,107,101]⟩:ByteArray)
  · rw [if_pos h1] at hm ⊢;exact h.make hm
  ·
    rw [if_neg h1] at hm ⊢
    by_cases h2:a.Kind=(⟨#[103,105,118,101]⟩:ByteArray)
    · rw [if_pos h2] at hm ⊢;exact h.give hm
    ·
      rw [if_neg h2] at hm ⊢
      by_cases h3:a.Kind=(⟨#[109,111,118,101]⟩:ByteArray)
      · rw [if_pos h3] at hm ⊢;exact h.move hm
      ·
        rw [if_neg h3] at hm ⊢
        by_cases h4:a.Kind=(⟨#[100,114,111,112]⟩:ByteArray)
        · rw [if_pos h4] at hm ⊢;exact h.drop hm
        ·
          rw [if_neg h4] at hm ⊢
          by_cases h5:a.Kind=(⟨#[114,101,118,111,107,101]⟩:ByteArray)
          · rw [if_pos h5] at hm ⊢;exact h.za hm
          ·
            rw [if_neg h5] at hm ⊢
            by_cases h6:a.Kind=(⟨#[119,114,105,116,101]⟩:ByteArray)
            · rw [if_pos h6] at hm ⊢;exact h.write hm
            ·
              rw [if_neg h6] at hm ⊢
              by_cases h7:a.Kind=(⟨#[115,101,110,100]⟩:ByteArray)
              · rw [if_pos h7] at hm ⊢;exact h.send hm
              ·
                rw [if_neg h7] at hm ⊢
                by_cases h8:a.Kind=(⟨#[116,97,107,101]⟩:ByteArray)
                · rw [if_pos h8] at hm ⊢;exact h.take hm
                · rw [if_neg h8];exact h
theorem vC (l:List df):Inv (grow l):=qb (fun _ r=>Inv r) Inv.new (fun k r a h=>by
  unfold kj;split
  · exact h.do (by assumption)
  · exact h) l
theorem qo (h:Inv r):r.Held.length≤24:=vt h.good
end
end Go.Proofs.YtbkfhjaibhnkmaaGreatDoor
