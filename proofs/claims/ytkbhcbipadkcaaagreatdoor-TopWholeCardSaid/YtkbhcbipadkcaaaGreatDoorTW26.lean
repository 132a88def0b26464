import Derived.Test.YtkbhcbipadkcaaaGreatDoorTW25
namespace Go.Proofs.YtkbhcbipadkcaaaGreatDoor
set_option linter.unusedVariables false
set_option linter.unusedSimpArgs false
set_option maxRecDepth 100000
set_option maxHeartbeats 90000000
open Go Go.RowKit
theorem D1 {b:Bool}(h:(!b)=true):b=false:=by cases b <;> simp_all
theorem D2 {b:Bool}(h:(!b)=false):b=true:=by cases b <;> simp_all
theorem QM {α β:Type}{f:α->β}{L:List α}{k:Nat}{x:α}(hx:L[k]? = some x)(hm:f x∈(L.take k).map f):¬ (L.map f).Nodup:=fun hn=>by
 have hk:=(List.getElem?_eq_some_iff.1 hx).1
 rw [<- List.take_append_drop k L,List.map_append] at hn
 have h2:f x∈(L.drop k).map f:=List.mem_map.2 ⟨x,List.mem_of_getElem? (i:=0) (by rw [List.getElem?_drop,Nat.add_zero];exact hx),rfl⟩
 exact (List.nodup_append.1 hn).2.2 _ hm _ h2 rfl
theorem Fy {l:List Int}{x:Int}(h:l.Nodup)(hx:¬ x∈l):(l++[x]).Nodup:=by
 rw [List.nodup_append]
 exact ⟨h,(List.nodup_cons.2 ⟨(by simp),List.nodup_nil⟩),fun a ha b hb e=>hx (by rw [List.mem_singleton.1 hb] at e;rw [<- e];exact ha)⟩
section
variable {r:aC} {k:Nat} {x:Held} {seen ts:List Int}
theorem Nt (hx:r.Held[k]? = some x)(h:cJ r.ao x.ak<0):dX r=false:=gu fun hw=>by
 have:=hw.eP x (List.mem_of_getElem? hx);omega
theorem QN (hx:r.Held[k]? = some x)(hs:seen=(r.Held.take k).map Held.ak)(h:x.ak∈seen):dX r=false:=gu fun hw=>QM hx (hs▸h) hw.once
theorem IC (ht:ts=(r.Things.take k).map aE.ID)(hk:r.Things.length<=k)(h:¬ ts=bU r.ao):dX r=false:=gu fun hw=>h (by rw [ht,List.take_of_length_le hk];exact hw.things)
theorem Tn {x:ak}(hx:r.ao[r.ao.length-1]? = some x)(h:¬ x.ID<r.ae):dX r=false:=gu fun hw=>h (hw.OG x (by rw [List.getLast?_eq_getElem?];exact hx))
theorem D3 {α β:Type}{f:α->β}{L:List α}{y:β}(h:(L.map f)[(L.map f).length-1]? = some y):∃x,L.getLast? = some x/\f x=y:=by
 rw [List.getElem?_map,List.length_map,<- List.getLast?_eq_getElem?] at h
 obtain ⟨x,h1,h2⟩:=Option.map_eq_some_iff.1 h
 exact ⟨x,h1,h2⟩
theorem OM {y:Int}(ht:ts=(r.Things.take k).map aE.ID)(hk:r.Things.length<=k)(hy:ts[ts.length-1]? = some y)(h:¬ y<r.ah):dX r=false:=gu fun hw=>by
 subst ht;rw [List.take_of_length_le hk] at hy
 obtain ⟨x,h1,h2⟩:=D3 hy
 exact h (h2▸hw.OH x h1)
theorem B6 (a1:ec r.ao=0)(a2:r.Things.length<=10)(a3:1<=r.ae/\r.ae<=1000)(a5:1<=r.ah/\r.ah<=1000)(a7:r.Held.length=r.ao.length){i:Nat}(hs:seen=(r.Held.take i).map Held.ak)(hi:r.Held.length<=i)
 (hf:∀h∈r.Held.take i,0<=cJ r.ao h.ak) (hn:seen.Nodup) (ht:ts=(r.Things.take k).map aE.ID) (hk:r.Things.length<=k) (he:ts=bU r.ao) (hw:r.ao.length=0 ∨ ∃x,r.ao[r.ao.length-1]? = some x/\x.ID<r.ae) (hl:ts.length=0 ∨ ∃y,ts[ts.length-1]? = some y/\y<r.ah):dX r=true:=by
 rw [List.take_of_length_le hi] at hs hf
 rw [List.take_of_length_le hk] at ht
 refine yl ⟨a1,a2,a3.1,a3.2,a5.1,a5.2,a7,hf,hs▸hn,ht.symm.trans he,fun w hq=>?_,fun t hq=>?_⟩
 .
  rcases hw with hw|⟨x,h1,h2⟩
  .rw [List.eq_nil_of_length_eq_zero hw] at hq;cases hq
  .rw [List.getLast?_eq_getElem?,h1] at hq;injection hq with hq;rw [<- hq];exact h2
 .
  rcases hl with hl|⟨y,h1,h2⟩
  .rw [ht,List.length_map] at hl;rw [List.eq_nil_of_length_eq_zero hl] at hq;cases hq
  .
   subst ht
   obtain ⟨x,h3,h4⟩:=D3 h1
   rw [h3] at hq;injection hq with hq;rw [<- hq,h4];exact h2
end
theorem IE (bS bK bL bM:Value)(r:aC)(w:World)(own:List Nat)(H:HN w own [] [ag.ls bS r.ao,ag.ls bK r.Things,ag.ls bL r.Held,ag.ls bM r.Notes])(hr:r.ao.length<=1000/\r.Things.length<=1000/\r.Held.length<=1000):RC Tryz.prog 90 #[.agg #[bS,bK,bL,bM,iV r.ae,iV r.ah]] H (fun _:Unit => .bool (dX r)) (fun _=>[]) (fun _=>[]):=by
 have eJ:=H.cq 0 rfl
 have dN:=H.cq 1 rfl
 have fH:=H.cq 2 rfl
 have eK:=H.cq 3 rfl
 refine R.bD [(0,.agg #[bS,bK,bL,bM,iV r.ae,iV r.ah])] Tryz.func90 O O O O H<|R.reg O<|R.s O (s.box O O O) fun b1=>?_
 refine R.u 1 O<|R.nil<|R.reg O<|R.q (q.aO O bg O) O<|R.q (q.ld 0 O O bT O) O<|R.c (q.call Pv O O (fun w hw=>(yR _ r.ao w (hw.bG 0 O) ))) O<|?_
 by_cases h1:ec r.ao=0
 .
  refine R.q (q.dx O O Tryz.underlying38) O<|R.u 1 O<|R.qg O (q.aO O cz O) O<|R.qg O (q.ld 0 O O dD O) O<|R.qg O (q.len' (dy 1 O) O Tryz.underlying44) O<|?_
  by_cases h2:10<r.Things.length
  .
   refine R.qg O (q.eL O O) O<|R.u 30 O<|R.nil<|R.av O O<|R.reg O<|R.u 1 O<|R.nil ?_
   have hz:dX r=false:=by (exact gu (fun hw=>by have a1:ec r.ao=0:=hw.tree;have a2:=hw.jr;have a3:=hw.o0;have a4:=hw.rl;have a5:=hw.pG;have a6:=hw.pH;have a7:=hw.hlen;omega))
   rw [hz]
   exact R.w1 () [1] [] O Tryz.results90 (RV.tmp O) O O O O
  refine R.qg O (q.eo O O) O<|R.u 2 O<|R.qg O (q.aO O cL O) O<|R.qg O (q.ld 0 O O au O) O<|?_
  by_cases h3:r.ae<1
  .
   refine R.qg O (q.dz O O) O<|R.u 25 O<|R.nil<|R.av O O<|R.reg O<|R.u 1 O<|R.nil ?_
   have hz:dX r=false:=by (exact gu (fun hw=>by have a1:ec r.ao=0:=hw.tree;have a2:=hw.jr;have a3:=hw.o0;have a4:=hw.rl;have a5:=hw.pG;have a6:=hw.pH;have a7:=hw.hlen;omega))
   rw [hz]
   exact R.w1 () [1] [] O Tryz.results90 (RV.tmp O) O O O O
  refine R.qg O (q.cW O O) O<|R.u 2 O<|R.qg O (q.aO O cL O) O<|R.qg O (q.ld 0 O O au O) O<|?_
  by_cases h4:1000<r.ae
  .
   refine R.qg O (q.eL O O) O<|R.u 20 O<|R.nil<|R.av O O<|R.reg O<|R.u 1 O<|R.nil ?_
   have hz:dX r=false:=by (exact gu (fun hw=>by have a1:ec r.ao=0:=hw.tree;have a2:=hw.jr;have a3:=hw.o0;have a4:=hw.rl;have a5:=hw.pG;have a6:=hw.pH;have a7:=hw.hlen;omega))
   rw [hz]
   exact R.w1 () [1] [] O Tryz.results90 (RV.tmp O) O O O O
  refine R.qg O (q.eo O O) O<|R.u 2 O<|R.qg O (q.aO O dP O) O<|R.qg O (q.ld 0 O O au O) O<|?_
  by_cases h5:r.ah<1
  .
   refine R.qg O (q.dz O O) O<|R.u 15 O<|R.nil<|R.av O O<|R.reg O<|R.u 1 O<|R.nil ?_
   have hz:dX r=false:=by (exact gu (fun hw=>by have a1:ec r.ao=0:=hw.tree;have a2:=hw.jr;have a3:=hw.o0;have a4:=hw.rl;have a5:=hw.pG;have a6:=hw.pH;have a7:=hw.hlen;omega))
   rw [hz]
   exact R.w1 () [1] [] O Tryz.results90 (RV.tmp O) O O O O
  refine R.qg O (q.cW O O) O<|R.u 2 O<|R.qg O (q.aO O dP O) O<|R.qg O (q.ld 0 O O au O) O<|?_
  by_cases h6:1000<r.ah
  .
   refine R.qg O (q.eL O O) O<|R.u 10 O<|R.nil<|R.av O O<|R.reg O<|R.u 1 O<|R.nil ?_
   have hz:dX r=false:=by (exact gu (fun hw=>by have a1:ec r.ao=0:=hw.tree;have a2:=hw.jr;have a3:=hw.o0;have a4:=hw.rl;have a5:=hw.pG;have a6:=hw.pH;have a7:=hw.hlen;omega))
   rw [hz]
   exact R.w1 () [1] [] O Tryz.results90 (RV.tmp O) O O O O
  refine R.qg O (q.eo O O) O<|R.u 2 O<|R.qg O (q.aO O cB O) O<|R.qg O (q.ld 0 O O dE O) O<|R.qg O (q.len' (dy 2 O) O Tryz.underlying45) O<|R.qg O (q.aO O bg O) O<|R.qg O (q.ld 0 O O bT O) O<|R.qg O (q.len' (dy 0 O) O Tryz.underlying43) O<|?_
  by_cases h7:r.Held.length=r.ao.length
  .
   refine R.qg O (q.lL O O) O<|R.u 1 O<|R.nil<|R.aB O O<|R.reg O<|R.u 1 O<|R.nil<|R.reg O<|R.q (q.aO O cB O) O<|R.q (q.ld 0 O O dE O) O<|R.q (q.len' (dy 2 O) O Tryz.underlying45) O<|R.u 1 O<|R.nil<|R.row0 (α:=Int) 3<|R.loop (fun g_:Nat×Value×(List Int)=>[(1,.pointer (some ⟨b1,0,none⟩)),(3,g_.2.1),(49,bL),(50,iV (r.Held.length:Int)),(51,iV (g_.1:Int))]) (fun g_=>[ag.row 3 g_.2.1 g_.2.2,ag.box b1 [bS,bK,bL,bM,iV r.ae,iV r.ah] 48,ag.held w own]) (fun g_=>[ag.ls bS r.ao,ag.ls bK r.Things,ag.ls bL r.Held,ag.ls bM r.Notes]) (fun g_=>g_.1<=r.Held.length/\g_.2.2=(r.Held.take g_.1).map Held.ak/\(∀h∈r.Held.take g_.1,0<=cJ r.ao h.ak)/\g_.2.2.Nodup) (fun g_=>r.Held.length-g_.1) (0,(nS),[]) O (by exact ⟨by omega,rfl,(by intro h hh;simp at hh),List.nodup_nil⟩) (sF O) (ic [0,1,2] bJ O) ?_
   rintro ⟨k,u,seen⟩ ⟨hk,HS,HF,HN⟩
   dsimp only at *
   have ll:seen.length<=1000:=by rw [HS,List.length_map,List.length_take];omega
   refine R.reg O<|?_
   by_cases h8:k<r.Held.length
   .
    refine R.q (q.dz O O) O<|R.nil<|R.av O O<|R.reg O<|?_
    obtain ⟨x1,hx1⟩:∃z,r.Held[k]? = some z:=⟨_,List.getElem?_eq_getElem (by omega)⟩
    refine R.q (q.idx (i:=k) (dy 2 O) O O cK O hx1) O<|R.q (q.eS (ds:=lJ x1) (dy 2 O) hx1 O eV O) O<|R.s O (s.alloc gY O O) fun b2=>?_
    refine R.s O (s.st 0 _ O O O O (.inl eV) O O O O) fun _=>?_
    refine R.nil<|R.reg O<|R.q (q.aO O bg O) O<|R.q (q.ld 2 O O bT O) O<|R.q (q.aO O jS O) O<|R.q (q.ld 0 O O au O) O<|?_
    rcases fk r.ao x1.ak with ⟨gU,Eu⟩ | ⟨Dn,lY,gU,vo,S1⟩
    .
     refine R.c (q.call lM O O (fun w hw=>(cv (congrArg (Value.int .i64) gU) (iD _ r.ao x1.ak w (hw.bG 0 O) )))) O<|R.q (q.lss (b:=true) O O (by decide)) O<|R.u 6 O<|R.nil ?_
     refine R.av O O<|R.reg O<|R.u 1 O<|R.nil ?_
     have hz:dX r=false:=by (exact Nt hx1 (by omega))
     rw [hz]
     exact R.w1 () [3] [] O Tryz.results90 (RV.tmp O) O O O O
    refine R.c (q.call lM O O (fun w hw=>(cv (congrArg (Value.int .i64) gU) (iD _ r.ao x1.ak w (hw.bG 0 O) )))) O<|R.q (q.cW O O) O<|R.u 2 O<|R.qg O (q.aO O jS O) O<|R.qg O (q.ld 0 O O au O) O<|?_
    rcases Bool.eq_false_or_eq_true (decide (x1.ak∈seen)) with h9|h9
    .
     refine R.cg O (q.call pX O O (fun w hw=>(cv (congrArg Value.bool h9) (fO _ seen x1.ak w (hw.row 1 O) )))) O<|R.u 1 O<|R.nil<|R.av O O<|R.reg O<|R.u 1 O<|R.nil ?_
     have hz:dX r=false:=by (exact QN hx1 HS (of_decide_eq_true ‹_›))
     rw [hz]
     exact R.w1 () [3] [] O Tryz.results90 (RV.tmp O) O O O O
    refine R.cg O (q.call pX O O (fun w hw=>(cv (congrArg Value.bool h9) (fO _ seen x1.ak w (hw.row 1 O) )))) O<|R.u 1 O<|R.nil<|R.aB O O<|R.reg O<|R.u 1 O<|R.q (q.aO O jS O) O<|R.q (q.ld 0 O O au O) O<|R.s O (s.bs (l:=([x1.ak]:List Int)) df lW O O O O O O O) fun b3=>?_
    refine R.s O (s.app 2 _ O O O (bC 0 O) nQ (by (simp;omega)) (by (simp;omega)) (fun _=>rfl) O) fun v1=>?_
    refine R.u 1 O<|R.nil<|R.reg O<|R.q (q.bB (r:=((k+1:Nat):Int)) O O) O<|R.u 1 O<|R.nil<|R.back (k+1,v1,(seen++([x1.ak]))) O (by (exact ⟨by omega,by rw [qy Held.ak hx1,<- HS],(by rw [List.take_add_one,hx1];intro h hh;rcases List.mem_append.1 hh with hh|hh;exact HF h hh;rw [List.mem_singleton.1 hh];omega),Fy HN (of_decide_eq_false ‹_›)⟩)) (by dsimp only;omega) (sF O) (aD [2,3,4] bJ O)
   refine R.q (q.cW O O) O<|R.nil<|R.aB O O<|R.reg O<|R.u 1 O<|R.nil<|R.reg O<|R.q (q.aO O cz O) O<|R.q (q.ld 1 O O dD O) O<|R.q (q.len' (dy 1 O) O Tryz.underlying44) O<|R.u 1 O<|R.nil<|R.row0 (α:=Int) 3<|R.loop (fun g_:Nat×Value×(List Int)=>[(1,.pointer (some ⟨b1,0,none⟩)),(6,g_.2.1),(74,bK),(75,iV (r.Things.length:Int)),(76,iV (g_.1:Int))]) (fun g_=>[ag.row 3 g_.2.1 g_.2.2,ag.row 3 u seen,ag.box b1 [bS,bK,bL,bM,iV r.ae,iV r.ah] 48,ag.held w own]) (fun g_=>[ag.ls bS r.ao,ag.ls bK r.Things,ag.ls bL r.Held,ag.ls bM r.Notes]) (fun g_=>g_.1<=r.Things.length/\g_.2.2=(r.Things.take g_.1).map aE.ID) (fun g_=>r.Things.length-g_.1) (0,(nS),[]) O (by exact ⟨by omega,rfl⟩) (sF O) (ic bJ bJ O) ?_
   rintro ⟨j,u2,ts⟩ ⟨hj,HT⟩
   dsimp only at *
   have Vb:ts.length<=1000:=by rw [HT,List.length_map,List.length_take];omega
   refine R.reg O<|?_
   by_cases h10:j<r.Things.length
   .
    refine R.q (q.dz O O) O<|R.nil<|R.av O O<|R.reg O<|?_
    obtain ⟨x2,hx2⟩:∃z,r.Things[j]? = some z:=⟨_,List.getElem?_eq_getElem (by omega)⟩
    refine R.q (q.idx (i:=j) (dy 1 O) O O iM O hx2) O<|R.q (q.eS (ds:=mU x2) (dy 1 O) hx2 O gx O) O<|R.s O (s.alloc ju O O) fun b4=>?_
    refine R.s O (s.st 0 _ O O O O (.inl gx) O O O O) fun _=>?_
    refine R.nil<|R.reg O<|R.u 1 O<|R.q (q.aO O oB O) O<|R.q (q.ld 0 O O au O) O<|R.s O (s.bs (l:=([x2.ID]:List Int)) df lW O O O O O O O) fun b5=>?_
    refine R.s O (s.app 2 _ O O O (bC 0 O) nQ (by (simp;omega)) (by (simp;omega)) (fun _=>rfl) O) fun v2=>?_
    refine R.u 1 O<|R.nil<|R.reg O<|R.q (q.bB (r:=((j+1:Nat):Int)) O O) O<|R.u 1 O<|R.nil<|R.back (j+1,v2,(ts++([x2.ID]))) O (by (exact ⟨by omega,by rw [qy aE.ID hx2,<- HT]⟩)) (by dsimp only;omega) (sF O) (aD [2,3,4,5] bJ O)
   refine R.q (q.cW O O) O<|R.nil<|R.aB O O<|R.reg O<|R.u 1 O<|R.q (q.aO O bg O) O<|R.q (q.ld 2 O O bT O) O<|R.s O (s.vW Jq O O (fun w hw=>uS _ r.ao w (hw.bG 0 O) (by omega)) O) fun v3=>?_
   rcases Bool.eq_false_or_eq_true (decide (ts=(bU r.ao))) with h11|h11
   .
    refine R.c (q.call Jx O O (fun w hw=>(cv (congrArg Value.bool h11) (yt _ ts _ (bU r.ao) w (hw.row 1 O) (hw.row 0 O) )))) O<|R.u 1 O<|R.nil ?_
    refine R.aB O O ?_
    by_cases h12:r.ao.length=0
    .
     by_cases UV:ts.length=0
     .
      refine R.eu O mixed (by kernel_rfl)<|Q.q (q.aO O bg O) O<|Q.q (q.ld 3 O O bT O) O<|Q.q (q.len' (dy 0 O) O Tryz.underlying43) O<|Q.q (q.fI O O) O<|Q.u 16 O<|Q.qg O (q.len' (bC 1 O) O Tryz.underlying159) O<|Q.qg O (q.fI O O) O<|Q.u 13 O<|Q.nil ?_
      have hz:dX r=true:=by (exact B6 (by omega) (by omega) (by omega) (by omega) (by omega) HS (by omega) HF HN HT (by omega) (of_decide_eq_true ‹_›) (.inl (by omega)) (.inl (by omega)))
      rw [hz]
      exact R.w1 () [4] [] O Tryz.results90 (RV.tmp O) O O O O
     obtain ⟨x3,hx3⟩:∃z,ts[(ts.length-1)]? = some z:=⟨_,List.getElem?_eq_getElem (by omega)⟩
     by_cases UW:x3<r.ah
     .
      refine R.eu O mixed (by kernel_rfl)<|Q.q (q.aO O bg O) O<|Q.q (q.ld 3 O O bT O) O<|Q.q (q.len' (dy 0 O) O Tryz.underlying43) O<|Q.q (q.fI O O) O<|Q.u 16 O<|Q.qg O (q.len' (bC 1 O) O Tryz.underlying159) O<|Q.qg O (q.e9 O O) O<|Q.u 3 O<|Q.qg O (q.len' (bC 1 O) O Tryz.underlying159) O<|Q.qg O (q.lV (r:=((ts.length-1:Nat):Int)) O O) O<|Q.qg O (q.idx (i:=(ts.length-1)) (bC 1 O) O O df O hx3) O<|Q.qg O (q.lw (bC 1 O) hx3 O au O) O<|Q.qg O (q.aO O dP O) O<|Q.qg O (q.ld 3 O O au O) O<|Q.qg O (q.dz O O) O<|Q.u 3 O<|Q.nil ?_
      have hz:dX r=true:=by (exact B6 (by omega) (by omega) (by omega) (by omega) (by omega) HS (by omega) HF HN HT (by omega) (of_decide_eq_true ‹_›) (.inl (by omega)) (.inr ⟨_,hx3,by assumption⟩))
      rw [hz]
      exact R.w1 () [4] [] O Tryz.results90 (RV.tmp O) O O O O
     refine R.eu O mixed (by kernel_rfl)<|Q.q (q.aO O bg O) O<|Q.q (q.ld 3 O O bT O) O<|Q.q (q.len' (dy 0 O) O Tryz.underlying43) O<|Q.q (q.fI O O) O<|Q.u 16 O<|Q.qg O (q.len' (bC 1 O) O Tryz.underlying159) O<|Q.qg O (q.e9 O O) O<|Q.u 3 O<|Q.qg O (q.len' (bC 1 O) O Tryz.underlying159) O<|Q.qg O (q.lV (r:=((ts.length-1:Nat):Int)) O O) O<|Q.qg O (q.idx (i:=(ts.length-1)) (bC 1 O) O O df O hx3) O<|Q.qg O (q.lw (bC 1 O) hx3 O au O) O<|Q.qg O (q.aO O dP O) O<|Q.qg O (q.ld 3 O O au O) O<|Q.qg O (q.cW O O) O<|Q.u 3 O<|Q.nil ?_
     have hz:dX r=false:=by (exact OM HT (by omega) hx3 ‹_›)
     rw [hz]
     exact R.w1 () [4] [] O Tryz.results90 (RV.tmp O) O O O O
    obtain ⟨x4,hx4⟩:∃z,r.ao[(r.ao.length-1)]? = some z:=⟨_,List.getElem?_eq_getElem (by omega)⟩
    by_cases UX:x4.ID<r.ae
    .
     by_cases h16:ts.length=0
     .
      refine R.eu O mixed (by kernel_rfl)<|Q.q (q.aO O bg O) O<|Q.q (q.ld 3 O O bT O) O<|Q.q (q.len' (dy 0 O) O Tryz.underlying43) O<|Q.q (q.e9 O O) O<|Q.u 1 O<|Q.qg O (q.aO O bg O) O<|Q.qg O (q.ld 3 O O bT O) O<|Q.qg O (q.aO O bg O) O<|Q.qg O (q.ld 3 O O bT O) O<|Q.qg O (q.len' (dy 0 O) O Tryz.underlying43) O<|Q.qg O (q.lV (r:=((r.ao.length-1:Nat):Int)) O O) O<|Q.qg O (q.idx (i:=(r.ao.length-1)) (dy 0 O) O O dK O hx4) O<|Q.qg O (q.nI (j':=0) (dy 0 O) hx4 O bV O) O<|Q.qg O (q.lw (dy 0 O) hx4 O au O) O<|Q.qg O (q.aO O cL O) O<|Q.qg O (q.ld 3 O O au O) O<|Q.qg O (q.dz O O) O<|Q.u 3 O<|Q.qg O (q.len' (bC 1 O) O Tryz.underlying159) O<|Q.qg O (q.fI O O) O<|Q.u 13 O<|Q.nil ?_
      have hz:dX r=true:=by (exact B6 (by omega) (by omega) (by omega) (by omega) (by omega) HS (by omega) HF HN HT (by omega) (of_decide_eq_true ‹_›) (.inr ⟨_,hx4,by assumption⟩) (.inl (by omega)))
      rw [hz]
      exact R.w1 () [4] [] O Tryz.results90 (RV.tmp O) O O O O
     obtain ⟨x5,hx5⟩:∃z,ts[(ts.length-1)]? = some z:=⟨_,List.getElem?_eq_getElem (by omega)⟩
     by_cases UY:x5<r.ah
     .
      refine R.eu O mixed (by kernel_rfl)<|Q.q (q.aO O bg O) O<|Q.q (q.ld 3 O O bT O) O<|Q.q (q.len' (dy 0 O) O Tryz.underlying43) O<|Q.q (q.e9 O O) O<|Q.u 1 O<|Q.qg O (q.aO O bg O) O<|Q.qg O (q.ld 3 O O bT O) O<|Q.qg O (q.aO O bg O) O<|Q.qg O (q.ld 3 O O bT O) O<|Q.qg O (q.len' (dy 0 O) O Tryz.underlying43) O<|Q.qg O (q.lV (r:=((r.ao.length-1:Nat):Int)) O O) O<|Q.qg O (q.idx (i:=(r.ao.length-1)) (dy 0 O) O O dK O hx4) O<|Q.qg O (q.nI (j':=0) (dy 0 O) hx4 O bV O) O<|Q.qg O (q.lw (dy 0 O) hx4 O au O) O<|Q.qg O (q.aO O cL O) O<|Q.qg O (q.ld 3 O O au O) O<|Q.qg O (q.dz O O) O<|Q.u 3 O<|Q.qg O (q.len' (bC 1 O) O Tryz.underlying159) O<|Q.qg O (q.e9 O O) O<|Q.u 3 O<|Q.qg O (q.len' (bC 1 O) O Tryz.underlying159) O<|Q.qg O (q.lV (r:=((ts.length-1:Nat):Int)) O O) O<|Q.qg O (q.idx (i:=(ts.length-1)) (bC 1 O) O O df O hx5) O<|Q.qg O (q.lw (bC 1 O) hx5 O au O) O<|Q.qg O (q.aO O dP O) O<|Q.qg O (q.ld 3 O O au O) O<|Q.qg O (q.dz O O) O<|Q.u 3 O<|Q.nil ?_
      have hz:dX r=true:=by (exact B6 (by omega) (by omega) (by omega) (by omega) (by omega) HS (by omega) HF HN HT (by omega) (of_decide_eq_true ‹_›) (.inr ⟨_,hx4,by assumption⟩) (.inr ⟨_,hx5,by assumption⟩))
      rw [hz]
      exact R.w1 () [4] [] O Tryz.results90 (RV.tmp O) O O O O
     refine R.eu O mixed (by kernel_rfl)<|Q.q (q.aO O bg O) O<|Q.q (q.ld 3 O O bT O) O<|Q.q (q.len' (dy 0 O) O Tryz.underlying43) O<|Q.q (q.e9 O O) O<|Q.u 1 O<|Q.qg O (q.aO O bg O) O<|Q.qg O (q.ld 3 O O bT O) O<|Q.qg O (q.aO O bg O) O<|Q.qg O (q.ld 3 O O bT O) O<|Q.qg O (q.len' (dy 0 O) O Tryz.underlying43) O<|Q.qg O (q.lV (r:=((r.ao.length-1:Nat):Int)) O O) O<|Q.qg O (q.idx (i:=(r.ao.length-1)) (dy 0 O) O O dK O hx4) O<|Q.qg O (q.nI (j':=0) (dy 0 O) hx4 O bV O) O<|Q.qg O (q.lw (dy 0 O) hx4 O au O) O<|Q.qg O (q.aO O cL O) O<|Q.qg O (q.ld 3 O O au O) O<|Q.qg O (q.dz O O) O<|Q.u 3 O<|Q.qg O (q.len' (bC 1 O) O Tryz.underlying159) O<|Q.qg O (q.e9 O O) O<|Q.u 3 O<|Q.qg O (q.len' (bC 1 O) O Tryz.underlying159) O<|Q.qg O (q.lV (r:=((ts.length-1:Nat):Int)) O O) O<|Q.qg O (q.idx (i:=(ts.length-1)) (bC 1 O) O O df O hx5) O<|Q.qg O (q.lw (bC 1 O) hx5 O au O) O<|Q.qg O (q.aO O dP O) O<|Q.qg O (q.ld 3 O O au O) O<|Q.qg O (q.cW O O) O<|Q.u 3 O<|Q.nil ?_
     have hz:dX r=false:=by (exact OM HT (by omega) hx5 ‹_›)
     rw [hz]
     exact R.w1 () [4] [] O Tryz.results90 (RV.tmp O) O O O O
    refine R.eu O mixed (by kernel_rfl)<|Q.q (q.aO O bg O) O<|Q.q (q.ld 3 O O bT O) O<|Q.q (q.len' (dy 0 O) O Tryz.underlying43) O<|Q.q (q.e9 O O) O<|Q.u 1 O<|Q.qg O (q.aO O bg O) O<|Q.qg O (q.ld 3 O O bT O) O<|Q.qg O (q.aO O bg O) O<|Q.qg O (q.ld 3 O O bT O) O<|Q.qg O (q.len' (dy 0 O) O Tryz.underlying43) O<|Q.qg O (q.lV (r:=((r.ao.length-1:Nat):Int)) O O) O<|Q.qg O (q.idx (i:=(r.ao.length-1)) (dy 0 O) O O dK O hx4) O<|Q.qg O (q.nI (j':=0) (dy 0 O) hx4 O bV O) O<|Q.qg O (q.lw (dy 0 O) hx4 O au O) O<|Q.qg O (q.aO O cL O) O<|Q.qg O (q.ld 3 O O au O) O<|Q.qg O (q.cW O O) O<|Q.u 18 O<|Q.nil ?_
    have hz:dX r=false:=by (exact Tn hx4 ‹_›)
    rw [hz]
    exact R.w1 () [4] [] O Tryz.results90 (RV.tmp O) O O O O
   refine R.c (q.call Jx O O (fun w hw=>(cv (congrArg Value.bool h11) (yt _ ts _ (bU r.ao) w (hw.row 1 O) (hw.row 0 O) )))) O<|R.u 1 O<|R.nil ?_
   refine R.av O O<|R.reg O<|R.u 1 O<|R.nil ?_
   have hz:dX r=false:=by (exact IC HT (by omega) (of_decide_eq_false ‹_›))
   rw [hz]
   exact R.w1 () [4] [] O Tryz.results90 (RV.tmp O) O O O O
  refine R.qg O (q.lK O O) O<|R.u 1 O<|R.nil<|R.av O O<|R.reg O<|R.u 1 O<|R.nil ?_
  have hz:dX r=false:=by (exact gu (fun hw=>by have a1:ec r.ao=0:=hw.tree;have a2:=hw.jr;have a3:=hw.o0;have a4:=hw.rl;have a5:=hw.pG;have a6:=hw.pH;have a7:=hw.hlen;omega))
  rw [hz]
  exact R.w1 () [1] [] O Tryz.results90 (RV.tmp O) O O O O
 refine R.q (q.d9 O O Tryz.underlying38) O<|R.u 35 O<|R.nil<|R.av O O<|R.reg O<|R.u 1 O<|R.nil ?_
 have hz:dX r=false:=by (exact gu (fun hw=>by have a1:ec r.ao=0:=hw.tree;have a2:=hw.jr;have a3:=hw.o0;have a4:=hw.rl;have a5:=hw.pG;have a6:=hw.pH;have a7:=hw.hlen;omega))
 rw [hz]
 exact R.w1 () [1] [] O Tryz.results90 (RV.tmp O) O O O O
def prevK (l:List Change)(k:Nat):Option ByteArray:=if k=0 then none else (l[k-1]?).map Change.Key
section
variable {l:List Change} {k:Nat} {x y:Change} {z:aC} {Z:Option aC}
theorem D4 (hx:l[k]? = some x):l.drop k=x::l.drop (k+1):=by
 obtain ⟨h,rfl⟩:=List.getElem?_eq_some_iff.1 hx
 exact List.drop_eq_getElem_cons h
theorem D5 (h:¬ 0<k):sB (prevK l k) x=true:=by unfold prevK;rw [if_pos (by omega)];rfl
theorem D6 (h:0<k)(hy:l[k-1]? = some y)(hl:(jB x.Key y.Key||decide (x.Key=y.Key))=false):sB (prevK l k) x=true:=by
 unfold prevK;rw [if_neg (by omega),hy];exact Qb hl
theorem Nu (h:0<k)(hy:l[k-1]? = some y)(hl:(jB x.Key y.Key||decide (x.Key=y.Key))=true):sB (prevK l k) x=false:=by
 unfold prevK;rw [if_neg (by omega),hy];exact MF hl
theorem OO (h:x.Gone=false):(⟨x.Key,x.Val,false⟩:Change)=x:=by rw [<- h]
theorem vP (h:pgo (l.drop k) (prevK l k) z=Z)(hx:l[k]? = some x)(h1:sB (prevK l k) x=true)(h2:x.Gone=false)(h3:(rowP z ⟨x.Key,x.Val,false⟩).2=true):pgo (l.drop (k+1)) (prevK l (k+1)) (rowP z ⟨x.Key,x.Val,false⟩).1=Z:=by
 rw [OO h2] at h3 ⊢
 rw [D4 hx] at h;simp only [pgo] at h
 rw [if_pos (by rw [h1,h2,h3];rfl)] at h
 unfold prevK;rw [if_neg (by omega),Nat.add_sub_cancel,hx];exact h
theorem o8 (h:pgo (l.drop k) (prevK l k) z=pgo l none r0)(hx:l[k]? = some x)(h1:sB (prevK l k) x=false∨x.Gone=true∨x.Gone=false/\(rowP z ⟨x.Key,x.Val,false⟩).2=false):cr l=(r0,4):=by
 rw [D4 hx] at h;simp only [pgo] at h
 rw [if_neg (by
  rcases h1 with e|e|⟨e1,e⟩
  .rw [e];simp
  .rw [e];simp
  .rw [OO e1] at e;rw [e];simp)] at h
 unfold cr;rw [<- h]
theorem LG (h:pgo (l.drop k) (prevK l k) z=pgo l none r0)(hk:l.length<=k):pgo l none r0=some z:=by
 rw [List.drop_of_length_le hk] at h;exact h.symm
theorem QO (h:pgo (l.drop k) (prevK l k) z=pgo l none r0)(hk:l.length<=k)(hw:dX z=false):cr l=(r0,4):=by
 unfold cr;rw [LG h hk];dsimp only;rw [if_neg (by rw [hw];decide)]
theorem Tp (h:pgo (l.drop k) (prevK l k) z=pgo l none r0)(hk:l.length<=k)(hw:dX z=true):cr l=(z,0):=by
 unfold cr;rw [LG h hk];dsimp only;rw [if_pos hw]
theorem tK (z:aC)(x:Change):(rowP z x).1.ao.length<=z.ao.length+1/\(rowP z x).1.Things.length<=z.Things.length+1/\(rowP z x).1.Held.length<=z.Held.length+1:=by
 unfold rowP
 (repeat' split) <;> dsimp only <;> (repeat' split) <;> simp [Iu,Iv,DK,Ng] <;> omega
end
attribute [local irreducible] rowP pgo cr
theorem IG (bP:Value)(l:List Change)(w:World)(own:List Nat)(H:HN w own [] [ag.ls bP l,eC])(hl:l.length<=900)(hc:∀c∈l,c.Key.size<=1000/\c.Val.size<=1000):RC Tryz.prog 37 #[bP] H (fun z:Value×Value×Value×Value => .tuple #[.agg #[z.1,z.2.1,z.2.2.1,z.2.2.2,iV (cr l).1.ae,iV (cr l).1.ah],da (cr l).2]) (fun _=>[]) (fun z=>[ag.ls z.1 (cr l).1.ao,ag.ls z.2.1 (cr l).1.Things,ag.ls z.2.2.1 (cr l).1.Held,ag.ls z.2.2.2 (cr l).1.Notes]):=by
 have yF:=H.cq 0 rfl
 refine R.bD [(0,bP)] Tryz.func37 O O O O H<|R.reg O<|R.s O (s.alloc dI O O) fun b1=>?_
 refine R.u 1 O<|R.nil<|R.reg O<|R.s O (s.alloc dI O O) fun b2=>?_
 refine R.nil<|R.reg O<|R.u 1 O<|R.q (q.len' (dy 0 O) O Tryz.underlying34) O<|R.u 1 O<|R.nil<|R.row0 (α:=ak) 127<|R.row0 (α:=aE) 100<|R.row0 (α:=Held) 124<|R.row0 (α:=Note) 89<|R.loop (fun g_:Nat×aC×Value×Value×Value×Value=>[(0,bP),(2,.pointer (some ⟨b1,0,none⟩)),(4,.pointer (some ⟨b2,0,none⟩)),(7,bP),(8,iV (l.length:Int)),(9,iV (g_.1:Int))]) (fun g_=>[ag.row 89 g_.2.2.2.2.2 g_.2.1.Notes,ag.row 124 g_.2.2.2.2.1 g_.2.1.Held,ag.row 100 g_.2.2.2.1 g_.2.1.Things,ag.row 127 g_.2.2.1 g_.2.1.ao,ag.box b2 [g_.2.2.1,g_.2.2.2.1,g_.2.2.2.2.1,g_.2.2.2.2.2,iV g_.2.1.ae,iV g_.2.1.ah] 48,ag.box b1 G8 48,ag.held w own]) (fun g_=>[ag.ls bP l,eC]) (fun g_=>g_.1<=l.length/\pgo (l.drop g_.1) (prevK l g_.1) g_.2.1=pgo l none r0/\g_.2.1.ao.length<=g_.1/\g_.2.1.Things.length<=g_.1/\g_.2.1.Held.length<=g_.1) (fun g_=>l.length-g_.1) (0,(⟨[],[],[],[],0,0⟩:aC),(nS),(nS),(nS),(nS)) O (by (try dsimp only);exact ⟨by omega,rfl,Nat.le_refl _,Nat.le_refl _,Nat.le_refl _⟩) (sF O) (ic mK [0,1] O) ?_
 rintro ⟨k,z,ru,ou,ux,rx⟩ ⟨hk,HP,WG,WH,WI⟩
 dsimp only at *
 refine R.reg O<|?_
 by_cases h1:k<l.length
 .
  refine R.q (q.dz O O) O<|R.nil<|R.av O O<|R.reg O<|R.u 1 O<|?_
  obtain ⟨x1,hx1⟩:∃z,l[k]? = some z:=⟨_,List.getElem?_eq_getElem (by omega)⟩
  have P8:=hc x1 (List.mem_of_getElem? hx1)
  refine R.q (q.idx (i:=k) (dy 0 O) O O cd O hx1) O<|R.q (q.eS (ds:=[.string x1.Key,.string x1.Val,.bool x1.Gone]) (dy 0 O) hx1 O aY O) O<|R.s O (s.alloc cI O O) fun b3=>?_
  refine R.u 1 O<|R.s O (s.st 0 _ O O O O (.inl aY) O O O O) fun _=>?_
  refine R.nil ?_
  by_cases h2:0<k
  .
   obtain ⟨x2,hx2⟩:∃z,l[(k-1)]? = some z:=⟨_,List.getElem?_eq_getElem (by omega)⟩
   have Wc:=hc x2 (List.mem_of_getElem? hx2)
   rcases Bool.eq_false_or_eq_true (jB x1.Key x2.Key||decide (x1.Key=x2.Key)) with h3|h3
   .
    refine R.eu O mixed (by kernel_rfl)<|Q.u 1 O<|Q.q (q.eL O O) O<|Q.u 1 O<|Q.qg O (q.aO O bI O) O<|Q.qg O (q.ld 0 O O bF O) O<|Q.u 2 O<|Q.qg O (q.lV (r:=((k-1:Nat):Int)) O O) O<|Q.qg O (q.idx (i:=(k-1)) (dy 0 O) O O cd O hx2) O<|Q.qg O (q.nI (j':=0) (dy 0 O) hx2 O bI O) O<|Q.qg O (q.lw (dy 0 O) hx2 O bF O) O<|Q.qg O (q.Mj O O h3) O<|Q.u 10 O<|Q.nil<|R.av O O<|R.reg O<|R.q (q.build ea O O) O<|R.q (q.iface O bm) O<|R.s O (s.st 6 _ O O O O (.inl aj) O O O O) fun _=>?_
    refine R.u 1 O<|R.nil<|R.mp (fun _ hw=>hw.a8 (α:=ak))<|R.mp (fun _ hw=>hw.a8 (α:=aE))<|R.mp (fun _ hw=>hw.a8 (α:=Held))<|R.mp (fun _ hw=>hw.a8 (α:=Note)) ?_
    have hz:cr l=((⟨[],[],[],[],0,0⟩:aC),4):=by (exact o8 HP hx1 (.inl (Nu (by omega) hx2 ‹_›)))
    rw [hz]
    exact R.w2 ((nS),(nS),(nS),(nS)) [7] gj O Tryz.results37 (RV.cell 6 O O aj) (RV.tmp O) O O O (dA O (dr (by decide) O))
   rcases Bool.eq_false_or_eq_true x1.Gone with h4|h4
   .
    rw [h4]
    refine R.eu O mixed (by kernel_rfl)<|Q.u 1 O<|Q.q (q.eL O O) O<|Q.u 1 O<|Q.qg O (q.aO O bI O) O<|Q.qg O (q.ld 0 O O bF O) O<|Q.u 2 O<|Q.qg O (q.lV (r:=((k-1:Nat):Int)) O O) O<|Q.qg O (q.idx (i:=(k-1)) (dy 0 O) O O cd O hx2) O<|Q.qg O (q.nI (j':=0) (dy 0 O) hx2 O bI O) O<|Q.qg O (q.lw (dy 0 O) hx2 O bF O) O<|Q.qg O (q.Mj O O h3) O<|Q.u 2 O<|Q.qg O (q.aO O gN O) O<|Q.qg O (q.ld 0 O O iW O) O<|Q.u 6 O<|Q.nil<|R.av O O<|R.reg O<|R.q (q.build ea O O) O<|R.q (q.iface O bm) O<|R.s O (s.st 6 _ O O O O (.inl aj) O O O O) fun _=>?_
    refine R.u 1 O<|R.nil<|R.mp (fun _ hw=>hw.a8 (α:=ak))<|R.mp (fun _ hw=>hw.a8 (α:=aE))<|R.mp (fun _ hw=>hw.a8 (α:=Held))<|R.mp (fun _ hw=>hw.a8 (α:=Note)) ?_
    have hz:cr l=((⟨[],[],[],[],0,0⟩:aC),4):=by (exact o8 HP hx1 (.inr (.inl ‹_›)))
    rw [hz]
    exact R.w2 ((nS),(nS),(nS),(nS)) [7] gj O Tryz.results37 (RV.cell 6 O O aj) (RV.tmp O) O O O (dA O (dr (by decide) O))
   rw [h4]
   rcases Bool.eq_false_or_eq_true (!((rowP z (⟨x1.Key,x1.Val,false⟩:Change)).2)) with h5|h5
   .
    refine R.fP (fuel:=22) [0,6,7] O O mixed O<|D.q (i:=0) O (aD [0,6,7] [0,1] O) O (q.mv O) O<|D.q (i:=1) O (aD [0,6,7] [0,1] O) O (q.eL O O) O<|D.q (i:=2) O (aD [0,6,7] [0,1] O) O (q.mv O) O<|D.q (i:=3) O (aD [0,6,7] [0,1] O) O (q.aO O bI O) O<|D.q (i:=4) O (aD [0,6,7] [0,1] O) O (q.ld 0 O O bF O) O<|D.q (i:=5) O (aD [0,6,7] [0,1] O) O (q.mv O) O<|D.q (i:=6) O (aD [0,6,7] [0,1] O) O (q.mv O) O<|D.q (i:=7) O (aD [0,6,7] [0,1] O) O (q.lV (r:=((k-1:Nat):Int)) O O) O<|D.q (i:=8) O (aD [0,6,7] [0,1] O) O (q.idx (i:=(k-1)) (dy 0 O) O O cd O hx2) O<|D.q (i:=9) O (aD [0,6,7] [0,1] O) O (q.nI (j':=0) (dy 0 O) hx2 O bI O) O<|D.q (i:=10) O (aD [0,6,7] [0,1] O) O (q.lw (dy 0 O) hx2 O bF O) O<|D.q (i:=11) O (aD [0,6,7] [0,1] O) O (q.Mj O O h3) O<|D.q (i:=12) O (aD [0,6,7] [0,1] O) O (q.FT O O) O<|D.q (i:=13) O (aD [0,6,7] [0,1] O) O (q.mv O) O<|D.q (i:=14) O (aD [0,6,7] [0,1] O) O (q.aO O gN O) O<|D.q (i:=15) O (aD [0,6,7] [0,1] O) O (q.ld 0 O O iW O) O<|D.q (i:=16) O (aD [0,6,7] [0,1] O) O (q.rJ O O) O<|D.q (i:=17) O (aD [0,6,7] [0,1] O) O (q.mv O) O<|D.q (i:=18) O (aD [0,6,7] [0,1] O) O (q.dh 0 O O aY) O<|D.one (i:=19) O<|Do.s (s.aW FQ [1] _ _ _ O O O Gb O O (fun w own hw H=>vO b2 ru ou ux rx z (⟨x1.Key,x1.Val,false⟩:Change) w own H ‹_› (by omega)) O) (fun _=>(aD [5,6,7] [0,1] O)) O ?_
    rintro ⟨z9,kY,lZ,z12⟩
    dsimp only
    refine D.q (i:=20) O (aD [5,6,7] [0,1] O) O (q.not O) O<|D.q (i:=21) O (aD [5,6,7] [0,1] O) O (q.rJ O O) O<|D.done<|R.cond O O (fun h6=>?_) (fun h6=>?_)
    .
     refine R.reg O<|R.q (q.build ea O O) O<|R.q (q.iface O bm) O<|R.s O (s.st 6 _ O O O O (.inl aj) O O O O) fun _=>?_
     refine R.u 1 O<|R.nil<|R.mp (fun _ hw=>hw.a8 (α:=ak))<|R.mp (fun _ hw=>hw.a8 (α:=aE))<|R.mp (fun _ hw=>hw.a8 (α:=Held))<|R.mp (fun _ hw=>hw.a8 (α:=Note)) ?_
     have hz:cr l=((⟨[],[],[],[],0,0⟩:aC),4):=by (exact o8 HP hx1 (.inr (.inr ⟨by assumption,by exact D1 ‹_›⟩)))
     rw [hz]
     exact R.w2 ((nS),(nS),(nS),(nS)) [7] gj O Tryz.results37 (RV.cell 6 O O aj) (RV.tmp O) O O O (dA O (dr (by decide) O))
    refine R.reg O<|R.q (q.bB (r:=((k+1:Nat):Int)) O O) O<|R.u 1 O<|R.nil<|R.back (k+1,(rowP z (⟨x1.Key,x1.Val,false⟩:Change)).1,z9,kY,lZ,z12) O (by ((try dsimp only);have zl:=tK z (⟨x1.Key,x1.Val,false⟩:Change);exact ⟨by omega,vP HP hx1 (by exact D6 (by omega) hx2 ‹_›) ‹_› (by exact D2 ‹_›),by omega,by omega,by omega⟩)) (by dsimp only;omega) (sF O) (aD [4,3,2,1,0,6,7] [0,1] O)
   refine R.fP (fuel:=22) [0,6,7] O O mixed O<|D.q (i:=0) O (aD [0,6,7] [0,1] O) O (q.mv O) O<|D.q (i:=1) O (aD [0,6,7] [0,1] O) O (q.eL O O) O<|D.q (i:=2) O (aD [0,6,7] [0,1] O) O (q.mv O) O<|D.q (i:=3) O (aD [0,6,7] [0,1] O) O (q.aO O bI O) O<|D.q (i:=4) O (aD [0,6,7] [0,1] O) O (q.ld 0 O O bF O) O<|D.q (i:=5) O (aD [0,6,7] [0,1] O) O (q.mv O) O<|D.q (i:=6) O (aD [0,6,7] [0,1] O) O (q.mv O) O<|D.q (i:=7) O (aD [0,6,7] [0,1] O) O (q.lV (r:=((k-1:Nat):Int)) O O) O<|D.q (i:=8) O (aD [0,6,7] [0,1] O) O (q.idx (i:=(k-1)) (dy 0 O) O O cd O hx2) O<|D.q (i:=9) O (aD [0,6,7] [0,1] O) O (q.nI (j':=0) (dy 0 O) hx2 O bI O) O<|D.q (i:=10) O (aD [0,6,7] [0,1] O) O (q.lw (dy 0 O) hx2 O bF O) O<|D.q (i:=11) O (aD [0,6,7] [0,1] O) O (q.Mj O O h3) O<|D.q (i:=12) O (aD [0,6,7] [0,1] O) O (q.FT O O) O<|D.q (i:=13) O (aD [0,6,7] [0,1] O) O (q.mv O) O<|D.q (i:=14) O (aD [0,6,7] [0,1] O) O (q.aO O gN O) O<|D.q (i:=15) O (aD [0,6,7] [0,1] O) O (q.ld 0 O O iW O) O<|D.q (i:=16) O (aD [0,6,7] [0,1] O) O (q.rJ O O) O<|D.q (i:=17) O (aD [0,6,7] [0,1] O) O (q.mv O) O<|D.q (i:=18) O (aD [0,6,7] [0,1] O) O (q.dh 0 O O aY) O<|D.one (i:=19) O<|Do.s (s.aW FQ [1] _ _ _ O O O Gb O O (fun w own hw H=>vO b2 ru ou ux rx z (⟨x1.Key,x1.Val,false⟩:Change) w own H ‹_› (by omega)) O) (fun _=>(aD [5,6,7] [0,1] O)) O ?_
   rintro ⟨z17,yP,BD,z20⟩
   dsimp only
   refine D.q (i:=20) O (aD [5,6,7] [0,1] O) O (q.not O) O<|D.q (i:=21) O (aD [5,6,7] [0,1] O) O (q.rJ O O) O<|D.done<|R.cond O O (fun h7=>?_) (fun h7=>?_)
   .
    refine R.reg O<|R.q (q.build ea O O) O<|R.q (q.iface O bm) O<|R.s O (s.st 6 _ O O O O (.inl aj) O O O O) fun _=>?_
    refine R.u 1 O<|R.nil<|R.mp (fun _ hw=>hw.a8 (α:=ak))<|R.mp (fun _ hw=>hw.a8 (α:=aE))<|R.mp (fun _ hw=>hw.a8 (α:=Held))<|R.mp (fun _ hw=>hw.a8 (α:=Note)) ?_
    have hz:cr l=((⟨[],[],[],[],0,0⟩:aC),4):=by (exact o8 HP hx1 (.inr (.inr ⟨by assumption,by exact D1 ‹_›⟩)))
    rw [hz]
    exact R.w2 ((nS),(nS),(nS),(nS)) [7] gj O Tryz.results37 (RV.cell 6 O O aj) (RV.tmp O) O O O (dA O (dr (by decide) O))
   refine R.reg O<|R.q (q.bB (r:=((k+1:Nat):Int)) O O) O<|R.u 1 O<|R.nil<|R.back (k+1,(rowP z (⟨x1.Key,x1.Val,false⟩:Change)).1,z17,yP,BD,z20) O (by ((try dsimp only);have zl:=tK z (⟨x1.Key,x1.Val,false⟩:Change);exact ⟨by omega,vP HP hx1 (by exact D6 (by omega) hx2 ‹_›) ‹_› (by exact D2 ‹_›),by omega,by omega,by omega⟩)) (by dsimp only;omega) (sF O) (aD [4,3,2,1,0,6,7] [0,1] O)
  rcases Bool.eq_false_or_eq_true x1.Gone with h8|h8
  .
   rw [h8]
   refine R.eu O mixed (by kernel_rfl)<|Q.u 1 O<|Q.q (q.eo O O) O<|Q.u 12 O<|Q.qg O (q.aO O gN O) O<|Q.qg O (q.ld 0 O O iW O) O<|Q.u 6 O<|Q.nil<|R.av O O<|R.reg O<|R.q (q.build ea O O) O<|R.q (q.iface O bm) O<|R.s O (s.st 6 _ O O O O (.inl aj) O O O O) fun _=>?_
   refine R.u 1 O<|R.nil<|R.mp (fun _ hw=>hw.a8 (α:=ak))<|R.mp (fun _ hw=>hw.a8 (α:=aE))<|R.mp (fun _ hw=>hw.a8 (α:=Held))<|R.mp (fun _ hw=>hw.a8 (α:=Note)) ?_
   have hz:cr l=((⟨[],[],[],[],0,0⟩:aC),4):=by (exact o8 HP hx1 (.inr (.inl ‹_›)))
   rw [hz]
   exact R.w2 ((nS),(nS),(nS),(nS)) [7] gj O Tryz.results37 (RV.cell 6 O O aj) (RV.tmp O) O O O (dA O (dr (by decide) O))
  rw [h8]
  rcases Bool.eq_false_or_eq_true (!((rowP z (⟨x1.Key,x1.Val,false⟩:Change)).2)) with h9|h9
  .
   refine R.fP (fuel:=22) [0,6,7] O O mixed O<|D.q (i:=0) O (aD [0,6,7] [0,1] O) O (q.mv O) O<|D.q (i:=1) O (aD [0,6,7] [0,1] O) O (q.eo O O) O<|D.q (i:=2) O (aD [0,6,7] [0,1] O) O (q.mv O) O<|D.skip (i:=3) O (aD [0,6,7] [0,1] O) O O<|D.skip (i:=4) O (aD [0,6,7] [0,1] O) O O<|D.skip (i:=5) O (aD [0,6,7] [0,1] O) O O<|D.skip (i:=6) O (aD [0,6,7] [0,1] O) O O<|D.skip (i:=7) O (aD [0,6,7] [0,1] O) O O<|D.skip (i:=8) O (aD [0,6,7] [0,1] O) O O<|D.skip (i:=9) O (aD [0,6,7] [0,1] O) O O<|D.skip (i:=10) O (aD [0,6,7] [0,1] O) O O<|D.skip (i:=11) O (aD [0,6,7] [0,1] O) O O<|D.q (i:=12) O (aD [0,6,7] [0,1] O) O (q.rJ O O) O<|D.q (i:=13) O (aD [0,6,7] [0,1] O) O (q.mv O) O<|D.q (i:=14) O (aD [0,6,7] [0,1] O) O (q.aO O gN O) O<|D.q (i:=15) O (aD [0,6,7] [0,1] O) O (q.ld 0 O O iW O) O<|D.q (i:=16) O (aD [0,6,7] [0,1] O) O (q.rJ O O) O<|D.q (i:=17) O (aD [0,6,7] [0,1] O) O (q.mv O) O<|D.q (i:=18) O (aD [0,6,7] [0,1] O) O (q.dh 0 O O aY) O<|D.one (i:=19) O<|Do.s (s.aW FQ [1] _ _ _ O O O Gb O O (fun w own hw H=>vO b2 ru ou ux rx z (⟨x1.Key,x1.Val,false⟩:Change) w own H ‹_› (by omega)) O) (fun _=>(aD [5,6,7] [0,1] O)) O ?_
   rintro ⟨z29,z30,z31,z32⟩
   dsimp only
   refine D.q (i:=20) O (aD [5,6,7] [0,1] O) O (q.not O) O<|D.q (i:=21) O (aD [5,6,7] [0,1] O) O (q.rJ O O) O<|D.done<|R.cond O O (fun h10=>?_) (fun h10=>?_)
   .
    refine R.reg O<|R.q (q.build ea O O) O<|R.q (q.iface O bm) O<|R.s O (s.st 6 _ O O O O (.inl aj) O O O O) fun _=>?_
    refine R.u 1 O<|R.nil<|R.mp (fun _ hw=>hw.a8 (α:=ak))<|R.mp (fun _ hw=>hw.a8 (α:=aE))<|R.mp (fun _ hw=>hw.a8 (α:=Held))<|R.mp (fun _ hw=>hw.a8 (α:=Note)) ?_
    have hz:cr l=((⟨[],[],[],[],0,0⟩:aC),4):=by (exact o8 HP hx1 (.inr (.inr ⟨by assumption,by exact D1 ‹_›⟩)))
    rw [hz]
    exact R.w2 ((nS),(nS),(nS),(nS)) [7] gj O Tryz.results37 (RV.cell 6 O O aj) (RV.tmp O) O O O (dA O (dr (by decide) O))
   refine R.reg O<|R.q (q.bB (r:=((k+1:Nat):Int)) O O) O<|R.u 1 O<|R.nil<|R.back (k+1,(rowP z (⟨x1.Key,x1.Val,false⟩:Change)).1,z29,z30,z31,z32) O (by ((try dsimp only);have zl:=tK z (⟨x1.Key,x1.Val,false⟩:Change);exact ⟨by omega,vP HP hx1 (by exact D5 (by omega)) ‹_› (by exact D2 ‹_›),by omega,by omega,by omega⟩)) (by dsimp only;omega) (sF O) (aD [4,3,2,1,0,6,7] [0,1] O)
  refine R.fP (fuel:=22) [0,6,7] O O mixed O<|D.q (i:=0) O (aD [0,6,7] [0,1] O) O (q.mv O) O<|D.q (i:=1) O (aD [0,6,7] [0,1] O) O (q.eo O O) O<|D.q (i:=2) O (aD [0,6,7] [0,1] O) O (q.mv O) O<|D.skip (i:=3) O (aD [0,6,7] [0,1] O) O O<|D.skip (i:=4) O (aD [0,6,7] [0,1] O) O O<|D.skip (i:=5) O (aD [0,6,7] [0,1] O) O O<|D.skip (i:=6) O (aD [0,6,7] [0,1] O) O O<|D.skip (i:=7) O (aD [0,6,7] [0,1] O) O O<|D.skip (i:=8) O (aD [0,6,7] [0,1] O) O O<|D.skip (i:=9) O (aD [0,6,7] [0,1] O) O O<|D.skip (i:=10) O (aD [0,6,7] [0,1] O) O O<|D.skip (i:=11) O (aD [0,6,7] [0,1] O) O O<|D.q (i:=12) O (aD [0,6,7] [0,1] O) O (q.rJ O O) O<|D.q (i:=13) O (aD [0,6,7] [0,1] O) O (q.mv O) O<|D.q (i:=14) O (aD [0,6,7] [0,1] O) O (q.aO O gN O) O<|D.q (i:=15) O (aD [0,6,7] [0,1] O) O (q.ld 0 O O iW O) O<|D.q (i:=16) O (aD [0,6,7] [0,1] O) O (q.rJ O O) O<|D.q (i:=17) O (aD [0,6,7] [0,1] O) O (q.mv O) O<|D.q (i:=18) O (aD [0,6,7] [0,1] O) O (q.dh 0 O O aY) O<|D.one (i:=19) O<|Do.s (s.aW FQ [1] _ _ _ O O O Gb O O (fun w own hw H=>vO b2 ru ou ux rx z (⟨x1.Key,x1.Val,false⟩:Change) w own H ‹_› (by omega)) O) (fun _=>(aD [5,6,7] [0,1] O)) O ?_
  rintro ⟨z37,z38,z39,z40⟩
  dsimp only
  refine D.q (i:=20) O (aD [5,6,7] [0,1] O) O (q.not O) O<|D.q (i:=21) O (aD [5,6,7] [0,1] O) O (q.rJ O O) O<|D.done<|R.cond O O (fun h11=>?_) (fun h11=>?_)
  .
   refine R.reg O<|R.q (q.build ea O O) O<|R.q (q.iface O bm) O<|R.s O (s.st 6 _ O O O O (.inl aj) O O O O) fun _=>?_
   refine R.u 1 O<|R.nil<|R.mp (fun _ hw=>hw.a8 (α:=ak))<|R.mp (fun _ hw=>hw.a8 (α:=aE))<|R.mp (fun _ hw=>hw.a8 (α:=Held))<|R.mp (fun _ hw=>hw.a8 (α:=Note)) ?_
   have hz:cr l=((⟨[],[],[],[],0,0⟩:aC),4):=by (exact o8 HP hx1 (.inr (.inr ⟨by assumption,by exact D1 ‹_›⟩)))
   rw [hz]
   exact R.w2 ((nS),(nS),(nS),(nS)) [7] gj O Tryz.results37 (RV.cell 6 O O aj) (RV.tmp O) O O O (dA O (dr (by decide) O))
  refine R.reg O<|R.q (q.bB (r:=((k+1:Nat):Int)) O O) O<|R.u 1 O<|R.nil<|R.back (k+1,(rowP z (⟨x1.Key,x1.Val,false⟩:Change)).1,z37,z38,z39,z40) O (by ((try dsimp only);have zl:=tK z (⟨x1.Key,x1.Val,false⟩:Change);exact ⟨by omega,vP HP hx1 (by exact D5 (by omega)) ‹_› (by exact D2 ‹_›),by omega,by omega,by omega⟩)) (by dsimp only;omega) (sF O) (aD [4,3,2,1,0,6,7] [0,1] O)
 refine R.q (q.cW O O) O<|R.nil<|R.aB O O<|R.reg O<|R.q (q.dh 4 O O aj) O<|R.s O (s.pre (fun _ hw=>hw.cX 3 _ O O) (s.pre (fun _ hw=>hw.cX 2 _ O O) (s.pre (fun _ hw=>hw.cX 1 _ O O) (s.pre (fun _ hw=>hw.cX 0 _ O O) (s.aW [0,1,2] gj _ _ _ O O O Sn O O (fun w own hw H=>IE ru ou ux rx z w own H (by omega)) O))))) fun _=>?_
 refine R.q (q.not O) O<|R.nil<|R.cond O O (fun h12=>?_) (fun h12=>?_)
 .
  refine R.reg O<|R.q (q.build ea O O) O<|R.q (q.iface O bm) O<|R.s O (s.st 1 _ O O O O (.inl aj) O O O O) fun _=>?_
  refine R.u 1 O<|R.nil<|R.mp (fun _ hw=>hw.a8 (α:=ak))<|R.mp (fun _ hw=>hw.a8 (α:=aE))<|R.mp (fun _ hw=>hw.a8 (α:=Held))<|R.mp (fun _ hw=>hw.a8 (α:=Note)) ?_
  have hz:cr l=((⟨[],[],[],[],0,0⟩:aC),4):=by (exact QO HP (by omega) (by exact D1 ‹_›))
  rw [hz]
  exact R.w2 ((nS),(nS),(nS),(nS)) [2] gj O Tryz.results37 (RV.cell 1 O O aj) (RV.tmp O) O O O (dA O (dr (by decide) O))
 refine R.reg O<|R.q (q.dh 0 O O aj) O<|R.s O (s.fS 1 _ O O O (fun _ _=>rfl) (.inl aj) (fun w hw=>(af (Sl.one (hw.bG 3 O)) (af (Sl.one (hw.bG 2 O)) (af (Sl.one (hw.bG 1 O)) (af (Sl.one (hw.bG 0 O)) (af O (af O aP))))))) O O O) fun _=>?_
 refine R.u 1 O<|R.nil ?_
 have hz:cr l=(z,0):=by (exact Tp HP (by omega) (by exact D2 ‹_›))
 rw [hz]
 exact R.w2 (ru,ou,ux,rx) [2] gj O Tryz.results37 (RV.cell 1 O O aj) (RV.tmp O) O O O (dA O (iK O))
end Go.Proofs.YtkbhcbipadkcaaaGreatDoor
