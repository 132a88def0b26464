import Derived.Test.YtkbhcbipadkcaaaGreatDoorTO40
namespace Go.Proofs.YtkbhcbipadkcaaaGreatDoor
set_option linter.unusedVariables false
set_option linter.unusedSimpArgs false
open Go Go.RowKit
set_option maxRecDepth 100000
set_option maxHeartbeats 1000000
theorem DZ {b:Bool}(h:(!b)=true):b=false:=by cases b <;> simp_all
theorem D1 {b:Bool}(h:(!b)=false):b=true:=by cases b <;> simp_all
theorem QD {α β:Type}{f:α->β}{L:List α}{k:Nat}{x:α}(hx:L[k]? = some x)(hm:f x∈(L.take k).map f):¬ (L.map f).Nodup:=fun hn=>by
 have hk:=(List.getElem?_eq_some_iff.1 hx).1
 rw [<- List.take_append_drop k L,List.map_append] at hn
 have h2:f x∈(L.drop k).map f:=List.mem_map.2 ⟨x,List.mem_of_getElem? (i:=0) (by rw [List.getElem?_drop,Nat.add_zero];exact hx),rfl⟩
 exact (List.nodup_append.1 hn).2.2 _ hm _ h2 rfl
theorem Fv {l:List Int}{x:Int}(h:l.Nodup)(hx:¬ x∈l):(l++[x]).Nodup:=by
 rw [List.nodup_append]
 exact ⟨h,(List.nodup_cons.2 ⟨(by simp),List.nodup_nil⟩),fun a ha b hb e=>hx (by rw [List.mem_singleton.1 hb] at e;rw [<- e];exact ha)⟩
section
variable {r:aD} {k:Nat} {x:Held} {seen ts:List Int}
theorem Ni (hx:r.Held[k]? = some x)(h:cK r.aj x.ap<0):dX r=false:=gv fun hw=>by
 have:=hw.eQ x (List.mem_of_getElem? hx);omega
theorem QE (hx:r.Held[k]? = some x)(hs:seen=(r.Held.take k).map Held.ap)(h:x.ap∈seen):dX r=false:=gv fun hw=>QD hx (hs▸h) hw.once
theorem Iw (ht:ts=(r.Things.take k).map aE.ID)(hk:r.Things.length<=k)(h:¬ ts=bW r.aj):dX r=false:=gv fun hw=>h (by rw [ht,List.take_of_length_le hk];exact hw.things)
theorem Te {x:ap}(hx:r.aj[r.aj.length-1]? = some x)(h:¬ x.ID<r.ae):dX r=false:=gv fun hw=>h (hw.Ov x (by rw [List.getLast?_eq_getElem?];exact hx))
theorem D2 {α β:Type}{f:α->β}{L:List α}{y:β}(h:(L.map f)[(L.map f).length-1]? = some y):∃x,L.getLast? = some x/\f x=y:=by
 rw [List.getElem?_map,List.length_map,<- List.getLast?_eq_getElem?] at h
 obtain ⟨x,h1,h2⟩:=Option.map_eq_some_iff.1 h
 exact ⟨x,h1,h2⟩
theorem OA {y:Int}(ht:ts=(r.Things.take k).map aE.ID)(hk:r.Things.length<=k)(hy:ts[ts.length-1]? = some y)(h:¬ y<r.ah):dX r=false:=gv fun hw=>by
 subst ht;rw [List.take_of_length_le hk] at hy
 obtain ⟨x,h1,h2⟩:=D2 hy
 exact h (h2▸hw.Ow x h1)
theorem B5 (a1:ea r.aj=0)(a2:r.Things.length<=10)(a3:1<=r.ae/\r.ae<=1000)(a5:1<=r.ah/\r.ah<=1000)(a7:r.Held.length=r.aj.length){i:Nat}(hs:seen=(r.Held.take i).map Held.ap)(hi:r.Held.length<=i)
 (hf:∀h∈r.Held.take i,0<=cK r.aj h.ap) (hn:seen.Nodup) (ht:ts=(r.Things.take k).map aE.ID) (hk:r.Things.length<=k) (he:ts=bW r.aj) (hw:r.aj.length=0 \/ ∃x,r.aj[r.aj.length-1]? = some x/\x.ID<r.ae) (hl:ts.length=0 \/ ∃y,ts[ts.length-1]? = some y/\y<r.ah):dX r=true:=by
 rw [List.take_of_length_le hi] at hs hf
 rw [List.take_of_length_le hk] at ht
 refine yi ⟨a1,a2,a3.1,a3.2,a5.1,a5.2,a7,hf,hs▸hn,ht.symm.trans he,fun w hq=>?_,fun t hq=>?_⟩
 .
  rcases hw with hw|⟨x,h1,h2⟩
  .rw [List.eq_nil_of_length_eq_zero hw] at hq;cases hq
  .rw [List.getLast?_eq_getElem?,h1] at hq;injection hq with hq;rw [<- hq];exact h2
 .
  rcases hl with hl|⟨y,h1,h2⟩
  .rw [ht,List.length_map] at hl;rw [List.eq_nil_of_length_eq_zero hl] at hq;cases hq
  .
   subst ht
   obtain ⟨x,h3,h4⟩:=D2 h1
   rw [h3] at hq;injection hq with hq;rw [<- hq,h4];exact h2
end
set_option maxRecDepth 100000 in
set_option maxHeartbeats 1600000 in
theorem Ix (bH bB bC bD:Value)(r:aD)(w:World)(own:List Nat)(H:HN w own [] [af.ls bH r.aj,af.ls bB r.Things,af.ls bC r.Held,af.ls bD r.Notes])(hr:r.aj.length<=1000/\r.Things.length<=1000/\r.Held.length<=1000):RC Tryz.prog 90 #[.agg #[bH,bB,bC,bD,iV r.ae,iV r.ah]] H (fun _:Unit => .bool (dX r)) (fun _=>[]) (fun _=>[]):=by
 have eJ:=H.cx 0 rfl
 have dM:=H.cx 1 rfl
 have fI:=H.cx 2 rfl
 have eK:=H.cx 3 rfl
 refine R.bF [(0,.agg #[bH,bB,bC,bD,iV r.ae,iV r.ah])] Tryz.func90 O O O O H<|R.reg O<|R.s O (s.box O O O) fun b1=>R.u 1 O<|R.nil<|R.reg O<|R.q (q.aO O bg O) O<|R.q (q.ld 0 O O bV O) O<|R.c (q.call Pn O O (fun w hw=>(yQ _ r.aj w (hw.bT 0 O) ))) O<|?_
 by_cases h1:ea r.aj=0
 .
  refine R.q (q.dC O O Tryz.underlying38) O<|R.u 1 O<|R.qg O (q.aO O cF O) O<|R.qg O (q.ld 0 O O dD O) O<|R.qg O (q.len' (dr 1 O) O Tryz.underlying44) O<|?_
  by_cases h2:10<r.Things.length
  .
   refine R.qg O (q.eL O O) O<|R.u 30 O<|R.nil<|R.ay O O<|R.reg O<|R.u 1 O<|R.nil ?_
   have hz:dX r=false:=by (exact gv (fun hw=>by have a1:ea r.aj=0:=hw.tree;have a2:=hw.jq;have a3:=hw.oV;have a4:=hw.qZ;have a5:=hw.pz;have a6:=hw.pA;have a7:=hw.hlen;omega))
   rw [hz]
   exact R.w1 () [1] [] O Tryz.results90 (RV.tmp O) O O O O
  refine R.qg O (q.eu O O) O<|R.u 2 O<|R.qg O (q.aO O cM O) O<|R.qg O (q.ld 0 O O av O) O<|?_
  by_cases h3:r.ae<1
  .
   refine R.qg O (q.dy O O) O<|R.u 25 O<|R.nil<|R.ay O O<|R.reg O<|R.u 1 O<|R.nil ?_
   have hz:dX r=false:=by (exact gv (fun hw=>by have a1:ea r.aj=0:=hw.tree;have a2:=hw.jq;have a3:=hw.oV;have a4:=hw.qZ;have a5:=hw.pz;have a6:=hw.pA;have a7:=hw.hlen;omega))
   rw [hz]
   exact R.w1 () [1] [] O Tryz.results90 (RV.tmp O) O O O O
  refine R.qg O (q.cW O O) O<|R.u 2 O<|R.qg O (q.aO O cM O) O<|R.qg O (q.ld 0 O O av O) O<|?_
  by_cases h4:1000<r.ae
  .
   refine R.qg O (q.eL O O) O<|R.u 20 O<|R.nil<|R.ay O O<|R.reg O<|R.u 1 O<|R.nil ?_
   have hz:dX r=false:=by (exact gv (fun hw=>by have a1:ea r.aj=0:=hw.tree;have a2:=hw.jq;have a3:=hw.oV;have a4:=hw.qZ;have a5:=hw.pz;have a6:=hw.pA;have a7:=hw.hlen;omega))
   rw [hz]
   exact R.w1 () [1] [] O Tryz.results90 (RV.tmp O) O O O O
  refine R.qg O (q.eu O O) O<|R.u 2 O<|R.qg O (q.aO O dP O) O<|R.qg O (q.ld 0 O O av O) O<|?_
  by_cases h5:r.ah<1
  .
   refine R.qg O (q.dy O O) O<|R.u 15 O<|R.nil<|R.ay O O<|R.reg O<|R.u 1 O<|R.nil ?_
   have hz:dX r=false:=by (exact gv (fun hw=>by have a1:ea r.aj=0:=hw.tree;have a2:=hw.jq;have a3:=hw.oV;have a4:=hw.qZ;have a5:=hw.pz;have a6:=hw.pA;have a7:=hw.hlen;omega))
   rw [hz]
   exact R.w1 () [1] [] O Tryz.results90 (RV.tmp O) O O O O
  refine R.qg O (q.cW O O) O<|R.u 2 O<|R.qg O (q.aO O dP O) O<|R.qg O (q.ld 0 O O av O) O<|?_
  by_cases h6:1000<r.ah
  .
   refine R.qg O (q.eL O O) O<|R.u 10 O<|R.nil<|R.ay O O<|R.reg O<|R.u 1 O<|R.nil ?_
   have hz:dX r=false:=by (exact gv (fun hw=>by have a1:ea r.aj=0:=hw.tree;have a2:=hw.jq;have a3:=hw.oV;have a4:=hw.qZ;have a5:=hw.pz;have a6:=hw.pA;have a7:=hw.hlen;omega))
   rw [hz]
   exact R.w1 () [1] [] O Tryz.results90 (RV.tmp O) O O O O
  refine R.qg O (q.eu O O) O<|R.u 2 O<|R.qg O (q.aO O cG O) O<|R.qg O (q.ld 0 O O dE O) O<|R.qg O (q.len' (dr 2 O) O Tryz.underlying45) O<|R.qg O (q.aO O bg O) O<|R.qg O (q.ld 0 O O bV O) O<|R.qg O (q.len' (dr 0 O) O Tryz.underlying43) O<|?_
  by_cases h7:r.Held.length=r.aj.length
  .
   refine R.qg O (q.lH O O) O<|R.u 1 O<|R.nil<|R.aB O O<|R.reg O<|R.u 1 O<|R.nil<|R.reg O<|R.q (q.aO O cG O) O<|R.q (q.ld 0 O O dE O) O<|R.q (q.len' (dr 2 O) O Tryz.underlying45) O<|R.u 1 O<|R.nil<|R.row0 (α:=Int) 3<|R.loop (fun g_:Nat×Value×(List Int)=>[(1,.pointer (some ⟨b1,0,none⟩)),(3,g_.2.1),(49,bC),(50,iV (r.Held.length:Int)),(51,iV (g_.1:Int))]) (fun g_=>[af.row 3 g_.2.1 g_.2.2,af.box b1 [bH,bB,bC,bD,iV r.ae,iV r.ah] 48,af.held w own]) (fun g_=>[af.ls bH r.aj,af.ls bB r.Things,af.ls bC r.Held,af.ls bD r.Notes]) (fun g_=>g_.1<=r.Held.length/\g_.2.2=(r.Held.take g_.1).map Held.ap/\(∀h∈r.Held.take g_.1,0<=cK r.aj h.ap)/\g_.2.2.Nodup) (fun g_=>r.Held.length-g_.1) (0,(nS),[]) O (by exact ⟨by omega,rfl,(by intro h hh;simp at hh),List.nodup_nil⟩) (sF O) (fun _=>Wd.pick [0,1,2] bS O O O) ?_
   rintro ⟨k,u,seen⟩ ⟨hk,HS,HF,HN⟩
   dsimp only at *
   have ll:seen.length<=1000:=by rw [HS,List.length_map,List.length_take];omega
   refine R.reg O<|?_
   by_cases h8:k<r.Held.length
   .
    refine R.q (q.dy O O) O<|R.nil<|R.ay O O<|R.reg O<|?_
    obtain ⟨x1,hx1⟩:∃z,r.Held[k]? = some z:=⟨_,List.getElem?_eq_getElem (by omega)⟩
    refine R.q (q.idx (i:=k) (dr 2 O) O O cL O hx1) O<|R.q (q.eV (ds:=kG x1) (dr 2 O) hx1 O eX O) O<|R.s O (s.alloc gZ O O) fun b2=>R.s O (s.st 0 _ O O O O (.inl eX) O O O O) fun _=>R.nil<|R.reg O<|R.q (q.aO O bg O) O<|R.q (q.ld 2 O O bV O) O<|R.q (q.aO O jQ O) O<|R.q (q.ld 0 O O av O) O<|?_
    rcases fk r.aj x1.ap with ⟨gW,Et⟩ | ⟨Dk,lY,gW,ve,SQ⟩
    .
     refine R.c (q.call lI O O (fun w hw=>(cv (congrArg (Value.int .i64) gW) (iA _ r.aj x1.ap w (hw.bT 0 O) )))) O<|R.q (q.lss (b:=true) O O (by decide)) O<|R.u 6 O<|R.nil<|R.ay O O<|R.reg O<|R.u 1 O<|R.nil ?_
     have hz:dX r=false:=by (exact Ni hx1 (by omega))
     rw [hz]
     exact R.w1 () [3] [] O Tryz.results90 (RV.tmp O) O O O O
    refine R.c (q.call lI O O (fun w hw=>(cv (congrArg (Value.int .i64) gW) (iA _ r.aj x1.ap w (hw.bT 0 O) )))) O<|R.q (q.cW O O) O<|R.u 2 O<|R.qg O (q.aO O jQ O) O<|R.qg O (q.ld 0 O O av O) O<|?_
    rcases Bool.eq_false_or_eq_true (decide (x1.ap∈seen)) with h9|h9
    .
     refine R.cg O (q.call pP O O (fun w hw=>(cv (congrArg Value.bool h9) (fP _ seen x1.ap w (hw.row 1 O) )))) O<|R.u 1 O<|R.nil<|R.ay O O<|R.reg O<|R.u 1 O<|R.nil ?_
     have hz:dX r=false:=by (exact QE hx1 HS (of_decide_eq_true ‹_›))
     rw [hz]
     exact R.w1 () [3] [] O Tryz.results90 (RV.tmp O) O O O O
    refine R.cg O (q.call pP O O (fun w hw=>(cv (congrArg Value.bool h9) (fP _ seen x1.ap w (hw.row 1 O) )))) O<|R.u 1 O<|R.nil<|R.aB O O<|R.reg O<|R.u 1 O<|R.q (q.aO O jQ O) O<|R.q (q.ld 0 O O av O) O<|R.s O (s.bs (l:=([x1.ap]:List Int)) da lW O O O O O O O) fun b3=>R.s O (s.app 2 _ O O O (ck 0 O) nM (by (simp;omega)) (by (simp;omega)) (fun _=>rfl) O) fun v1=>R.u 1 O<|R.nil<|R.reg O<|R.q (q.bA (r:=((k+1:Nat):Int)) O O) O<|R.u 1 O<|R.nil<|R.back (k+1,v1,(seen++([x1.ap]))) O (by (exact ⟨by omega,by rw [qt Held.ap hx1,<- HS],(by rw [List.take_add_one,hx1];intro h hh;rcases List.mem_append.1 hh with hh|hh;exact HF h hh;rw [List.mem_singleton.1 hh];omega),Fv HN (of_decide_eq_false ‹_›)⟩)) (by dsimp only;omega) (sF O) (aC [2,3,4] bS O O O)
   refine R.q (q.cW O O) O<|R.nil<|R.aB O O<|R.reg O<|R.u 1 O<|R.nil<|R.reg O<|R.q (q.aO O cF O) O<|R.q (q.ld 1 O O dD O) O<|R.q (q.len' (dr 1 O) O Tryz.underlying44) O<|R.u 1 O<|R.nil<|R.row0 (α:=Int) 3<|R.loop (fun g_:Nat×Value×(List Int)=>[(1,.pointer (some ⟨b1,0,none⟩)),(6,g_.2.1),(74,bB),(75,iV (r.Things.length:Int)),(76,iV (g_.1:Int))]) (fun g_=>[af.row 3 g_.2.1 g_.2.2,af.row 3 u seen,af.box b1 [bH,bB,bC,bD,iV r.ae,iV r.ah] 48,af.held w own]) (fun g_=>[af.ls bH r.aj,af.ls bB r.Things,af.ls bC r.Held,af.ls bD r.Notes]) (fun g_=>g_.1<=r.Things.length/\g_.2.2=(r.Things.take g_.1).map aE.ID) (fun g_=>r.Things.length-g_.1) (0,(nS),[]) O (by exact ⟨by omega,rfl⟩) (sF O) (fun _=>Wd.pick bS bS O O O) ?_
   rintro ⟨j,u2,ts⟩ ⟨hj,HT⟩
   dsimp only at *
   have U0:ts.length<=1000:=by rw [HT,List.length_map,List.length_take];omega
   refine R.reg O<|?_
   by_cases h10:j<r.Things.length
   .
    refine R.q (q.dy O O) O<|R.nil<|R.ay O O<|R.reg O<|?_
    obtain ⟨x2,hx2⟩:∃z,r.Things[j]? = some z:=⟨_,List.getElem?_eq_getElem (by omega)⟩
    refine R.q (q.idx (i:=j) (dr 1 O) O O iK O hx2) O<|R.q (q.eV (ds:=lT x2) (dr 1 O) hx2 O gy O) O<|R.s O (s.alloc jt O O) fun b4=>R.s O (s.st 0 _ O O O O (.inl gy) O O O O) fun _=>R.nil<|R.reg O<|R.u 1 O<|R.q (q.aO O ow O) O<|R.q (q.ld 0 O O av O) O<|R.s O (s.bs (l:=([x2.ID]:List Int)) da lW O O O O O O O) fun b5=>R.s O (s.app 2 _ O O O (ck 0 O) nM (by (simp;omega)) (by (simp;omega)) (fun _=>rfl) O) fun v2=>R.u 1 O<|R.nil<|R.reg O<|R.q (q.bA (r:=((j+1:Nat):Int)) O O) O<|R.u 1 O<|R.nil<|R.back (j+1,v2,(ts++([x2.ID]))) O (by (exact ⟨by omega,by rw [qt aE.ID hx2,<- HT]⟩)) (by dsimp only;omega) (sF O) (aC [2,3,4,5] bS O O O)
   refine R.q (q.cW O O) O<|R.nil<|R.aB O O<|R.reg O<|R.u 1 O<|R.q (q.aO O bg O) O<|R.q (q.ld 2 O O bV O) O<|R.s O (s.vS Jl O O (fun w hw=>uM _ r.aj w (hw.bT 0 O) (by omega)) O) fun v3=>?_
   rcases Bool.eq_false_or_eq_true (decide (ts=(bW r.aj))) with h11|h11
   .
    refine R.c (q.call Js O O (fun w hw=>(cv (congrArg Value.bool h11) (yq _ ts _ (bW r.aj) w (hw.row 1 O) (hw.row 0 O) )))) O<|R.u 1 O<|R.nil<|R.aB O O ?_
    by_cases h12:r.aj.length=0
    .
     by_cases UJ:ts.length=0
     .
      refine R.ew O mixed (by kernel_rfl)<|Q.q (q.aO O bg O) O<|Q.q (q.ld 3 O O bV O) O<|Q.q (q.len' (dr 0 O) O Tryz.underlying43) O<|Q.q (q.fQ O O) O<|Q.u 16 O<|Q.qg O (q.len' (ck 1 O) O Tryz.underlying159) O<|Q.qg O (q.fQ O O) O<|Q.u 13 O<|Q.nil ?_
      have hz:dX r=true:=by (exact B5 (by omega) (by omega) (by omega) (by omega) (by omega) HS (by omega) HF HN HT (by omega) (of_decide_eq_true ‹_›) (.inl (by omega)) (.inl (by omega)))
      rw [hz]
      exact R.w1 () [4] [] O Tryz.results90 (RV.tmp O) O O O O
     obtain ⟨x3,hx3⟩:∃z,ts[(ts.length-1)]? = some z:=⟨_,List.getElem?_eq_getElem (by omega)⟩
     by_cases UK:x3<r.ah
     .
      refine R.ew O mixed (by kernel_rfl)<|Q.q (q.aO O bg O) O<|Q.q (q.ld 3 O O bV O) O<|Q.q (q.len' (dr 0 O) O Tryz.underlying43) O<|Q.q (q.fQ O O) O<|Q.u 16 O<|Q.qg O (q.len' (ck 1 O) O Tryz.underlying159) O<|Q.qg O (q.fa O O) O<|Q.u 3 O<|Q.qg O (q.len' (ck 1 O) O Tryz.underlying159) O<|Q.qg O (q.lV (r:=((ts.length-1:Nat):Int)) O O) O<|Q.qg O (q.idx (i:=(ts.length-1)) (ck 1 O) O O da O hx3) O<|Q.qg O (q.lr (ck 1 O) hx3 O av O) O<|Q.qg O (q.aO O dP O) O<|Q.qg O (q.ld 3 O O av O) O<|Q.qg O (q.dy O O) O<|Q.u 3 O<|Q.nil ?_
      have hz:dX r=true:=by (exact B5 (by omega) (by omega) (by omega) (by omega) (by omega) HS (by omega) HF HN HT (by omega) (of_decide_eq_true ‹_›) (.inl (by omega)) (.inr ⟨_,hx3,by assumption⟩))
      rw [hz]
      exact R.w1 () [4] [] O Tryz.results90 (RV.tmp O) O O O O
     refine R.ew O mixed (by kernel_rfl)<|Q.q (q.aO O bg O) O<|Q.q (q.ld 3 O O bV O) O<|Q.q (q.len' (dr 0 O) O Tryz.underlying43) O<|Q.q (q.fQ O O) O<|Q.u 16 O<|Q.qg O (q.len' (ck 1 O) O Tryz.underlying159) O<|Q.qg O (q.fa O O) O<|Q.u 3 O<|Q.qg O (q.len' (ck 1 O) O Tryz.underlying159) O<|Q.qg O (q.lV (r:=((ts.length-1:Nat):Int)) O O) O<|Q.qg O (q.idx (i:=(ts.length-1)) (ck 1 O) O O da O hx3) O<|Q.qg O (q.lr (ck 1 O) hx3 O av O) O<|Q.qg O (q.aO O dP O) O<|Q.qg O (q.ld 3 O O av O) O<|Q.qg O (q.cW O O) O<|Q.u 3 O<|Q.nil ?_
     have hz:dX r=false:=by (exact OA HT (by omega) hx3 ‹_›)
     rw [hz]
     exact R.w1 () [4] [] O Tryz.results90 (RV.tmp O) O O O O
    obtain ⟨x4,hx4⟩:∃z,r.aj[(r.aj.length-1)]? = some z:=⟨_,List.getElem?_eq_getElem (by omega)⟩
    by_cases UL:x4.ID<r.ae
    .
     by_cases h16:ts.length=0
     .
      refine R.ew O mixed (by kernel_rfl)<|Q.q (q.aO O bg O) O<|Q.q (q.ld 3 O O bV O) O<|Q.q (q.len' (dr 0 O) O Tryz.underlying43) O<|Q.q (q.fa O O) O<|Q.u 1 O<|Q.qg O (q.aO O bg O) O<|Q.qg O (q.ld 3 O O bV O) O<|Q.qg O (q.aO O bg O) O<|Q.qg O (q.ld 3 O O bV O) O<|Q.qg O (q.len' (dr 0 O) O Tryz.underlying43) O<|Q.qg O (q.lV (r:=((r.aj.length-1:Nat):Int)) O O) O<|Q.qg O (q.idx (i:=(r.aj.length-1)) (dr 0 O) O O dJ O hx4) O<|Q.qg O (q.nF (j':=0) (dr 0 O) hx4 O bX O) O<|Q.qg O (q.lr (dr 0 O) hx4 O av O) O<|Q.qg O (q.aO O cM O) O<|Q.qg O (q.ld 3 O O av O) O<|Q.qg O (q.dy O O) O<|Q.u 3 O<|Q.qg O (q.len' (ck 1 O) O Tryz.underlying159) O<|Q.qg O (q.fQ O O) O<|Q.u 13 O<|Q.nil ?_
      have hz:dX r=true:=by (exact B5 (by omega) (by omega) (by omega) (by omega) (by omega) HS (by omega) HF HN HT (by omega) (of_decide_eq_true ‹_›) (.inr ⟨_,hx4,by assumption⟩) (.inl (by omega)))
      rw [hz]
      exact R.w1 () [4] [] O Tryz.results90 (RV.tmp O) O O O O
     obtain ⟨x5,hx5⟩:∃z,ts[(ts.length-1)]? = some z:=⟨_,List.getElem?_eq_getElem (by omega)⟩
     by_cases UM:x5<r.ah
     .
      refine R.ew O mixed (by kernel_rfl)<|Q.q (q.aO O bg O) O<|Q.q (q.ld 3 O O bV O) O<|Q.q (q.len' (dr 0 O) O Tryz.underlying43) O<|Q.q (q.fa O O) O<|Q.u 1 O<|Q.qg O (q.aO O bg O) O<|Q.qg O (q.ld 3 O O bV O) O<|Q.qg O (q.aO O bg O) O<|Q.qg O (q.ld 3 O O bV O) O<|Q.qg O (q.len' (dr 0 O) O Tryz.underlying43) O<|Q.qg O (q.lV (r:=((r.aj.length-1:Nat):Int)) O O) O<|Q.qg O (q.idx (i:=(r.aj.length-1)) (dr 0 O) O O dJ O hx4) O<|Q.qg O (q.nF (j':=0) (dr 0 O) hx4 O bX O) O<|Q.qg O (q.lr (dr 0 O) hx4 O av O) O<|Q.qg O (q.aO O cM O) O<|Q.qg O (q.ld 3 O O av O) O<|Q.qg O (q.dy O O) O<|Q.u 3 O<|Q.qg O (q.len' (ck 1 O) O Tryz.underlying159) O<|Q.qg O (q.fa O O) O<|Q.u 3 O<|Q.qg O (q.len' (ck 1 O) O Tryz.underlying159) O<|Q.qg O (q.lV (r:=((ts.length-1:Nat):Int)) O O) O<|Q.qg O (q.idx (i:=(ts.length-1)) (ck 1 O) O O da O hx5) O<|Q.qg O (q.lr (ck 1 O) hx5 O av O) O<|Q.qg O (q.aO O dP O) O<|Q.qg O (q.ld 3 O O av O) O<|Q.qg O (q.dy O O) O<|Q.u 3 O<|Q.nil ?_
      have hz:dX r=true:=by (exact B5 (by omega) (by omega) (by omega) (by omega) (by omega) HS (by omega) HF HN HT (by omega) (of_decide_eq_true ‹_›) (.inr ⟨_,hx4,by assumption⟩) (.inr ⟨_,hx5,by assumption⟩))
      rw [hz]
      exact R.w1 () [4] [] O Tryz.results90 (RV.tmp O) O O O O
     refine R.ew O mixed (by kernel_rfl)<|Q.q (q.aO O bg O) O<|Q.q (q.ld 3 O O bV O) O<|Q.q (q.len' (dr 0 O) O Tryz.underlying43) O<|Q.q (q.fa O O) O<|Q.u 1 O<|Q.qg O (q.aO O bg O) O<|Q.qg O (q.ld 3 O O bV O) O<|Q.qg O (q.aO O bg O) O<|Q.qg O (q.ld 3 O O bV O) O<|Q.qg O (q.len' (dr 0 O) O Tryz.underlying43) O<|Q.qg O (q.lV (r:=((r.aj.length-1:Nat):Int)) O O) O<|Q.qg O (q.idx (i:=(r.aj.length-1)) (dr 0 O) O O dJ O hx4) O<|Q.qg O (q.nF (j':=0) (dr 0 O) hx4 O bX O) O<|Q.qg O (q.lr (dr 0 O) hx4 O av O) O<|Q.qg O (q.aO O cM O) O<|Q.qg O (q.ld 3 O O av O) O<|Q.qg O (q.dy O O) O<|Q.u 3 O<|Q.qg O (q.len' (ck 1 O) O Tryz.underlying159) O<|Q.qg O (q.fa O O) O<|Q.u 3 O<|Q.qg O (q.len' (ck 1 O) O Tryz.underlying159) O<|Q.qg O (q.lV (r:=((ts.length-1:Nat):Int)) O O) O<|Q.qg O (q.idx (i:=(ts.length-1)) (ck 1 O) O O da O hx5) O<|Q.qg O (q.lr (ck 1 O) hx5 O av O) O<|Q.qg O (q.aO O dP O) O<|Q.qg O (q.ld 3 O O av O) O<|Q.qg O (q.cW O O) O<|Q.u 3 O<|Q.nil ?_
     have hz:dX r=false:=by (exact OA HT (by omega) hx5 ‹_›)
     rw [hz]
     exact R.w1 () [4] [] O Tryz.results90 (RV.tmp O) O O O O
    refine R.ew O mixed (by kernel_rfl)<|Q.q (q.aO O bg O) O<|Q.q (q.ld 3 O O bV O) O<|Q.q (q.len' (dr 0 O) O Tryz.underlying43) O<|Q.q (q.fa O O) O<|Q.u 1 O<|Q.qg O (q.aO O bg O) O<|Q.qg O (q.ld 3 O O bV O) O<|Q.qg O (q.aO O bg O) O<|Q.qg O (q.ld 3 O O bV O) O<|Q.qg O (q.len' (dr 0 O) O Tryz.underlying43) O<|Q.qg O (q.lV (r:=((r.aj.length-1:Nat):Int)) O O) O<|Q.qg O (q.idx (i:=(r.aj.length-1)) (dr 0 O) O O dJ O hx4) O<|Q.qg O (q.nF (j':=0) (dr 0 O) hx4 O bX O) O<|Q.qg O (q.lr (dr 0 O) hx4 O av O) O<|Q.qg O (q.aO O cM O) O<|Q.qg O (q.ld 3 O O av O) O<|Q.qg O (q.cW O O) O<|Q.u 18 O<|Q.nil ?_
    have hz:dX r=false:=by (exact Te hx4 ‹_›)
    rw [hz]
    exact R.w1 () [4] [] O Tryz.results90 (RV.tmp O) O O O O
   refine R.c (q.call Js O O (fun w hw=>(cv (congrArg Value.bool h11) (yq _ ts _ (bW r.aj) w (hw.row 1 O) (hw.row 0 O) )))) O<|R.u 1 O<|R.nil<|R.ay O O<|R.reg O<|R.u 1 O<|R.nil ?_
   have hz:dX r=false:=by (exact Iw HT (by omega) (of_decide_eq_false ‹_›))
   rw [hz]
   exact R.w1 () [4] [] O Tryz.results90 (RV.tmp O) O O O O
  refine R.qg O (q.lG O O) O<|R.u 1 O<|R.nil<|R.ay O O<|R.reg O<|R.u 1 O<|R.nil ?_
  have hz:dX r=false:=by (exact gv (fun hw=>by have a1:ea r.aj=0:=hw.tree;have a2:=hw.jq;have a3:=hw.oV;have a4:=hw.qZ;have a5:=hw.pz;have a6:=hw.pA;have a7:=hw.hlen;omega))
  rw [hz]
  exact R.w1 () [1] [] O Tryz.results90 (RV.tmp O) O O O O
 refine R.q (q.eo O O Tryz.underlying38) O<|R.u 35 O<|R.nil<|R.ay O O<|R.reg O<|R.u 1 O<|R.nil ?_
 have hz:dX r=false:=by (exact gv (fun hw=>by have a1:ea r.aj=0:=hw.tree;have a2:=hw.jq;have a3:=hw.oV;have a4:=hw.qZ;have a5:=hw.pz;have a6:=hw.pA;have a7:=hw.hlen;omega))
 rw [hz]
 exact R.w1 () [1] [] O Tryz.results90 (RV.tmp O) O O O O
def prevK (l:List Change)(k:Nat):Option ByteArray:=if k=0 then none else (l[k-1]?).map Change.Key
section
variable {l:List Change} {k:Nat} {x y:Change} {z:aD} {Z:Option aD}
theorem D3 (hx:l[k]? = some x):l.drop k=x::l.drop (k+1):=by
 obtain ⟨h,rfl⟩:=List.getElem?_eq_some_iff.1 hx
 exact List.drop_eq_getElem_cons h
theorem D4 (h:¬ 0<k):su (prevK l k) x=true:=by unfold prevK;rw [if_pos (by omega)];rfl
theorem D5 (h:0<k)(hy:l[k-1]? = some y)(hl:(jz x.Key y.Key||decide (x.Key=y.Key))=false):su (prevK l k) x=true:=by
 unfold prevK;rw [if_neg (by omega),hy];exact P1 hl
theorem Nj (h:0<k)(hy:l[k-1]? = some y)(hl:(jz x.Key y.Key||decide (x.Key=y.Key))=true):su (prevK l k) x=false:=by
 unfold prevK;rw [if_neg (by omega),hy];exact Mu hl
theorem OB (h:x.Gone=false):(⟨x.Key,x.Val,false⟩:Change)=x:=by rw [<- h]
theorem vI (h:pgo (l.drop k) (prevK l k) z=Z)(hx:l[k]? = some x)(h1:su (prevK l k) x=true)(h2:x.Gone=false)(h3:(rowP z ⟨x.Key,x.Val,false⟩).2=true):pgo (l.drop (k+1)) (prevK l (k+1)) (rowP z ⟨x.Key,x.Val,false⟩).1=Z:=by
 rw [OB h2] at h3 ⊢
 rw [D3 hx] at h;simp only [pgo] at h
 rw [if_pos (by rw [h1,h2,h3];rfl)] at h
 unfold prevK;rw [if_neg (by omega),Nat.add_sub_cancel,hx];exact h
theorem oZ (h:pgo (l.drop k) (prevK l k) z=pgo l none r0)(hx:l[k]? = some x)(h1:su (prevK l k) x=false\/x.Gone=true\/x.Gone=false/\(rowP z ⟨x.Key,x.Val,false⟩).2=false):cb l=(r0,4):=by
 rw [D3 hx] at h;simp only [pgo] at h
 rw [if_neg (by
  rcases h1 with e|e|⟨e1,e⟩
  .rw [e];simp
  .rw [e];simp
  .rw [OB e1] at e;rw [e];simp)] at h
 unfold cb;rw [<- h]
theorem Lx (h:pgo (l.drop k) (prevK l k) z=pgo l none r0)(hk:l.length<=k):pgo l none r0=some z:=by
 rw [List.drop_of_length_le hk] at h;exact h.symm
theorem QF (h:pgo (l.drop k) (prevK l k) z=pgo l none r0)(hk:l.length<=k)(hw:dX z=false):cb l=(r0,4):=by
 unfold cb;rw [Lx h hk];dsimp only;rw [if_neg (by rw [hw];decide)]
theorem Tf (h:pgo (l.drop k) (prevK l k) z=pgo l none r0)(hk:l.length<=k)(hw:dX z=true):cb l=(z,0):=by
 unfold cb;rw [Lx h hk];dsimp only;rw [if_pos hw]
theorem tF (z:aD)(x:Change):(rowP z x).1.aj.length<=z.aj.length+1/\(rowP z x).1.Things.length<=z.Things.length+1/\(rowP z x).1.Held.length<=z.Held.length+1:=by
 unfold rowP
 (repeat' split) <;> dsimp only <;> (repeat' split) <;> simp [Il,Im,DJ,M4] <;> omega
end
attribute [local irreducible] rowP pgo cb
set_option maxHeartbeats 1600000 in
theorem Iy (bJ:Value)(l:List Change)(w:World)(own:List Nat)(H:HN w own [] [af.ls bJ l,dc])(hl:l.length<=900)(hc:∀c∈l,c.Key.size<=1000/\c.Val.size<=1000):RC Tryz.prog 37 #[bJ] H (fun z:Value×Value×Value×Value => .tuple #[.agg #[z.1,z.2.1,z.2.2.1,z.2.2.2,iV (cb l).1.ae,iV (cb l).1.ah],dh (cb l).2]) (fun _=>[]) (fun z=>[af.ls z.1 (cb l).1.aj,af.ls z.2.1 (cb l).1.Things,af.ls z.2.2.1 (cb l).1.Held,af.ls z.2.2.2 (cb l).1.Notes]):=by
 have yD:=H.cx 0 rfl
 refine R.bF [(0,bJ)] Tryz.func37 O O O O H<|R.reg O<|R.s O (s.alloc dQ O O) fun b1=>R.u 1 O<|R.nil<|R.reg O<|R.s O (s.alloc dQ O O) fun b2=>R.nil<|R.reg O<|R.u 1 O<|R.q (q.len' (dr 0 O) O Tryz.underlying34) O<|R.u 1 O<|R.nil<|R.row0 (α:=ap) 127<|R.row0 (α:=aE) 100<|R.row0 (α:=Held) 124<|R.row0 (α:=Note) 89<|R.loop (fun g_:Nat×aD×Value×Value×Value×Value=>[(0,bJ),(2,.pointer (some ⟨b1,0,none⟩)),(4,.pointer (some ⟨b2,0,none⟩)),(7,bJ),(8,iV (l.length:Int)),(9,iV (g_.1:Int))]) (fun g_=>[af.row 89 g_.2.2.2.2.2 g_.2.1.Notes,af.row 124 g_.2.2.2.2.1 g_.2.1.Held,af.row 100 g_.2.2.2.1 g_.2.1.Things,af.row 127 g_.2.2.1 g_.2.1.aj,af.box b2 [g_.2.2.1,g_.2.2.2.1,g_.2.2.2.2.1,g_.2.2.2.2.2,iV g_.2.1.ae,iV g_.2.1.ah] 48,af.box b1 rP 48,af.held w own]) (fun g_=>[af.ls bJ l,dc]) (fun g_=>g_.1<=l.length/\pgo (l.drop g_.1) (prevK l g_.1) g_.2.1=pgo l none r0/\g_.2.1.aj.length<=g_.1/\g_.2.1.Things.length<=g_.1/\g_.2.1.Held.length<=g_.1) (fun g_=>l.length-g_.1) (0,(⟨[],[],[],[],0,0⟩:aD),(nS),(nS),(nS),(nS)) O (by (try dsimp only);exact ⟨by omega,rfl,Nat.le_refl _,Nat.le_refl _,Nat.le_refl _⟩) (sF O) (fun _=>Wd.pick ml [0,1] O O O) ?_
 rintro ⟨k,z,rj,oo,uq,rk⟩ ⟨hk,HP,Wu,Wv,Ww⟩
 dsimp only at *
 refine R.reg O<|?_
 by_cases h1:k<l.length
 .
  refine R.q (q.dy O O) O<|R.nil<|R.ay O O<|R.reg O<|R.u 1 O<|?_
  obtain ⟨x1,hx1⟩:∃z,l[k]? = some z:=⟨_,List.getElem?_eq_getElem (by omega)⟩
  have PZ:=hc x1 (List.mem_of_getElem? hx1)
  refine R.q (q.idx (i:=k) (dr 0 O) O O cp O hx1) O<|R.q (q.eV (ds:=[.string x1.Key,.string x1.Val,.bool x1.Gone]) (dr 0 O) hx1 O aX O) O<|R.s O (s.alloc cJ O O) fun b3=>R.u 1 O<|R.s O (s.st 0 _ O O O O (.inl aX) O O O O) fun _=>R.nil ?_
  by_cases h2:0<k
  .
   obtain ⟨x2,hx2⟩:∃z,l[(k-1)]? = some z:=⟨_,List.getElem?_eq_getElem (by omega)⟩
   have V0:=hc x2 (List.mem_of_getElem? hx2)
   rcases Bool.eq_false_or_eq_true (jz x1.Key x2.Key||decide (x1.Key=x2.Key)) with h3|h3
   .
    refine R.ew O mixed (by kernel_rfl)<|Q.u 1 O<|Q.q (q.eL O O) O<|Q.u 1 O<|Q.qg O (q.aO O bM O) O<|Q.qg O (q.ld 0 O O bK O) O<|Q.u 2 O<|Q.qg O (q.lV (r:=((k-1:Nat):Int)) O O) O<|Q.qg O (q.idx (i:=(k-1)) (dr 0 O) O O cp O hx2) O<|Q.qg O (q.nF (j':=0) (dr 0 O) hx2 O bM O) O<|Q.qg O (q.lr (dr 0 O) hx2 O bK O) O<|Q.qg O (q.Ma O O h3) O<|Q.u 10 O<|Q.nil<|R.ay O O<|R.reg O<|R.q (q.build d9 O O) O<|R.q (q.iface O bm) O<|R.s O (s.st 6 _ O O O O (.inl ar) O O O O) fun _=>R.u 1 O<|R.nil<|R.mp (fun _ hw=>hw.a8 (α:=ap))<|R.mp (fun _ hw=>hw.a8 (α:=aE))<|R.mp (fun _ hw=>hw.a8 (α:=Held))<|R.mp (fun _ hw=>hw.a8 (α:=Note)) ?_
    have hz:cb l=((⟨[],[],[],[],0,0⟩:aD),4):=by (exact oZ HP hx1 (.inl (Nj (by omega) hx2 ‹_›)))
    rw [hz]
    exact R.w2 ((nS),(nS),(nS),(nS)) [7] gN O Tryz.results37 (RV.cell 6 O O ar) (RV.tmp O) O O O (dz O (dq (by decide) O))
   rcases Bool.eq_false_or_eq_true x1.Gone with h4|h4
   .
    rw [h4]
    refine R.ew O mixed (by kernel_rfl)<|Q.u 1 O<|Q.q (q.eL O O) O<|Q.u 1 O<|Q.qg O (q.aO O bM O) O<|Q.qg O (q.ld 0 O O bK O) O<|Q.u 2 O<|Q.qg O (q.lV (r:=((k-1:Nat):Int)) O O) O<|Q.qg O (q.idx (i:=(k-1)) (dr 0 O) O O cp O hx2) O<|Q.qg O (q.nF (j':=0) (dr 0 O) hx2 O bM O) O<|Q.qg O (q.lr (dr 0 O) hx2 O bK O) O<|Q.qg O (q.Ma O O h3) O<|Q.u 2 O<|Q.qg O (q.aO O gP O) O<|Q.qg O (q.ld 0 O O iW O) O<|Q.u 6 O<|Q.nil<|R.ay O O<|R.reg O<|R.q (q.build d9 O O) O<|R.q (q.iface O bm) O<|R.s O (s.st 6 _ O O O O (.inl ar) O O O O) fun _=>R.u 1 O<|R.nil<|R.mp (fun _ hw=>hw.a8 (α:=ap))<|R.mp (fun _ hw=>hw.a8 (α:=aE))<|R.mp (fun _ hw=>hw.a8 (α:=Held))<|R.mp (fun _ hw=>hw.a8 (α:=Note)) ?_
    have hz:cb l=((⟨[],[],[],[],0,0⟩:aD),4):=by (exact oZ HP hx1 (.inr (.inl ‹_›)))
    rw [hz]
    exact R.w2 ((nS),(nS),(nS),(nS)) [7] gN O Tryz.results37 (RV.cell 6 O O ar) (RV.tmp O) O O O (dz O (dq (by decide) O))
   rw [h4]
   rcases Bool.eq_false_or_eq_true (!((rowP z (⟨x1.Key,x1.Val,false⟩:Change)).2)) with h5|h5
   .
    refine R.fu (fuel:=22) (Wd w (blks []++own) [af.box b3 [.string x1.Key,.string x1.Val,.bool false] 117,af.box b1 rP 48,af.held w own] [af.ls bJ l,dc]) O mixed O<|D.q (i:=0) O (aC [0,6,7] [0,1] O O O) O (q.mv O) O<|D.q (i:=1) O (aC [0,6,7] [0,1] O O O) O (q.eL O O) O<|D.q (i:=2) O (aC [0,6,7] [0,1] O O O) O (q.mv O) O<|D.q (i:=3) O (aC [0,6,7] [0,1] O O O) O (q.aO O bM O) O<|D.q (i:=4) O (aC [0,6,7] [0,1] O O O) O (q.ld 0 O O bK O) O<|D.q (i:=5) O (aC [0,6,7] [0,1] O O O) O (q.mv O) O<|D.q (i:=6) O (aC [0,6,7] [0,1] O O O) O (q.mv O) O<|D.q (i:=7) O (aC [0,6,7] [0,1] O O O) O (q.lV (r:=((k-1:Nat):Int)) O O) O<|D.q (i:=8) O (aC [0,6,7] [0,1] O O O) O (q.idx (i:=(k-1)) (dr 0 O) O O cp O hx2) O<|D.q (i:=9) O (aC [0,6,7] [0,1] O O O) O (q.nF (j':=0) (dr 0 O) hx2 O bM O) O<|D.q (i:=10) O (aC [0,6,7] [0,1] O O O) O (q.lr (dr 0 O) hx2 O bK O) O<|D.q (i:=11) O (aC [0,6,7] [0,1] O O O) O (q.Ma O O h3) O<|D.q (i:=12) O (aC [0,6,7] [0,1] O O O) O (q.NG O O) O<|D.q (i:=13) O (aC [0,6,7] [0,1] O O O) O (q.mv O) O<|D.q (i:=14) O (aC [0,6,7] [0,1] O O O) O (q.aO O gP O) O<|D.q (i:=15) O (aC [0,6,7] [0,1] O O O) O (q.ld 0 O O iW O) O<|D.q (i:=16) O (aC [0,6,7] [0,1] O O O) O (q.rD O O) O<|D.q (i:=17) O (aC [0,6,7] [0,1] O O O) O (q.mv O) O<|D.q (i:=18) O (aC [0,6,7] [0,1] O O O) O (q.dv 0 O O aX) O<|D.one (i:=19) O<|Do.s (s.aW FM [1] _ _ _ O O O F6 O O (fun w own hw H=>vH b2 rj oo uq rk z (⟨x1.Key,x1.Val,false⟩:Change) w own H ‹_› (by omega)) O) (fun _=>(aC [5,6,7] [0,1] O O O)) O ?_
    rintro ⟨z9,lF,mb,z12⟩
    dsimp only
    refine D.q (i:=20) O (aC [5,6,7] [0,1] O O O) O (q.not O) O<|D.q (i:=21) O (aC [5,6,7] [0,1] O O O) O (q.rD O O) O<|D.done<|R.cond O O (fun h6=>?_) (fun h6=>?_)
    .
     refine R.reg O<|R.q (q.build d9 O O) O<|R.q (q.iface O bm) O<|R.s O (s.st 6 _ O O O O (.inl ar) O O O O) fun _=>R.u 1 O<|R.nil<|R.mp (fun _ hw=>hw.a8 (α:=ap))<|R.mp (fun _ hw=>hw.a8 (α:=aE))<|R.mp (fun _ hw=>hw.a8 (α:=Held))<|R.mp (fun _ hw=>hw.a8 (α:=Note)) ?_
     have hz:cb l=((⟨[],[],[],[],0,0⟩:aD),4):=by (exact oZ HP hx1 (.inr (.inr ⟨by assumption,by exact DZ ‹_›⟩)))
     rw [hz]
     exact R.w2 ((nS),(nS),(nS),(nS)) [7] gN O Tryz.results37 (RV.cell 6 O O ar) (RV.tmp O) O O O (dz O (dq (by decide) O))
    refine R.reg O<|R.q (q.bA (r:=((k+1:Nat):Int)) O O) O<|R.u 1 O<|R.nil<|R.back (k+1,(rowP z (⟨x1.Key,x1.Val,false⟩:Change)).1,z9,lF,mb,z12) O (by ((try dsimp only);have zl:=tF z (⟨x1.Key,x1.Val,false⟩:Change);exact ⟨by omega,vI HP hx1 (by exact D5 (by omega) hx2 ‹_›) ‹_› (by exact D1 ‹_›),by omega,by omega,by omega⟩)) (by dsimp only;omega) (sF O) (aC [4,3,2,1,0,6,7] [0,1] O O O)
   refine R.fu (fuel:=22) (Wd w (blks []++own) [af.box b3 [.string x1.Key,.string x1.Val,.bool false] 117,af.box b1 rP 48,af.held w own] [af.ls bJ l,dc]) O mixed O<|D.q (i:=0) O (aC [0,6,7] [0,1] O O O) O (q.mv O) O<|D.q (i:=1) O (aC [0,6,7] [0,1] O O O) O (q.eL O O) O<|D.q (i:=2) O (aC [0,6,7] [0,1] O O O) O (q.mv O) O<|D.q (i:=3) O (aC [0,6,7] [0,1] O O O) O (q.aO O bM O) O<|D.q (i:=4) O (aC [0,6,7] [0,1] O O O) O (q.ld 0 O O bK O) O<|D.q (i:=5) O (aC [0,6,7] [0,1] O O O) O (q.mv O) O<|D.q (i:=6) O (aC [0,6,7] [0,1] O O O) O (q.mv O) O<|D.q (i:=7) O (aC [0,6,7] [0,1] O O O) O (q.lV (r:=((k-1:Nat):Int)) O O) O<|D.q (i:=8) O (aC [0,6,7] [0,1] O O O) O (q.idx (i:=(k-1)) (dr 0 O) O O cp O hx2) O<|D.q (i:=9) O (aC [0,6,7] [0,1] O O O) O (q.nF (j':=0) (dr 0 O) hx2 O bM O) O<|D.q (i:=10) O (aC [0,6,7] [0,1] O O O) O (q.lr (dr 0 O) hx2 O bK O) O<|D.q (i:=11) O (aC [0,6,7] [0,1] O O O) O (q.Ma O O h3) O<|D.q (i:=12) O (aC [0,6,7] [0,1] O O O) O (q.NG O O) O<|D.q (i:=13) O (aC [0,6,7] [0,1] O O O) O (q.mv O) O<|D.q (i:=14) O (aC [0,6,7] [0,1] O O O) O (q.aO O gP O) O<|D.q (i:=15) O (aC [0,6,7] [0,1] O O O) O (q.ld 0 O O iW O) O<|D.q (i:=16) O (aC [0,6,7] [0,1] O O O) O (q.rD O O) O<|D.q (i:=17) O (aC [0,6,7] [0,1] O O O) O (q.mv O) O<|D.q (i:=18) O (aC [0,6,7] [0,1] O O O) O (q.dv 0 O O aX) O<|D.one (i:=19) O<|Do.s (s.aW FM [1] _ _ _ O O O F6 O O (fun w own hw H=>vH b2 rj oo uq rk z (⟨x1.Key,x1.Val,false⟩:Change) w own H ‹_› (by omega)) O) (fun _=>(aC [5,6,7] [0,1] O O O)) O ?_
   rintro ⟨z17,yO,BA,z20⟩
   dsimp only
   refine D.q (i:=20) O (aC [5,6,7] [0,1] O O O) O (q.not O) O<|D.q (i:=21) O (aC [5,6,7] [0,1] O O O) O (q.rD O O) O<|D.done<|R.cond O O (fun h7=>?_) (fun h7=>?_)
   .
    refine R.reg O<|R.q (q.build d9 O O) O<|R.q (q.iface O bm) O<|R.s O (s.st 6 _ O O O O (.inl ar) O O O O) fun _=>R.u 1 O<|R.nil<|R.mp (fun _ hw=>hw.a8 (α:=ap))<|R.mp (fun _ hw=>hw.a8 (α:=aE))<|R.mp (fun _ hw=>hw.a8 (α:=Held))<|R.mp (fun _ hw=>hw.a8 (α:=Note)) ?_
    have hz:cb l=((⟨[],[],[],[],0,0⟩:aD),4):=by (exact oZ HP hx1 (.inr (.inr ⟨by assumption,by exact DZ ‹_›⟩)))
    rw [hz]
    exact R.w2 ((nS),(nS),(nS),(nS)) [7] gN O Tryz.results37 (RV.cell 6 O O ar) (RV.tmp O) O O O (dz O (dq (by decide) O))
   refine R.reg O<|R.q (q.bA (r:=((k+1:Nat):Int)) O O) O<|R.u 1 O<|R.nil<|R.back (k+1,(rowP z (⟨x1.Key,x1.Val,false⟩:Change)).1,z17,yO,BA,z20) O (by ((try dsimp only);have zl:=tF z (⟨x1.Key,x1.Val,false⟩:Change);exact ⟨by omega,vI HP hx1 (by exact D5 (by omega) hx2 ‹_›) ‹_› (by exact D1 ‹_›),by omega,by omega,by omega⟩)) (by dsimp only;omega) (sF O) (aC [4,3,2,1,0,6,7] [0,1] O O O)
  rcases Bool.eq_false_or_eq_true x1.Gone with h8|h8
  .
   rw [h8]
   refine R.ew O mixed (by kernel_rfl)<|Q.u 1 O<|Q.q (q.eu O O) O<|Q.u 12 O<|Q.qg O (q.aO O gP O) O<|Q.qg O (q.ld 0 O O iW O) O<|Q.u 6 O<|Q.nil<|R.ay O O<|R.reg O<|R.q (q.build d9 O O) O<|R.q (q.iface O bm) O<|R.s O (s.st 6 _ O O O O (.inl ar) O O O O) fun _=>R.u 1 O<|R.nil<|R.mp (fun _ hw=>hw.a8 (α:=ap))<|R.mp (fun _ hw=>hw.a8 (α:=aE))<|R.mp (fun _ hw=>hw.a8 (α:=Held))<|R.mp (fun _ hw=>hw.a8 (α:=Note)) ?_
   have hz:cb l=((⟨[],[],[],[],0,0⟩:aD),4):=by (exact oZ HP hx1 (.inr (.inl ‹_›)))
   rw [hz]
   exact R.w2 ((nS),(nS),(nS),(nS)) [7] gN O Tryz.results37 (RV.cell 6 O O ar) (RV.tmp O) O O O (dz O (dq (by decide) O))
  rw [h8]
  rcases Bool.eq_false_or_eq_true (!((rowP z (⟨x1.Key,x1.Val,false⟩:Change)).2)) with h9|h9
  .
   refine R.fu (fuel:=22) (Wd w (blks []++own) [af.box b3 [.string x1.Key,.string x1.Val,.bool false] 117,af.box b1 rP 48,af.held w own] [af.ls bJ l,dc]) O mixed O<|D.q (i:=0) O (aC [0,6,7] [0,1] O O O) O (q.mv O) O<|D.q (i:=1) O (aC [0,6,7] [0,1] O O O) O (q.eu O O) O<|D.q (i:=2) O (aC [0,6,7] [0,1] O O O) O (q.mv O) O<|D.skip (i:=3) O (aC [0,6,7] [0,1] O O O) O O<|D.skip (i:=4) O (aC [0,6,7] [0,1] O O O) O O<|D.skip (i:=5) O (aC [0,6,7] [0,1] O O O) O O<|D.skip (i:=6) O (aC [0,6,7] [0,1] O O O) O O<|D.skip (i:=7) O (aC [0,6,7] [0,1] O O O) O O<|D.skip (i:=8) O (aC [0,6,7] [0,1] O O O) O O<|D.skip (i:=9) O (aC [0,6,7] [0,1] O O O) O O<|D.skip (i:=10) O (aC [0,6,7] [0,1] O O O) O O<|D.skip (i:=11) O (aC [0,6,7] [0,1] O O O) O O<|D.q (i:=12) O (aC [0,6,7] [0,1] O O O) O (q.rD O O) O<|D.q (i:=13) O (aC [0,6,7] [0,1] O O O) O (q.mv O) O<|D.q (i:=14) O (aC [0,6,7] [0,1] O O O) O (q.aO O gP O) O<|D.q (i:=15) O (aC [0,6,7] [0,1] O O O) O (q.ld 0 O O iW O) O<|D.q (i:=16) O (aC [0,6,7] [0,1] O O O) O (q.rD O O) O<|D.q (i:=17) O (aC [0,6,7] [0,1] O O O) O (q.mv O) O<|D.q (i:=18) O (aC [0,6,7] [0,1] O O O) O (q.dv 0 O O aX) O<|D.one (i:=19) O<|Do.s (s.aW FM [1] _ _ _ O O O F6 O O (fun w own hw H=>vH b2 rj oo uq rk z (⟨x1.Key,x1.Val,false⟩:Change) w own H ‹_› (by omega)) O) (fun _=>(aC [5,6,7] [0,1] O O O)) O ?_
   rintro ⟨z29,z30,z31,z32⟩
   dsimp only
   refine D.q (i:=20) O (aC [5,6,7] [0,1] O O O) O (q.not O) O<|D.q (i:=21) O (aC [5,6,7] [0,1] O O O) O (q.rD O O) O<|D.done<|R.cond O O (fun h10=>?_) (fun h10=>?_)
   .
    refine R.reg O<|R.q (q.build d9 O O) O<|R.q (q.iface O bm) O<|R.s O (s.st 6 _ O O O O (.inl ar) O O O O) fun _=>R.u 1 O<|R.nil<|R.mp (fun _ hw=>hw.a8 (α:=ap))<|R.mp (fun _ hw=>hw.a8 (α:=aE))<|R.mp (fun _ hw=>hw.a8 (α:=Held))<|R.mp (fun _ hw=>hw.a8 (α:=Note)) ?_
    have hz:cb l=((⟨[],[],[],[],0,0⟩:aD),4):=by (exact oZ HP hx1 (.inr (.inr ⟨by assumption,by exact DZ ‹_›⟩)))
    rw [hz]
    exact R.w2 ((nS),(nS),(nS),(nS)) [7] gN O Tryz.results37 (RV.cell 6 O O ar) (RV.tmp O) O O O (dz O (dq (by decide) O))
   refine R.reg O<|R.q (q.bA (r:=((k+1:Nat):Int)) O O) O<|R.u 1 O<|R.nil<|R.back (k+1,(rowP z (⟨x1.Key,x1.Val,false⟩:Change)).1,z29,z30,z31,z32) O (by ((try dsimp only);have zl:=tF z (⟨x1.Key,x1.Val,false⟩:Change);exact ⟨by omega,vI HP hx1 (by exact D4 (by omega)) ‹_› (by exact D1 ‹_›),by omega,by omega,by omega⟩)) (by dsimp only;omega) (sF O) (aC [4,3,2,1,0,6,7] [0,1] O O O)
  refine R.fu (fuel:=22) (Wd w (blks []++own) [af.box b3 [.string x1.Key,.string x1.Val,.bool false] 117,af.box b1 rP 48,af.held w own] [af.ls bJ l,dc]) O mixed O<|D.q (i:=0) O (aC [0,6,7] [0,1] O O O) O (q.mv O) O<|D.q (i:=1) O (aC [0,6,7] [0,1] O O O) O (q.eu O O) O<|D.q (i:=2) O (aC [0,6,7] [0,1] O O O) O (q.mv O) O<|D.skip (i:=3) O (aC [0,6,7] [0,1] O O O) O O<|D.skip (i:=4) O (aC [0,6,7] [0,1] O O O) O O<|D.skip (i:=5) O (aC [0,6,7] [0,1] O O O) O O<|D.skip (i:=6) O (aC [0,6,7] [0,1] O O O) O O<|D.skip (i:=7) O (aC [0,6,7] [0,1] O O O) O O<|D.skip (i:=8) O (aC [0,6,7] [0,1] O O O) O O<|D.skip (i:=9) O (aC [0,6,7] [0,1] O O O) O O<|D.skip (i:=10) O (aC [0,6,7] [0,1] O O O) O O<|D.skip (i:=11) O (aC [0,6,7] [0,1] O O O) O O<|D.q (i:=12) O (aC [0,6,7] [0,1] O O O) O (q.rD O O) O<|D.q (i:=13) O (aC [0,6,7] [0,1] O O O) O (q.mv O) O<|D.q (i:=14) O (aC [0,6,7] [0,1] O O O) O (q.aO O gP O) O<|D.q (i:=15) O (aC [0,6,7] [0,1] O O O) O (q.ld 0 O O iW O) O<|D.q (i:=16) O (aC [0,6,7] [0,1] O O O) O (q.rD O O) O<|D.q (i:=17) O (aC [0,6,7] [0,1] O O O) O (q.mv O) O<|D.q (i:=18) O (aC [0,6,7] [0,1] O O O) O (q.dv 0 O O aX) O<|D.one (i:=19) O<|Do.s (s.aW FM [1] _ _ _ O O O F6 O O (fun w own hw H=>vH b2 rj oo uq rk z (⟨x1.Key,x1.Val,false⟩:Change) w own H ‹_› (by omega)) O) (fun _=>(aC [5,6,7] [0,1] O O O)) O ?_
  rintro ⟨z37,z38,z39,z40⟩
  dsimp only
  refine D.q (i:=20) O (aC [5,6,7] [0,1] O O O) O (q.not O) O<|D.q (i:=21) O (aC [5,6,7] [0,1] O O O) O (q.rD O O) O<|D.done<|R.cond O O (fun h11=>?_) (fun h11=>?_)
  .
   refine R.reg O<|R.q (q.build d9 O O) O<|R.q (q.iface O bm) O<|R.s O (s.st 6 _ O O O O (.inl ar) O O O O) fun _=>R.u 1 O<|R.nil<|R.mp (fun _ hw=>hw.a8 (α:=ap))<|R.mp (fun _ hw=>hw.a8 (α:=aE))<|R.mp (fun _ hw=>hw.a8 (α:=Held))<|R.mp (fun _ hw=>hw.a8 (α:=Note)) ?_
   have hz:cb l=((⟨[],[],[],[],0,0⟩:aD),4):=by (exact oZ HP hx1 (.inr (.inr ⟨by assumption,by exact DZ ‹_›⟩)))
   rw [hz]
   exact R.w2 ((nS),(nS),(nS),(nS)) [7] gN O Tryz.results37 (RV.cell 6 O O ar) (RV.tmp O) O O O (dz O (dq (by decide) O))
  refine R.reg O<|R.q (q.bA (r:=((k+1:Nat):Int)) O O) O<|R.u 1 O<|R.nil<|R.back (k+1,(rowP z (⟨x1.Key,x1.Val,false⟩:Change)).1,z37,z38,z39,z40) O (by ((try dsimp only);have zl:=tF z (⟨x1.Key,x1.Val,false⟩:Change);exact ⟨by omega,vI HP hx1 (by exact D4 (by omega)) ‹_› (by exact D1 ‹_›),by omega,by omega,by omega⟩)) (by dsimp only;omega) (sF O) (aC [4,3,2,1,0,6,7] [0,1] O O O)
 refine R.q (q.cW O O) O<|R.nil<|R.aB O O<|R.reg O<|R.q (q.dv 4 O O ar) O<|R.s O (s.pre (fun _ hw=>hw.cX 3 _ O O) (s.pre (fun _ hw=>hw.cX 2 _ O O) (s.pre (fun _ hw=>hw.cX 1 _ O O) (s.pre (fun _ hw=>hw.cX 0 _ O O) (s.aW [0,1,2] gN _ _ _ O O O Sd O O (fun w own hw H=>Ix rj oo uq rk z w own H (by omega)) O))))) fun _=>R.q (q.not O) O<|R.nil<|R.cond O O (fun h12=>?_) (fun h12=>?_)
 .
  refine R.reg O<|R.q (q.build d9 O O) O<|R.q (q.iface O bm) O<|R.s O (s.st 1 _ O O O O (.inl ar) O O O O) fun _=>R.u 1 O<|R.nil<|R.mp (fun _ hw=>hw.a8 (α:=ap))<|R.mp (fun _ hw=>hw.a8 (α:=aE))<|R.mp (fun _ hw=>hw.a8 (α:=Held))<|R.mp (fun _ hw=>hw.a8 (α:=Note)) ?_
  have hz:cb l=((⟨[],[],[],[],0,0⟩:aD),4):=by (exact QF HP (by omega) (by exact DZ ‹_›))
  rw [hz]
  exact R.w2 ((nS),(nS),(nS),(nS)) [2] gN O Tryz.results37 (RV.cell 1 O O ar) (RV.tmp O) O O O (dz O (dq (by decide) O))
 refine R.reg O<|R.q (q.dv 0 O O ar) O<|R.s O (s.fZ 1 _ O O O (fun _ _=>rfl) (.inl ar) (fun w hw=>(ag (Sl.one (hw.bT 3 O)) (ag (Sl.one (hw.bT 2 O)) (ag (Sl.one (hw.bT 1 O)) (ag (Sl.one (hw.bT 0 O)) (ag O (ag O aP))))))) O O O) fun _=>R.u 1 O<|R.nil ?_
 have hz:cb l=(z,0):=by (exact Tf HP (by omega) (by exact D1 ‹_›))
 rw [hz]
 exact R.w2 (rj,oo,uq,rk) [2] gN O Tryz.results37 (RV.cell 1 O O ar) (RV.tmp O) O O O (dz O (iI O))
end Go.Proofs.YtkbhcbipadkcaaaGreatDoor
