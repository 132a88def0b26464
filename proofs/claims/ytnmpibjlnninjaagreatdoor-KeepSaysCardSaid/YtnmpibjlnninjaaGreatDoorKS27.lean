import Derived.Test.YtnmpibjlnninjaaGreatDoorKS26
namespace Go.Proofs.YtnmpibjlnninjaaGreatDoor
set_option linter.unusedVariables false
set_option linter.unusedSimpArgs false
set_option maxRecDepth 100000
set_option maxHeartbeats 90000000
section
open Go Go.RowKit
attribute [local irreducible] Run Rg Rq Qt Qa Stp Dg Do Dm cD
theorem GN {b:Bool}(h:(!b)=true):b=false:=by cases b <;> simp_all
theorem GQ {b:Bool}(h:(!b)=false):b=true:=by cases b <;> simp_all
theorem Vf {α β:Type}{f:α->β}{L:List α}{k:Nat}{x:α}(hx:L[k]? = some x)(hm:f x∈(L.take k).map f):¬ (L.map f).Nodup:=fun hn=>by
 have hk:=(List.getElem?_eq_some_iff.1 hx).1
 rw [<- List.take_append_drop k L,List.map_append] at hn
 have h2:f x∈(L.drop k).map f:=List.mem_map.2 ⟨x,List.mem_of_getElem? (i:=0) (by rw [List.getElem?_drop,Nat.add_zero];exact hx),rfl⟩
 exact (List.nodup_append.1 hn).2.2 _ hm _ h2 rfl
theorem I6 {l:List Int}{x:Int}(h:l.Nodup)(hx:¬ x∈l):(l++[x]).Nodup:=by
 rw [List.nodup_append]
 exact ⟨h,(List.nodup_cons.2 ⟨bW,List.nodup_nil⟩),fun a ha b hb e=>hx (by rw [List.mem_singleton.1 hb] at e;rw [<- e];exact ha)⟩
section
variable {r:av} {k:Nat} {x:Held} {seen ts:List Int}
theorem Rs (hx:r.Held[k]? = some x)(h:cO r.ao x.ap<0):eP r=false:=gJ fun hw=>by
 have:=hw.fy x (List.mem_of_getElem? hx);omega
theorem Vg (hx:r.Held[k]? = some x)(hs:seen=(r.Held.take k).map Held.ap)(h:x.ap∈seen):eP r=false:=gJ fun hw=>Vf hx (hs▸h) hw.once
theorem LO (ht:ts=(r.Things.take k).map aA.ID)(hk:r.Things.length<=k)(h:¬ ts=bC r.ao):eP r=false:=gJ fun hw=>h (by rw [ht,List.take_of_length_le hk];exact hw.things)
theorem X9 {x:ap}(hx:r.ao[r.ao.length-1]? = some x)(h:¬ x.ID<r.ag):eP r=false:=gJ fun hw=>h (hw.R7 x (by rw [List.getLast?_eq_getElem?];exact hx))
theorem GR {α β:Type}{f:α->β}{L:List α}{y:β}(h:(L.map f)[(L.map f).length-1]? = some y):∃x,L.getLast? = some x/\f x=y:=by
 rw [List.getElem?_map,List.length_map,<- List.getLast?_eq_getElem?] at h
 obtain ⟨x,h1,h2⟩:=Option.map_eq_some_iff.1 h
 exact ⟨x,h1,h2⟩
theorem S5 {y:Int}(ht:ts=(r.Things.take k).map aA.ID)(hk:r.Things.length<=k)(hy:ts[ts.length-1]? = some y)(h:¬ y<r.ah):eP r=false:=gJ fun hw=>by
 subst ht;rw [List.take_of_length_le hk] at hy
 obtain ⟨x,h1,h2⟩:=GR hy
 exact h (h2▸hw.R8 x h1)
theorem Ep (a1:eQ r.ao=0)(a2:r.Things.length<=10)(a3:1<=r.ag/\r.ag<=1000)(a5:1<=r.ah/\r.ah<=1000)(a7:r.Held.length=r.ao.length){i:Nat}(hs:seen=(r.Held.take i).map Held.ap)(hi:r.Held.length<=i)
 (hf:∀h∈r.Held.take i,0<=cO r.ao h.ap) (hn:seen.Nodup) (ht:ts=(r.Things.take k).map aA.ID) (hk:r.Things.length<=k) (he:ts=bC r.ao) (hw:r.ao.length=0 ∨ ∃x,r.ao[r.ao.length-1]? = some x/\x.ID<r.ag) (hl:ts.length=0 ∨ ∃y,ts[ts.length-1]? = some y/\y<r.ah):eP r=true:=by
 rw [List.take_of_length_le hi] at hs hf
 rw [List.take_of_length_le hk] at ht
 refine zc ⟨a1,a2,a3.1,a3.2,a5.1,a5.2,a7,hf,hs▸hn,ht.symm.trans he,fun w hq=>?_,fun t hq=>?_⟩
 .
  rcases hw with hw|⟨x,h1,h2⟩
  .rw [List.eq_nil_of_length_eq_zero hw] at hq;cases hq
  rw [List.getLast?_eq_getElem?,h1] at hq;injection hq with hq;rw [<- hq];exact h2
 rcases hl with hl|⟨y,h1,h2⟩
 .rw [ht,List.length_map] at hl;rw [List.eq_nil_of_length_eq_zero hl] at hq;cases hq
 subst ht
 obtain ⟨x,h3,h4⟩:=GR h1
 rw [h3] at hq;injection hq with hq;rw [<- hq,h4];exact h2
end
theorem LP (a8 aW aX aZ:Value)(r:av)(w:World)(own:List Nat)(H:HN w own [] [aj.ls a8 r.ao,aj.ls aW r.Things,aj.ls aX r.Held,aj.ls aZ r.Notes])(hr:r.ao.length<=1000/\r.Things.length<=1000/\r.Held.length<=1000):RC Tryz.prog 82 #[.agg #[a8,aW,aX,aZ,iV r.ag,iV r.ah]] H (fun _:Unit => .bool (eP r)) (fun _=>[]) (fun _=>[]):=by
 have cB:=H.bD 0 rfl
 have cd:=H.bD 1 rfl
 have df:=H.bD 2 rfl
 have cC:=H.bD 3 rfl
 refine R.bE [(0,.agg #[a8,aW,aX,aZ,iV r.ag,iV r.ah])] Tryz.func82 O O O O H<|U ?_
 refine R.s O (s.box O O O) fun b1=>U ?_
 refine R.c (q.call Ub O O (fun w hw=>(Bd _ r.ao w (hw.bz 0 O) ))) O ?_
 by_cases h1:eQ r.ao=0
 .
  refine U ?_
  by_cases h2:10<r.Things.length
  .
   refine U ?_
   have hz:eP r=false:=by (exact gJ (fun hw=>by have a1:eQ r.ao=0:=hw.tree;have a2:=hw.je;have a3:=hw.oT;have a4:=hw.qB;have a5:=hw.pG;have a6:=hw.pH;have a7:=hw.hlen;omega))
   rw [hz]
   exact R.w1 () [1] [] O Tryz.results82 (RV.tmp O) O O O O
  refine U ?_
  by_cases h3:r.ag<1
  .
   refine U ?_
   have hz:eP r=false:=by (exact gJ (fun hw=>by have a1:eQ r.ao=0:=hw.tree;have a2:=hw.je;have a3:=hw.oT;have a4:=hw.qB;have a5:=hw.pG;have a6:=hw.pH;have a7:=hw.hlen;omega))
   rw [hz]
   exact R.w1 () [1] [] O Tryz.results82 (RV.tmp O) O O O O
  refine U ?_
  by_cases h4:1000<r.ag
  .
   refine U ?_
   have hz:eP r=false:=by (exact gJ (fun hw=>by have a1:eQ r.ao=0:=hw.tree;have a2:=hw.je;have a3:=hw.oT;have a4:=hw.qB;have a5:=hw.pG;have a6:=hw.pH;have a7:=hw.hlen;omega))
   rw [hz]
   exact R.w1 () [1] [] O Tryz.results82 (RV.tmp O) O O O O
  refine U ?_
  by_cases h5:r.ah<1
  .
   refine U ?_
   have hz:eP r=false:=by (exact gJ (fun hw=>by have a1:eQ r.ao=0:=hw.tree;have a2:=hw.je;have a3:=hw.oT;have a4:=hw.qB;have a5:=hw.pG;have a6:=hw.pH;have a7:=hw.hlen;omega))
   rw [hz]
   exact R.w1 () [1] [] O Tryz.results82 (RV.tmp O) O O O O
  refine U ?_
  by_cases h6:1000<r.ah
  .
   refine U ?_
   have hz:eP r=false:=by (exact gJ (fun hw=>by have a1:eQ r.ao=0:=hw.tree;have a2:=hw.je;have a3:=hw.oT;have a4:=hw.qB;have a5:=hw.pG;have a6:=hw.pH;have a7:=hw.hlen;omega))
   rw [hz]
   exact R.w1 () [1] [] O Tryz.results82 (RV.tmp O) O O O O
  refine U ?_
  by_cases h7:r.Held.length=r.ao.length
  .
   refine U ?_
   refine R.row0 (α:=Int) 3<|R.loop (fun g_:Nat×Value×(List Int)=>[(1,.pointer (some ⟨b1,0,none⟩)),(3,g_.2.1),(49,aX),(50,iV (r.Held.length:Int)),(51,iV (g_.1:Int))]) (fun g_=>[aj.row 3 g_.2.1 g_.2.2,aj.box b1 [a8,aW,aX,aZ,iV r.ag,iV r.ah] 48,aj.held w own]) (fun g_=>[aj.ls a8 r.ao,aj.ls aW r.Things,aj.ls aX r.Held,aj.ls aZ r.Notes]) (fun g_=>g_.1<=r.Held.length/\g_.2.2=(r.Held.take g_.1).map Held.ap/\(∀h∈r.Held.take g_.1,0<=cO r.ao h.ap)/\g_.2.2.Nodup) (fun g_=>r.Held.length-g_.1) (0,nS,[]) O (by exact ⟨ae,rfl,(by intro h hh;simp at hh),List.nodup_nil⟩) (sF O) (eI [0,1,2] bm O) ?_
   rintro ⟨k,u,seen⟩ ⟨hk,HS,HF,HN⟩
   dsimp only at *
   have ll:seen.length<=1000:=by rw [HS,List.length_map,List.length_take];omega
   refine U ?_
   by_cases h8:k<r.Held.length
   .
    refine U ?_
    obtain ⟨x1,hx1⟩:=gE r.Held k
    refine R.q (q.idx (i:=k) (cb 2 O) O O bJ O hx1) O<|R.q (q.dj (ds:=fZ x1) (cb 2 O) hx1 O du O) O<|R.s O (s.alloc cK O O) fun b2=>?_
    refine R.s O (s.st 0 _ O O O O (.inl du) O O O O) fun _=>U ?_
    rcases eh r.ao x1.ap with ⟨fS,Eh⟩ | ⟨wE,kv,fS,vj,S3⟩
    .
     refine R.c (q.call ma O O (fun w hw=>(cv (congrArg (Value.int .i64) fS) (iJ _ r.ao x1.ap w (hw.bz 0 O) )))) O<|U ?_
     have hz:eP r=false:=by (exact Rs hx1 ae)
     rw [hz]
     exact R.w1 () [3] [] O Tryz.results82 (RV.tmp O) O O O O
    refine R.c (q.call ma O O (fun w hw=>(cv (congrArg (Value.int .i64) fS) (iJ _ r.ao x1.ap w (hw.bz 0 O) )))) O<|U ?_
    rcases Bool.eq_false_or_eq_true (decide (x1.ap∈seen)) with h9|h9
    .
     refine R.cg O (q.call rl O O (fun w hw=>(cv (congrArg Value.bool h9) (gw _ seen x1.ap w (hw.row 1 O) )))) O<|U ?_
     have hz:eP r=false:=by (exact Vg hx1 HS (of_decide_eq_true af))
     rw [hz]
     exact R.w1 () [3] [] O Tryz.results82 (RV.tmp O) O O O O
    refine R.cg O (q.call rl O O (fun w hw=>(cv (congrArg Value.bool h9) (gw _ seen x1.ap w (hw.row 1 O) )))) O<|U ?_
    refine R.s O (s.bs (l:=([x1.ap]:List Int)) dD kC O O O O O O O) fun b3=>?_
    refine R.s O (s.app 2 _ O O O (bH 0 O) lY az az (fun _=>rfl) O) fun v1=>U ?_
    refine R.q (q.aL (r:=((k+1:Nat):Int)) O O) O<|U ?_
    refine R.back (k+1,v1,(seen++([x1.ap]))) O (by (exact ⟨ae,by rw [l6 Held.ap hx1,<- HS],(by rw [List.take_add_one,hx1];intro h hh;rcases List.mem_append.1 hh with hh|hh;exact HF h hh;rw [List.mem_singleton.1 hh];omega),I6 HN (of_decide_eq_false af)⟩)) aO (sF O) (aN [2,3,4] bm O)
   refine U ?_
   refine R.row0 (α:=Int) 3<|R.loop (fun g_:Nat×Value×(List Int)=>[(1,.pointer (some ⟨b1,0,none⟩)),(6,g_.2.1),(74,aW),(75,iV (r.Things.length:Int)),(76,iV (g_.1:Int))]) (fun g_=>[aj.row 3 g_.2.1 g_.2.2,aj.row 3 u seen,aj.box b1 [a8,aW,aX,aZ,iV r.ag,iV r.ah] 48,aj.held w own]) (fun g_=>[aj.ls a8 r.ao,aj.ls aW r.Things,aj.ls aX r.Held,aj.ls aZ r.Notes]) (fun g_=>g_.1<=r.Things.length/\g_.2.2=(r.Things.take g_.1).map aA.ID) (fun g_=>r.Things.length-g_.1) (0,nS,[]) O (by exact ⟨ae,rfl⟩) (sF O) (eI bm bm O) ?_
   rintro ⟨j,u2,ts⟩ ⟨hj,HT⟩
   dsimp only at *
   have Zy:ts.length<=1000:=by rw [HT,List.length_map,List.length_take];omega
   refine U ?_
   by_cases h10:j<r.Things.length
   .
    refine U ?_
    obtain ⟨x2,hx2⟩:=gE r.Things j
    refine R.q (q.idx (i:=j) (cb 1 O) O O eZ O hx2) O<|R.q (q.dj (ds:=lB x2) (cb 1 O) hx2 O fU O) O<|R.s O (s.alloc fP O O) fun b4=>?_
    refine R.s O (s.st 0 _ O O O O (.inl fU) O O O O) fun _=>U ?_
    refine R.s O (s.bs (l:=([x2.ID]:List Int)) dD kC O O O O O O O) fun b5=>?_
    refine R.s O (s.app 2 _ O O O (bH 0 O) lY az az (fun _=>rfl) O) fun v2=>U ?_
    refine R.q (q.aL (r:=((j+1:Nat):Int)) O O) O<|U ?_
    refine R.back (j+1,v2,(ts++([x2.ID]))) O (by (exact ⟨ae,by rw [l6 aA.ID hx2,<- HT]⟩)) aO (sF O) (aN [2,3,4,5] bm O)
   refine U ?_
   refine R.s O (s.oL NU O O (fun w hw=>xp _ r.ao w (hw.bz 0 O) ae) O) fun v3=>?_
   rcases Bool.eq_false_or_eq_true (decide (ts=(bC r.ao))) with h11|h11
   .
    refine R.c (q.call NT O O (fun w hw=>(cv (congrArg Value.bool h11) (Ay _ ts _ (bC r.ao) w (hw.row 1 O) (hw.row 0 O) )))) O<|U ?_
    by_cases h12:r.ao.length=0
    .
     by_cases VG:ts.length=0
     .
      refine R.dA O mixed ai<|U ?_
      have hz:eP r=true:=by (exact Ep ae ae ae ae ae HS ae HF HN HT ae (of_decide_eq_true af) (.inl ae) (.inl ae))
      rw [hz]
      exact R.w1 () [4] [] O Tryz.results82 (RV.tmp O) O O O O
     obtain ⟨x3,hx3⟩:=gE ts (ts.length-1)
     by_cases Yt:x3<r.ah
     .
      refine R.dA O mixed ai<|U ?_
      refine Q.qg O (q.kL (r:=((ts.length-1:Nat):Int)) O O) O<|Q.qg O (q.idx (i:=(ts.length-1)) (bH 1 O) O O dD O hx3) O<|Q.qg O (q.gh (bH 1 O) hx3 O bg O) O<|U ?_
      have hz:eP r=true:=by (exact Ep ae ae ae ae ae HS ae HF HN HT ae (of_decide_eq_true af) (.inl ae) (.inr ⟨_,hx3,af⟩))
      rw [hz]
      exact R.w1 () [4] [] O Tryz.results82 (RV.tmp O) O O O O
     refine R.dA O mixed ai<|U ?_
     refine Q.qg O (q.kL (r:=((ts.length-1:Nat):Int)) O O) O<|Q.qg O (q.idx (i:=(ts.length-1)) (bH 1 O) O O dD O hx3) O<|Q.qg O (q.gh (bH 1 O) hx3 O bg O) O<|U ?_
     have hz:eP r=false:=by (exact S5 HT ae hx3 af)
     rw [hz]
     exact R.w1 () [4] [] O Tryz.results82 (RV.tmp O) O O O O
    obtain ⟨x4,hx4⟩:=gE r.ao (r.ao.length-1)
    by_cases Zb:x4.ID<r.ag
    .
     by_cases h16:ts.length=0
     .
      refine R.dA O mixed ai<|U ?_
      refine Q.qg O (q.kL (r:=((r.ao.length-1:Nat):Int)) O O) O<|Q.qg O (q.idx (i:=(r.ao.length-1)) (cb 0 O) O O cR O hx4) O<|Q.qg O (q.ew (j':=0) (cb 0 O) hx4 O gV O) O<|Q.qg O (q.gh (cb 0 O) hx4 O bg O) O<|U ?_
      have hz:eP r=true:=by (exact Ep ae ae ae ae ae HS ae HF HN HT ae (of_decide_eq_true af) (.inr ⟨_,hx4,af⟩) (.inl ae))
      rw [hz]
      exact R.w1 () [4] [] O Tryz.results82 (RV.tmp O) O O O O
     obtain ⟨x5,hx5⟩:=gE ts (ts.length-1)
     by_cases Xr:x5<r.ah
     .
      refine R.dA O mixed ai<|U ?_
      refine Q.qg O (q.kL (r:=((r.ao.length-1:Nat):Int)) O O) O<|Q.qg O (q.idx (i:=(r.ao.length-1)) (cb 0 O) O O cR O hx4) O<|Q.qg O (q.ew (j':=0) (cb 0 O) hx4 O gV O) O<|Q.qg O (q.gh (cb 0 O) hx4 O bg O) O<|U ?_
      refine Q.qg O (q.kL (r:=((ts.length-1:Nat):Int)) O O) O<|Q.qg O (q.idx (i:=(ts.length-1)) (bH 1 O) O O dD O hx5) O<|Q.qg O (q.gh (bH 1 O) hx5 O bg O) O<|U ?_
      have hz:eP r=true:=by (exact Ep ae ae ae ae ae HS ae HF HN HT ae (of_decide_eq_true af) (.inr ⟨_,hx4,af⟩) (.inr ⟨_,hx5,af⟩))
      rw [hz]
      exact R.w1 () [4] [] O Tryz.results82 (RV.tmp O) O O O O
     refine R.dA O mixed ai<|U ?_
     refine Q.qg O (q.kL (r:=((r.ao.length-1:Nat):Int)) O O) O<|Q.qg O (q.idx (i:=(r.ao.length-1)) (cb 0 O) O O cR O hx4) O<|Q.qg O (q.ew (j':=0) (cb 0 O) hx4 O gV O) O<|Q.qg O (q.gh (cb 0 O) hx4 O bg O) O<|U ?_
     refine Q.qg O (q.kL (r:=((ts.length-1:Nat):Int)) O O) O<|Q.qg O (q.idx (i:=(ts.length-1)) (bH 1 O) O O dD O hx5) O<|Q.qg O (q.gh (bH 1 O) hx5 O bg O) O<|U ?_
     have hz:eP r=false:=by (exact S5 HT ae hx5 af)
     rw [hz]
     exact R.w1 () [4] [] O Tryz.results82 (RV.tmp O) O O O O
    refine R.dA O mixed ai<|U ?_
    refine Q.qg O (q.kL (r:=((r.ao.length-1:Nat):Int)) O O) O<|Q.qg O (q.idx (i:=(r.ao.length-1)) (cb 0 O) O O cR O hx4) O<|Q.qg O (q.ew (j':=0) (cb 0 O) hx4 O gV O) O<|Q.qg O (q.gh (cb 0 O) hx4 O bg O) O<|U ?_
    have hz:eP r=false:=by (exact X9 hx4 af)
    rw [hz]
    exact R.w1 () [4] [] O Tryz.results82 (RV.tmp O) O O O O
   refine R.c (q.call NT O O (fun w hw=>(cv (congrArg Value.bool h11) (Ay _ ts _ (bC r.ao) w (hw.row 1 O) (hw.row 0 O) )))) O<|U ?_
   have hz:eP r=false:=by (exact LO HT ae (of_decide_eq_false af))
   rw [hz]
   exact R.w1 () [4] [] O Tryz.results82 (RV.tmp O) O O O O
  refine U ?_
  have hz:eP r=false:=by (exact gJ (fun hw=>by have a1:eQ r.ao=0:=hw.tree;have a2:=hw.je;have a3:=hw.oT;have a4:=hw.qB;have a5:=hw.pG;have a6:=hw.pH;have a7:=hw.hlen;omega))
  rw [hz]
  exact R.w1 () [1] [] O Tryz.results82 (RV.tmp O) O O O O
 refine U ?_
 have hz:eP r=false:=by (exact gJ (fun hw=>by have a1:eQ r.ao=0:=hw.tree;have a2:=hw.je;have a3:=hw.oT;have a4:=hw.qB;have a5:=hw.pG;have a6:=hw.pH;have a7:=hw.hlen;omega))
 rw [hz]
 exact R.w1 () [1] [] O Tryz.results82 (RV.tmp O) O O O O
def prevK (l:List Change)(k:Nat):Option ByteArray:=if k=0 then none else (l[k-1]?).map Change.Key
section
variable {l:List Change} {k:Nat} {x y:Change} {z:av} {Z:Option av}
theorem GU (hx:l[k]? = some x):l.drop k=x::l.drop (k+1):=by
 obtain ⟨h,rfl⟩:=List.getElem?_eq_some_iff.1 hx
 exact List.drop_eq_getElem_cons h
theorem GV (h:¬ 0<k):tD (prevK l k) x=true:=by unfold prevK;rw [if_pos ae];rfl
theorem GX (h:0<k)(hy:l[k-1]? = some y)(hl:(gQ x.Key y.Key||decide (x.Key=y.Key))=false):tD (prevK l k) x=true:=by
 unfold prevK;rw [if_neg ae,hy];exact UK hl
theorem Rt (h:0<k)(hy:l[k-1]? = some y)(hl:(gQ x.Key y.Key||decide (x.Key=y.Key))=true):tD (prevK l k) x=false:=by
 unfold prevK;rw [if_neg ae,hy];exact QP hl
theorem S6 (h:x.Gone=false):(⟨x.Key,x.Val,false⟩:Change)=x:=by rw [<- h]
theorem yg (h:pgo (l.drop k) (prevK l k) z=Z)(hx:l[k]? = some x)(h1:tD (prevK l k) x=true)(h2:x.Gone=false)(h3:(rowP z ⟨x.Key,x.Val,false⟩).2=true):pgo (l.drop (k+1)) (prevK l (k+1)) (rowP z ⟨x.Key,x.Val,false⟩).1=Z:=by
 rw [S6 h2] at h3 ⊢
 rw [GU hx] at h;simp only [pgo] at h
 rw [if_pos (by rw [h1,h2,h3];rfl)] at h
 unfold prevK;rw [if_neg ae,Nat.add_sub_cancel,hx];exact h
theorem qc (h:pgo (l.drop k) (prevK l k) z=pgo l none r0)(hx:l[k]? = some x)(h1:tD (prevK l k) x=false∨x.Gone=true∨x.Gone=false/\(rowP z ⟨x.Key,x.Val,false⟩).2=false):cr l=(r0,4):=by
 rw [GU hx] at h;simp only [pgo] at h
 rw [if_neg (by
  rcases h1 with e|e|⟨e1,e⟩
  .rw [e];simp
  .rw [e];simp
  rw [S6 e1] at e;rw [e];simp)] at h
 unfold cr;rw [<- h]
theorem Px (h:pgo (l.drop k) (prevK l k) z=pgo l none r0)(hk:l.length<=k):pgo l none r0=some z:=by
 rw [List.drop_of_length_le hk] at h;exact h.symm
theorem Vh (h:pgo (l.drop k) (prevK l k) z=pgo l none r0)(hk:l.length<=k)(hw:eP z=false):cr l=(r0,4):=by
 unfold cr;rw [Px h hk];dsimp only;rw [if_neg (by rw [hw];decide)]
theorem Ya (h:pgo (l.drop k) (prevK l k) z=pgo l none r0)(hk:l.length<=k)(hw:eP z=true):cr l=(z,0):=by
 unfold cr;rw [Px h hk];dsimp only;rw [if_pos hw]
theorem u7 (z:av)(x:Change):(rowP z x).1.ao.length<=z.ao.length+1/\(rowP z x).1.Things.length<=z.Things.length+1/\(rowP z x).1.Held.length<=z.Held.length+1:=by
 unfold rowP
 (repeat' split) <;> dsimp only <;> (repeat' split) <;> simp [KP,KQ,Fv,Qr] <;> omega
end
attribute [local irreducible] rowP pgo cr
theorem LQ (bL:Value)(l:List Change)(w:World)(own:List Nat)(H:HN w own [] [aj.ls bL l,e9])(hl:l.length<=900)(hc:∀c∈l,c.Key.size<=1000/\c.Val.size<=1000):RC Tryz.prog 30 #[bL] H (fun z:Value×Value×Value×Value => .tuple #[.agg #[z.1,z.2.1,z.2.2.1,z.2.2.2,iV (cr l).1.ag,iV (cr l).1.ah],cD (cr l).2]) (fun _=>[]) (fun z=>[aj.ls z.1 (cr l).1.ao,aj.ls z.2.1 (cr l).1.Things,aj.ls z.2.2.1 (cr l).1.Held,aj.ls z.2.2.2 (cr l).1.Notes]):=by
 have AP:=H.bD 0 rfl
 refine R.bE [(0,bL)] Tryz.func30 O O O O H<|U ?_
 refine R.s O (s.alloc cw O O) fun b1=>U ?_
 refine R.s O (s.alloc cw O O) fun b2=>U ?_
 refine R.row0 (α:=ap) 126<|R.row0 (α:=aA) 103<|R.row0 (α:=Held) 124<|R.row0 (α:=Note) 91<|R.loop (fun g_:Nat×av×Value×Value×Value×Value=>[(0,bL),(2,.pointer (some ⟨b1,0,none⟩)),(4,.pointer (some ⟨b2,0,none⟩)),(7,bL),(8,iV (l.length:Int)),(9,iV (g_.1:Int))]) (fun g_=>[aj.row 91 g_.2.2.2.2.2 g_.2.1.Notes,aj.row 124 g_.2.2.2.2.1 g_.2.1.Held,aj.row 103 g_.2.2.2.1 g_.2.1.Things,aj.row 126 g_.2.2.1 g_.2.1.ao,aj.box b2 [g_.2.2.1,g_.2.2.2.1,g_.2.2.2.2.1,g_.2.2.2.2.2,iV g_.2.1.ag,iV g_.2.1.ah] 48,aj.box b1 t8 48,aj.held w own]) (fun g_=>[aj.ls bL l,e9]) (fun g_=>g_.1<=l.length/\pgo (l.drop g_.1) (prevK l g_.1) g_.2.1=pgo l none r0/\g_.2.1.ao.length<=g_.1/\g_.2.1.Things.length<=g_.1/\g_.2.1.Held.length<=g_.1) (fun g_=>l.length-g_.1) (0,(⟨[],[],[],[],0,0⟩:av),nS,nS,nS,(nS)) O (by (try dsimp only);exact ⟨ae,rfl,Nat.le_refl _,Nat.le_refl _,Nat.le_refl _⟩) (sF O) (eI kj [0,1] O) ?_
 rintro ⟨k,z,sy,pg,wG,sA⟩ ⟨hk,HP,z1l,z2l,z3l⟩
 dsimp only at *
 refine U ?_
 by_cases h1:k<l.length
 .
  refine U ?_
  obtain ⟨x1,hx1⟩:=gE l k
  have QN:=hc x1 (List.mem_of_getElem? hx1)
  refine R.q (q.idx (i:=k) (cb 0 O) O O bj O hx1) O<|R.q (q.dj (ds:=[.string x1.Key,.string x1.Val,.bool x1.Gone]) (cb 0 O) hx1 O bK O) O<|R.s O (s.alloc bR O O) fun b3=>U ?_
  refine R.s O (s.st 0 _ O O O O (.inl bK) O O O O) fun _=>U ?_
  by_cases h2:0<k
  .
   obtain ⟨x2,hx2⟩:=gE l (k-1)
   have Yz:=hc x2 (List.mem_of_getElem? hx2)
   rcases Bool.eq_false_or_eq_true (gQ x1.Key x2.Key||decide (x1.Key=x2.Key)) with h3|h3
   .
    refine R.dA O mixed ai<|U ?_
    refine Q.qg O (q.kL (r:=((k-1:Nat):Int)) O O) O<|Q.qg O (q.idx (i:=(k-1)) (cb 0 O) O O bj O hx2) O<|Q.qg O (q.ew (j':=0) (cb 0 O) hx2 O bZ O) O<|Q.qg O (q.gh (cb 0 O) hx2 O dC O) O<|Q.qg O (q.Kw O O h3) O<|U ?_
    refine R.s O (s.st 6 _ O O O O (.inl ak) O O O O) fun _=>U ?_
    refine R.iY ap aA Held Note ?_
    have hz:cr l=((⟨[],[],[],[],0,0⟩:av),4):=by (exact qc HP hx1 (.inl (Rt ae hx2 af)))
    rw [hz]
    exact R.w2 ((nS),nS,nS,(nS)) [7] dh O Tryz.results30 (RV.cell 6 O O ak) (RV.tmp O) O O O (cq O (dU aD O))
   rcases Bool.eq_false_or_eq_true x1.Gone with h4|h4
   .
    rw [h4]
    refine R.dA O mixed ai<|U ?_
    refine Q.qg O (q.kL (r:=((k-1:Nat):Int)) O O) O<|Q.qg O (q.idx (i:=(k-1)) (cb 0 O) O O bj O hx2) O<|Q.qg O (q.ew (j':=0) (cb 0 O) hx2 O bZ O) O<|Q.qg O (q.gh (cb 0 O) hx2 O dC O) O<|Q.qg O (q.Kw O O h3) O<|U ?_
    refine R.s O (s.st 6 _ O O O O (.inl ak) O O O O) fun _=>U ?_
    refine R.iY ap aA Held Note ?_
    have hz:cr l=((⟨[],[],[],[],0,0⟩:av),4):=by (exact qc HP hx1 (.inr (.inl af)))
    rw [hz]
    exact R.w2 ((nS),nS,nS,(nS)) [7] dh O Tryz.results30 (RV.cell 6 O O ak) (RV.tmp O) O O O (cq O (dU aD O))
   rw [h4]
   rcases Bool.eq_false_or_eq_true (!((rowP z (⟨x1.Key,x1.Val,false⟩:Change)).2)) with h5|h5
   .
    refine R.eA (fuel:=22) [0,6,7] O O mixed O<|D.l Ey [0,6,7] [0,1] O<|U ?_
    refine Dm.yy O O (q.kL (r:=((k-1:Nat):Int)) O O) O<|Dm.yy O O (q.idx (i:=(k-1)) (cb 0 O) O O bj O hx2) O<|Dm.yy O O (q.ew (j':=0) (cb 0 O) hx2 O bZ O) O<|Dm.yy O O (q.gh (cb 0 O) hx2 O dC O) O<|Dm.yy O O (q.Kw O O h3) O<|U ?_
    refine D.one (i:=19) O<|Do.s (s.aT Jb [1] _ _ _ O O O J3 O O (fun w own hw H=>ye b2 sy pg wG sA z (⟨x1.Key,x1.Val,false⟩:Change) w own H af ae) O) (fun _=>(aN [5,6,7] [0,1] O)) O ?_
    rintro ⟨z9,l7,mh,z12⟩
    dsimp only
    refine D.l [20,21] [5,6,7] [0,1] O<|Dm.yy O O (q.not O) O<|U ?_
    refine D.done<|R.cond O O (fun h6=>?_) (fun h6=>?_)
    .
     refine U ?_
     refine R.s O (s.st 6 _ O O O O (.inl ak) O O O O) fun _=>U ?_
     refine R.iY ap aA Held Note ?_
     have hz:cr l=((⟨[],[],[],[],0,0⟩:av),4):=by (exact qc HP hx1 (.inr (.inr ⟨af,by exact GN af⟩)))
     rw [hz]
     exact R.w2 ((nS),nS,nS,(nS)) [7] dh O Tryz.results30 (RV.cell 6 O O ak) (RV.tmp O) O O O (cq O (dU aD O))
    refine U ?_
    refine R.q (q.aL (r:=((k+1:Nat):Int)) O O) O<|U ?_
    refine R.back (k+1,(rowP z (⟨x1.Key,x1.Val,false⟩:Change)).1,z9,l7,mh,z12) O (by ((try dsimp only);have zl:=u7 z (⟨x1.Key,x1.Val,false⟩:Change);exact ⟨ae,yg HP hx1 (by exact GX ae hx2 af) af (by exact GQ af),ae,ae,ae⟩)) aO (sF O) (aN [4,3,2,1,0,6,7] [0,1] O)
   refine R.eA (fuel:=22) [0,6,7] O O mixed O<|D.l Ey [0,6,7] [0,1] O<|U ?_
   refine Dm.yy O O (q.kL (r:=((k-1:Nat):Int)) O O) O<|Dm.yy O O (q.idx (i:=(k-1)) (cb 0 O) O O bj O hx2) O<|Dm.yy O O (q.ew (j':=0) (cb 0 O) hx2 O bZ O) O<|Dm.yy O O (q.gh (cb 0 O) hx2 O dC O) O<|Dm.yy O O (q.Kw O O h3) O<|U ?_
   refine D.one (i:=19) O<|Do.s (s.aT Jb [1] _ _ _ O O O J3 O O (fun w own hw H=>ye b2 sy pg wG sA z (⟨x1.Key,x1.Val,false⟩:Change) w own H af ae) O) (fun _=>(aN [5,6,7] [0,1] O)) O ?_
   rintro ⟨z17,xk,Bb,z20⟩
   dsimp only
   refine D.l [20,21] [5,6,7] [0,1] O<|Dm.yy O O (q.not O) O<|U ?_
   refine D.done<|R.cond O O (fun h7=>?_) (fun h7=>?_)
   .
    refine U ?_
    refine R.s O (s.st 6 _ O O O O (.inl ak) O O O O) fun _=>U ?_
    refine R.iY ap aA Held Note ?_
    have hz:cr l=((⟨[],[],[],[],0,0⟩:av),4):=by (exact qc HP hx1 (.inr (.inr ⟨af,by exact GN af⟩)))
    rw [hz]
    exact R.w2 ((nS),nS,nS,(nS)) [7] dh O Tryz.results30 (RV.cell 6 O O ak) (RV.tmp O) O O O (cq O (dU aD O))
   refine U ?_
   refine R.q (q.aL (r:=((k+1:Nat):Int)) O O) O<|U ?_
   refine R.back (k+1,(rowP z (⟨x1.Key,x1.Val,false⟩:Change)).1,z17,xk,Bb,z20) O (by ((try dsimp only);have zl:=u7 z (⟨x1.Key,x1.Val,false⟩:Change);exact ⟨ae,yg HP hx1 (by exact GX ae hx2 af) af (by exact GQ af),ae,ae,ae⟩)) aO (sF O) (aN [4,3,2,1,0,6,7] [0,1] O)
  rcases Bool.eq_false_or_eq_true x1.Gone with h8|h8
  .
   rw [h8]
   refine R.dA O mixed ai<|U ?_
   refine R.s O (s.st 6 _ O O O O (.inl ak) O O O O) fun _=>U ?_
   refine R.iY ap aA Held Note ?_
   have hz:cr l=((⟨[],[],[],[],0,0⟩:av),4):=by (exact qc HP hx1 (.inr (.inl af)))
   rw [hz]
   exact R.w2 ((nS),nS,nS,(nS)) [7] dh O Tryz.results30 (RV.cell 6 O O ak) (RV.tmp O) O O O (cq O (dU aD O))
  rw [h8]
  rcases Bool.eq_false_or_eq_true (!((rowP z (⟨x1.Key,x1.Val,false⟩:Change)).2)) with h9|h9
  .
   refine R.eA (fuel:=22) [0,6,7] O O mixed O<|D.l Ey [0,6,7] [0,1] O<|U ?_
   refine D.one (i:=19) O<|Do.s (s.aT Jb [1] _ _ _ O O O J3 O O (fun w own hw H=>ye b2 sy pg wG sA z (⟨x1.Key,x1.Val,false⟩:Change) w own H af ae) O) (fun _=>(aN [5,6,7] [0,1] O)) O ?_
   rintro ⟨z29,z30,z31,z32⟩
   dsimp only
   refine D.l [20,21] [5,6,7] [0,1] O<|Dm.yy O O (q.not O) O<|U ?_
   refine D.done<|R.cond O O (fun h10=>?_) (fun h10=>?_)
   .
    refine U ?_
    refine R.s O (s.st 6 _ O O O O (.inl ak) O O O O) fun _=>U ?_
    refine R.iY ap aA Held Note ?_
    have hz:cr l=((⟨[],[],[],[],0,0⟩:av),4):=by (exact qc HP hx1 (.inr (.inr ⟨af,by exact GN af⟩)))
    rw [hz]
    exact R.w2 ((nS),nS,nS,(nS)) [7] dh O Tryz.results30 (RV.cell 6 O O ak) (RV.tmp O) O O O (cq O (dU aD O))
   refine U ?_
   refine R.q (q.aL (r:=((k+1:Nat):Int)) O O) O<|U ?_
   refine R.back (k+1,(rowP z (⟨x1.Key,x1.Val,false⟩:Change)).1,z29,z30,z31,z32) O (by ((try dsimp only);have zl:=u7 z (⟨x1.Key,x1.Val,false⟩:Change);exact ⟨ae,yg HP hx1 (by exact GV ae) af (by exact GQ af),ae,ae,ae⟩)) aO (sF O) (aN [4,3,2,1,0,6,7] [0,1] O)
  refine R.eA (fuel:=22) [0,6,7] O O mixed O<|D.l Ey [0,6,7] [0,1] O<|U ?_
  refine D.one (i:=19) O<|Do.s (s.aT Jb [1] _ _ _ O O O J3 O O (fun w own hw H=>ye b2 sy pg wG sA z (⟨x1.Key,x1.Val,false⟩:Change) w own H af ae) O) (fun _=>(aN [5,6,7] [0,1] O)) O ?_
  rintro ⟨z37,z38,z39,z40⟩
  dsimp only
  refine D.l [20,21] [5,6,7] [0,1] O<|Dm.yy O O (q.not O) O<|U ?_
  refine D.done<|R.cond O O (fun h11=>?_) (fun h11=>?_)
  .
   refine U ?_
   refine R.s O (s.st 6 _ O O O O (.inl ak) O O O O) fun _=>U ?_
   refine R.iY ap aA Held Note ?_
   have hz:cr l=((⟨[],[],[],[],0,0⟩:av),4):=by (exact qc HP hx1 (.inr (.inr ⟨af,by exact GN af⟩)))
   rw [hz]
   exact R.w2 ((nS),nS,nS,(nS)) [7] dh O Tryz.results30 (RV.cell 6 O O ak) (RV.tmp O) O O O (cq O (dU aD O))
  refine U ?_
  refine R.q (q.aL (r:=((k+1:Nat):Int)) O O) O<|U ?_
  refine R.back (k+1,(rowP z (⟨x1.Key,x1.Val,false⟩:Change)).1,z37,z38,z39,z40) O (by ((try dsimp only);have zl:=u7 z (⟨x1.Key,x1.Val,false⟩:Change);exact ⟨ae,yg HP hx1 (by exact GV ae) af (by exact GQ af),ae,ae,ae⟩)) aO (sF O) (aN [4,3,2,1,0,6,7] [0,1] O)
 refine U ?_
 refine R.s O (s.pre (fun _ hw=>hw.bu 3 _ O O) (s.pre (fun _ hw=>hw.bu 2 _ O O) (s.pre (fun _ hw=>hw.bu 1 _ O O) (s.pre (fun _ hw=>hw.bu 0 _ O O) (s.aT [0,1,2] dh _ _ _ O O O Xj O O (fun w own hw H=>LP sy pg wG sA z w own H ae) O))))) fun _=>?_
 refine R.q (q.not O) O<|U ?_
 refine R.cond O O (fun h12=>?_) (fun h12=>?_)
 .
  refine U ?_
  refine R.s O (s.st 1 _ O O O O (.inl ak) O O O O) fun _=>U ?_
  refine R.iY ap aA Held Note ?_
  have hz:cr l=((⟨[],[],[],[],0,0⟩:av),4):=by (exact Vh HP ae (by exact GN af))
  rw [hz]
  exact R.w2 ((nS),nS,nS,(nS)) [2] dh O Tryz.results30 (RV.cell 1 O O ak) (RV.tmp O) O O O (cq O (dU aD O))
 refine U ?_
 refine R.s O (s.dE 1 _ O O O (fun _ _=>rfl) (.inl ak) (fun w hw=>(dx (hw.bz 3 O) (hw.bz 2 O) (hw.bz 1 O) (hw.bz 0 O) O O)) O O O) fun _=>U ?_
 have hz:cr l=(z,0):=by (exact Ya HP ae (by exact GQ af))
 rw [hz]
 exact R.w2 (sy,pg,wG,sA) [2] dh O Tryz.results30 (RV.cell 1 O O ak) (RV.tmp O) O O O (cq O (iT O))
end
section
open Go Go.RowKit
attribute [local irreducible] Run Rg Rq Qt Qa Stp Dg Do Dm cD
theorem GY {α:Type}(f:α->Int)(l:List α):qn f l=false ∨ ∃x,l[jF f l]? = some x/\qn f l=true/\jF f l<l.length:=by
 cases h:qn f l with
 | false=>exact .inl rfl
 | true =>
  have:=zS h
  exact .inr ⟨l[jF f l],List.getElem?_eq_getElem this,rfl,this⟩
def Bn (a:List Change)(c:Change):Bool:= !qn (fK c.Key) a || !decide (a[jF (fK c.Key) a]? = some c)
theorem CO {a b:List Change}{k:Nat}{x:Change}(h:a[k]? = some x):zg (a.take (k+1)) b=zg (a.take k) b++(if qn (fK x.Key) b=false then [sO x.Key] else []):=by
 unfold zg
 rw [List.take_add_one,h,List.filter_append,List.map_append]
 cases hb:qn (fK x.Key) b <;> simp [hb]
theorem wH {a b:List Change}{k:Nat}{x:Change}(h:b[k]? = some x):FB a (b.take (k+1))=FB a (b.take k)++(if Bn a x=true then [x] else []):=by
 unfold FB
 rw [List.take_add_one,h,List.filter_append]
 congr 1
 cases hb:Bn a x with
 | true=>unfold Bn at hb;simp [hb]
 | false=>unfold Bn at hb;simp [hb]
theorem Ru {a:List Change}{x:Change}(h:qn (fK x.Key) a=false):Bn a x=true:=by unfold Bn;rw [h];rfl
theorem Rv {a:List Change}{x y:Change}(h:a[jF (fK x.Key) a]? = some y)(hn:¬ y=x):Bn a x=true:=by
 unfold Bn;rw [h,decide_eq_false (fun e=>hn (Option.some.inj e))];simp
theorem Rw {a:List Change}{x y:Change}(hb:qn (fK x.Key) a=true)(h:a[jF (fK x.Key) a]? = some y)(hn:y=x):Bn a x=false:=by
 unfold Bn;rw [hb,h,hn];simp
theorem GZ (a b:List Change):(zg a b).length<=a.length:=by unfold zg;rw [List.length_map];exact List.length_filter_le _ _
theorem Py (a b:List Change):(FB a b).length<=b.length:=List.length_filter_le _ _
theorem qe (x:Change)(k:ByteArray)(w:World):Calls Tryz.prog 152 #[.agg #[.string x.Key,.string x.Val,.bool x.Gone],.string k] w fun e w'=>e = .returned (iV (fK k x))/\Ext w w':=by
 refine R.enter [] [(0,.agg #[.string x.Key,.string x.Val,.bool x.Gone]),(1,.string k)] Tryz.func152 O O O O<|U ?_
 refine R.s O (s.box O O O) fun b1=>U ?_
 refine R.c (q.call NS O O (fun w hw=>(rx x.Key k w ))) O<|U ?_
 exact R.rv O Tryz.results152 O (rI ck)
theorem G0 (uT:Value)(a:List Change)(vg:Value)(b:List Change)(w:World)(own:List Nat)(H:HN w own [] [aj.ls uT a,aj.ls vg b])(hl:a.length<=1000/\b.length<=1000):RC Tryz.prog 96 #[uT,vg] H (fun z:Value=>z) (fun z=>[aj.row 115 z (im (nI a b))]) (fun _=>[]):=by
 have m_a:=H.bD 0 rfl
 have m_b:=H.bD 1 rfl
 refine R.bE [(0,uT),(1,vg)] Tryz.func96 O O O O H<|U ?_
 refine R.row0 (α:=Change) 115<|R.loop (fun g_:Nat×Value×(List Change)=>[(0,uT),(1,vg),(5,g_.2.1),(6,.func (.func 152) #[] #[]),(15,uT),(16,iV (a.length:Int)),(17,iV (g_.1:Int))]) (fun g_=>[aj.row 115 g_.2.1 g_.2.2,aj.held w own]) (fun g_=>[aj.ls uT a,aj.ls vg b]) (fun g_=>g_.1<=a.length/\g_.2.2=zg (a.take g_.1) b) (fun g_=>a.length-g_.1) (0,nS,[]) O (by exact ⟨ae,rfl⟩) (sF O) (eI [0,1] [0,1] O) ?_
 rintro ⟨k,u,l⟩ ⟨hk,HL⟩
 dsimp only at *
 have ll:=GZ (a.take k) b;rw [<- HL,List.length_take] at ll
 refine U ?_
 by_cases h1:k<a.length
 .
  refine U ?_
  obtain ⟨x1,hx1⟩:=gE a k
  refine R.q (q.idx (i:=k) (cb 0 O) O O bj O hx1) O<|R.q (q.dj (ds:=dS x1) (cb 0 O) hx1 O bK O) O<|R.s O (s.alloc bR O O) fun b1=>?_
  refine R.s O (s.st 0 _ O O O O (.inl bK) O O O O) fun _=>U ?_
  rcases GY (fun x=>(fun (x:Change) (k:ByteArray)=>fK k x) x x1.Key) b with fS|⟨Ha,kv,fS,D6⟩
  .
   refine R.c (q.call zH O O (fun w hw=>(cv (congrArg (fun Vi=>Value.tuple #[iV ((jF (fun x=>(fun (x:Change) (k:ByteArray)=>fK k x) x x1.Key) b:Nat):Int),.bool Vi]) fS) (gN _ b x1.Key (fun (x:Change) (k:ByteArray)=>fK k x) _ _ DT w (hw.bz 1 O) (fun W x k hW=>qe x k W ) ae)))) O<|U ?_
   refine R.s O (s.bs (l:=([(⟨x1.Key,⟨#[]⟩,true⟩:Change)]:List Change)) bj bR O O O O O O O) fun b2=>?_
   refine R.s O (s.app 2 _ O O O (bH 0 O) d9 az az (fun _=>rfl) O) fun v1=>U ?_
   refine R.q (q.aL (r:=((k+1:Nat):Int)) O O) O<|U ?_
   refine R.back (k+1,v1,(l++([(⟨x1.Key,⟨#[]⟩,true⟩:Change)]))) O (by (exact ⟨ae,by rw [CO hx1,<- HL];(rw [if_pos (show qn (fK x1.Key) b=false from fS)];rfl)⟩)) aO (sF O) (aN [2,3] [0,1] O)
  refine R.c (q.call zH O O (fun w hw=>(cv (congrArg (fun Vi=>Value.tuple #[iV ((jF (fun x=>(fun (x:Change) (k:ByteArray)=>fK k x) x x1.Key) b:Nat):Int),.bool Vi]) fS) (gN _ b x1.Key (fun (x:Change) (k:ByteArray)=>fK k x) _ _ DT w (hw.bz 1 O) (fun W x k hW=>qe x k W ) ae)))) O<|U ?_
  refine R.q (q.aL (r:=((k+1:Nat):Int)) O O) O<|U ?_
  refine R.back (k+1,u,l) O (by (exact ⟨ae,by rw [CO hx1,<- HL];(rw [if_neg (by rw [show qn (fK x1.Key) b=true from fS];decide)];exact (List.append_nil _).symm)⟩)) aO (sF O) (aN [1,2] [0,1] O)
 refine U ?_
 refine R.loop (fun g_:Nat×Value×(List Change)=>[(0,uT),(5,g_.2.1),(6,.func (.func 152) #[] #[]),(38,vg),(39,iV (b.length:Int)),(40,iV (g_.1:Int))]) (fun g_=>[aj.row 115 g_.2.1 g_.2.2,aj.held w own]) (fun g_=>[aj.ls uT a,aj.ls vg b]) (fun g_=>g_.1<=b.length/\g_.2.2=zg a b++FB a (b.take g_.1)) (fun g_=>b.length-g_.1) (0,u,l) O (by exact ⟨ae,by rw [HL,List.take_of_length_le ae];exact (List.append_nil _).symm⟩) (sF O) (eI [0,1] [0,1] O) ?_
 rintro ⟨j,u2,l2⟩ ⟨hj,HL2⟩
 dsimp only at *
 have Zy:l2.length<=a.length+j:=by have q1:=GZ a b;have q2:=Py a (b.take j);rw [List.length_take] at q2;rw [HL2,List.length_append];omega
 refine U ?_
 by_cases h2:j<b.length
 .
  refine U ?_
  obtain ⟨x2,hx2⟩:=gE b j
  refine R.q (q.idx (i:=j) (cb 1 O) O O bj O hx2) O<|R.q (q.dj (ds:=dS x2) (cb 1 O) hx2 O bK O) O<|R.s O (s.alloc bR O O) fun b3=>?_
  refine R.s O (s.st 0 _ O O O O (.inl bK) O O O O) fun _=>U ?_
  rcases GY (fun x=>(fun (x:Change) (k:ByteArray)=>fK k x) x x2.Key) a with Kk|⟨Yb,Vj,Kk,c2b⟩
  .
   refine R.c (q.call zH O O (fun w hw=>(cv (congrArg (fun Vi=>Value.tuple #[iV ((jF (fun x=>(fun (x:Change) (k:ByteArray)=>fK k x) x x2.Key) a:Nat):Int),.bool Vi]) Kk) (gN _ a x2.Key (fun (x:Change) (k:ByteArray)=>fK k x) _ _ DT w (hw.bz 0 O) (fun W x k hW=>qe x k W ) ae)))) O<|U ?_
   refine R.dA O mixed ai<|U ?_
   refine R.s O (s.bs (l:=([x2]:List Change)) bj bR O O O O O O O) fun b4=>?_
   refine R.s O (s.app 2 _ O O O (bH 0 O) d9 az az (fun _=>rfl) O) fun v2=>U ?_
   refine R.q (q.aL (r:=((j+1:Nat):Int)) O O) O<|U ?_
   refine R.back (j+1,v2,(l2++([x2]))) O (by (exact ⟨ae,by rw [wH hx2,<- List.append_assoc,<- HL2];(rw [if_pos (Ru Kk)];done)⟩)) aO (sF O) (aN [2,3] [0,1] O)
  refine R.c (q.call zH O O (fun w hw=>(cv (congrArg (fun Vi=>Value.tuple #[iV ((jF (fun x=>(fun (x:Change) (k:ByteArray)=>fK k x) x x2.Key) a:Nat):Int),.bool Vi]) Kk) (gN _ a x2.Key (fun (x:Change) (k:ByteArray)=>fK k x) _ _ DT w (hw.bz 0 O) (fun W x k hW=>qe x k W ) ae)))) O<|U ?_
  by_cases h3:Yb=x2
  .
   refine R.dA O mixed ai<|U ?_
   refine Q.qg O (q.idx (i:=(jF (fun x=>(fun (x:Change) (k:ByteArray)=>fK k x) x x2.Key) a)) (cb 0 O) O O bj O Vj) O<|Q.qg O (q.dj (ds:=dS Yb) (cb 0 O) Vj O bK O) O<|U ?_
   refine Q.qg O (q.kQ (x:=Yb) (y:=x2) D3 O O h3) O<|U ?_
   refine R.q (q.aL (r:=((j+1:Nat):Int)) O O) O<|U ?_
   refine R.back (j+1,u2,l2) O (by (exact ⟨ae,by rw [wH hx2,<- List.append_assoc,<- HL2];(rw [if_neg (by rw [Rw Kk Vj af];decide)];exact (List.append_nil _).symm)⟩)) aO (sF O) (aN [1,2] [0,1] O)
  refine R.dA O mixed ai<|U ?_
  refine Q.qg O (q.idx (i:=(jF (fun x=>(fun (x:Change) (k:ByteArray)=>fK k x) x x2.Key) a)) (cb 0 O) O O bj O Vj) O<|Q.qg O (q.dj (ds:=dS Yb) (cb 0 O) Vj O bK O) O<|U ?_
  refine Q.qg O (q.kR (x:=Yb) (y:=x2) D3 O O h3) O<|U ?_
  refine R.s O (s.bs (l:=([x2]:List Change)) bj bR O O O O O O O) fun b5=>?_
  refine R.s O (s.app 2 _ O O O (bH 0 O) d9 az az (fun _=>rfl) O) fun v3=>U ?_
  refine R.q (q.aL (r:=((j+1:Nat):Int)) O O) O<|U ?_
  refine R.back (j+1,v3,(l2++([x2]))) O (by (exact ⟨ae,by rw [wH hx2,<- List.append_assoc,<- HL2];(rw [if_pos (Rv Vj af)];done)⟩)) aO (sF O) (aN [2,3] [0,1] O)
 refine U ?_
 refine R.s O (s.Mp [0,1] _ _ O O Ud O O (fun w hw H=>Lf u2 l2 w H ae) O) fun u1=>U ?_
 have hz:im (nI a b)=(im l2):=by (rw [HL2,List.take_of_length_le ae];rfl)
 rw [hz]
 exact R.w1 u2 [0,1] [] O Tryz.results96 (RV.tmp O) O O O O
end
section
open Go Go.RowKit
attribute [local irreducible] bT cX bM ki ey dNew cp
theorem LR (b_k:Nat)(nL nM nO nP:Value)(k:kN)(cY:Nat)(aR:Value)(st:jK)(aI:Nat)(aE aG aF:Value)(dk:cU)(bS:Nat)(lg:Lg)(w:World)(own:List Nat)(H:HN w own [aj.box b_k [.pointer (some ⟨cY,0,none⟩),nL,nM,nO,nP,iV k.R.ag,iV k.R.ah] 78,aj.box cY [.pointer (some ⟨aI,0,none⟩),iV st.Epoch,iV st.Side,iV st.Size,iV st.First,.pointer (some ⟨bS,0,none⟩),aR] 132,aj.box aI [aE,aG,aF,iV dk.Fuse,.bool dk.Down] 120,aj.row 9 aE dk.Kept,aj.row 9 aG dk.Now,aj.row 196 aF dk.Wait,aj.box bS [.pointer (some ⟨aI,0,none⟩),iV lg.From,iV lg.Many,iV lg.First,iV lg.Next] 193] [aj.ls nL k.R.ao,aj.ls nM k.R.Things,aj.ls nO k.R.Held,aj.ls nP k.R.Notes,aj.ls aR st.Rows])(hD:gy dk.Now.length 60000 dk/\dk.Now.length<=200/\166<=dk.Now.length)(hS:0<=st.Epoch/\st.Epoch<=1000000000/\0<=st.Side/\st.Side<=1/\0<=lg.Many/\lg.Many<=1000/\1<=lg.First/\lg.First<=1000000000/\0<=lg.From/\lg.From<=1000/\0<=lg.Next/\lg.Next<=1000)(hl:st.Rows.length<=60)(hF:∀c∈st.Rows,gY c=0):RC Tryz.prog 9 #[.pointer (some ⟨b_k,0,none⟩)] H (fun _:Value×Value×Value×Value×Value×Value×Value×Value×Nat=>cD (cX (mkS st lg) dk).2.2) (fun z=>[aj.box b_k [.pointer (some ⟨cY,0,none⟩),z.1,z.2.1,z.2.2.1,z.2.2.2.1,iV k.R.ag,iV k.R.ah] 78,aj.box cY [.pointer (some ⟨aI,0,none⟩),iV (cX (mkS st lg) dk).1.c.Epoch,iV (cX (mkS st lg) dk).1.c.Side,iV (cX (mkS st lg) dk).1.c.Size,iV (cX (mkS st lg) dk).1.c.First,.pointer (some ⟨z.2.2.2.2.2.2.2.2,0,none⟩),z.2.2.2.2.1] 132,aj.box aI [z.2.2.2.2.2.1,z.2.2.2.2.2.2.1,z.2.2.2.2.2.2.2.1,iV (cX (mkS st lg) dk).2.1.Fuse,.bool (cX (mkS st lg) dk).2.1.Down] 120,aj.row 9 z.2.2.2.2.2.1 (cX (mkS st lg) dk).2.1.Kept,aj.row 9 z.2.2.2.2.2.2.1 (cX (mkS st lg) dk).2.1.Now,aj.row 196 z.2.2.2.2.2.2.2.1 (cX (mkS st lg) dk).2.1.Wait,aj.box z.2.2.2.2.2.2.2.2 [.pointer (some ⟨aI,0,none⟩),iV (cX (mkS st lg) dk).1.L.From,iV (cX (mkS st lg) dk).1.L.Many,iV (cX (mkS st lg) dk).1.L.First,iV (cX (mkS st lg) dk).1.L.Next] 193]) (fun z=>[aj.ls z.1 k.R.ao,aj.ls z.2.1 k.R.Things,aj.ls z.2.2.1 k.R.Held,aj.ls z.2.2.2.1 k.R.Notes,aj.ls z.2.2.2.2.1 (cX (mkS st lg) dk).1.c.Rows]):=by
 have fc:=H.cap 3 rfl;have fe:=H.dr 3 rfl
 have fV:=H.cap 4 rfl;have fW:=H.dr 4 rfl
 have ff:=H.cap 5 rfl;have fh:=H.dr 5 rfl
 have rJ:=H.bD 0 rfl
 have qf:=H.bD 1 rfl
 have tP:=H.bD 2 rfl
 have rK:=H.bD 3 rfl
 have sj:=H.bD 4 rfl
 have hD2:gy dk.Now.length 70000 dk/\dk.Now.length<=200/\166<=dk.Now.length:=⟨hD.1.up ae,hD.2⟩
 refine R.bE [(0,.pointer (some ⟨b_k,0,none⟩))] Tryz.func9 O O O O H<|R.reg O<|R.ur 1 O O<|R.u 1 O<|R.q (q.fD O) O<|R.q (q.jA O Ck O) O<|R.q (q.ld 0 O O i7 O) O<|R.s O (s.aT [1,2,3,4,5,6,0,7] [4] _ _ _ O O O Sq O O (fun w own hw H=>Gv cY aR st aI aE aG aF dk bS lg w own H af ae ae af) O) ?_
 rintro ⟨z1,z2,z3,z4,z5⟩
 dsimp only
 refine R.un 1 O ?_
 have hz:(k,(cX (mkS st lg) dk).1.c,(cX (mkS st lg) dk).2.1,(cX (mkS st lg) dk).1.L,(cX (mkS st lg) dk).2.2)=(k,(cX (mkS st lg) dk).1.c,(cX (mkS st lg) dk).2.1,(cX (mkS st lg) dk).1.L,(cX (mkS st lg) dk).2.2):=by (rfl)
 exact R.w1 (nL,nM,nO,nP,z1,z2,z3,z4,z5) [6,0,1,2,3,4,5,7] [1,2,3,4,0] O Tryz.results9 (RV.tmp O) O O O O
theorem qh (b_k:Nat)(nL nM nO nP:Value)(S7:Nat)(k:kN)(w:World)(own:List Nat)(H:HN w own [aj.box b_k [.pointer (some ⟨S7,0,none⟩),nL,nM,nO,nP,iV k.R.ag,iV k.R.ah] 78] [aj.ls nL k.R.ao,aj.ls nM k.R.Things,aj.ls nO k.R.Held,aj.ls nP k.R.Notes])(hk:Ok k.R):RC Tryz.prog 17 #[.pointer (some ⟨b_k,0,none⟩)] H (fun z:Value×Value×Value×Value×Value×Value×Value×Value => .agg #[z.2.2.2.2.1,z.2.2.2.2.2.1,z.2.2.2.2.2.2.1,z.2.2.2.2.2.2.2,iV k.R.ag,iV k.R.ah]) (fun z=>[aj.box b_k [.pointer (some ⟨S7,0,none⟩),z.1,z.2.1,z.2.2.1,z.2.2.2.1,iV k.R.ag,iV k.R.ah] 78]) (fun z=>[aj.ls z.1 k.R.ao,aj.ls z.2.1 k.R.Things,aj.ls z.2.2.1 k.R.Held,aj.ls z.2.2.2.1 k.R.Notes,aj.ls z.2.2.2.2.1 k.R.ao,aj.ls z.2.2.2.2.2.1 k.R.Things,aj.ls z.2.2.2.2.2.2.1 k.R.Held,aj.ls z.2.2.2.2.2.2.2 k.R.Notes]):=by
 have rJ:=H.bD 0 rfl
 have qf:=H.bD 1 rfl
 have tP:=H.bD 2 rfl
 have rK:=H.bD 3 rfl
 refine R.bE [(0,.pointer (some ⟨b_k,0,none⟩))] Tryz.func17 O O O O H<|R.reg O<|R.s O (s.alloc cw O O) fun b1=>?_
 refine R.nr O<|R.u 1 O<|R.q (q.fD O) O<|R.q (q.jA O oY O) O<|R.q (q.Mc (ds:=[nL,nM,nO,nP,iV k.R.ag,iV k.R.ah]) 1 O O ak O) O<|R.s O (s.aT [0,1,2] bm _ _ _ O O O Sw O O (fun w own hw H=>CN nL nM nO nP k.R w own H af) O) ?_
 rintro ⟨z1,z2,z3,z4⟩
 dsimp only
 refine R.s O (s.dE 0 _ O O O (fun _ _=>rfl) (.inl ak) (fun w hw=>(dx (hw.bz 0 O) (hw.bz 1 O) (hw.bz 2 O) (hw.bz 3 O) O O)) O O O) fun _=>?_
 exact R.nil<|R.w1 (nL,nM,nO,nP,z1,z2,z3,z4) [1,2] [4,5,6,7,0,1,2,3] O Tryz.results17 (RV.cell 0 O O ak) O O O O
theorem G1 (a8 aW aX aZ:Value)(r:av)(Oc:Nat)(a:fL)(w:World)(own:List Nat)(H:HN w own [aj.box Oc (CV a) 36] [aj.ls a8 r.ao,aj.ls aW r.Things,aj.ls aX r.Held,aj.ls aZ r.Notes])(hk:Ok r):RC Tryz.prog 43 #[.agg #[a8,aW,aX,aZ,iV r.ag,iV r.ah],.pointer (some ⟨Oc,0,none⟩)] H (fun z:Value×Value×Value×Value => .tuple #[.agg #[z.1,z.2.1,z.2.2.1,z.2.2.2,iV (cp r a).1.ag,iV (cp r a).1.ah],cD (cp r a).2]) (fun _=>[]) (fun z=>[aj.ls z.1 (cp r a).1.ao,aj.ls z.2.1 (cp r a).1.Things,aj.ls z.2.2.1 (cp r a).1.Held,aj.ls z.2.2.2 (cp r a).1.Notes]):=by
 have cB:=H.bD 0 rfl
 have cd:=H.bD 1 rfl
 have df:=H.bD 2 rfl
 have cC:=H.bD 3 rfl
 refine R.bE [(0,.agg #[a8,aW,aX,aZ,iV r.ag,iV r.ah]),(1,.pointer (some ⟨Oc,0,none⟩))] Tryz.func43 O O O O H<|R.reg O<|R.s O (s.box O O O) fun b1=>?_
 refine R.s O (s.alloc cw O O) fun b2=>?_
 refine R.ur 1 O O<|R.q (q.EJ 1 O O ak) O<|R.q (q.EJ 2 O O uQ) O<|R.s O (s.aT bm bm _ _ _ O O O W8 O O (fun w own hw H=>Rh a8 aW aX aZ r a w own H af) O) ?_
 rintro ⟨z1,z2,z3,z4⟩
 dsimp only
 refine R.u 2 O<|R.s O (s.dE 0 _ O O O (fun _ _=>rfl) (.inl ak) (fun w hw=>(dx (hw.bz 0 O) (hw.bz 1 O) (hw.bz 2 O) (hw.bz 3 O) O O)) O O O) fun _=>?_
 refine R.un 1 O ?_
 have hz:cp r a=(((cp r a).1),(cp r a).2):=by (rfl)
 rw [hz]
 exact R.w2 (z1,z2,z3,z4) [3] bm O Tryz.results43 (RV.cell 0 O O ak) (RV.tmp O) O O O (cq O O)
theorem Rx (b_k:Nat)(nL nM nO nP:Value)(k:kN)(Oc:Nat)(a:fL)(cY:Nat)(aR:Value)(st:jK)(aI:Nat)(aE aG aF:Value)(dk:cU)(bS:Nat)(lg:Lg)(w:World)(own:List Nat)(H:HN w own [aj.box b_k [.pointer (some ⟨cY,0,none⟩),nL,nM,nO,nP,iV k.R.ag,iV k.R.ah] 78,aj.box Oc (CV a) 36,aj.box cY [.pointer (some ⟨aI,0,none⟩),iV st.Epoch,iV st.Side,iV st.Size,iV st.First,.pointer (some ⟨bS,0,none⟩),aR] 132,aj.box aI [aE,aG,aF,iV dk.Fuse,.bool dk.Down] 120,aj.row 9 aE dk.Kept,aj.row 9 aG dk.Now,aj.row 196 aF dk.Wait,aj.box bS [.pointer (some ⟨aI,0,none⟩),iV lg.From,iV lg.Many,iV lg.First,iV lg.Next] 193] [aj.ls nL k.R.ao,aj.ls nM k.R.Things,aj.ls nO k.R.Held,aj.ls nP k.R.Notes,aj.ls aR st.Rows,e9])(hD:gy dk.Now.length 60000 dk/\dk.Now.length<=200/\166<=dk.Now.length)(hS:0<=st.Epoch/\st.Epoch<=1000000000/\0<=st.Side/\st.Side<=1/\0<=lg.Many/\lg.Many<=1000/\1<=lg.First/\lg.First<=1000000000/\0<=lg.From/\lg.From<=1000/\0<=lg.Next/\lg.Next<=1000)(hl:st.Rows.length<=60)(hF:∀c∈st.Rows,gY c=0)(hk:Ok k.R)(hI:Inv k.R)(hz:(cp k.R a).2=0->Ok (cp k.R a).1):RC Tryz.prog 42 #[.pointer (some ⟨b_k,0,none⟩),.func (.func 43) #[] #[.pointer (some ⟨Oc,0,none⟩)]] H (fun _:Value×Value×Value×Value×Value×Value×Value×Value×Nat=>cD (fw k st dk lg (cp k.R a)).2.2.2.2) (fun z=>[aj.box b_k [.pointer (some ⟨cY,0,none⟩),z.1,z.2.1,z.2.2.1,z.2.2.2.1,iV (fw k st dk lg (cp k.R a)).1.R.ag,iV (fw k st dk lg (cp k.R a)).1.R.ah] 78,aj.box cY [.pointer (some ⟨aI,0,none⟩),iV (fw k st dk lg (cp k.R a)).2.1.Epoch,iV (fw k st dk lg (cp k.R a)).2.1.Side,iV (fw k st dk lg (cp k.R a)).2.1.Size,iV (fw k st dk lg (cp k.R a)).2.1.First,.pointer (some ⟨z.2.2.2.2.2.2.2.2,0,none⟩),z.2.2.2.2.1] 132,aj.box aI [z.2.2.2.2.2.1,z.2.2.2.2.2.2.1,z.2.2.2.2.2.2.2.1,iV (fw k st dk lg (cp k.R a)).2.2.1.Fuse,.bool (fw k st dk lg (cp k.R a)).2.2.1.Down] 120,aj.row 9 z.2.2.2.2.2.1 (fw k st dk lg (cp k.R a)).2.2.1.Kept,aj.row 9 z.2.2.2.2.2.2.1 (fw k st dk lg (cp k.R a)).2.2.1.Now,aj.row 196 z.2.2.2.2.2.2.2.1 (fw k st dk lg (cp k.R a)).2.2.1.Wait,aj.box z.2.2.2.2.2.2.2.2 [.pointer (some ⟨aI,0,none⟩),iV (fw k st dk lg (cp k.R a)).2.2.2.1.From,iV (fw k st dk lg (cp k.R a)).2.2.2.1.Many,iV (fw k st dk lg (cp k.R a)).2.2.2.1.First,iV (fw k st dk lg (cp k.R a)).2.2.2.1.Next] 193]) (fun z=>[aj.ls z.1 (fw k st dk lg (cp k.R a)).1.R.ao,aj.ls z.2.1 (fw k st dk lg (cp k.R a)).1.R.Things,aj.ls z.2.2.1 (fw k st dk lg (cp k.R a)).1.R.Held,aj.ls z.2.2.2.1 (fw k st dk lg (cp k.R a)).1.R.Notes,aj.ls z.2.2.2.2.1 (fw k st dk lg (cp k.R a)).2.1.Rows]):=by
 have fc:=H.cap 4 rfl;have fe:=H.dr 4 rfl
 have fV:=H.cap 5 rfl;have fW:=H.dr 5 rfl
 have ff:=H.cap 6 rfl;have fh:=H.dr 6 rfl
 have rJ:=H.bD 0 rfl
 have qf:=H.bD 1 rfl
 have tP:=H.bD 2 rfl
 have rK:=H.bD 3 rfl
 have sj:=H.bD 4 rfl
 have g0:=iN hI;have g1:=xZ hI a;have g2:=sq (r:=k.R) a;have g3:=fun (h:(cp k.R a).2=0)=>iN (g1 h).1
 refine R.bE [(0,.pointer (some ⟨b_k,0,none⟩)),(1,.func (.func 43) #[] #[.pointer (some ⟨Oc,0,none⟩)])] Tryz.func42 O O O O H<|R.reg O<|R.ur 1 O O<|R.u 2 O<|R.q (q.fD O) O<|R.q (q.jA O oY O) O<|R.q (q.Mc (ds:=[nL,nM,nO,nP,iV k.R.ag,iV k.R.ah]) 0 O O ak O) O<|R.s O (s.aT dQ bm _ _ _ O O O Sw O O (fun w own hw H=>CN nL nM nO nP k.R w own H af) O) ?_
 rintro ⟨z1,z2,z3,z4⟩
 dsimp only
 refine R.s O (s.aT [1,0,2,3,4,5,6,7,8] bm _ _ _ O O O W7 O O (fun w own hw H=>G1 z1 z2 z3 z4 k.R Oc a w own H af) O) ?_
 rintro ⟨z5,z6,z7,z8⟩
 dsimp only
 refine R.u 3 O<|R.s O (s.alloc cw O O) fun b1=>?_
 refine R.s O (s.dE 0 _ O O O (fun _ _=>rfl) (.inl ak) (fun w hw=>(dx (hw.bz 0 O) (hw.bz 1 O) (hw.bz 2 O) (hw.bz 3 O) O O)) O O O) fun _=>?_
 refine R.ur 1 O O<|R.u 1 O<|?_
 by_cases h1:(cp k.R a).2=0
 .
  have hk2:=hz af;have hI2:=(g1 af).1;have g4:(im (nI (aY k.R) (aY (cp k.R a).1))).length<=59:=(g1 af).2;have g5:=g3 af
  refine R.q (q.qD O O Tryz.underlying38) O<|R.nF O O<|R.eA (fuel:=9) dQ O O mixed O<|D.q (i:=0) O (aN dQ tZ O) O (q.mv O) O<|D.q (i:=1) O (aN dQ tZ O) O (q.fD O) O<|D.q (i:=2) O (aN dQ tZ O) O (q.jA O oY O) O<|D.q (i:=3) O (aN dQ tZ O) O (q.Mc (ds:=[nL,nM,nO,nP,iV k.R.ag,iV k.R.ah]) 1 O O ak O) O<|D.q (i:=5) O (aN dQ tZ O) O (q.EJ 0 O O ak) O<|D.one (i:=4) O<|Do.s (s.aT dQ [8,9,10,11,13] _ _ _ O O O NJ O O (fun w own hw H=>Ax nL nM nO nP k.R w own H af af) O) (fun _=>(aN nU tZ O)) O fun z12=>?_
  refine D.one (i:=6) O<|Do.s (s.aT nD [0,1,2,3,13] _ _ _ O O O NJ O O (fun w own hw H=>Ax z5 z6 z7 z8 (cp k.R a).1 w own H af af) O) (fun _=>(aN [2,3,4,5,6,7,8,9,10] tZ O)) O fun o6=>?_
  refine D.one (i:=7) O<|Do.s (s.Du (Bl:=[aj.row 115 z12 (aY k.R),aj.row 115 o6 (aY (cp k.R a).1)]) (Fl:=[aj.ls z12 (aY k.R),aj.ls o6 (aY (cp k.R a).1)]) [1,0,2,3,4,5,6,7,8,9,10] [0,1] (fun jZ:Value=>jZ) (fun jZ:Value=>[aj.row 115 jZ (im (nI (aY k.R) (aY (cp k.R a).1)))]) O O (mM (mM uN)) O Xm O O (fun w own hw H=>G0 z12 (aY k.R) o6 (aY (cp k.R a).1) w own H ae) O) (fun _=>(aN [3,4,5,6,7,8,9,10,11] tZ O)) O fun xX=>?_
  refine D.q (i:=8) O (aN [3,4,5,6,7,8,9,10,11] tZ O) O (q.as O) O<|D.done<|R.reg O<|R.u 1 O<|R.q (q.len' (bH 0 O) O Tryz.underlying34) O<|?_
  by_cases h2:0<(im (nI (aY k.R) (aY (cp k.R a).1))).length
  .
   refine R.q (q.sV O O) O<|R.nA O O O<|R.u 1 O<|R.q (q.fD O) O<|R.q (q.jA O Ck O) O<|R.q (q.ld 4 O O i7 O) O<|R.u 1 O<|R.s O (s.pre (fun _ hw=>hw.bu 0 _ O O) (s.aT [4,5,6,7,8,9,0,1,2,3,10] [13,0] _ _ _ O O O Sx O O (fun w own hw H=>Ag cY aR st xX (im (nI (aY k.R) (aY (cp k.R a).1))) aI aE aG aF dk bS lg w own H af af ae af ae) O)) ?_
   rintro ⟨Hb,CG,z17,xk,Bb⟩
   dsimp only
   refine R.ur 1 O O<|R.u 1 O<|?_
   by_cases h3:(bT (mkS st lg) dk (im (nI (aY k.R) (aY (cp k.R a).1)))).2.2=0
   .
    refine R.q (q.yo O O Tryz.underlying38) O<|R.nA O O O<|R.u 1 O<|R.q (q.EJ 8 O O ak) O<|R.q (q.fD O) O<|R.q (q.jA O oY O) O<|R.s O (s.dE 9 _ O O O (fun _ _=>rfl) (.inl ak) (fun w hw=>(dx (hw.bz 2 O) (hw.bz 3 O) (hw.bz 4 O) (hw.bz 5 O) O O)) O O O) fun _=>?_
    refine R.nr O<|R.un 2 O ?_
    have hz:fw k st dk lg (cp k.R a)=((⟨(cp k.R a).1⟩:kN),(bT (mkS st lg) dk (im (nI (aY k.R) (aY (cp k.R a).1)))).1.c,(bT (mkS st lg) dk (im (nI (aY k.R) (aY (cp k.R a).1)))).2.1,(bT (mkS st lg) dk (im (nI (aY k.R) (aY (cp k.R a).1)))).1.L,(bT (mkS st lg) dk (im (nI (aY k.R) (aY (cp k.R a).1)))).2.2):=by (rw [OY (k:=k) (sc:=st) (d:=dk) (lg:=lg) (z:=cp k.R a) af af af];done)
    rw [hz]
    exact R.w1 (z5,z6,z7,z8,Hb,CG,z17,xk,Bb) [9,0,1,2,3,4,5,10] [2,3,4,5,0] O Tryz.results42 (RV.tmp O) O O O O
   refine R.q (q.yp O O Tryz.underlying38) O<|R.nB O O O<|R.un 2 O ?_
   have hz:fw k st dk lg (cp k.R a)=(k,(bT (mkS st lg) dk (im (nI (aY k.R) (aY (cp k.R a).1)))).1.c,(bT (mkS st lg) dk (im (nI (aY k.R) (aY (cp k.R a).1)))).2.1,(bT (mkS st lg) dk (im (nI (aY k.R) (aY (cp k.R a).1)))).1.L,(bT (mkS st lg) dk (im (nI (aY k.R) (aY (cp k.R a).1)))).2.2):=by (rw [OZ (k:=k) (sc:=st) (d:=dk) (lg:=lg) (z:=cp k.R a) af af af];done)
   rw [hz]
   exact R.w1 (nL,nM,nO,nP,Hb,CG,z17,xk,Bb) [9,0,1,2,3,4,5,10] [10,11,12,13,0] O Tryz.results42 (RV.tmp O) O O O O
  refine R.q (q.sW O O) O<|R.nB O O O<|R.u 1 O<|R.q (q.yo O O Tryz.underlying38) O<|R.nA O O O<|R.u 1 O<|R.q (q.EJ 3 O O ak) O<|R.q (q.fD O) O<|R.q (q.jA O oY O) O<|R.s O (s.dE 4 _ O O O (fun _ _=>rfl) (.inl ak) (fun w hw=>(dx (hw.bz 0 O) (hw.bz 1 O) (hw.bz 2 O) (hw.bz 3 O) O O)) O O O) fun _=>?_
  refine R.nr O<|R.un 2 O ?_
  have hz:fw k st dk lg (cp k.R a)=((⟨(cp k.R a).1⟩:kN),st,dk,lg,(cp k.R a).2):=by (rw [OX (k:=k) (sc:=st) (d:=dk) (lg:=lg) (z:=cp k.R a) af af];done)
  rw [hz]
  exact R.w1 (z5,z6,z7,z8,aR,aE,aG,aF,bS) [4,5,6,7,8,9,10,11] [0,1,2,3,12] O Tryz.results42 (RV.tmp O) O O O O
 refine R.q (q.wQ O O Tryz.underlying38) O<|R.nA O O O<|R.un 2 O ?_
 have hz:fw k st dk lg (cp k.R a)=(k,st,dk,lg,(cp k.R a).2):=by (rw [SY (k:=k) (sc:=st) (d:=dk) (lg:=lg) (z:=cp k.R a) af];done)
 rw [hz]
 exact R.w1 (nL,nM,nO,nP,aR,aE,aG,aF,bS) tU [8,9,10,11,12] O Tryz.results42 (RV.tmp O) O O O O
theorem Az (b_k:Nat)(nL nM nO nP:Value)(k:kN)(a:fL)(cY:Nat)(aR:Value)(st:jK)(aI:Nat)(aE aG aF:Value)(dk:cU)(bS:Nat)(lg:Lg)(w:World)(own:List Nat)(H:HN w own [aj.box b_k [.pointer (some ⟨cY,0,none⟩),nL,nM,nO,nP,iV k.R.ag,iV k.R.ah] 78,aj.box cY [.pointer (some ⟨aI,0,none⟩),iV st.Epoch,iV st.Side,iV st.Size,iV st.First,.pointer (some ⟨bS,0,none⟩),aR] 132,aj.box aI [aE,aG,aF,iV dk.Fuse,.bool dk.Down] 120,aj.row 9 aE dk.Kept,aj.row 9 aG dk.Now,aj.row 196 aF dk.Wait,aj.box bS [.pointer (some ⟨aI,0,none⟩),iV lg.From,iV lg.Many,iV lg.First,iV lg.Next] 193] [aj.ls nL k.R.ao,aj.ls nM k.R.Things,aj.ls nO k.R.Held,aj.ls nP k.R.Notes,aj.ls aR st.Rows,e9])(hD:gy dk.Now.length 60000 dk/\dk.Now.length<=200/\166<=dk.Now.length)(hS:0<=st.Epoch/\st.Epoch<=1000000000/\0<=st.Side/\st.Side<=1/\0<=lg.Many/\lg.Many<=1000/\1<=lg.First/\lg.First<=1000000000/\0<=lg.From/\lg.From<=1000/\0<=lg.Next/\lg.Next<=1000)(hl:st.Rows.length<=60)(hF:∀c∈st.Rows,gY c=0)(hk:Ok k.R)(hI:Inv k.R)(hz:(cp k.R a).2=0->Ok (cp k.R a).1):RC Tryz.prog 15 #[.pointer (some ⟨b_k,0,none⟩),.agg #[.string a.Kind,.string a.S,iV a.P.ay,iV a.P.Slot,iV a.Q.ay,iV a.Q.Slot,iV a.A,iV a.B,iV a.N,.int .u64 a.K,a.cv]] H (fun _:Value×Value×Value×Value×Value×Value×Value×Value×Nat=>cD (fw k st dk lg (cp k.R a)).2.2.2.2) (fun z=>[aj.box b_k [.pointer (some ⟨cY,0,none⟩),z.1,z.2.1,z.2.2.1,z.2.2.2.1,iV (fw k st dk lg (cp k.R a)).1.R.ag,iV (fw k st dk lg (cp k.R a)).1.R.ah] 78,aj.box cY [.pointer (some ⟨aI,0,none⟩),iV (fw k st dk lg (cp k.R a)).2.1.Epoch,iV (fw k st dk lg (cp k.R a)).2.1.Side,iV (fw k st dk lg (cp k.R a)).2.1.Size,iV (fw k st dk lg (cp k.R a)).2.1.First,.pointer (some ⟨z.2.2.2.2.2.2.2.2,0,none⟩),z.2.2.2.2.1] 132,aj.box aI [z.2.2.2.2.2.1,z.2.2.2.2.2.2.1,z.2.2.2.2.2.2.2.1,iV (fw k st dk lg (cp k.R a)).2.2.1.Fuse,.bool (fw k st dk lg (cp k.R a)).2.2.1.Down] 120,aj.row 9 z.2.2.2.2.2.1 (fw k st dk lg (cp k.R a)).2.2.1.Kept,aj.row 9 z.2.2.2.2.2.2.1 (fw k st dk lg (cp k.R a)).2.2.1.Now,aj.row 196 z.2.2.2.2.2.2.2.1 (fw k st dk lg (cp k.R a)).2.2.1.Wait,aj.box z.2.2.2.2.2.2.2.2 [.pointer (some ⟨aI,0,none⟩),iV (fw k st dk lg (cp k.R a)).2.2.2.1.From,iV (fw k st dk lg (cp k.R a)).2.2.2.1.Many,iV (fw k st dk lg (cp k.R a)).2.2.2.1.First,iV (fw k st dk lg (cp k.R a)).2.2.2.1.Next] 193]) (fun z=>[aj.ls z.1 (fw k st dk lg (cp k.R a)).1.R.ao,aj.ls z.2.1 (fw k st dk lg (cp k.R a)).1.R.Things,aj.ls z.2.2.1 (fw k st dk lg (cp k.R a)).1.R.Held,aj.ls z.2.2.2.1 (fw k st dk lg (cp k.R a)).1.R.Notes,aj.ls z.2.2.2.2.1 (fw k st dk lg (cp k.R a)).2.1.Rows]):=by
 have fc:=H.cap 3 rfl;have fe:=H.dr 3 rfl
 have fV:=H.cap 4 rfl;have fW:=H.dr 4 rfl
 have ff:=H.cap 5 rfl;have fh:=H.dr 5 rfl
 have rJ:=H.bD 0 rfl
 have qf:=H.bD 1 rfl
 have tP:=H.bD 2 rfl
 have rK:=H.bD 3 rfl
 have sj:=H.bD 4 rfl
 refine R.bE [(0,.pointer (some ⟨b_k,0,none⟩)),(1,.agg #[.string a.Kind,.string a.S,iV a.P.ay,iV a.P.Slot,iV a.Q.ay,iV a.Q.Slot,iV a.A,iV a.B,iV a.N,.int .u64 a.K,a.cv])] Tryz.func15 O O O O H<|R.reg O<|R.s O (s.box O O O) fun b1=>?_
 refine R.ur 1 O O<|R.u 1 O<|R.q (q.PN (cap:=[.pointer (some ⟨b1,0,none⟩)]) O O) O<|R.s O (s.aT [1,0,2,3,4,5,6,7,8] nE _ _ _ O O O W6 O O (fun w own hw H=>Rx b_k nL nM nO nP k b1 a cY aR st aI aE aG aF dk bS lg w own H af af ae af af af af) O) ?_
 rintro ⟨z1,z2,z3,z4,z5,z6,z7,z8,z9⟩
 dsimp only
 refine R.un 1 O ?_
 have hz:fw k st dk lg (cp k.R a)=(((fw k st dk lg (cp k.R a)).1),(fw k st dk lg (cp k.R a)).2.1,(fw k st dk lg (cp k.R a)).2.2.1,(fw k st dk lg (cp k.R a)).2.2.2.1,(fw k st dk lg (cp k.R a)).2.2.2.2):=by (rfl)
 rw [hz]
 exact R.w1 (z1,z2,z3,z4,z5,z6,z7,z8,z9) cu da O Tryz.results15 (RV.tmp O) O O O O
theorem wI (aI:Nat)(aE aG aF:Value)(dk:cU)(w:World)(own:List Nat)(H:HN w own [aj.box aI [aE,aG,aF,iV dk.Fuse,.bool dk.Down] 120,aj.row 9 aE dk.Kept,aj.row 9 aG dk.Now,aj.row 196 aF dk.Wait] [e9])(hd:dk.Down=false)(ho:ki dk=0)(hD:gy dk.Now.length 90000 dk/\dk.Now.length<=200)(hp:(cr (bM dk).c.Rows).2=0)(hr:(bM dk).c.Rows.length<=60 /\ ∀c∈(bM dk).c.Rows,c.Key.size<=1000/\c.Val.size<=1000):RC Tryz.prog 10 #[.pointer (some ⟨aI,0,none⟩)] H (fun z:Value×Value×Value×Nat×Value×Value×Value×Value×Nat×Value×Nat => .tuple #[.pointer (some ⟨z.2.2.2.1,0,none⟩),.nilIface]) (fun z=>[aj.box aI [z.1,z.2.1,z.2.2.1,iV dk.Fuse,.bool dk.Down] 120,aj.row 9 z.1 dk.Kept,aj.row 9 z.2.1 dk.Now,aj.row 196 z.2.2.1 dk.Wait,aj.box z.2.2.2.1 [.pointer (some ⟨z.2.2.2.2.2.2.2.2.1,0,none⟩),z.2.2.2.2.1,z.2.2.2.2.2.1,z.2.2.2.2.2.2.1,z.2.2.2.2.2.2.2.1,iV (⟨(cr (bM dk).c.Rows).1⟩:kN).R.ag,iV (⟨(cr (bM dk).c.Rows).1⟩:kN).R.ah] 78,aj.box z.2.2.2.2.2.2.2.2.1 [.pointer (some ⟨aI,0,none⟩),iV (bM dk).c.Epoch,iV (bM dk).c.Side,iV (bM dk).c.Size,iV (bM dk).c.First,.pointer (some ⟨z.2.2.2.2.2.2.2.2.2.2,0,none⟩),z.2.2.2.2.2.2.2.2.2.1] 132,aj.box z.2.2.2.2.2.2.2.2.2.2 [.pointer (some ⟨aI,0,none⟩),iV (bM dk).L.From,iV (bM dk).L.Many,iV (bM dk).L.First,iV (bM dk).L.Next] 193]) (fun z=>[aj.ls z.2.2.2.2.1 ((⟨(cr (bM dk).c.Rows).1⟩:kN).R.ao:List ap),aj.ls z.2.2.2.2.2.1 ((⟨(cr (bM dk).c.Rows).1⟩:kN).R.Things:List aA),aj.ls z.2.2.2.2.2.2.1 ((⟨(cr (bM dk).c.Rows).1⟩:kN).R.Held:List Held),aj.ls z.2.2.2.2.2.2.2.1 ((⟨(cr (bM dk).c.Rows).1⟩:kN).R.Notes:List Note),aj.ls z.2.2.2.2.2.2.2.2.2.1 (bM dk).c.Rows]):=by
 have fc:=H.cap 1 rfl;have fe:=H.dr 1 rfl
 have fV:=H.cap 2 rfl;have fW:=H.dr 2 rfl
 have ff:=H.cap 3 rfl;have fh:=H.dr 3 rfl
 obtain ⟨hr1,hr2⟩:=hr
 refine R.bE [(0,.pointer (some ⟨aI,0,none⟩))] Tryz.func10 O O O O H<|R.reg O<|R.ur 2 O O<|R.u 1 O<|R.s O (s.aT da [] _ _ _ O O O Sr O O (fun w own hw H=>CF aI aE aG aF dk w own H af af af) O) ?_
 rintro ⟨z1,z2,z3,z4,z5,z6⟩
 dsimp only
 refine R.ur 5 O O<|R.u 1 O<|R.q (q.Bw O O Tryz.underlying38) O<|R.nB O O O<|R.u 1 O<|R.s O (s.oL WU O O (fun w hw=>Lt z4 z5 aI z6 (bM dk).c w (hw.b 4 O) (hw.bz 0 O) ae) O) fun v1=>?_
 refine R.s O (s.pre (fun _ hw=>hw.bu 0 _ O O) (s.aT kj [0,2] _ _ _ O O O WT O O (fun w own hw H=>LQ v1 (bM dk).c.Rows w own H ae af) O)) ?_
 rintro ⟨z7,z8,z9,l7⟩
 dsimp only
 refine R.u 3 O<|R.s O (s.alloc cw O O) fun b1=>?_
 refine R.s O (s.dE 0 _ O O O (fun _ _=>rfl) (.inl ak) (fun w hw=>(dx (hw.bz 0 O) (hw.bz 1 O) (hw.bz 2 O) (hw.bz 3 O) O O)) O O O) fun _=>?_
 refine R.ur 1 O O<|R.u 1 O<|R.q (q.qD O O Tryz.underlying38) O<|R.nB O O O<|R.u 1 O<|R.q (q.EJ 0 O O ak) O<|R.q (q.Dt WI O (fun w hw=>(lF O (lF O Dr))) O) O<|R.s O (s.box O O O) fun b2=>?_
 refine R.un 2 O ?_
 have hz:(dk,(⟨(cr (bM dk).c.Rows).1⟩:kN),(bM dk).c,(bM dk).L)=(dk,(⟨(cr (bM dk).c.Rows).1⟩:kN),(bM dk).c,(bM dk).L):=by (rfl)
 have hz0:(cr (bM dk).c.Rows).1=(cr (bM dk).c.Rows).1:=congrArg (fun t_=>t_.2.1.R) hz
 rw [hz0]
 exact R.w2 (z1,z2,z3,b2,z7,z8,z9,l7,z4,z5,z6) [2,3,4,5,0,6,7,8] wO O Tryz.results10 (RV.tmp O) (RV.tmp O) O O O (cq O O)
theorem G2 (aI:Nat)(aE aG aF:Value)(dk:cU)(w:World)(own:List Nat)(H:HN w own [aj.box aI [aE,aG,aF,iV dk.Fuse,.bool dk.Down] 120,aj.row 9 aE dk.Kept,aj.row 9 aG dk.Now,aj.row 196 aF dk.Wait] [e9])(h0:dk=dNew 170):RC Tryz.prog 24 #[.pointer (some ⟨aI,0,none⟩)] H (fun _:Value×Value×Value=>cD (sI dk).2.2) (fun z=>[aj.box aI [z.1,z.2.1,z.2.2,iV (sI dk).2.1.Fuse,.bool (sI dk).2.1.Down] 120,aj.row 9 z.1 (sI dk).2.1.Kept,aj.row 9 z.2.1 (sI dk).2.1.Now,aj.row 196 z.2.2 (sI dk).2.1.Wait]) (fun _=>[]):=by
 have fc:=H.cap 1 rfl;have fe:=H.dr 1 rfl
 have fV:=H.cap 2 rfl;have fW:=H.dr 2 rfl
 have ff:=H.cap 3 rfl;have fh:=H.dr 3 rfl
 obtain ⟨f1,f2,f3,f4,f5⟩:=GG h0;have f6:=f4.ok;have f7:=f4.room;have f8:=f4.bnd ae;have f9:=f4.good;obtain ⟨f10,f11,f12⟩:=f9;have f13:=f7.2.2.1;have f14:gy (ey dk).1.Now.length 90000 (ey dk).1/\(ey dk).1.Now.length<=200:=⟨f6.1.up ae,f6.2.1⟩;have p0:gy dk.Now.length 80000 dk/\dk.Now.length<=1000:=(by rw [h0];have:=(Dj 170).nl;exact ⟨this.symm▸(Dj 170).up ae,ae⟩)
 have n1:=IZ;have n2:=jc;have n3:=iN jc
 refine R.bE [(0,.pointer (some ⟨aI,0,none⟩))] Tryz.func24 O O O O H<|R.reg O<|R.ur 1 O O<|R.u 1 O<|R.s O (s.aT da [] _ _ _ O O O Xb O O (fun w own hw H=>II aI aE aG aF dk w own H af) O) ?_
 rintro ⟨z1,z2,z3⟩
 dsimp only
 refine R.ur 1 O O<|R.u 1 O<|R.q (q.qD O O Tryz.underlying38) O<|R.nB O O O<|R.u 1 O<|R.s O (s.aT da [] _ _ _ O O O Sr O O (fun w own hw H=>CF aI z1 z2 z3 (ey dk).1 w own H af af af) O) ?_
 rintro ⟨z4,z5,z6,z7,z8,z9⟩
 dsimp only
 refine R.ur 5 O O<|R.u 1 O<|R.q (q.Bw O O Tryz.underlying38) O<|R.nB O O O<|R.u 1 O<|R.s O (s.aT kj [] _ _ _ O O O Xc O O (fun w own hw H=>O2 w own H ) O) ?_
 rintro ⟨l7,mh,z12,o6⟩
 dsimp only
 refine R.s O (s.aT kj wO _ _ _ O O O NJ O O (fun w own hw H=>Ax l7 mh z12 o6 (⟨[],[],[],[],1,1⟩:av) w own H af af) O) fun xX=>?_
 refine R.s O (s.pre (fun _ hw=>hw.bu 0 _ O O) (s.aT [4,0,1,2,3,5,6] [5,0] _ _ _ O O O Sx O O (fun w own hw H=>Ag z7 z8 (bM (ey dk).1).c xX (aY (⟨[],[],[],[],1,1⟩:av)) aI z4 z5 z6 (ey dk).1 z9 (bM (ey dk).1).L w own H af af ae af aD) O)) ?_
 rintro ⟨Hb,CG,z17,xk,Bb⟩
 dsimp only
 refine R.un 1 O ?_
 have hz:((sI dk).2.1,(sI dk).2.2)=(((bT (mkS (bM (ey dk).1).c (bM (ey dk).1).L) (ey dk).1 (aY (⟨[],[],[],[],1,1⟩:av))).2.1),(bT (mkS (bM (ey dk).1).c (bM (ey dk).1).L) (ey dk).1 (aY (⟨[],[],[],[],1,1⟩:av))).2.2):=by (rfl)
 have hz0:(sI dk).2.1=(bT (mkS (bM (ey dk).1).c (bM (ey dk).1).L) (ey dk).1 (aY (⟨[],[],[],[],1,1⟩:av))).2.1:=congrArg (fun t_=>t_.1) hz
 rw [hz0]
 have hz1:(sI dk).2.2=(bT (mkS (bM (ey dk).1).c (bM (ey dk).1).L) (ey dk).1 (aY (⟨[],[],[],[],1,1⟩:av))).2.2:=congrArg (fun t_=>t_.2) hz
 rw [hz1]
 exact R.w1 (CG,z17,xk) tV [] O Tryz.results24 (RV.tmp O) O O O O
end
section
open Go Go.RowKit
attribute [local irreducible] bT cX bM ki ey dNew cp fw
theorem G3 (w:World)(own:List Nat)(H:HN w own [] [e9]):RC Tryz.prog 7 #[] H (fun z:Nat×Value×Value×Value×Nat×Value×Value×Value×Value×Nat×Value×Nat => .tuple #[.pointer (some ⟨z.1,0,none⟩),.pointer (some ⟨z.2.2.2.2.1,0,none⟩),.bool true]) (fun z=>[aj.box z.1 [z.2.1,z.2.2.1,z.2.2.2.1,iV iH.Fuse,.bool iH.Down] 120,aj.row 9 z.2.1 iH.Kept,aj.row 9 z.2.2.1 iH.Now,aj.row 196 z.2.2.2.1 iH.Wait,aj.box z.2.2.2.2.1 [.pointer (some ⟨z.2.2.2.2.2.2.2.2.2.1,0,none⟩),z.2.2.2.2.2.1,z.2.2.2.2.2.2.1,z.2.2.2.2.2.2.2.1,z.2.2.2.2.2.2.2.2.1,iV gv.R.ag,iV gv.R.ah] 78,aj.box z.2.2.2.2.2.2.2.2.2.1 [.pointer (some ⟨z.1,0,none⟩),iV iq.Epoch,iV iq.Side,iV iq.Size,iV iq.First,.pointer (some ⟨z.2.2.2.2.2.2.2.2.2.2.2,0,none⟩),z.2.2.2.2.2.2.2.2.2.2.1] 132,aj.box z.2.2.2.2.2.2.2.2.2.2.2 [.pointer (some ⟨z.1,0,none⟩),iV nk.From,iV nk.Many,iV nk.First,iV nk.Next] 193]) (fun z=>[aj.ls z.2.2.2.2.2.1 gv.R.ao,aj.ls z.2.2.2.2.2.2.1 gv.R.Things,aj.ls z.2.2.2.2.2.2.2.1 gv.R.Held,aj.ls z.2.2.2.2.2.2.2.2.1 gv.R.Notes,aj.ls z.2.2.2.2.2.2.2.2.2.2.1 iq.Rows]):=by
 obtain ⟨w1,w2,w3,w4,w5,u0,w6⟩:=Eg;have w7:=w6.anew ae;have w8:=w6.pre ae
 have x1:(sI (dNew (Int.toNat 170))).2.2=0:=w1;have x2:(sI (dNew (Int.toNat 170))).2.1.Down=false:=w7.1;have x3:ki (sI (dNew (Int.toNat 170))).2.1=0:=w7.2.1;have x4:gy (sI (dNew (Int.toNat 170))).2.1.Now.length 90000 (sI (dNew (Int.toNat 170))).2.1/\(sI (dNew (Int.toNat 170))).2.1.Now.length<=200:=w7.2.2.1;have x5:(cr (bM (sI (dNew (Int.toNat 170))).2.1).c.Rows).2=0:=w7.2.2.2.1;have x6:(bM (sI (dNew (Int.toNat 170))).2.1).c.Rows.length<=60 /\ ∀c∈(bM (sI (dNew (Int.toNat 170))).2.1).c.Rows,c.Key.size<=1000/\c.Val.size<=1000:=w7.2.2.2.2.1
 refine R.bE [] Tryz.func7 O O O O H<|R.reg O<|R.ur 3 O O<|R.s O (s.aT [0] [] _ _ _ O O O WQ O O (fun w own hw H=>Od 170 w own H ae) O) ?_
 rintro ⟨z1,z2,z3,z4⟩
 dsimp only
 refine R.ur 5 O O<|R.u 1 O<|R.q (q.Bw O O Tryz.underlying38) O<|R.u 2 O<|R.qg O (q.P3 O O Tryz.underlying25) O<|R.u 3 O<|R.s O (s.aT da [0] _ _ _ O O O WR O O (fun w own hw H=>G2 z1 z2 z3 z4 (dNew (Int.toNat 170)) w own H ck) O) ?_
 rintro ⟨z5,z6,z7⟩
 dsimp only
 refine R.qg O (q.qD O O Tryz.underlying38) O<|R.u 1 O<|R.nB O O O<|R.u 1 O<|R.s O (s.aT da [0] _ _ _ O O O NF O O (fun w own hw H=>wI z1 z5 z6 z7 (sI (dNew (Int.toNat 170))).2.1 w own H af af af af af) O) ?_
 rintro ⟨z8,z9,l7,mh,z12,o6,xX,Hb,CG,z17,xk⟩
 dsimp only
 refine R.ur 5 O O<|R.u 3 O<|R.q (q.EL O O Tryz.underlying38) O<|R.u 2 O<|R.qg O (q.P4 O O Tryz.underlying26) O<|R.un 4 O ?_
 have hz:(iH,gv,iq,nk)=(((sI (dNew (Int.toNat 170))).2.1),(⟨(cr (bM (sI (dNew (Int.toNat 170))).2.1).c.Rows).1⟩:kN),(bM (sI (dNew (Int.toNat 170))).2.1).c,(bM (sI (dNew (Int.toNat 170))).2.1).L):=by (rfl)
 have hz0:iH=(sI (dNew (Int.toNat 170))).2.1:=congrArg (fun t_=>t_.1) hz
 rw [hz0]
 have hz1:gv=(⟨(cr (bM (sI (dNew (Int.toNat 170))).2.1).c.Rows).1⟩:kN):=congrArg (fun t_=>t_.2.1) hz
 rw [hz1]
 have hz2:iq=(bM (sI (dNew (Int.toNat 170))).2.1).c:=congrArg (fun t_=>t_.2.2.1) hz
 rw [hz2]
 have hz3:nk=(bM (sI (dNew (Int.toNat 170))).2.1).L:=congrArg (fun t_=>t_.2.2.2) hz
 rw [hz3]
 exact R.w3 (z1,z8,z9,l7,mh,z12,o6,xX,Hb,CG,z17,xk) cu da O Tryz.results7 (RV.tmp O) (RV.tmp O) (RV.tmp O) O O O (Mk O O O)
theorem I7 {d:cU}{sc:jK}{lg:Lg}{u:Nat}{k:kN}{a:fL}(h:KI d sc lg nR u 1)(hf:d.Fuse = -1)(e:k.R=nR)(h1:a.Kind=(⟨#[109,97,107,101]⟩:ByteArray))(h2:a.P=⟨1,0⟩)(h3:a.A=1) :
 (fw k sc d lg (cp k.R a)).2.2.2.2=0 /\ ∃z u1,KI (fw k sc d lg (cp k.R a)).2.2.1 (fw k sc d lg (cp k.R a)).2.1 (fw k sc d lg (cp k.R a)).2.2.2.1 z u1 2/\(aP z).Things.length=1/\Ok (aP z):=by
 have hd:cp nR a=(⟨[⟨1,1,7,0,0⟩],[⟨1,1,⟨#[]⟩⟩],[⟨⟨1,0⟩,1⟩],[],2,2⟩,0):=by unfold cp;rw [if_pos h1,h2,h3];exact U8
 have h0:(cp nR a).2=0:=by rw [hd]
 obtain ⟨_,b⟩:=h.do (z:=cp nR a) ae (xZ h.inv a)
 have ek:k=⟨nR⟩:=by rw [<- e]
 rw [e,ek]
 have hs:Sz 1 (cp nR a).1:=MP Sz.new a
 rcases b h0 with ⟨c1,c2,c3,u2,c4⟩ | ⟨_,_,c3,_⟩
 .
  refine ⟨c1,_,u2,c4,?_,(Fo hs).ok ae⟩
  rw [zf c4.inv (by rw [hd])]
  rw [hd];rfl
 exact absurd hf c3
end
section
open Go Go.RowKit
attribute [local irreducible] Run Rg Rq Qt Qa Stp Dg Do Dm cD
section
variable {α:Type} {p:α->Bool} {l:List α} {j:Nat} {x:α}
end
end
end Go.Proofs.YtnmpibjlnninjaaGreatDoor
