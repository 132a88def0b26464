import Derived.Test.YtnmpibjlnninjaaGreatDoorKT25
namespace Go.Proofs.YtnmpibjlnninjaaGreatDoor
set_option linter.unusedVariables false
set_option linter.unusedSimpArgs false
set_option maxRecDepth 100000
set_option maxHeartbeats 90000000
section
open Go Go.RowKit
attribute [local irreducible] Run Rg Rq Qt Qa Stp Dg Do Dm bN
theorem Fp {b:Bool}(h:(!b)=true):b=false:=by cases b <;> simp_all
theorem Fq {b:Bool}(h:(!b)=false):b=true:=by cases b <;> simp_all
theorem S6 {α β:Type}{f:α->β}{L:List α}{k:Nat}{x:α}(hx:L[k]? = some x)(hm:f x∈(L.take k).map f):¬ (L.map f).Nodup:=fun hn=>by
 have hk:=(List.getElem?_eq_some_iff.1 hx).1
 rw [<- List.take_append_drop k L,List.map_append] at hn
 have h2:f x∈(L.drop k).map f:=List.mem_map.2 ⟨x,List.mem_of_getElem? (i:=0) (by rw [List.getElem?_drop,Nat.add_zero];exact hx),rfl⟩
 exact (List.nodup_append.1 hn).2.2 _ hm _ h2 rfl
theorem G2 {l:List Int}{x:Int}(h:l.Nodup)(hx:¬ x∈l):(l++[x]).Nodup:=by
 rw [List.nodup_append]
 exact ⟨h,(List.nodup_cons.2 ⟨bC,List.nodup_nil⟩),fun a ha b hb e=>hx (by rw [List.mem_singleton.1 hb] at e;rw [<- e];exact ha)⟩
section
variable {r:aA} {k:Nat} {x:Held} {seen ts:List Int}
theorem Pw (hx:r.Held[k]? = some x)(h:bY r.aj x.ak<0):dQ r=false:=fJ fun hw=>by
 have:=hw.eD x (List.mem_of_getElem? hx);omega
theorem S7 (hx:r.Held[k]? = some x)(hs:seen=(r.Held.take k).map Held.ak)(h:x.ak∈seen):dQ r=false:=fJ fun hw=>S6 hx (hs▸h) hw.once
theorem J6 (ht:ts=(r.Things.take k).map av.ID)(hk:r.Things.length<=k)(h:¬ ts=a8 r.aj):dQ r=false:=fJ fun hw=>h (by rw [ht,List.take_of_length_le hk];exact hw.things)
theorem VZ {x:ak}(hx:r.aj[r.aj.length-1]? = some x)(h:¬ x.ID<r.ag):dQ r=false:=fJ fun hw=>h (hw.Qd x (by rw [List.getLast?_eq_getElem?];exact hx))
theorem Ft {α β:Type}{f:α->β}{L:List α}{y:β}(h:(L.map f)[(L.map f).length-1]? = some y):∃x,L.getLast? = some x/\f x=y:=by
 rw [List.getElem?_map,List.length_map,<- List.getLast?_eq_getElem?] at h
 obtain ⟨x,h1,h2⟩:=Option.map_eq_some_iff.1 h
 exact ⟨x,h1,h2⟩
theorem QU {y:Int}(ht:ts=(r.Things.take k).map av.ID)(hk:r.Things.length<=k)(hy:ts[ts.length-1]? = some y)(h:¬ y<r.ai):dQ r=false:=fJ fun hw=>by
 subst ht;rw [List.take_of_length_le hk] at hy
 obtain ⟨x,h1,h2⟩:=Ft hy
 exact h (h2▸hw.Qe x h1)
theorem CV (a1:dS r.aj=0)(a2:r.Things.length<=10)(a3:1<=r.ag/\r.ag<=1000)(a5:1<=r.ai/\r.ai<=1000)(a7:r.Held.length=r.aj.length){i:Nat}(hs:seen=(r.Held.take i).map Held.ak)(hi:r.Held.length<=i)
 (hf:∀h∈r.Held.take i,0<=bY r.aj h.ak) (hn:seen.Nodup) (ht:ts=(r.Things.take k).map av.ID) (hk:r.Things.length<=k) (he:ts=a8 r.aj) (hw:r.aj.length=0 ∨ ∃x,r.aj[r.aj.length-1]? = some x/\x.ID<r.ag) (hl:ts.length=0 ∨ ∃y,ts[ts.length-1]? = some y/\y<r.ai):dQ r=true:=by
 rw [List.take_of_length_le hi] at hs hf
 rw [List.take_of_length_le hk] at ht
 refine xS ⟨a1,a2,a3.1,a3.2,a5.1,a5.2,a7,hf,hs▸hn,ht.symm.trans he,fun w hq=>?_,fun t hq=>?_⟩
 .
  rcases hw with hw|⟨x,h1,h2⟩
  .rw [List.eq_nil_of_length_eq_zero hw] at hq;cases hq
  rw [List.getLast?_eq_getElem?,h1] at hq;injection hq with hq;rw [<- hq];exact h2
 rcases hl with hl|⟨y,h1,h2⟩
 .rw [ht,List.length_map] at hl;rw [List.eq_nil_of_length_eq_zero hl] at hq;cases hq
 subst ht
 obtain ⟨x,h3,h4⟩:=Ft h1
 rw [h3] at hq;injection hq with hq;rw [<- hq,h4];exact h2
end
theorem J7 (aW aS aT aU:Value)(r:aA)(w:World)(own:List Nat)(H:HN w own [] [ah.ls aW r.aj,ah.ls aS r.Things,ah.ls aT r.Held,ah.ls aU r.Notes])(hr:r.aj.length<=1000/\r.Things.length<=1000/\r.Held.length<=1000):RC Tryz.prog 82 #[.agg #[aW,aS,aT,aU,iV r.ag,iV r.ai]] H (fun _:Unit => .bool (dQ r)) (fun _=>[]) (fun _=>[]):=by
 have bS:=H.aZ 0 rfl
 have bH:=H.aZ 1 rfl
 have cu:=H.aZ 2 rfl
 have bT:=H.aZ 3 rfl
 refine R.eN H ?_
 refine R.nb fun b1=>?_
 refine R.kc O O (fun w hw=>zP _ r.aj w (hw.cq 0 O))<|C (dS r.aj=0) ?_ ?_ <;> intro h1
 .
  refine C (10<r.Things.length) ?_ ?_ <;> intro h2
  .
   rw [show dQ r=_ from by exact fJ (fun hw=>by have a1:dS r.aj=0:=hw.tree;have a2:=hw.ia;have a3:=hw.nM;have a4:=hw.pI;have a5:=hw.oF;have a6:=hw.oG;have a7:=hw.hlen;omega)]
   exact R.x1 () [1] []
  refine C (r.ag<1) ?_ ?_ <;> intro h3
  .
   rw [show dQ r=_ from by exact fJ (fun hw=>by have a1:dS r.aj=0:=hw.tree;have a2:=hw.ia;have a3:=hw.nM;have a4:=hw.pI;have a5:=hw.oF;have a6:=hw.oG;have a7:=hw.hlen;omega)]
   exact R.x1 () [1] []
  refine C (1000<r.ag) ?_ ?_ <;> intro h4
  .
   rw [show dQ r=_ from by exact fJ (fun hw=>by have a1:dS r.aj=0:=hw.tree;have a2:=hw.ia;have a3:=hw.nM;have a4:=hw.pI;have a5:=hw.oF;have a6:=hw.oG;have a7:=hw.hlen;omega)]
   exact R.x1 () [1] []
  refine C (r.ai<1) ?_ ?_ <;> intro h5
  .
   rw [show dQ r=_ from by exact fJ (fun hw=>by have a1:dS r.aj=0:=hw.tree;have a2:=hw.ia;have a3:=hw.nM;have a4:=hw.pI;have a5:=hw.oF;have a6:=hw.oG;have a7:=hw.hlen;omega)]
   exact R.x1 () [1] []
  refine C (1000<r.ai) ?_ ?_ <;> intro h6
  .
   rw [show dQ r=_ from by exact fJ (fun hw=>by have a1:dS r.aj=0:=hw.tree;have a2:=hw.ia;have a3:=hw.nM;have a4:=hw.pI;have a5:=hw.oF;have a6:=hw.oG;have a7:=hw.hlen;omega)]
   exact R.x1 () [1] []
  refine C (r.Held.length=r.aj.length) ?_ ?_ <;> intro h7
  .
   refine R.row0 (α:=Int) 3<|R.loop (fun g_:Nat×Value×(List Int)=>[(1,pV b1),(3,g_.2.1),(49,aT),(50,iV (r.Held.length:Int)),(51,iV (g_.1:Int))]) (fun g_=>[ah.row 3 g_.2.1 g_.2.2,ah.box b1 [aW,aS,aT,aU,iV r.ag,iV r.ai] 48,ah.held w own]) (fun g_=>[ah.ls aW r.aj,ah.ls aS r.Things,ah.ls aT r.Held,ah.ls aU r.Notes]) (fun g_=>g_.1<=r.Held.length/\g_.2.2=(r.Held.take g_.1).map Held.ak/\(∀h∈r.Held.take g_.1,0<=bY r.aj h.ak)/\g_.2.2.Nodup) (fun g_=>r.Held.length-g_.1) (0,nS,[]) O (by exact ⟨ae,rfl,(by intro h hh;simp at hh),List.nodup_nil⟩) (sF O) (dE [0,1,2] aX O) ?_
   rintro ⟨k,u,seen⟩ ⟨hk,HS,HF,HN⟩
   dsimp only at *
   have ll:seen.length<=1000:=by rw [HS,List.length_map,List.length_take];omega
   refine U ?_
   refine C (k<r.Held.length) ?_ ?_ <;> intro h8
   .
    obtain ⟨x1,hx1⟩:=gE r.Held k
    refine U ?_
    refine R.nb fun b2=>?_
    rcases dv r.aj x1.ak with ⟨eW,CK⟩ | ⟨vP,lz,eW,ub,QS⟩
    .
     refine R.kc O O (fun w hw=>cv (congrArg (Value.int .i64) eW) (gM _ r.aj x1.ak w (hw.cq 0 O)))<|U ?_
     rw [show dQ r=_ from Pw hx1 ae]
     exact R.x1 () [3] []
    refine R.kc O O (fun w hw=>cv (congrArg (Value.int .i64) eW) (gM _ r.aj x1.ak w (hw.cq 0 O)))<|U ?_
    rcases Bool.eq_false_or_eq_true (decide (x1.ak∈seen)) with h9|h9
    .
     refine R.kc O O (fun w hw=>cv (congrArg Value.bool h9) (fu _ seen x1.ak w (hw.row 1 O)))<|U ?_
     rw [show dQ r=_ from S7 hx1 HS (of_decide_eq_true af)]
     exact R.x1 () [3] []
    refine R.kc O O (fun w hw=>cv (congrArg Value.bool h9) (fu _ seen x1.ak w (hw.row 1 O)))<|U ?_
    refine R.s O (s.bs (l:=([x1.ak]:List Int)) lF jQ O O O O O O O) fun b3=>?_
    refine R.ap fun v1=>?_
    refine R.back (k+1,v1,(seen++([x1.ak]))) O (by exact ⟨ae,by rw [lq Held.ak hx1,<- HS],(by rw [List.take_add_one,hx1];intro h hh;rcases List.mem_append.1 hh with hh|hh;exact HF h hh;rw [List.mem_singleton.1 hh];omega),G2 HN (of_decide_eq_false af)⟩) aG (sF O) (ck [2,3,4] aX O)
   refine R.row0 (α:=Int) 3<|R.loop (fun g_:Nat×Value×(List Int)=>[(1,pV b1),(6,g_.2.1),(74,aS),(75,iV (r.Things.length:Int)),(76,iV (g_.1:Int))]) (fun g_=>[ah.row 3 g_.2.1 g_.2.2,ah.row 3 u seen,ah.box b1 [aW,aS,aT,aU,iV r.ag,iV r.ai] 48,ah.held w own]) (fun g_=>[ah.ls aW r.aj,ah.ls aS r.Things,ah.ls aT r.Held,ah.ls aU r.Notes]) (fun g_=>g_.1<=r.Things.length/\g_.2.2=(r.Things.take g_.1).map av.ID) (fun g_=>r.Things.length-g_.1) (0,nS,[]) O (by exact ⟨ae,rfl⟩) (sF O) (dE aX aX O) ?_
   rintro ⟨j,u2,ts⟩ ⟨hj,HT⟩
   dsimp only at *
   have Xw:ts.length<=1000:=by rw [HT,List.length_map,List.length_take];omega
   refine U ?_
   refine C (j<r.Things.length) ?_ ?_ <;> intro h10
   .
    obtain ⟨x2,hx2⟩:=gE r.Things j
    refine U ?_
    refine R.nb fun b4=>?_
    refine R.s O (s.bs (l:=([x2.ID]:List Int)) lF jQ O O O O O O O) fun b5=>?_
    refine R.ap fun v2=>?_
    refine R.back (j+1,v2,(ts++([x2.ID]))) O (by exact ⟨ae,by rw [lq av.ID hx2,<- HT]⟩) aG (sF O) (ck [2,3,4,5] aX O)
   refine R.s O (s.nE Mg O O (fun w hw=>vR _ r.aj w (hw.cq 0 O) ae) O) fun v3=>?_
   rcases Bool.eq_false_or_eq_true (decide (ts=(a8 r.aj))) with h11|h11
   .
    refine R.kc O O (fun w hw=>cv (congrArg Value.bool h11) (zn _ ts _ (a8 r.aj) w (hw.row 1 O) (hw.row 0 O)))<|U ?_
    refine C (r.aj.length=0) ?_ ?_ <;> intro h12
    .
     refine C (ts.length=0) ?_ ?_ <;> intro Tr
     .
      refine R.cG O mixed ao<|U ?_
      rw [show dQ r=_ from CV ae ae ae ae ae HS ae HF HN HT ae (of_decide_eq_true af) (.inl ae) (.inl ae)]
      exact R.x1 () [4] []
     obtain ⟨x3,hx3⟩:=gE ts (ts.length-1)
     refine C (x3<r.ai) ?_ ?_ <;> intro Wb
     .
      refine R.cG O mixed ao<|U ?_
      refine Q.qg O (q.jY (r:=((ts.length-1:Nat):Int)) O O) O<|U ?_
      rw [show dQ r=_ from CV ae ae ae ae ae HS ae HF HN HT ae (of_decide_eq_true af) (.inl ae) (.inr ⟨_,hx3,af⟩)]
      exact R.x1 () [4] []
     refine R.cG O mixed ao<|U ?_
     refine Q.qg O (q.jY (r:=((ts.length-1:Nat):Int)) O O) O<|U ?_
     rw [show dQ r=_ from QU HT ae hx3 af]
     exact R.x1 () [4] []
    obtain ⟨x4,hx4⟩:=gE r.aj (r.aj.length-1)
    refine C (x4.ID<r.ag) ?_ ?_ <;> intro W4
    .
     refine C (ts.length=0) ?_ ?_ <;> intro h16
     .
      refine R.cG O mixed ao<|U ?_
      refine Q.qg O (q.jY (r:=((r.aj.length-1:Nat):Int)) O O) O<|U ?_
      rw [show dQ r=_ from CV ae ae ae ae ae HS ae HF HN HT ae (of_decide_eq_true af) (.inr ⟨_,hx4,af⟩) (.inl ae)]
      exact R.x1 () [4] []
     obtain ⟨x5,hx5⟩:=gE ts (ts.length-1)
     refine C (x5<r.ai) ?_ ?_ <;> intro Vh
     .
      refine R.cG O mixed ao<|U ?_
      refine Q.qg O (q.jY (r:=((r.aj.length-1:Nat):Int)) O O) O<|U ?_
      refine Q.qg O (q.jY (r:=((ts.length-1:Nat):Int)) O O) O<|U ?_
      rw [show dQ r=_ from CV ae ae ae ae ae HS ae HF HN HT ae (of_decide_eq_true af) (.inr ⟨_,hx4,af⟩) (.inr ⟨_,hx5,af⟩)]
      exact R.x1 () [4] []
     refine R.cG O mixed ao<|U ?_
     refine Q.qg O (q.jY (r:=((r.aj.length-1:Nat):Int)) O O) O<|U ?_
     refine Q.qg O (q.jY (r:=((ts.length-1:Nat):Int)) O O) O<|U ?_
     rw [show dQ r=_ from QU HT ae hx5 af]
     exact R.x1 () [4] []
    refine R.cG O mixed ao<|U ?_
    refine Q.qg O (q.jY (r:=((r.aj.length-1:Nat):Int)) O O) O<|U ?_
    rw [show dQ r=_ from VZ hx4 af]
    exact R.x1 () [4] []
   refine R.kc O O (fun w hw=>cv (congrArg Value.bool h11) (zn _ ts _ (a8 r.aj) w (hw.row 1 O) (hw.row 0 O)))<|U ?_
   rw [show dQ r=_ from J6 HT ae (of_decide_eq_false af)]
   exact R.x1 () [4] []
  rw [show dQ r=_ from by exact fJ (fun hw=>by have a1:dS r.aj=0:=hw.tree;have a2:=hw.ia;have a3:=hw.nM;have a4:=hw.pI;have a5:=hw.oF;have a6:=hw.oG;have a7:=hw.hlen;omega)]
  exact R.x1 () [1] []
 rw [show dQ r=_ from by exact fJ (fun hw=>by have a1:dS r.aj=0:=hw.tree;have a2:=hw.ia;have a3:=hw.nM;have a4:=hw.pI;have a5:=hw.oF;have a6:=hw.oG;have a7:=hw.hlen;omega)]
 exact R.x1 () [1] []
def prevK (l:List Change)(k:Nat):Option ByteArray:=if k=0 then none else (l[k-1]?).map Change.Key
section
variable {l:List Change} {k:Nat} {x y:Change} {z:aA} {Z:Option aA}
theorem Fu (hx:l[k]? = some x):l.drop k=x::l.drop (k+1):=by
 obtain ⟨h,rfl⟩:=List.getElem?_eq_some_iff.1 hx
 exact List.drop_eq_getElem_cons h
theorem Fv (h:¬ 0<k):sj (prevK l k) x=true:=by unfold prevK;rw [if_pos ae];rfl
theorem Fw (h:0<k)(hy:l[k-1]? = some y)(hl:(fR x.Key y.Key||decide (x.Key=y.Key))=false):sj (prevK l k) x=true:=by
 unfold prevK;rw [if_neg ae,hy];exact Sv hl
theorem Px (h:0<k)(hy:l[k-1]? = some y)(hl:(fR x.Key y.Key||decide (x.Key=y.Key))=true):sj (prevK l k) x=false:=by
 unfold prevK;rw [if_neg ae,hy];exact OL hl
theorem QV (h:x.Gone=false):(⟨x.Key,x.Val,false⟩:Change)=x:=by rw [<- h]
theorem wS (h:pgo (l.drop k) (prevK l k) z=Z)(hx:l[k]? = some x)(h1:sj (prevK l k) x=true)(h2:x.Gone=false)(h3:(rowP z ⟨x.Key,x.Val,false⟩).2=true):pgo (l.drop (k+1)) (prevK l (k+1)) (rowP z ⟨x.Key,x.Val,false⟩).1=Z:=by
 rw [QV h2] at h3 ⊢
 rw [Fu hx] at h;simp only [pgo] at h
 rw [if_pos (by rw [h1,h2,h3];rfl)] at h
 unfold prevK;rw [if_neg ae,Nat.add_sub_cancel,hx];exact h
theorem o5 (h:pgo (l.drop k) (prevK l k) z=pgo l none r0)(hx:l[k]? = some x)(h1:sj (prevK l k) x=false∨x.Gone=true∨x.Gone=false/\(rowP z ⟨x.Key,x.Val,false⟩).2=false):bQ l=(r0,4):=by
 rw [Fu hx] at h;simp only [pgo] at h
 rw [if_neg (by
  rcases h1 with e|e|⟨e1,e⟩
  .rw [e];simp
  .rw [e];simp
  rw [QV e1] at e;rw [e];simp)] at h
 unfold bQ;rw [<- h]
theorem Np (h:pgo (l.drop k) (prevK l k) z=pgo l none r0)(hk:l.length<=k):pgo l none r0=some z:=by
 rw [List.drop_of_length_le hk] at h;exact h.symm
theorem S8 (h:pgo (l.drop k) (prevK l k) z=pgo l none r0)(hk:l.length<=k)(hw:dQ z=false):bQ l=(r0,4):=by
 unfold bQ;rw [Np h hk];dsimp only;rw [if_neg (by rw [hw];decide)]
theorem V0 (h:pgo (l.drop k) (prevK l k) z=pgo l none r0)(hk:l.length<=k)(hw:dQ z=true):bQ l=(z,0):=by
 unfold bQ;rw [Np h hk];dsimp only;rw [if_pos hw]
theorem t6 (z:aA)(x:Change):(rowP z x).1.aj.length<=z.aj.length+1/\(rowP z x).1.Things.length<=z.Things.length+1/\(rowP z x).1.Held.length<=z.Held.length+1:=by
 unfold rowP
 (repeat' split) <;> dsimp only <;> (repeat' split) <;> simp [Ji,Jj,Ef,Og] <;> omega
end
attribute [local irreducible] rowP pgo bQ
theorem J8 (bA:Value)(l:List Change)(w:World)(own:List Nat)(H:HN w own [] [ah.ls bA l,eh])(hl:l.length<=900)(hc:∀c∈l,c.Key.size<=1000/\c.Val.size<=1000):RS Tryz.prog 30 #[bA] H (bQ l) (fun s (z:Value×Value×Value×Value) => .tuple #[.agg #[z.1,z.2.1,z.2.2.1,z.2.2.2,iV s.1.ag,iV s.1.ai],bN s.2]) (fun _ _=>[]) (fun s z=>[ah.ls z.1 s.1.aj,ah.ls z.2.1 s.1.Things,ah.ls z.2.2.1 s.1.Held,ah.ls z.2.2.2 s.1.Notes]):=by
 have zy:=H.aZ 0 rfl
 refine R.eN H ?_
 refine R.nb fun b1=>?_
 refine R.nb fun b2=>?_
 refine R.row0 (α:=ak) 126<|R.row0 (α:=av) 103<|R.row0 (α:=Held) 124<|R.row0 (α:=Note) 91<|R.loop (fun g_:Nat×aA×Value×Value×Value×Value=>[(0,bA),(2,pV b1),(4,pV b2),(7,bA),(8,iV (l.length:Int)),(9,iV (g_.1:Int))]) (fun g_=>[ah.row 91 g_.2.2.2.2.2 g_.2.1.Notes,ah.row 124 g_.2.2.2.2.1 g_.2.1.Held,ah.row 103 g_.2.2.2.1 g_.2.1.Things,ah.row 126 g_.2.2.1 g_.2.1.aj,ah.box b2 [g_.2.2.1,g_.2.2.2.1,g_.2.2.2.2.1,g_.2.2.2.2.2,iV g_.2.1.ag,iV g_.2.1.ai] 48,ah.box b1 sR 48,ah.held w own]) (fun g_=>[ah.ls bA l,eh]) (fun g_=>g_.1<=l.length/\pgo (l.drop g_.1) (prevK l g_.1) g_.2.1=pgo l none r0/\g_.2.1.aj.length<=g_.1/\g_.2.1.Things.length<=g_.1/\g_.2.1.Held.length<=g_.1) (fun g_=>l.length-g_.1) (0,(⟨[],[],[],[],0,0⟩:aA),nS,nS,nS,nS) O (by (try dsimp only);exact ⟨ae,rfl,Nat.le_refl _,Nat.le_refl _,Nat.le_refl _⟩) (sF O) (dE jF [0,1] O) ?_
 rintro ⟨k,z,rj,og,uZ,rk⟩ ⟨hk,HP,Z4,Z5,Z6⟩
 dsimp only at *
 refine U ?_
 refine C (k<l.length) ?_ ?_ <;> intro h1
 .
  obtain ⟨x1,hx1⟩:=gE l k
  have OJ:=hc x1 (List.mem_of_getElem? hx1)
  refine U ?_
  refine R.nb fun b3=>?_
  refine C (0<k) ?_ ?_ <;> intro h2
  .
   obtain ⟨x2,hx2⟩:=gE l (k-1)
   have Wm:=hc x2 (List.mem_of_getElem? hx2)
   rcases Bool.eq_false_or_eq_true (fR x1.Key x2.Key||decide (x1.Key=x2.Key)) with h3|h3
   .
    refine R.cG O mixed ao<|U ?_
    refine Q.qg O (q.jY (r:=((k-1:Nat):Int)) O O) O<|U ?_
    refine Q.qg O (q.IY O O h3) O<|U ?_
    refine R.g9 ak av Held Note ?_
    rw [show bQ l=_ from o5 HP hx1 (.inl (Px ae hx2 af))]
    exact R.x2 (nS,nS,nS,nS) [7] [3,2,1,0]
   rcases Bool.eq_false_or_eq_true x1.Gone with h4|h4
   .
    rw [h4]
    refine R.cG O mixed ao<|U ?_
    refine Q.qg O (q.jY (r:=((k-1:Nat):Int)) O O) O<|U ?_
    refine Q.qg O (q.IY O O h3) O<|U ?_
    refine R.g9 ak av Held Note ?_
    rw [show bQ l=_ from o5 HP hx1 (.inr (.inl af))]
    exact R.x2 (nS,nS,nS,nS) [7] [3,2,1,0]
   rw [h4]
   rcases Bool.eq_false_or_eq_true (!((rowP z (⟨x1.Key,x1.Val,false⟩:Change)).2)) with h5|h5
   .
    refine R.dC (fuel:=22) [0,6,7] O O mixed O<|D.l Db [0,6,7] [0,1] O<|U ?_
    refine Dm.yy O O (q.jY (r:=((k-1:Nat):Int)) O O) O<|U ?_
    refine Dm.yy O O (q.IY O O h3) O<|U ?_
    refine D.p 19 O [5,6,7] [0,1] (s.aJ G7 [1] _ _ _ O O O Iq O O (fun w own hw H=>wR b2 rj og uZ rk z (⟨x1.Key,x1.Val,false⟩:Change) w own H af ae) O) ?_
    rintro ⟨z9,lu,mG,z12⟩
    dsimp only
    refine D.l [20,21] [5,6,7] [0,1] O<|Dm.yy O O (q.not O) O<|U ?_
    refine D.done<|R.cond O O (fun h6=>?_) (fun h6=>?_)
    .
     refine U ?_
     refine R.g9 ak av Held Note ?_
     rw [show bQ l=_ from o5 HP hx1 (.inr (.inr ⟨af,by exact Fp af⟩))]
     exact R.x2 (nS,nS,nS,nS) [7] [3,2,1,0]
    refine U ?_
    refine R.back (k+1,(rowP z (⟨x1.Key,x1.Val,false⟩:Change)).1,z9,lu,mG,z12) O (by ((try dsimp only);have zl:=t6 z (⟨x1.Key,x1.Val,false⟩:Change);exact ⟨ae,wS HP hx1 (by exact Fw ae hx2 af) af (by exact Fq af),ae,ae,ae⟩)) aG (sF O) (ck [4,3,2,1,0,6,7] [0,1] O)
   refine R.dC (fuel:=22) [0,6,7] O O mixed O<|D.l Db [0,6,7] [0,1] O<|U ?_
   refine Dm.yy O O (q.jY (r:=((k-1:Nat):Int)) O O) O<|U ?_
   refine Dm.yy O O (q.IY O O h3) O<|U ?_
   refine D.p 19 O [5,6,7] [0,1] (s.aJ G7 [1] _ _ _ O O O Iq O O (fun w own hw H=>wR b2 rj og uZ rk z (⟨x1.Key,x1.Val,false⟩:Change) w own H af ae) O) ?_
   rintro ⟨z17,vK,zN,z20⟩
   dsimp only
   refine D.l [20,21] [5,6,7] [0,1] O<|Dm.yy O O (q.not O) O<|U ?_
   refine D.done<|R.cond O O (fun h7=>?_) (fun h7=>?_)
   .
    refine U ?_
    refine R.g9 ak av Held Note ?_
    rw [show bQ l=_ from o5 HP hx1 (.inr (.inr ⟨af,by exact Fp af⟩))]
    exact R.x2 (nS,nS,nS,nS) [7] [3,2,1,0]
   refine U ?_
   refine R.back (k+1,(rowP z (⟨x1.Key,x1.Val,false⟩:Change)).1,z17,vK,zN,z20) O (by ((try dsimp only);have zl:=t6 z (⟨x1.Key,x1.Val,false⟩:Change);exact ⟨ae,wS HP hx1 (by exact Fw ae hx2 af) af (by exact Fq af),ae,ae,ae⟩)) aG (sF O) (ck [4,3,2,1,0,6,7] [0,1] O)
  rcases Bool.eq_false_or_eq_true x1.Gone with h8|h8
  .
   rw [h8]
   refine R.cG O mixed ao<|U ?_
   refine R.g9 ak av Held Note ?_
   rw [show bQ l=_ from o5 HP hx1 (.inr (.inl af))]
   exact R.x2 (nS,nS,nS,nS) [7] [3,2,1,0]
  rw [h8]
  rcases Bool.eq_false_or_eq_true (!((rowP z (⟨x1.Key,x1.Val,false⟩:Change)).2)) with h9|h9
  .
   refine R.dC (fuel:=22) [0,6,7] O O mixed O<|D.l Db [0,6,7] [0,1] O<|U ?_
   refine D.p 19 O [5,6,7] [0,1] (s.aJ G7 [1] _ _ _ O O O Iq O O (fun w own hw H=>wR b2 rj og uZ rk z (⟨x1.Key,x1.Val,false⟩:Change) w own H af ae) O) ?_
   rintro ⟨z29,z30,z31,z32⟩
   dsimp only
   refine D.l [20,21] [5,6,7] [0,1] O<|Dm.yy O O (q.not O) O<|U ?_
   refine D.done<|R.cond O O (fun h10=>?_) (fun h10=>?_)
   .
    refine U ?_
    refine R.g9 ak av Held Note ?_
    rw [show bQ l=_ from o5 HP hx1 (.inr (.inr ⟨af,by exact Fp af⟩))]
    exact R.x2 (nS,nS,nS,nS) [7] [3,2,1,0]
   refine U ?_
   refine R.back (k+1,(rowP z (⟨x1.Key,x1.Val,false⟩:Change)).1,z29,z30,z31,z32) O (by ((try dsimp only);have zl:=t6 z (⟨x1.Key,x1.Val,false⟩:Change);exact ⟨ae,wS HP hx1 (by exact Fv ae) af (by exact Fq af),ae,ae,ae⟩)) aG (sF O) (ck [4,3,2,1,0,6,7] [0,1] O)
  refine R.dC (fuel:=22) [0,6,7] O O mixed O<|D.l Db [0,6,7] [0,1] O<|U ?_
  refine D.p 19 O [5,6,7] [0,1] (s.aJ G7 [1] _ _ _ O O O Iq O O (fun w own hw H=>wR b2 rj og uZ rk z (⟨x1.Key,x1.Val,false⟩:Change) w own H af ae) O) ?_
  rintro ⟨z37,z38,z39,z40⟩
  dsimp only
  refine D.l [20,21] [5,6,7] [0,1] O<|Dm.yy O O (q.not O) O<|U ?_
  refine D.done<|R.cond O O (fun h11=>?_) (fun h11=>?_)
  .
   refine U ?_
   refine R.g9 ak av Held Note ?_
   rw [show bQ l=_ from o5 HP hx1 (.inr (.inr ⟨af,by exact Fp af⟩))]
   exact R.x2 (nS,nS,nS,nS) [7] [3,2,1,0]
  refine U ?_
  refine R.back (k+1,(rowP z (⟨x1.Key,x1.Val,false⟩:Change)).1,z37,z38,z39,z40) O (by ((try dsimp only);have zl:=t6 z (⟨x1.Key,x1.Val,false⟩:Change);exact ⟨ae,wS HP hx1 (by exact Fv ae) af (by exact Fq af),ae,ae,ae⟩)) aG (sF O) (ck [4,3,2,1,0,6,7] [0,1] O)
 refine R.s O (s.pre (fun _ hw=>hw.aR 3 _ O O) (s.pre (fun _ hw=>hw.aR 2 _ O O) (s.pre (fun _ hw=>hw.aR 1 _ O O) (s.pre (fun _ hw=>hw.aR 0 _ O O) (s.aJ [0,1,2] [3,2,1,0] _ _ _ O O O U6 O O (fun w own hw H=>J7 rj og uZ rk z w own H ae) O))))) fun _=>?_
 refine R.q (q.not O) O<|U ?_
 refine R.cond O O (fun h12=>?_) (fun h12=>?_)
 .
  refine U ?_
  refine R.g9 ak av Held Note ?_
  rw [show bQ l=_ from S8 HP ae (by exact Fp af)]
  exact R.x2 (nS,nS,nS,nS) [2] [3,2,1,0]
 refine U ?_
 rw [show bQ l=_ from V0 HP ae (by exact Fq af)]
 exact R.x2 (rj,og,uZ,rk) [2] [3,2,1,0]
end
section
open Go Go.RowKit
attribute [local irreducible] Run Rg Rq Qt Qa Stp Dg Do Dm bN
theorem Fx {α:Type}(f:α->Int)(l:List α):py f l=false ∨ ∃x,l[jw f l]? = some x/\py f l=true/\jw f l<l.length:=by
 cases h:py f l with
 | false=>exact .inl rfl
 | true =>
  have:=yG h
  exact .inr ⟨l[jw f l],List.getElem?_eq_getElem this,rfl,this⟩
def zV (a:List Change)(c:Change):Bool:= !py (fK c.Key) a || !decide (a[jw (fK c.Key) a]? = some c)
theorem Bh {a b:List Change}{k:Nat}{x:Change}(h:a[k]? = some x):xX (a.take (k+1)) b=xX (a.take k) b++(if py (fK x.Key) b=false then [rK x.Key] else []):=by
 unfold xX
 rw [List.take_add_one,h,List.filter_append,List.map_append]
 cases hb:py (fK x.Key) b <;> simp [hb]
theorem u6 {a b:List Change}{k:Nat}{x:Change}(h:b[k]? = some x):Ek a (b.take (k+1))=Ek a (b.take k)++(if zV a x=true then [x] else []):=by
 unfold Ek
 rw [List.take_add_one,h,List.filter_append]
 congr 1
 cases hb:zV a x with
 | true=>unfold zV at hb;simp [hb]
 | false=>unfold zV at hb;simp [hb]
theorem Py {a:List Change}{x:Change}(h:py (fK x.Key) a=false):zV a x=true:=by unfold zV;rw [h];rfl
theorem Pz {a:List Change}{x y:Change}(h:a[jw (fK x.Key) a]? = some y)(hn:¬ y=x):zV a x=true:=by
 unfold zV;rw [h,decide_eq_false (fun e=>hn (Option.some.inj e))];simp
theorem PD {a:List Change}{x y:Change}(hb:py (fK x.Key) a=true)(h:a[jw (fK x.Key) a]? = some y)(hn:y=x):zV a x=false:=by
 unfold zV;rw [hb,h,hn];simp
theorem Fy (a b:List Change):(xX a b).length<=a.length:=by unfold xX;rw [List.length_map];exact List.length_filter_le _ _
theorem Nq (a b:List Change):(Ek a b).length<=b.length:=List.length_filter_le _ _
theorem o6 (x:Change)(k:ByteArray)(w:World):Calls Tryz.prog 152 #[.agg #[.string x.Key,.string x.Val,.bool x.Gone],.string k] w fun e w'=>e = .returned (iV (fK k x))/\Ext w w':=by
 refine R.eV ?_
 refine R.nb fun b1=>?_
 refine R.kc O O (fun w hw=>qn x.Key k w)<|U ?_
 refine R.rt ?_
 rfl
theorem FA (wK:Value)(a:List Change)(yB:Value)(b:List Change)(w:World)(own:List Nat)(H:HN w own [] [ah.ls wK a,ah.ls yB b])(hl:a.length<=1000/\b.length<=1000):RC Tryz.prog 96 #[wK,yB] H (fun z:Value=>z) (fun z=>[ah.row 115 z (j6 (tJ a b))]) (fun _=>[]):=by
 have Zz:=H.aZ 0 rfl
 have ZA:=H.aZ 1 rfl
 refine R.eN H ?_
 refine R.row0 (α:=Change) 115<|R.loop (fun g_:Nat×Value×(List Change)=>[(0,wK),(1,yB),(5,g_.2.1),(6,.func (.func 152) #[] #[]),(15,wK),(16,iV (a.length:Int)),(17,iV (g_.1:Int))]) (fun g_=>[ah.row 115 g_.2.1 g_.2.2,ah.held w own]) (fun g_=>[ah.ls wK a,ah.ls yB b]) (fun g_=>g_.1<=a.length/\g_.2.2=xX (a.take g_.1) b) (fun g_=>a.length-g_.1) (0,nS,[]) O (by exact ⟨ae,rfl⟩) (sF O) (dE [0,1] [0,1] O) ?_
 rintro ⟨k,u,l⟩ ⟨hk,HL⟩
 dsimp only at *
 have ll:=Fy (a.take k) b;rw [<- HL,List.length_take] at ll
 refine U ?_
 refine C (k<a.length) ?_ ?_ <;> intro h1
 .
  obtain ⟨x1,hx1⟩:=gE a k
  refine U ?_
  refine R.nb fun b1=>?_
  rcases Fx (fun x=>(fun (x:Change) (k:ByteArray)=>fK k x) x x1.Key) b with eW|⟨Gu,lz,eW,Cx⟩
  .
   refine R.kc O O (fun w hw=>cv (congrArg (fun S9=>Value.tuple #[iV ((jw (fun x=>(fun (x:Change) (k:ByteArray)=>fK k x) x x1.Key) b:Nat):Int),.bool S9]) eW) (fO _ b x1.Key (fun (x:Change) (k:ByteArray)=>fK k x) _ _ Cq w (hw.cq 1 O) (fun W x k hW=>o6 x k W) ae))<|U ?_
   refine R.s O (s.bs (l:=([(⟨x1.Key,⟨#[]⟩,true⟩:Change)]:List Change)) bX bR O O O O O O O) fun b2=>?_
   refine R.ap fun v1=>?_
   refine R.back (k+1,v1,(l++([(⟨x1.Key,⟨#[]⟩,true⟩:Change)]))) O (by exact ⟨ae,by rw [Bh hx1,<- HL];(rw [if_pos (show py (fK x1.Key) b=false from eW)];rfl)⟩) aG (sF O) (ck [2,3] [0,1] O)
  refine R.kc O O (fun w hw=>cv (congrArg (fun S9=>Value.tuple #[iV ((jw (fun x=>(fun (x:Change) (k:ByteArray)=>fK k x) x x1.Key) b:Nat):Int),.bool S9]) eW) (fO _ b x1.Key (fun (x:Change) (k:ByteArray)=>fK k x) _ _ Cq w (hw.cq 1 O) (fun W x k hW=>o6 x k W) ae))<|U ?_
  refine R.back (k+1,u,l) O (by exact ⟨ae,by rw [Bh hx1,<- HL];(rw [if_neg (by rw [show py (fK x1.Key) b=true from eW];decide)];exact (List.append_nil _).symm)⟩) aG (sF O) (ck [1,2] [0,1] O)
 refine R.loop (fun g_:Nat×Value×(List Change)=>[(0,wK),(5,g_.2.1),(6,.func (.func 152) #[] #[]),(38,yB),(39,iV (b.length:Int)),(40,iV (g_.1:Int))]) (fun g_=>[ah.row 115 g_.2.1 g_.2.2,ah.held w own]) (fun g_=>[ah.ls wK a,ah.ls yB b]) (fun g_=>g_.1<=b.length/\g_.2.2=xX a b++Ek a (b.take g_.1)) (fun g_=>b.length-g_.1) (0,u,l) O (by exact ⟨ae,by rw [HL,List.take_of_length_le ae];exact (List.append_nil _).symm⟩) (sF O) (dE [0,1] [0,1] O) ?_
 rintro ⟨j,u2,l2⟩ ⟨hj,HL2⟩
 dsimp only at *
 have Xw:l2.length<=a.length+j:=by have q1:=Fy a b;have q2:=Nq a (b.take j);rw [List.length_take] at q2;rw [HL2,List.length_append];omega
 refine U ?_
 refine C (j<b.length) ?_ ?_ <;> intro h2
 .
  obtain ⟨x2,hx2⟩:=gE b j
  refine U ?_
  refine R.nb fun b3=>?_
  rcases Fx (fun x=>(fun (x:Change) (k:ByteArray)=>fK k x) x x2.Key) a with IG|⟨Xy,Xz,IG,Z7⟩
  .
   refine R.kc O O (fun w hw=>cv (congrArg (fun S9=>Value.tuple #[iV ((jw (fun x=>(fun (x:Change) (k:ByteArray)=>fK k x) x x2.Key) a:Nat):Int),.bool S9]) IG) (fO _ a x2.Key (fun (x:Change) (k:ByteArray)=>fK k x) _ _ Cq w (hw.cq 0 O) (fun W x k hW=>o6 x k W) ae))<|U ?_
   refine R.cG O mixed ao<|U ?_
   refine R.s O (s.bs (l:=([x2]:List Change)) bX bR O O O O O O O) fun b4=>?_
   refine R.ap fun v2=>?_
   refine R.back (j+1,v2,(l2++([x2]))) O (by exact ⟨ae,by rw [u6 hx2,<- List.append_assoc,<- HL2];(rw [if_pos (Py IG)];done)⟩) aG (sF O) (ck [2,3] [0,1] O)
  refine R.kc O O (fun w hw=>cv (congrArg (fun S9=>Value.tuple #[iV ((jw (fun x=>(fun (x:Change) (k:ByteArray)=>fK k x) x x2.Key) a:Nat):Int),.bool S9]) IG) (fO _ a x2.Key (fun (x:Change) (k:ByteArray)=>fK k x) _ _ Cq w (hw.cq 0 O) (fun W x k hW=>o6 x k W) ae))<|U ?_
  refine C (Xy=x2) ?_ ?_ <;> intro h3
  .
   refine R.cG O mixed ao<|U ?_
   refine Q.qg O (q.j3 (x:=Xy) (y:=x2) Ct O O h3) O<|U ?_
   refine R.back (j+1,u2,l2) O (by exact ⟨ae,by rw [u6 hx2,<- List.append_assoc,<- HL2];(rw [if_neg (by rw [PD IG Xz af];decide)];exact (List.append_nil _).symm)⟩) aG (sF O) (ck [1,2] [0,1] O)
  refine R.cG O mixed ao<|U ?_
  refine Q.qg O (q.j4 (x:=Xy) (y:=x2) Ct O O h3) O<|U ?_
  refine R.s O (s.bs (l:=([x2]:List Change)) bX bR O O O O O O O) fun b5=>?_
  refine R.ap fun v3=>?_
  refine R.back (j+1,v3,(l2++([x2]))) O (by exact ⟨ae,by rw [u6 hx2,<- List.append_assoc,<- HL2];(rw [if_pos (Pz Xz af)];done)⟩) aG (sF O) (ck [2,3] [0,1] O)
 refine R.s O (s.KJ [0,1] _ _ O O R0 O O (fun w hw H=>Jy u2 l2 w H ae) O) fun u1=>U ?_
 have hz:j6 (tJ a b)=(j6 l2):=by (rw [HL2,List.take_of_length_le ae];rfl)
 rw [hz]
 exact R.x1 u2 [0,1] []
end
section
open Go Go.RowKit
attribute [local irreducible] Run Rg Rq Qt Qa Stp Dg Do Dm bN
attribute [local irreducible] bF cj bg jE dM dNew cJ
theorem J9 (b_k:Nat)(o7 o8 o9 pb:Value)(k:lj)(cr:Nat)(aI:Value)(st:gZ)(aF:Nat)(ay aC az:Value)(dk:bZ)(bu:Nat)(lg:Lg)(w:World)(own:List Nat)(H:HN w own [ah.box b_k [pV cr,o7,o8,o9,pb,iV k.R.ag,iV k.R.ai] 78,ah.box cr [pV aF,iV st.Epoch,iV st.Side,iV st.Size,iV st.First,pV bu,aI] 132,ah.box aF [ay,aC,az,iV dk.Fuse,.bool dk.Down] 120,ah.row 9 ay dk.Kept,ah.row 9 aC dk.Now,ah.row 196 az dk.Wait,ah.box bu [pV aF,iV lg.From,iV lg.Many,iV lg.First,iV lg.Next] 193] [ah.ls o7 k.R.aj,ah.ls o8 k.R.Things,ah.ls o9 k.R.Held,ah.ls pb k.R.Notes,ah.ls aI st.Rows])(hD:fx dk.Now.length 60000 dk/\dk.Now.length<=200/\166<=dk.Now.length)(hS:0<=st.Epoch/\st.Epoch<=1000000000/\0<=st.Side/\st.Side<=1/\0<=lg.Many/\lg.Many<=1000/\1<=lg.First/\lg.First<=1000000000/\0<=lg.From/\lg.From<=1000/\0<=lg.Next/\lg.Next<=1000)(hl:st.Rows.length<=60)(hF:∀c∈st.Rows,gu c=0):RC Tryz.prog 9 #[pV b_k] H (fun _:Value×Value×Value×Value×Value×Value×Value×Value×Nat=>bN (cj (mkS st lg) dk).2.2) (fun z=>[ah.box b_k [pV cr,z.1,z.2.1,z.2.2.1,z.2.2.2.1,iV k.R.ag,iV k.R.ai] 78,ah.box cr [pV aF,iV (cj (mkS st lg) dk).1.c.Epoch,iV (cj (mkS st lg) dk).1.c.Side,iV (cj (mkS st lg) dk).1.c.Size,iV (cj (mkS st lg) dk).1.c.First,pV z.2.2.2.2.2.2.2.2,z.2.2.2.2.1] 132,ah.box aF [z.2.2.2.2.2.1,z.2.2.2.2.2.2.1,z.2.2.2.2.2.2.2.1,iV (cj (mkS st lg) dk).2.1.Fuse,.bool (cj (mkS st lg) dk).2.1.Down] 120,ah.row 9 z.2.2.2.2.2.1 (cj (mkS st lg) dk).2.1.Kept,ah.row 9 z.2.2.2.2.2.2.1 (cj (mkS st lg) dk).2.1.Now,ah.row 196 z.2.2.2.2.2.2.2.1 (cj (mkS st lg) dk).2.1.Wait,ah.box z.2.2.2.2.2.2.2.2 [pV aF,iV (cj (mkS st lg) dk).1.L.From,iV (cj (mkS st lg) dk).1.L.Many,iV (cj (mkS st lg) dk).1.L.First,iV (cj (mkS st lg) dk).1.L.Next] 193]) (fun z=>[ah.ls z.1 k.R.aj,ah.ls z.2.1 k.R.Things,ah.ls z.2.2.1 k.R.Held,ah.ls z.2.2.2.1 k.R.Notes,ah.ls z.2.2.2.2.1 (cj (mkS st lg) dk).1.c.Rows]):=by
 have eo:=H.cap 3 rfl;have eu:=H.cz 3 rfl
 have e8:=H.cap 4 rfl;have e9:=H.cz 4 rfl
 have ew:=H.cap 5 rfl;have ey:=H.cz 5 rfl
 have qz:=H.aZ 0 rfl
 have pd:=H.aZ 1 rfl
 have sE:=H.aZ 2 rfl
 have qB:=H.aZ 3 rfl
 have qY:=H.aZ 4 rfl
 have hD2:fx dk.Now.length 70000 dk/\dk.Now.length<=200/\166<=dk.Now.length:=⟨hD.1.up ae,hD.2⟩
 refine R.eN H ?_
 refine R.s O (s.aJ [1,2,3,4,5,6,0,7] [4] _ _ _ O O O Qp O O (fun w own hw H=>E4 cr aI st aF ay aC az dk bu lg w own H af ae ae af) O) ?_
 rintro ⟨z1,z2,z3,z4,z5⟩
 dsimp only
 refine U ?_
 have hz:(k,(cj (mkS st lg) dk).1.c,(cj (mkS st lg) dk).2.1,(cj (mkS st lg) dk).1.L,(cj (mkS st lg) dk).2.2)=(k,(cj (mkS st lg) dk).1.c,(cj (mkS st lg) dk).2.1,(cj (mkS st lg) dk).1.L,(cj (mkS st lg) dk).2.2):=by (rfl)
 exact R.x1 (o7,o8,o9,pb,z1,z2,z3,z4,z5) [6,0,1,2,3,4,5,7] [1,2,3,4,0]
theorem pg (b_k:Nat)(o7 o8 o9 pb:Value)(QW:Nat)(k:lj)(w:World)(own:List Nat)(H:HN w own [ah.box b_k [pV QW,o7,o8,o9,pb,iV k.R.ag,iV k.R.ai] 78] [ah.ls o7 k.R.aj,ah.ls o8 k.R.Things,ah.ls o9 k.R.Held,ah.ls pb k.R.Notes])(hk:Ok k.R):RC Tryz.prog 17 #[pV b_k] H (fun z:Value×Value×Value×Value×Value×Value×Value×Value => .agg #[z.2.2.2.2.1,z.2.2.2.2.2.1,z.2.2.2.2.2.2.1,z.2.2.2.2.2.2.2,iV k.R.ag,iV k.R.ai]) (fun z=>[ah.box b_k [pV QW,z.1,z.2.1,z.2.2.1,z.2.2.2.1,iV k.R.ag,iV k.R.ai] 78]) (fun z=>[ah.ls z.1 k.R.aj,ah.ls z.2.1 k.R.Things,ah.ls z.2.2.1 k.R.Held,ah.ls z.2.2.2.1 k.R.Notes,ah.ls z.2.2.2.2.1 k.R.aj,ah.ls z.2.2.2.2.2.1 k.R.Things,ah.ls z.2.2.2.2.2.2.1 k.R.Held,ah.ls z.2.2.2.2.2.2.2 k.R.Notes]):=by
 have qz:=H.aZ 0 rfl
 have pd:=H.aZ 1 rfl
 have sE:=H.aZ 2 rfl
 have qB:=H.aZ 3 rfl
 refine R.eN H ?_
 refine R.nb fun b1=>?_
 refine R.s O (s.aJ [0,1,2] aX _ _ _ O O O Qs O O (fun w own hw H=>Bg o7 o8 o9 pb k.R w own H af) O) ?_
 rintro ⟨z1,z2,z3,z4⟩
 dsimp only
 refine U ?_
 exact R.x1 (o7,o8,o9,pb,z1,z2,z3,z4) [1,2] [4,5,6,7,0,1,2,3]
theorem FB (aW aS aT aU:Value)(r:aA)(OG:Nat)(a:eU)(w:World)(own:List Nat)(H:HN w own [ah.box OG (FT a) 36] [ah.ls aW r.aj,ah.ls aS r.Things,ah.ls aT r.Held,ah.ls aU r.Notes])(hk:Ok r):RS Tryz.prog 43 #[.agg #[aW,aS,aT,aU,iV r.ag,iV r.ai],pV OG] H (cJ r a) (fun s (z:Value×Value×Value×Value) => .tuple #[.agg #[z.1,z.2.1,z.2.2.1,z.2.2.2,iV s.1.ag,iV s.1.ai],bN s.2]) (fun _ _=>[]) (fun s z=>[ah.ls z.1 s.1.aj,ah.ls z.2.1 s.1.Things,ah.ls z.2.2.1 s.1.Held,ah.ls z.2.2.2 s.1.Notes]):=by
 have bS:=H.aZ 0 rfl
 have bH:=H.aZ 1 rfl
 have cu:=H.aZ 2 rfl
 have bT:=H.aZ 3 rfl
 refine R.eN H ?_
 refine R.nb fun b1=>?_
 refine R.nb fun b2=>?_
 refine R.s O (s.aJ aX aX _ _ _ O O O UU O O (fun w own hw H=>Pb aW aS aT aU r a w own H af) O) ?_
 rintro ⟨z1,z2,z3,z4⟩
 dsimp only
 refine U ?_
 have hz:cJ r a=(((cJ r a).1),(cJ r a).2):=by (rfl)
 rw [hz]
 exact R.x2 (z1,z2,z3,z4) [3] [0,1,2,3]
theorem PE (b_k:Nat)(o7 o8 o9 pb:Value)(k:lj)(OG:Nat)(a:eU)(cr:Nat)(aI:Value)(st:gZ)(aF:Nat)(ay aC az:Value)(dk:bZ)(bu:Nat)(lg:Lg)(w:World)(own:List Nat)(H:HN w own [ah.box b_k [pV cr,o7,o8,o9,pb,iV k.R.ag,iV k.R.ai] 78,ah.box OG (FT a) 36,ah.box cr [pV aF,iV st.Epoch,iV st.Side,iV st.Size,iV st.First,pV bu,aI] 132,ah.box aF [ay,aC,az,iV dk.Fuse,.bool dk.Down] 120,ah.row 9 ay dk.Kept,ah.row 9 aC dk.Now,ah.row 196 az dk.Wait,ah.box bu [pV aF,iV lg.From,iV lg.Many,iV lg.First,iV lg.Next] 193] [ah.ls o7 k.R.aj,ah.ls o8 k.R.Things,ah.ls o9 k.R.Held,ah.ls pb k.R.Notes,ah.ls aI st.Rows,eh])(hD:fx dk.Now.length 60000 dk/\dk.Now.length<=200/\166<=dk.Now.length)(hS:0<=st.Epoch/\st.Epoch<=1000000000/\0<=st.Side/\st.Side<=1/\0<=lg.Many/\lg.Many<=1000/\1<=lg.First/\lg.First<=1000000000/\0<=lg.From/\lg.From<=1000/\0<=lg.Next/\lg.Next<=1000)(hl:st.Rows.length<=60)(hF:∀c∈st.Rows,gu c=0)(hk:Ok k.R)(hI:Inv k.R)(hz:(cJ k.R a).2=0->Ok (cJ k.R a).1):RS Tryz.prog 42 #[pV b_k,.func (.func 43) #[] #[pV OG]] H (gU k st dk lg (cJ k.R a)) (fun s (_:Value×Value×Value×Value×Value×Value×Value×Value×Nat)=>bN s.2.2.2.2) (fun s z=>[ah.box b_k [pV cr,z.1,z.2.1,z.2.2.1,z.2.2.2.1,iV s.1.R.ag,iV s.1.R.ai] 78,ah.box cr [pV aF,iV s.2.1.Epoch,iV s.2.1.Side,iV s.2.1.Size,iV s.2.1.First,pV z.2.2.2.2.2.2.2.2,z.2.2.2.2.1] 132,ah.box aF [z.2.2.2.2.2.1,z.2.2.2.2.2.2.1,z.2.2.2.2.2.2.2.1,iV s.2.2.1.Fuse,.bool s.2.2.1.Down] 120,ah.row 9 z.2.2.2.2.2.1 s.2.2.1.Kept,ah.row 9 z.2.2.2.2.2.2.1 s.2.2.1.Now,ah.row 196 z.2.2.2.2.2.2.2.1 s.2.2.1.Wait,ah.box z.2.2.2.2.2.2.2.2 [pV aF,iV s.2.2.2.1.From,iV s.2.2.2.1.Many,iV s.2.2.2.1.First,iV s.2.2.2.1.Next] 193]) (fun s z=>[ah.ls z.1 s.1.R.aj,ah.ls z.2.1 s.1.R.Things,ah.ls z.2.2.1 s.1.R.Held,ah.ls z.2.2.2.1 s.1.R.Notes,ah.ls z.2.2.2.2.1 s.2.1.Rows]):=by
 have eo:=H.cap 4 rfl;have eu:=H.cz 4 rfl
 have e8:=H.cap 5 rfl;have e9:=H.cz 5 rfl
 have ew:=H.cap 6 rfl;have ey:=H.cz 6 rfl
 have qz:=H.aZ 0 rfl
 have pd:=H.aZ 1 rfl
 have sE:=H.aZ 2 rfl
 have qB:=H.aZ 3 rfl
 have qY:=H.aZ 4 rfl
 have g0:=gQ hI;have g1:=wM hI a;have g2:=qZ (r:=k.R) a;have g3:=fun (h:(cJ k.R a).2=0)=>gQ (g1 h).1
 refine R.eN H ?_
 refine R.s O (s.aJ cy aX _ _ _ O O O Qs O O (fun w own hw H=>Bg o7 o8 o9 pb k.R w own H af) O) ?_
 rintro ⟨z1,z2,z3,z4⟩
 dsimp only
 refine R.s O (s.aJ [1,0,2,3,4,5,6,7,8] aX _ _ _ O O O UT O O (fun w own hw H=>FB z1 z2 z3 z4 k.R OG a w own H af) O) ?_
 rintro ⟨z5,z6,z7,z8⟩
 dsimp only
 refine U ?_
 refine R.nb fun b1=>?_
 refine C ((cJ k.R a).2=0) ?_ ?_ <;> intro h1
 .
  have hk2:=hz af;have hI2:=(g1 af).1;have g4:(j6 (tJ (aQ k.R) (aQ (cJ k.R a).1))).length<=59:=(g1 af).2;have g5:=g3 af
  refine U ?_
  refine R.dC (fuel:=9) cy O O mixed O<|D.l rD cy Dh O<|U ?_
  refine D.p 4 O ly Dh (s.aJ cy [8,9,10,11,13] _ _ _ O O O L9 O O (fun w own hw H=>zk o7 o8 o9 pb k.R w own H af af) O) fun z12=>?_
  refine D.p 6 O [2,3,4,5,6,7,8,9,10] Dh (s.aJ j1 [0,1,2,3,13] _ _ _ O O O L9 O O (fun w own hw H=>zk z5 z6 z7 z8 (cJ k.R a).1 w own H af af) O) fun nX=>?_
  refine D.p 7 O [3,4,5,6,7,8,9,10,11] Dh (s.Bv (Bl:=[ah.row 115 z12 (aQ k.R),ah.row 115 nX (aQ (cJ k.R a).1)]) (Fl:=[ah.ls z12 (aQ k.R),ah.ls nX (aQ (cJ k.R a).1)]) [1,0,2,3,4,5,6,7,8,9,10] [0,1] (fun jo:Value=>jo) (fun jo:Value=>[ah.row 115 jo (j6 (tJ (aQ k.R) (aQ (cJ k.R a).1)))]) O O (lN (lN s7)) O U8 O O (fun w own hw H=>FA z12 (aQ k.R) nX (aQ (cJ k.R a).1) w own H ae) O) fun zA=>?_
  refine D.l [8] [3,4,5,6,7,8,9,10,11] Dh O<|U ?_
  refine D.done<|U ?_
  refine C (0<(j6 (tJ (aQ k.R) (aQ (cJ k.R a).1))).length) ?_ ?_ <;> intro h2
  .
   refine R.s O (s.pre (fun _ hw=>hw.aR 0 _ O O) (s.aJ [4,5,6,7,8,9,0,1,2,3,10] [13,0] _ _ _ O O O Qv O O (fun w own hw H=>yV cr aI st zA (j6 (tJ (aQ k.R) (aQ (cJ k.R a).1))) aF ay aC az dk bu lg w own H af af ae af ae) O)) ?_
   rintro ⟨FM,Ba,z17,vK,zN⟩
   dsimp only
   refine U ?_
   refine C ((bF (mkS st lg) dk (j6 (tJ (aQ k.R) (aQ (cJ k.R a).1)))).2.2=0) ?_ ?_ <;> intro h3
   .
    rw [show gU k st dk lg (cJ k.R a)=_ from by rewrite [M6 (k:=k) (sc:=st) (d:=dk) (lg:=lg) (z:=cJ k.R a) af af af] <;> rfl]
    exact R.x1 (z5,z6,z7,z8,FM,Ba,z17,vK,zN) [9,0,1,2,3,4,5,10] [2,3,4,5,0]
   rw [show gU k st dk lg (cJ k.R a)=_ from by rewrite [M7 (k:=k) (sc:=st) (d:=dk) (lg:=lg) (z:=cJ k.R a) af af af] <;> rfl]
   exact R.x1 (o7,o8,o9,pb,FM,Ba,z17,vK,zN) [9,0,1,2,3,4,5,10] [10,11,12,13,0]
  rw [show gU k st dk lg (cJ k.R a)=_ from by rewrite [M5 (k:=k) (sc:=st) (d:=dk) (lg:=lg) (z:=cJ k.R a) af af] <;> rfl]
  exact R.x1 (z5,z6,z7,z8,aI,ay,aC,az,bu) [4,5,6,7,8,9,10,11] [0,1,2,3,12]
 rw [show gU k st dk lg (cJ k.R a)=_ from by rewrite [QM (k:=k) (sc:=st) (d:=dk) (lg:=lg) (z:=cJ k.R a) af] <;> rfl]
 exact R.x1 (o7,o8,o9,pb,aI,ay,aC,az,bu) sI [8,9,10,11,12]
theorem zo (b_k:Nat)(o7 o8 o9 pb:Value)(k:lj)(a:eU)(cr:Nat)(aI:Value)(st:gZ)(aF:Nat)(ay aC az:Value)(dk:bZ)(bu:Nat)(lg:Lg)(w:World)(own:List Nat)(H:HN w own [ah.box b_k [pV cr,o7,o8,o9,pb,iV k.R.ag,iV k.R.ai] 78,ah.box cr [pV aF,iV st.Epoch,iV st.Side,iV st.Size,iV st.First,pV bu,aI] 132,ah.box aF [ay,aC,az,iV dk.Fuse,.bool dk.Down] 120,ah.row 9 ay dk.Kept,ah.row 9 aC dk.Now,ah.row 196 az dk.Wait,ah.box bu [pV aF,iV lg.From,iV lg.Many,iV lg.First,iV lg.Next] 193] [ah.ls o7 k.R.aj,ah.ls o8 k.R.Things,ah.ls o9 k.R.Held,ah.ls pb k.R.Notes,ah.ls aI st.Rows,eh])(hD:fx dk.Now.length 60000 dk/\dk.Now.length<=200/\166<=dk.Now.length)(hS:0<=st.Epoch/\st.Epoch<=1000000000/\0<=st.Side/\st.Side<=1/\0<=lg.Many/\lg.Many<=1000/\1<=lg.First/\lg.First<=1000000000/\0<=lg.From/\lg.From<=1000/\0<=lg.Next/\lg.Next<=1000)(hl:st.Rows.length<=60)(hF:∀c∈st.Rows,gu c=0)(hk:Ok k.R)(hI:Inv k.R)(hz:(cJ k.R a).2=0->Ok (cJ k.R a).1):RS Tryz.prog 15 #[pV b_k,.agg #[.string a.Kind,.string a.S,iV a.P.aB,iV a.P.Slot,iV a.Q.aB,iV a.Q.Slot,iV a.A,iV a.B,iV a.N,.int .u64 a.K,a.cv]] H (gU k st dk lg (cJ k.R a)) (fun s (_:Value×Value×Value×Value×Value×Value×Value×Value×Nat)=>bN s.2.2.2.2) (fun s z=>[ah.box b_k [pV cr,z.1,z.2.1,z.2.2.1,z.2.2.2.1,iV s.1.R.ag,iV s.1.R.ai] 78,ah.box cr [pV aF,iV s.2.1.Epoch,iV s.2.1.Side,iV s.2.1.Size,iV s.2.1.First,pV z.2.2.2.2.2.2.2.2,z.2.2.2.2.1] 132,ah.box aF [z.2.2.2.2.2.1,z.2.2.2.2.2.2.1,z.2.2.2.2.2.2.2.1,iV s.2.2.1.Fuse,.bool s.2.2.1.Down] 120,ah.row 9 z.2.2.2.2.2.1 s.2.2.1.Kept,ah.row 9 z.2.2.2.2.2.2.1 s.2.2.1.Now,ah.row 196 z.2.2.2.2.2.2.2.1 s.2.2.1.Wait,ah.box z.2.2.2.2.2.2.2.2 [pV aF,iV s.2.2.2.1.From,iV s.2.2.2.1.Many,iV s.2.2.2.1.First,iV s.2.2.2.1.Next] 193]) (fun s z=>[ah.ls z.1 s.1.R.aj,ah.ls z.2.1 s.1.R.Things,ah.ls z.2.2.1 s.1.R.Held,ah.ls z.2.2.2.1 s.1.R.Notes,ah.ls z.2.2.2.2.1 s.2.1.Rows]):=by
 have eo:=H.cap 3 rfl;have eu:=H.cz 3 rfl
 have e8:=H.cap 4 rfl;have e9:=H.cz 4 rfl
 have ew:=H.cap 5 rfl;have ey:=H.cz 5 rfl
 have qz:=H.aZ 0 rfl
 have pd:=H.aZ 1 rfl
 have sE:=H.aZ 2 rfl
 have qB:=H.aZ 3 rfl
 have qY:=H.aZ 4 rfl
 refine R.eN H ?_
 refine R.nb fun b1=>?_
 refine R.q (q.NA (cap:=[pV b1]) O O) O<|R.s O (s.aJ [1,0,2,3,4,5,6,7,8] mH _ _ _ O O O US O O (fun w own hw H=>PE b_k o7 o8 o9 pb k b1 a cr aI st aF ay aC az dk bu lg w own H af af ae af af af af) O) ?_
 rintro ⟨z1,z2,z3,z4,z5,z6,z7,z8,z9⟩
 dsimp only
 refine U ?_
 have hz:gU k st dk lg (cJ k.R a)=(((gU k st dk lg (cJ k.R a)).1),(gU k st dk lg (cJ k.R a)).2.1,(gU k st dk lg (cJ k.R a)).2.2.1,(gU k st dk lg (cJ k.R a)).2.2.2.1,(gU k st dk lg (cJ k.R a)).2.2.2.2):=by (rfl)
 rw [hz]
 exact R.x1 (z1,z2,z3,z4,z5,z6,z7,z8,z9) bL [0,1,2,3,4]
theorem u7 (aF:Nat)(ay aC az:Value)(dk:bZ)(w:World)(own:List Nat)(H:HN w own [ah.box aF [ay,aC,az,iV dk.Fuse,.bool dk.Down] 120,ah.row 9 ay dk.Kept,ah.row 9 aC dk.Now,ah.row 196 az dk.Wait] [eh])(hd:dk.Down=false)(ho:jE dk=0)(hD:fx dk.Now.length 90000 dk/\dk.Now.length<=200)(hp:(bQ (bg dk).c.Rows).2=0)(hr:(bg dk).c.Rows.length<=60 /\ ∀c∈(bg dk).c.Rows,c.Key.size<=1000/\c.Val.size<=1000):RC Tryz.prog 10 #[pV aF] H (fun z:Value×Value×Value×Nat×Value×Value×Value×Value×Nat×Value×Nat => .tuple #[pV z.2.2.2.1,.nilIface]) (fun z=>[ah.box aF [z.1,z.2.1,z.2.2.1,iV dk.Fuse,.bool dk.Down] 120,ah.row 9 z.1 dk.Kept,ah.row 9 z.2.1 dk.Now,ah.row 196 z.2.2.1 dk.Wait,ah.box z.2.2.2.1 [pV z.2.2.2.2.2.2.2.2.1,z.2.2.2.2.1,z.2.2.2.2.2.1,z.2.2.2.2.2.2.1,z.2.2.2.2.2.2.2.1,iV (⟨(bQ (bg dk).c.Rows).1⟩:lj).R.ag,iV (⟨(bQ (bg dk).c.Rows).1⟩:lj).R.ai] 78,ah.box z.2.2.2.2.2.2.2.2.1 [pV aF,iV (bg dk).c.Epoch,iV (bg dk).c.Side,iV (bg dk).c.Size,iV (bg dk).c.First,pV z.2.2.2.2.2.2.2.2.2.2,z.2.2.2.2.2.2.2.2.2.1] 132,ah.box z.2.2.2.2.2.2.2.2.2.2 [pV aF,iV (bg dk).L.From,iV (bg dk).L.Many,iV (bg dk).L.First,iV (bg dk).L.Next] 193]) (fun z=>[ah.ls z.2.2.2.2.1 ((⟨(bQ (bg dk).c.Rows).1⟩:lj).R.aj:List ak),ah.ls z.2.2.2.2.2.1 ((⟨(bQ (bg dk).c.Rows).1⟩:lj).R.Things:List av),ah.ls z.2.2.2.2.2.2.1 ((⟨(bQ (bg dk).c.Rows).1⟩:lj).R.Held:List Held),ah.ls z.2.2.2.2.2.2.2.1 ((⟨(bQ (bg dk).c.Rows).1⟩:lj).R.Notes:List Note),ah.ls z.2.2.2.2.2.2.2.2.2.1 (bg dk).c.Rows]):=by
 have eo:=H.cap 1 rfl;have eu:=H.cz 1 rfl
 have e8:=H.cap 2 rfl;have e9:=H.cz 2 rfl
 have ew:=H.cap 3 rfl;have ey:=H.cz 3 rfl
 obtain ⟨hr1,hr2⟩:=hr
 refine R.uk [(0,pV aF)] Tryz.func10 O O O O H<|R.reg O<|R.ur 2 O O<|R.u 1 O<|R.s O (s.aJ ct [] _ _ _ O O O Qq O O (fun w own hw H=>A9 aF ay aC az dk w own H af af af) O) ?_
 rintro ⟨z1,z2,z3,z4,z5,z6⟩
 dsimp only
 refine R.ur 5 O O<|R.u 1 O<|R.q (q.KC O O Tryz.underlying38) O<|R.nB O O O<|R.u 1 O<|R.s O (s.nE UH O O (fun w hw=>JJ z4 z5 aF z6 (bg dk).c w (hw.b 4 O) (hw.cq 0 O) ae) O) fun v1=>?_
 refine R.s O (s.pre (fun _ hw=>hw.aR 0 _ O O) (s.aJ jF [0,2] _ _ _ O O O UG O O (fun w own hw H=>J8 v1 (bg dk).c.Rows w own H ae af) O)) ?_
 rintro ⟨z7,z8,z9,lu⟩
 dsimp only
 refine R.u 3 O<|R.s O (s.alloc yl O O) fun b1=>?_
 refine R.s O (s.lr 0 _ O O O (fun _ _=>rfl) (.inl jc) (fun w hw=>xg (hw.cq 0 O) (hw.cq 1 O) (hw.cq 2 O) (hw.cq 3 O) O O) O O O) fun _=>?_
 refine R.ur 1 O O<|R.u 1 O<|R.q (q.Hc O O Tryz.underlying38) O<|R.nB O O O<|R.u 1 O<|R.q (q.TP 0 O O jc) O<|R.q (q.Bu Uy O (fun w hw=>kB O (kB O Bs)) O) O<|R.s O (s.box O O O) fun b2=>?_
 refine R.un 2 O ?_
 have hz:(dk,(⟨(bQ (bg dk).c.Rows).1⟩:lj),(bg dk).c,(bg dk).L)=(dk,(⟨(bQ (bg dk).c.Rows).1⟩:lj),(bg dk).c,(bg dk).L):=by (rfl)
 have hz0:(bQ (bg dk).c.Rows).1=(bQ (bg dk).c.Rows).1:=congrArg (fun t_=>t_.2.1.R) hz
 rw [hz0]
 exact R.w2 (z1,z2,z3,b2,z7,z8,z9,lu,z4,z5,z6) [2,3,4,5,0,6,7,8] rD O Tryz.results10 (RV.tmp O) (RV.tmp O) O O O (TR O O)
theorem FC (aF:Nat)(ay aC az:Value)(dk:bZ)(w:World)(own:List Nat)(H:HN w own [ah.box aF [ay,aC,az,iV dk.Fuse,.bool dk.Down] 120,ah.row 9 ay dk.Kept,ah.row 9 aC dk.Now,ah.row 196 az dk.Wait] [eh])(h0:dk=dNew 170):RC Tryz.prog 24 #[pV aF] H (fun _:Value×Value×Value=>bN (rA dk).2.2) (fun z=>[ah.box aF [z.1,z.2.1,z.2.2,iV (rA dk).2.1.Fuse,.bool (rA dk).2.1.Down] 120,ah.row 9 z.1 (rA dk).2.1.Kept,ah.row 9 z.2.1 (rA dk).2.1.Now,ah.row 196 z.2.2 (rA dk).2.1.Wait]) (fun _=>[]):=by
 have eo:=H.cap 1 rfl;have eu:=H.cz 1 rfl
 have e8:=H.cap 2 rfl;have e9:=H.cz 2 rfl
 have ew:=H.cap 3 rfl;have ey:=H.cz 3 rfl
 obtain ⟨f1,f2,f3,f4,f5⟩:=Fe h0;have f6:=f4.ok;have f7:=f4.room;have f8:=f4.bnd ae;have f9:=f4.good;obtain ⟨f10,f11,f12⟩:=f9;have f13:=f7.2.2.1;have f14:fx (dM dk).1.Now.length 90000 (dM dk).1/\(dM dk).1.Now.length<=200:=⟨f6.1.up ae,f6.2.1⟩;have p0:fx dk.Now.length 80000 dk/\dk.Now.length<=1000:=(by rw [h0];have:=(BZ 170).nl;exact ⟨this.symm▸(BZ 170).up ae,ae⟩)
 have n1:=GQ;have n2:=hY;have n3:=gQ hY
 refine R.eN H ?_
 refine R.s O (s.aJ ct [] _ _ _ O O O UX O O (fun w own hw H=>GB aF ay aC az dk w own H af) O) ?_
 rintro ⟨z1,z2,z3⟩
 dsimp only
 refine U ?_
 refine R.s O (s.aJ ct [] _ _ _ O O O Qq O O (fun w own hw H=>A9 aF z1 z2 z3 (dM dk).1 w own H af af af) O) ?_
 rintro ⟨z4,z5,z6,z7,z8,z9⟩
 dsimp only
 refine U ?_
 refine R.s O (s.aJ jF [] _ _ _ O O O UY O O (fun w own hw H=>Na w own H) O) ?_
 rintro ⟨lu,mG,z12,nX⟩
 dsimp only
 refine R.s O (s.aJ jF rD _ _ _ O O O L9 O O (fun w own hw H=>zk lu mG z12 nX (⟨[],[],[],[],1,1⟩:aA) w own H af af) O) fun zA=>?_
 refine R.s O (s.pre (fun _ hw=>hw.aR 0 _ O O) (s.aJ [4,0,1,2,3,5,6] [5,0] _ _ _ O O O Qv O O (fun w own hw H=>yV z7 z8 (bg (dM dk).1).c zA (aQ (⟨[],[],[],[],1,1⟩:aA)) aF z4 z5 z6 (dM dk).1 z9 (bg (dM dk).1).L w own H af af ae af aD) O)) ?_
 rintro ⟨FM,Ba,z17,vK,zN⟩
 dsimp only
 refine U ?_
 have hz:((rA dk).2.1,(rA dk).2.2)=(((bF (mkS (bg (dM dk).1).c (bg (dM dk).1).L) (dM dk).1 (aQ (⟨[],[],[],[],1,1⟩:aA))).2.1),(bF (mkS (bg (dM dk).1).c (bg (dM dk).1).L) (dM dk).1 (aQ (⟨[],[],[],[],1,1⟩:aA))).2.2):=by (rfl)
 have hz0:(rA dk).2.1=(bF (mkS (bg (dM dk).1).c (bg (dM dk).1).L) (dM dk).1 (aQ (⟨[],[],[],[],1,1⟩:aA))).2.1:=congrArg (fun t_=>t_.1) hz
 rw [hz0]
 have hz1:(rA dk).2.2=(bF (mkS (bg (dM dk).1).c (bg (dM dk).1).L) (dM dk).1 (aQ (⟨[],[],[],[],1,1⟩:aA))).2.2:=congrArg (fun t_=>t_.2) hz
 rw [hz1]
 exact R.x1 (Ba,z17,vK) sK []
end
section
open Go Go.RowKit
attribute [local irreducible] Run Rg Rq Qt Qa Stp Dg Do Dm bN
section
variable {α:Type} {p:α->Bool} {l:List α} {j:Nat} {x:α}
end
end
end Go.Proofs.YtnmpibjlnninjaaGreatDoor
