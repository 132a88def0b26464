import Derived.Test.YtnmpibjlnninjaaGreatDoorKT20
namespace Go.Proofs.YtnmpibjlnninjaaGreatDoor
set_option linter.unusedVariables false
set_option linter.unusedSimpArgs false
set_option maxRecDepth 100000
set_option maxHeartbeats 90000000
section
open Go Go.RowKit
structure lj where
  R:aA
abbrev Yf:Type:=lj×gZ×bZ×Lg×Int
abbrev j0 (a b:aA):List Change:=j6 (tJ (aQ a) (aQ b))
def Xj (k:lj)(r:aA)(c:oW×bZ×Int):Yf:=if c.2.2=0 then (⟨r⟩,c.1.c,c.2.1,c.1.L,c.2.2) else (k,c.1.c,c.2.1,c.1.L,c.2.2)
def gU (k:lj)(sc:gZ)(d:bZ)(lg:Lg)(z:aA×Int):Yf :=
  if ¬ z.2=0 then (k,sc,d,lg,z.2) else if 0<(j0 k.R z.1).length then Xj k z.1 (bF (mkS sc lg) d (j0 k.R z.1)) else (⟨z.1⟩,sc,d,lg,z.2)
section
variable {k:lj} {sc:gZ} {d:bZ} {lg:Lg} {z:aA×Int}
theorem QM (h:¬ z.2=0):gU k sc d lg z=(k,sc,d,lg,z.2):=if_pos h
theorem M5 (h:z.2=0)(h1:¬ 0<(j0 k.R z.1).length):gU k sc d lg z=(⟨z.1⟩,sc,d,lg,z.2):=by unfold gU;rw [if_neg ae,if_neg h1]
theorem M6 (h:z.2=0)(h1:0<(j0 k.R z.1).length)(h2:(bF (mkS sc lg) d (j0 k.R z.1)).2.2=0):gU k sc d lg z=(⟨z.1⟩,(bF (mkS sc lg) d (j0 k.R z.1)).1.c,(bF (mkS sc lg) d (j0 k.R z.1)).2.1,(bF (mkS sc lg) d (j0 k.R z.1)).1.L,(bF (mkS sc lg) d (j0 k.R z.1)).2.2):=by unfold gU;rw [if_neg ae,if_pos h1];exact if_pos h2
theorem M7 (h:z.2=0)(h1:0<(j0 k.R z.1).length)(h2:¬ (bF (mkS sc lg) d (j0 k.R z.1)).2.2=0):gU k sc d lg z=(k,(bF (mkS sc lg) d (j0 k.R z.1)).1.c,(bF (mkS sc lg) d (j0 k.R z.1)).2.1,(bF (mkS sc lg) d (j0 k.R z.1)).1.L,(bF (mkS sc lg) d (j0 k.R z.1)).2.2):=by unfold gU;rw [if_neg ae,if_pos h1];exact if_neg h2
end
structure KI (d:bZ)(sc:gZ)(lg:Lg)(r:aA)(u t:Nat):Prop where
  sv:SV 170 d (mkS sc lg) u t
  rows:sc.Rows=aQ r
  inv:Inv r
section
variable {d e:bZ} {sc:gZ} {lg:Lg} {r:aA} {u t k:Nat} {a:eU} {z:aA×Int}
theorem KI.up (h:KI d sc lg r u t){t':Nat}(ht:t<=t'):KI d sc lg r u t':=⟨h.sv.up ht,h.rows,h.inv⟩
theorem tX {a b:aA}(ha:Inv a)(hb:Inv b):j0 a b=bj (aQ a) (aQ b):=EE (ec ha) (ec hb)
theorem KI.com (h:KI d sc lg r u t){q:aA}(hq:Inv q)(hl:(j0 r q).length<=59):mh (mkS sc lg) d.Now.length (j0 r q)=0:=by
 have e:=tX h.inv hq
 have h1:=h.sv.room
 have ha:bI (mkS sc lg).Rows (j0 r q)=aQ q:=by
  show bI sc.Rows _=_
  rw [e,h.rows];exact Cj h.inv hq
 unfold mh
 rw [if_neg ae,if_neg (by rw [e,RE h.inv hq];decide),if_neg]
 rw [ha]
 have:=gQ hq
 omega
theorem SS (h:Inv r){q:aA}(hq:Inv q)(hl:¬ 0<(j0 r q).length):aQ q=aQ r:=by
 have h1:bj (aQ r) (aQ q)=[]:=by rw [<- tX h hq];exact List.eq_nil_of_length_eq_zero ae
 have h2:=Cj h hq
 rw [h1] at h2;exact h2.symm
theorem KI.do (h:KI d sc lg r u t)(ht:t<=9999)(hz:z.2=0->Inv z.1/\(j0 r z.1).length<=59) :
 (¬ z.2=0->gU ⟨r⟩ sc d lg z=(⟨r⟩,sc,d,lg,z.2)) /\
 (z.2=0->((gU ⟨r⟩ sc d lg z).2.2.2.2=0/\(gU ⟨r⟩ sc d lg z).1.R=z.1/\(d.Fuse = -1->(gU ⟨r⟩ sc d lg z).2.2.1.Fuse = -1) /\ ∃u2,KI (gU ⟨r⟩ sc d lg z).2.2.1 (gU ⟨r⟩ sc d lg z).2.1 (gU ⟨r⟩ sc d lg z).2.2.2.1 z.1 u2 (t+1)) ∨
  ((gU ⟨r⟩ sc d lg z).2.2.2.2=10/\(gU ⟨r⟩ sc d lg z).1.R=r/\¬ d.Fuse = -1/\fx 170 4000 (gU ⟨r⟩ sc d lg z).2.2.1 /\
   ∀q,∃sc' Yg u2,KI (gH (gU ⟨r⟩ sc d lg z).2.2.1 q) sc' Yg r u2 (t+1)∨KI (gH (gU ⟨r⟩ sc d lg z).2.2.1 q) sc' Yg z.1 u2 (t+1))):=by
 refine ⟨fun h0=>QM h0,fun h0=>?_⟩
 obtain ⟨hi,hl⟩:=hz h0
 by_cases h1:0<(j0 r z.1).length
 .
  have hc:=h.com hi hl
  have happ:bI (mkS sc lg).Rows (j0 r z.1)=aQ z.1:=by
   show bI sc.Rows _=_
   rw [tX h.inv hi,h.rows];exact Cj h.inv hi
  have hst:∀s:oW,s.c.Rows=s.Rows:=fun _=>rfl
  rcases sC h.sv ht hc with ⟨e1,s1,u1,a1,a2,a3,a4,_⟩ | ⟨e1,s1,a1,a2,a3,a4⟩
  .
   left
   rw [M6 (k:=⟨r⟩) h0 h1 (by rw [a1])]
   dsimp only
   rw [a1]
   exact ⟨rfl,rfl,a4,u1,a2,(hst s1).trans (a3.trans happ),hi⟩
  right
  rw [M7 (k:=⟨r⟩) h0 h1 (by rw [a1];show ¬ (10:Int)=0;decide)]
  dsimp only
  rw [a1]
  refine ⟨rfl,rfl,a2,a3,fun q=>?_⟩
  obtain ⟨s2,u2,b1,b2⟩:=a4 q
  refine ⟨s2.c,s2.L,u2,?_⟩
  rcases b2 with b2|b2
  .exact .inl ⟨b1,(hst s2).trans (b2.trans h.rows),h.inv⟩
  exact .inr ⟨b1,(hst s2).trans (b2.trans happ),hi⟩
 left
 rw [M5 (k:=⟨r⟩) h0 h1]
 exact ⟨h0,rfl,id,u,h.sv.up (Nat.le_succ t),h.rows.trans (SS h.inv hi h1).symm,hi⟩
theorem KI.save (h:KI d sc lg r u t)(ht:t<=9999)(hf:d.Fuse = -1):(cj (mkS sc lg) d).2.2=0/\(cj (mkS sc lg) d).2.1.Fuse = -1/\KI (cj (mkS sc lg) d).2.1 (cj (mkS sc lg) d).1.c (cj (mkS sc lg) d).1.L r 0 (t+1):=by
 obtain ⟨a1,a2,a3,a4⟩:=O6 h.sv ht hf
 exact ⟨a1,a3,a4,a2.trans h.rows,h.inv⟩
theorem KI.opened (h:KI d sc lg r u t)(ht:t<=9999):jE d=0/\(bg d).c=sc/\(bg d).L=lg/\bQ sc.Rows=(aK r,0)/\KI d sc lg (aK r) u t:=by
 obtain ⟨a1,a2,a3⟩:=h.sv.opened ae
 exact ⟨a1,a2,a3,by rw [h.rows];exact vE h.inv,h.sv,h.rows.trans (yk h.inv).symm,(gq h.inv).1⟩
theorem wM (h:Inv r)(a:eU):(cJ r a).2=0->Inv (cJ r a).1/\(j0 r (cJ r a).1).length<=59:=fun hm=>⟨h.do hm,by rw [tX h (h.do hm)];exact RD h hm⟩
end
end
section
open Go Go.RowKit
attribute [local irreducible] dNew dM bg jE bF
theorem bK {α:Type}{c:Prop}[Decidable c]{x y:α×Int}(h:0<=x.2)(h':0<=y.2):0<=(if c then x else y).2:=by split <;> assumption
theorem qZ {r:aA}(a:eU):0<=(cJ r a).2:=by
 have hd:=fun (w:ak) id rg b=>gO w id rg b
 have dn:∀ (w:ak) id rg b,0<=(derived w id rg b).2:=fun w id rg b=>by have:=hd w id rg b;omega
 have hT:0<=(dD r a.P).2.2.2:=by
  have:=iq r a.P 2 1;unfold dD;(repeat' split) <;> first|(dsimp only;omega)|omega
 unfold cJ
 refine bK ?_ (bK ?_ (bK ?_ (bK ?_ (bK ?_ (bK ?_ (bK ?_ (bK hT (Int.le_refl 0))))))))
 .exact bK (bK (bK aD Da) (fe r a.P)) aD
 .exact bK (bK (bK (bK aD (bK Da (dn _ _ _ _))) aD) (fe r a.Q)) (eB r a.P)
 .exact bK (bK Da (fe r _)) (eB r a.P)
 .exact bK Da (eB r a.P)
 .exact bK Da (eB r a.P)
 .exact bK (bK aD Da) (iq r a.P 1 2)
 refine bK (bK aD (bK aD (bK Da (bK ?_ aD)))) (iq r a.P 2 2)
 exact bK (bK aD (bK Da (dn _ _ _ _))) (eB r _)
abbrev nR:aA:=⟨[],[],[],[],1,1⟩
theorem GQ:Ok nR:=Sz.new.ok aD
theorem hY:Inv nR:=Inv.new
theorem Bf:aK nR=nR:=xW hY rfl
theorem Fc:aQ nR=[Ee nR]:=by unfold aQ;rw [Bf];rfl
def rA (d:bZ):oW×bZ×Int:=bF (mkS (bg (dM d).1).c (bg (dM d).1).L) (dM d).1 (aQ nR)
theorem Fe {dk:bZ}(h:dk=dNew 170):(dM dk).2=0/\(dM dk).1.Fuse = -1/\jE (dM dk).1=0/\SV 170 (dM dk).1 (mkS (bg (dM dk).1).c (bg (dM dk).1).L) 0 0/\(bg (dM dk).1).c.Rows=[]:=by
 subst h;exact M4 ae ae
def gL:bZ:=(rA (dNew 170)).2.1
def gx:gZ:=(bg gL).c
def ml:Lg:=(bg gL).L
noncomputable def ft:lj:=⟨(bQ gx.Rows).1⟩
theorem VM:(rA (dNew 170)).2.2=0/\gL.Fuse = -1 /\ ∃s,SV 170 gL s 2 1/\s.Rows=aQ nR:=by
 obtain ⟨f1,f2,f3,f4,f5⟩:=Fe rfl
 have hl:(aQ nR).length=1:=by rw [Fc];rfl
 have hap:bI [] (aQ nR)=aQ nR:=by
  have:=qe (a:=[]) (b:=aQ nR) List.Pairwise.nil (ec hY) (fun c hc=>(mX hY c hc).g)
  rwa [lQ] at this
 have VN:bI (mkS (bg (dM (dNew 170)).1).c (bg (dM (dNew 170)).1).L).Rows (aQ nR)=aQ nR:=by
  show bI (bg (dM (dNew 170)).1).c.Rows _=_
  rw [f5];exact hap
 have h6:=f4.room
 have hc:mh (mkS (bg (dM (dNew 170)).1).c (bg (dM (dNew 170)).1).L) (dM (dNew 170)).1.Now.length (aQ nR)=0:=by
  unfold mh
  rw [if_neg ae,if_neg (by rw [tO _ (fun c hc=>(mX hY c hc).ok)];decide),if_neg]
  rw [VN];omega
 rcases sC f4 ae hc with ⟨e1,s1,u1,a1,a2,a3,a4,a5⟩ | ⟨e1,s1,a1,a2,_⟩
 .
  have hu:u1=2:=by
   rw [hl] at a5
   split at a5 <;> omega
  subst hu
  unfold gL rA;rw [a1]
  exact ⟨rfl,a4 f2,s1,a2,a3.trans VN⟩
 exact absurd f2 a2
theorem ln:(rA (dNew 170)).2.2=0/\gL.Fuse = -1/\jE gL=0/\(bQ gx.Rows).2=0/\ft.R=nR/\KI gL gx ml nR 2 1:=by
 obtain ⟨h1,h2,s,h3,h4⟩:=VM
 obtain ⟨a1,a2,a3⟩:=h3.reopen ae
 have e:gx.Rows=aQ nR:=a3.trans h4
 have hp:bQ gx.Rows=(nR,0):=by rw [e,vE hY,Bf]
 exact ⟨h1,h2,a1,by rw [hp],by show (bQ gx.Rows).1=_;rw [hp],a2,e,hY⟩
theorem CJ:(rA (dNew 170)).2.2=0/\gL.Fuse = -1/\jE gL=0/\(bQ gx.Rows).2=0/\ft.R=nR /\ ∃u,KI gL gx ml nR u 1 :=
 ⟨ln.1,ln.2.1,ln.2.2.1,ln.2.2.2.1,ln.2.2.2.2.1,2,ln.2.2.2.2.2⟩
abbrev Zl:Type:=lj×gZ×bZ×Lg
theorem QN {r:aA}{k:Nat}(h:Sz k r)(a:eU)(hk:k<=990):(cJ r a).2=0->Ok (cJ r a).1:=fun _=>(Lc h a).ok ae
def PI (s:Zl)(t:Nat):Prop:=(∃u,KI s.2.2.1 s.2.1 s.2.2.2 s.1.R u (t+1))/\s.2.2.1.Fuse = -1/\Sz t s.1.R
section
variable {d:bZ} {sc:gZ} {lg:Lg} {r:aA} {u t:Nat}
theorem KI.small (h:KI d sc lg r u t):sc.Rows.length<=60 /\ ∀c∈sc.Rows,c.Key.size<=1000/\c.Val.size<=1000:=by
 rw [h.rows];exact ⟨gQ h.inv,Gf h.inv⟩
theorem KI.pre (h:KI d sc lg r u t)(ht:t<=9999):(fx d.Now.length 60000 d/\d.Now.length<=200/\166<=d.Now.length)/\(0<=sc.Epoch/\sc.Epoch<=1000000000/\0<=sc.Side/\sc.Side<=1/\0<=lg.Many/\lg.Many<=1000/\1<=lg.First/\lg.First<=1000000000/\0<=lg.From/\lg.From<=1000/\0<=lg.Next/\lg.Next<=1000)/\sc.Rows.length<=60/\(∀c∈sc.Rows,gu c=0):=by
 have g:=h.sv.good
 exact ⟨h.sv.ok,h.sv.bnd ae,g.1,g.2.1⟩
theorem KI.anew (h:KI d sc lg r u t)(ht:t<=9999):d.Down=false/\jE d=0/\(fx d.Now.length 90000 d/\d.Now.length<=200)/\(bQ (bg d).c.Rows).2=0/\((bg d).c.Rows.length<=60 /\ ∀c∈(bg d).c.Rows,c.Key.size<=1000/\c.Val.size<=1000)/\(bQ (bg d).c.Rows).1=aK r/\KI d (bg d).c (bg d).L (aK r) u t:=by
 obtain ⟨a1,a2,a3,a4,a5⟩:=h.opened ht
 have g:=h.sv.ok
 rw [a2,a3]
 exact ⟨h.sv.room.2.2.1,a1,⟨g.1.up ae,g.2.1⟩,by rw [a4],h.small,by rw [a4],a5⟩
end
end
section
open Go Go.RowKit
structure jV where
  R:aA
def iY (m:jV)(ms:jv)(z:aA×Int):jV×jv×Int :=
  if 0<z.2 then (m,ms,z.2) else if 0<(bj (aQ m.R) (aQ z.1)).length then
    (if 0<(lH ms (bj (aQ m.R) (aQ z.1))).2 then (m,(lH ms (bj (aQ m.R) (aQ z.1))).1,(lH ms (bj (aQ m.R) (aQ z.1))).2) else (⟨z.1⟩,(lH ms (bj (aQ m.R) (aQ z.1))).1,0))
  else (⟨z.1⟩,ms,0)
section
variable {m:jV} {ms:jv} {z:aA×Int}
theorem QO (h:0<z.2):iY m ms z=(m,ms,z.2):=if_pos h
theorem QP (h:¬ 0<z.2)(h1:¬ 0<(bj (aQ m.R) (aQ z.1)).length):iY m ms z=(⟨z.1⟩,ms,0):=by unfold iY;rw [if_neg h,if_neg h1]
theorem VO (h:¬ 0<z.2)(h1:0<(bj (aQ m.R) (aQ z.1)).length)(h2:0<(lH ms (bj (aQ m.R) (aQ z.1))).2):iY m ms z=(m,(lH ms (bj (aQ m.R) (aQ z.1))).1,(lH ms (bj (aQ m.R) (aQ z.1))).2):=by unfold iY;rw [if_neg h,if_pos h1,if_pos h2]
theorem QR (h:¬ 0<z.2)(h1:0<(bj (aQ m.R) (aQ z.1)).length)(h2:¬ 0<(lH ms (bj (aQ m.R) (aQ z.1))).2):iY m ms z=(⟨z.1⟩,(lH ms (bj (aQ m.R) (aQ z.1))).1,0):=by unfold iY;rw [if_neg h,if_pos h1,if_neg h2]
end
theorem GR {m:jV}{ms:jv}{z:aA×Int}:0<=(iY m ms z).2.2:=by
 unfold iY
 (repeat' split) <;> first|(dsimp only;omega)|(dsimp only;decide)
theorem JX {a b:List Change}(ha:cX a)(hb:cX b):(bj a b).length<=a.length+b.length:=by
 have hn:((bj a b).map Change.Key).Nodup:=List.pairwise_map.2 ((oM (oL ha hb)).imp fun q=>q)
 have:=Gk _ (a.map Change.Key++b.map Change.Key) hn (fun k hk=>by
  obtain ⟨x,hx,rfl⟩:=List.mem_map.1 hk
  rcases (mem_merge ha hb).1 hx with ⟨c,hc,_,rfl⟩ | ⟨h,_⟩
  .exact List.mem_append_left _ (List.mem_map.2 ⟨c,hc,rfl⟩)
  exact List.mem_append_right _ (List.mem_map.2 ⟨x,h,rfl⟩))
 simpa using this
theorem M8 {a b:aA}(ha:Inv a)(hb:Inv b):(bj (aQ a) (aQ b)).length<=120:=by
 have:=JX (ec ha) (ec hb);have:=gQ ha;have:=gQ hb;omega
section
variable {d:bZ} {sc:gZ} {lg:Lg} {r:aA} {u t:Nat} {ms:jv} {z:aA×Int}
structure KM (sc:gZ)(u:Nat)(ms:jv):Prop where
  rows:ms.Rows=sc.Rows
  used:ms.Used=(u:Int)
  many:ms.Many=68
theorem KI.says (h:KI d sc lg r u t)(ht:t<=9999)(hf:d.Fuse = -1)(hm:KM sc u ms)(h0:0<=z.2)(hz:z.2=0->Inv z.1/\(j0 r z.1).length<=59) :
 (gU ⟨r⟩ sc d lg z).2.2.2.2=(iY ⟨r⟩ ms z).2.2/\(iY ⟨r⟩ ms z).1.R=(gU ⟨r⟩ sc d lg z).1.R/\(gU ⟨r⟩ sc d lg z).1.R=(if z.2=0 then z.1 else r)/\(gU ⟨r⟩ sc d lg z).2.2.1.Fuse = -1 /\
 ∃u2,KI (gU ⟨r⟩ sc d lg z).2.2.1 (gU ⟨r⟩ sc d lg z).2.1 (gU ⟨r⟩ sc d lg z).2.2.2.1 (gU ⟨r⟩ sc d lg z).1.R u2 (t+1)/\KM (gU ⟨r⟩ sc d lg z).2.1 u2 (iY ⟨r⟩ ms z).2.1:=by
 obtain ⟨b1,b2⟩:=h.do ht hz
 by_cases hq:z.2=0
 .
  obtain ⟨hi,hl⟩:=hz hq
  rcases b2 hq with ⟨c1,c2,c3,u2,c4⟩ | ⟨_,_,c3,_⟩
  .
   rw [if_pos hq,c2]
   have hch:=tX h.inv hi
   by_cases h1:0<(j0 r z.1).length
   .
    obtain ⟨e1,e2,e3,e4,u3,e5,e6⟩:=Fb (l:=j0 r z.1) h.sv ht hf hm.rows hm.used (by rw [hm.many];rfl)
    have hc:(bF (mkS sc lg) d (j0 r z.1)).2.2=0:=by
     refine Classical.byContradiction fun q=>?_
     rw [M7 (k:=⟨r⟩) hq h1 q] at c1;exact q c1
    have hr:(lH ms (bj (aQ r) (aQ z.1))).2=0:=by rw [<- hch,<- e1];exact hc
    rw [M6 (k:=⟨r⟩) hq h1 hc] at c3 c4 ⊢
    rw [QR (m:=⟨r⟩) ae (by rw [<- hch];exact h1) aG]
    dsimp only at c3 c4 ⊢
    rw [<- hch]
    exact ⟨hc,rfl,rfl,c3 hf,u3,⟨e5,c4.rows,hi⟩,e3,e6,e2.trans rfl⟩
   rw [M5 (k:=⟨r⟩) hq h1] at c3 c4 ⊢
   rw [QP (m:=⟨r⟩) ae (by rw [<- hch];exact h1)]
   exact ⟨hq,rfl,rfl,hf,u,⟨(h.sv.up (Nat.le_succ t)),c4.rows,hi⟩,hm⟩
  exact absurd hf c3
 rw [b1 hq,if_neg hq,QO (m:=⟨r⟩) ae]
 exact ⟨rfl,rfl,rfl,hf,u,h.up (Nat.le_succ t),hm⟩
end
def M9:jv:=(lH ⟨[],0,68⟩ (aQ nR)).1
theorem SU:KM gx 2 M9:=by
 obtain ⟨_,_,_,_,_,hK⟩:=ln
 have hl:(aQ nR).length=1:=by rw [Fc];rfl
 have hap:dw [] (aQ nR)=aQ nR:=by
  have:=qe (a:=[]) (b:=aQ nR) List.Pairwise.nil (ec hY) (fun c hc=>(mX hY c hc).g)
  rw [lQ] at this
  rw [<- tE _ List.Pairwise.nil];exact this
 have hF:JV ⟨[],0,68⟩ (aQ nR)=0:=by
  unfold JV
  rw [if_neg ae,if_neg (by rw [tO _ (fun c hc=>(mX hY c hc).ok)];decide),if_neg]
  dsimp only;rw [hap,hl];omega
 have e:lH ⟨[],0,68⟩ (aQ nR)=(⟨aQ nR,2,68⟩,0):=by
  unfold lH;rw [hF,if_neg aD]
  dsimp only;rw [hap,hl];rfl
 unfold M9;rw [e]
 exact ⟨hK.rows.symm,rfl,rfl⟩
theorem KM.small {d:bZ}{sc:gZ}{lg:Lg}{r:aA}{u t:Nat}{ms:jv}(hM:KM sc u ms)(h:KI d sc lg r u t)(ht:t<=9999):0<=ms.Many/\ms.Many<=1000/\0<=ms.Used/\ms.Used<=1000/\ms.Rows.length<=1000:=by
 have h1:=h.sv.bnd ae;have h2:=h.sv.room;have h3:=hM.used;have h4:=hM.many;have h5:=h.small.1;have h6:=hM.rows
 rw [h6];omega
theorem JY {d:bZ}{sc:gZ}{lg:Lg}{kc:lj}{m:jV}{ms:jv}{u t i:Nat}(h:KI d sc lg kc.R u t)(ht:t<=9999)(hf:d.Fuse = -1)(hM:KM sc u ms)(hm:m.R=kc.R)(hS:Sz i kc.R)(a:eU) :
 (gU kc sc d lg (cJ kc.R a)).2.2.2.2=(iY m ms ((cJ m.R a).1,(cJ m.R a).2)).2.2/\(iY m ms ((cJ m.R a).1,(cJ m.R a).2)).1.R=(gU kc sc d lg (cJ kc.R a)).1.R/\(gU kc sc d lg (cJ kc.R a)).2.2.1.Fuse = -1 /\
 ∃u2,KI (gU kc sc d lg (cJ kc.R a)).2.2.1 (gU kc sc d lg (cJ kc.R a)).2.1 (gU kc sc d lg (cJ kc.R a)).2.2.2.1 (gU kc sc d lg (cJ kc.R a)).1.R u2 (t+1)/\KM (gU kc sc d lg (cJ kc.R a)).2.1 u2 (iY m ms ((cJ m.R a).1,(cJ m.R a).2)).2.1/\Sz (i+1) (gU kc sc d lg (cJ kc.R a)).1.R:=by
 obtain ⟨a1,a2,a3,a4,u2,a5,a6⟩:=h.says (z:=cJ kc.R a) ht hf hM (qZ a) (wM h.inv a)
 obtain ⟨mr⟩:=m
 dsimp only at hm;subst hm
 refine ⟨a1,a2,a4,u2,a5,a6,?_⟩
 have a3:(gU kc sc d lg (cJ kc.R a)).1.R=_:=a3
 rw [a3];split
 .exact Lc hS a
 exact hS.up (Nat.le_succ i)
end
section
open Go Go.RowKit
attribute [local irreducible] Run Rg Rq Qt Qa Stp Dg Do Dm bN
theorem qu (r:Int)(w:World):Calls Tryz.prog 207 #[iV r] w fun e w'=>e = .returned (bN (dj r))/\Ext w w':=by
 refine R.eV ?_
 refine C (r<0) ?_ ?_ <;> intro h1
 .
  refine R.rt ?_
  (exact l4 ae)
 refine C (7<r) ?_ ?_ <;> intro h2
 .
  refine R.rt ?_
  (exact l4 ae)
 refine R.rt ?_
 (exact fT ae ae)
theorem fP (r:Int)(n:Int)(w:World)(r0:0<=r/\r<=7)(n0:0<=n/\n<=7):Calls Tryz.prog 158 #[iV r,iV n] w fun e w'=>e = .returned (.bool (gj r n))/\Ext w w':=by
 refine R.eV ?_
 refine R.q (q.and O O O) O<|U ?_
 refine C ((bits .and .i64 r n)=n) ?_ ?_ <;> intro h1
 .
  refine R.rt ?_
  (exact Hr r0.1 r0.2 n0.1 n0.2 (by exact beq_iff_eq.2 af))
 refine R.rt ?_
 (exact Hr r0.1 r0.2 n0.1 n0.2 (by exact beq_eq_false_iff_ne.2 af))
theorem o0 (r:Int)(n:Int)(w:World)(r0:0<=r/\r<=7)(n0:0<=n/\n<=7):Calls Tryz.prog 151 #[iV r,iV n] w fun e w'=>e = .returned (.bool (gj r n))/\Ext w w':=by
 refine R.eV ?_
 refine R.KG 3 O<|U ?_
 refine R.q (q.quo (r:=n / 1) O O ae (rR ae)) O<|R.q (q.rem (r:=(n / 1) % 2) O O ae (rm ae)) O<|C (((n / 1) % 2)=1) ?_ ?_ <;> intro h1
 .
  refine R.qg O (q.quo (r:=r / 1) O O ae (rR ae)) O<|R.qg O (q.rem (r:=(r / 1) % 2) O O ae (rm ae)) O<|C (((r / 1) % 2)=0) ?_ ?_ <;> intro h2
  .
   refine R.rt ?_
   (rw [<- gy r0.1 r0.2 n0.1 n0.2];exact (jh ae).symm)
  refine R.q (q.mul (r:=2) O O aD) O<|U ?_
  refine R.again O O<|U ?_
  refine R.q (q.quo (r:=n / 2) O O ae (rR ae)) O<|R.q (q.rem (r:=(n / 2) % 2) O O ae (rm ae)) O<|C (((n / 2) % 2)=1) ?_ ?_ <;> intro h3
  .
   refine R.qg O (q.quo (r:=r / 2) O O ae (rR ae)) O<|R.qg O (q.rem (r:=(r / 2) % 2) O O ae (rm ae)) O<|C (((r / 2) % 2)=0) ?_ ?_ <;> intro h4
   .
    refine R.rt ?_
    (rw [<- gy r0.1 r0.2 n0.1 n0.2];exact (jh ae).symm)
   refine R.q (q.mul (r:=4) O O aD) O<|U ?_
   refine R.again O O<|U ?_
   refine R.q (q.quo (r:=n / 4) O O ae (rR ae)) O<|R.q (q.rem (r:=(n / 4) % 2) O O ae (rm ae)) O<|C (((n / 4) % 2)=1) ?_ ?_ <;> intro h5
   .
    refine R.qg O (q.quo (r:=r / 4) O O ae (rR ae)) O<|R.qg O (q.rem (r:=(r / 4) % 2) O O ae (rm ae)) O<|C (((r / 4) % 2)=0) ?_ ?_ <;> intro h6
    .
     refine R.rt ?_
     (rw [<- gy r0.1 r0.2 n0.1 n0.2];exact (jh ae).symm)
    refine R.q (q.mul (r:=8) O O aD) O<|U ?_
    refine R.again O O<|U ?_
    refine R.rt ?_
    (rw [<- gy r0.1 r0.2 n0.1 n0.2];exact (jx ae ae ae).symm)
   refine R.q (q.mul (r:=8) O O aD) O<|U ?_
   refine R.again O O<|U ?_
   refine R.rt ?_
   (rw [<- gy r0.1 r0.2 n0.1 n0.2];exact (jx ae ae ae).symm)
  refine R.q (q.mul (r:=4) O O aD) O<|U ?_
  refine R.again O O<|U ?_
  refine R.q (q.quo (r:=n / 4) O O ae (rR ae)) O<|R.q (q.rem (r:=(n / 4) % 2) O O ae (rm ae)) O<|C (((n / 4) % 2)=1) ?_ ?_ <;> intro h7
  .
   refine R.qg O (q.quo (r:=r / 4) O O ae (rR ae)) O<|R.qg O (q.rem (r:=(r / 4) % 2) O O ae (rm ae)) O<|C (((r / 4) % 2)=0) ?_ ?_ <;> intro h8
   .
    refine R.rt ?_
    (rw [<- gy r0.1 r0.2 n0.1 n0.2];exact (jh ae).symm)
   refine R.q (q.mul (r:=8) O O aD) O<|U ?_
   refine R.again O O<|U ?_
   refine R.rt ?_
   (rw [<- gy r0.1 r0.2 n0.1 n0.2];exact (jx ae ae ae).symm)
  refine R.q (q.mul (r:=8) O O aD) O<|U ?_
  refine R.again O O<|U ?_
  refine R.rt ?_
  (rw [<- gy r0.1 r0.2 n0.1 n0.2];exact (jx ae ae ae).symm)
 refine R.q (q.mul (r:=2) O O aD) O<|U ?_
 refine R.again O O<|U ?_
 refine R.q (q.quo (r:=n / 2) O O ae (rR ae)) O<|R.q (q.rem (r:=(n / 2) % 2) O O ae (rm ae)) O<|C (((n / 2) % 2)=1) ?_ ?_ <;> intro h9
 .
  refine R.qg O (q.quo (r:=r / 2) O O ae (rR ae)) O<|R.qg O (q.rem (r:=(r / 2) % 2) O O ae (rm ae)) O<|C (((r / 2) % 2)=0) ?_ ?_ <;> intro h10
  .
   refine R.rt ?_
   (rw [<- gy r0.1 r0.2 n0.1 n0.2];exact (jh ae).symm)
  refine R.q (q.mul (r:=4) O O aD) O<|U ?_
  refine R.again O O<|U ?_
  refine R.q (q.quo (r:=n / 4) O O ae (rR ae)) O<|R.q (q.rem (r:=(n / 4) % 2) O O ae (rm ae)) O<|C (((n / 4) % 2)=1) ?_ ?_ <;> intro h11
  .
   refine R.qg O (q.quo (r:=r / 4) O O ae (rR ae)) O<|R.qg O (q.rem (r:=(r / 4) % 2) O O ae (rm ae)) O<|C (((r / 4) % 2)=0) ?_ ?_ <;> intro h12
   .
    refine R.rt ?_
    (rw [<- gy r0.1 r0.2 n0.1 n0.2];exact (jh ae).symm)
   refine R.q (q.mul (r:=8) O O aD) O<|U ?_
   refine R.again O O<|U ?_
   refine R.rt ?_
   (rw [<- gy r0.1 r0.2 n0.1 n0.2];exact (jx ae ae ae).symm)
  refine R.q (q.mul (r:=8) O O aD) O<|U ?_
  refine R.again O O<|U ?_
  refine R.rt ?_
  (rw [<- gy r0.1 r0.2 n0.1 n0.2];exact (jx ae ae ae).symm)
 refine R.q (q.mul (r:=4) O O aD) O<|U ?_
 refine R.again O O<|U ?_
 refine R.q (q.quo (r:=n / 4) O O ae (rR ae)) O<|R.q (q.rem (r:=(n / 4) % 2) O O ae (rm ae)) O<|C (((n / 4) % 2)=1) ?_ ?_ <;> intro Tr
 .
  refine R.qg O (q.quo (r:=r / 4) O O ae (rR ae)) O<|R.qg O (q.rem (r:=(r / 4) % 2) O O ae (rm ae)) O<|C (((r / 4) % 2)=0) ?_ ?_ <;> intro Wb
  .
   refine R.rt ?_
   (rw [<- gy r0.1 r0.2 n0.1 n0.2];exact (jh ae).symm)
  refine R.q (q.mul (r:=8) O O aD) O<|U ?_
  refine R.again O O<|U ?_
  refine R.rt ?_
  (rw [<- gy r0.1 r0.2 n0.1 n0.2];exact (jx ae ae ae).symm)
 refine R.q (q.mul (r:=8) O O aD) O<|U ?_
 refine R.again O O<|U ?_
 refine R.rt ?_
 (rw [<- gy r0.1 r0.2 n0.1 n0.2];exact (jx ae ae ae).symm)
theorem zO (x:ak)(w:World):Calls Tryz.prog 198 #[.agg #[iV x.ID,iV x.av,iV x.Rights,iV x.aO,iV x.From]] w fun e w'=>e = .returned (bN (cI x))/\Ext w w':=by
 refine R.eV ?_
 refine R.nb fun b1=>?_
 refine C (x.ID<1) ?_ ?_ <;> intro h1
 .
  refine R.rt ?_
  (exact eI ae)
 refine C (999<x.ID) ?_ ?_ <;> intro h2
 .
  refine R.rt ?_
  (exact eI ae)
 refine C (x.av<1) ?_ ?_ <;> intro h3
 .
  refine R.rt ?_
  (exact eI ae)
 refine C (999<x.av) ?_ ?_ <;> intro h4
 .
  refine R.rt ?_
  (exact eI ae)
 refine C (x.aO<0) ?_ ?_ <;> intro h5
 .
  refine R.rt ?_
  (exact eI ae)
 refine C (99<x.aO) ?_ ?_ <;> intro h6
 .
  refine R.rt ?_
  (exact eI ae)
 refine C (x.From<0) ?_ ?_ <;> intro h7
 .
  refine R.rt ?_
  (exact eI ae)
 refine C (x.From<x.ID) ?_ ?_ <;> intro h8
 .
  refine R.kc O O (fun w hw=>qu x.Rights w)<|U ?_
  refine R.rt ?_
  (exact (xl ae).symm)
 refine R.rt ?_
 (exact eI ae)
theorem mo (x:ak)(id:Int)(r:Int)(b:Int)(w:World)(x0:0<=x.Rights/\x.Rights<=7):Calls Tryz.prog 159 #[.agg #[iV x.ID,iV x.av,iV x.Rights,iV x.aO,iV x.From],iV id,iV r,iV b] w fun e w'=>e = .returned (.tuple #[ak.val (derived x id r b).1,bN (derived x id r b).2])/\Ext w w':=by
 refine R.eV ?_
 refine R.nb fun b1=>?_
 refine R.nb fun b2=>?_
 refine R.kc O O (fun w hw=>qu r w)<|U ?_
 refine C (dj r=0) ?_ ?_ <;> intro h1
 .
  have hr:=pz af
  refine U ?_
  refine C (b<0) ?_ ?_ <;> intro h2
  .exact R.rT O Tryz.results159 (RV.cell 0 O O bM) (RV.tmp O) (congrArg ak.val (show (⟨0,0,0,0,0⟩:ak)=(derived x id r b).1 from by ((rw [fH ae]) <;> rfl))) (pD aD (by ((rw [fH ae]) <;> first|rfl|exact bz af | (simp;omega))))
  refine C (99<b) ?_ ?_ <;> intro h3
  .exact R.rT O Tryz.results159 (RV.cell 0 O O bM) (RV.tmp O) (congrArg ak.val (show (⟨0,0,0,0,0⟩:ak)=(derived x id r b).1 from by ((rw [fH ae]) <;> rfl))) (pD aD (by ((rw [fH ae]) <;> first|rfl|exact bz af | (simp;omega))))
  rcases Bool.eq_false_or_eq_true (gj x.Rights r) with h4|h4
  .
   refine R.kc O O (fun w hw=>cv (congrArg Value.bool h4) (fP x.Rights r w ae ae))<|U ?_
   refine C (b=0) ?_ ?_ <;> intro h5
   .exact R.rT O Tryz.results159 (RV.cell 0 O O bM) (RV.tmp O) (congrArg ak.val (show (⟨id,x.av,r,x.aO,x.ID⟩:ak)=(derived x id r b).1 from by ((rw [l5 ae af ae]) <;> first|rfl|exact bz af | (simp;omega)))) (uh (by ((rw [l5 ae af ae]) <;> first|rfl|exact bz af | (simp;omega))))
   refine C (x.aO=0) ?_ ?_ <;> intro h6
   .exact R.rT O Tryz.results159 (RV.cell 0 O O bM) (RV.tmp O) (congrArg ak.val (show (⟨id,x.av,r,b,x.ID⟩:ak)=(derived x id r b).1 from by ((rw [l6 ae af ae ae]) <;> first|rfl|exact bz af | (simp;omega)))) (uh (by ((rw [l6 ae af ae ae]) <;> first|rfl|exact bz af | (simp;omega))))
   refine C (b=x.aO) ?_ ?_ <;> intro h7
   .exact R.rT O Tryz.results159 (RV.cell 0 O O bM) (RV.tmp O) (congrArg ak.val (show (⟨id,x.av,r,b,x.ID⟩:ak)=(derived x id r b).1 from by ((rw [kb ae af ae ae]) <;> (simp;omega)))) (uh (by ((rw [kb ae af ae ae]) <;> first|rfl|exact bz af | (simp;omega))))
   exact R.rT O Tryz.results159 (RV.cell 0 O O bM) (RV.tmp O) (congrArg ak.val (show (⟨0,0,0,0,0⟩:ak)=(derived x id r b).1 from by ((rw [oy ae af ae]) <;> rfl))) (pD aD (by ((rw [oy ae af ae]) <;> first|rfl|exact bz af | (simp;omega))))
  refine R.kc O O (fun w hw=>cv (congrArg Value.bool h4) (fP x.Rights r w ae ae))<|U ?_
  exact R.rT O Tryz.results159 (RV.cell 0 O O bM) (RV.tmp O) (congrArg ak.val (show (⟨0,0,0,0,0⟩:ak)=(derived x id r b).1 from by ((rw [ox ae af]) <;> rfl))) (pD aD (by ((rw [ox ae af]) <;> first|rfl|exact bz af | (simp;omega))))
 exact R.rT O Tryz.results159 (RV.cell 0 O O bM) (RV.tmp O) (congrArg ak.val (show (⟨0,0,0,0,0⟩:ak)=(derived x id r b).1 from by ((rw [rW af]) <;> rfl))) (rE (by ((rw [rW af]) <;> exact bz af)))
theorem my (x:ak)(id:Int)(r:Int)(b:Int)(w:World)(x0:0<=x.Rights/\x.Rights<=7):Calls Tryz.prog 90 #[.agg #[iV x.ID,iV x.av,iV x.Rights,iV x.aO,iV x.From],iV id,iV r,iV b] w fun e w'=>e = .returned (.tuple #[ak.val (derived x id r b).1,iV (derived x id r b).2])/\Ext w w':=by
 refine R.eV ?_
 refine R.nb fun b1=>?_
 refine R.nb fun b2=>?_
 refine C (r<0) ?_ ?_ <;> intro h1
 .exact R.rT O Tryz.results90 (RV.cell 0 O O bM) (RV.tmp O) (congrArg ak.val (show (⟨0,0,0,0,0⟩:ak)=(derived x id r b).1 from by ((rw [fH ae]) <;> rfl))) (rI (by ((rw [fH ae]) <;> first|rfl|exact bz af | (simp;omega))))
 refine C (7<r) ?_ ?_ <;> intro h2
 .exact R.rT O Tryz.results90 (RV.cell 0 O O bM) (RV.tmp O) (congrArg ak.val (show (⟨0,0,0,0,0⟩:ak)=(derived x id r b).1 from by ((rw [fH ae]) <;> rfl))) (rI (by ((rw [fH ae]) <;> first|rfl|exact bz af | (simp;omega))))
 refine C (b<0) ?_ ?_ <;> intro h3
 .exact R.rT O Tryz.results90 (RV.cell 0 O O bM) (RV.tmp O) (congrArg ak.val (show (⟨0,0,0,0,0⟩:ak)=(derived x id r b).1 from by ((rw [fH ae]) <;> rfl))) (rI (by ((rw [fH ae]) <;> first|rfl|exact bz af | (simp;omega))))
 refine C (99<b) ?_ ?_ <;> intro h4
 .exact R.rT O Tryz.results90 (RV.cell 0 O O bM) (RV.tmp O) (congrArg ak.val (show (⟨0,0,0,0,0⟩:ak)=(derived x id r b).1 from by ((rw [fH ae]) <;> rfl))) (rI (by ((rw [fH ae]) <;> first|rfl|exact bz af | (simp;omega))))
 rcases Bool.eq_false_or_eq_true (gj x.Rights r) with h5|h5
 .
  refine R.kc O O (fun w hw=>cv (congrArg Value.bool h5) (o0 x.Rights r w ae ae))<|U ?_
  refine C (b=0) ?_ ?_ <;> intro h6
  .
   refine C (x.aO=0) ?_ ?_ <;> intro h7
   .exact R.rT O Tryz.results90 (RV.cell 0 O O bM) (RV.tmp O) (congrArg ak.val (show (⟨id,x.av,r,b,x.ID⟩:ak)=(derived x id r b).1 from by ((rw [l5 ae af ae]) <;> (simp;omega)))) (rI (by ((rw [l5 ae af ae]) <;> first|rfl|exact bz af | (simp;omega))))
   exact R.rT O Tryz.results90 (RV.cell 0 O O bM) (RV.tmp O) (congrArg ak.val (show (⟨id,x.av,r,x.aO,x.ID⟩:ak)=(derived x id r b).1 from by ((rw [kb ae af ae ae]) <;> first|rfl|exact bz af | (simp;omega)))) (rI (by ((rw [kb ae af ae ae]) <;> first|rfl|exact bz af | (simp;omega))))
  refine C (x.aO=0) ?_ ?_ <;> intro h8
  .exact R.rT O Tryz.results90 (RV.cell 0 O O bM) (RV.tmp O) (congrArg ak.val (show (⟨id,x.av,r,b,x.ID⟩:ak)=(derived x id r b).1 from by ((rw [l6 ae af ae ae]) <;> first|rfl|exact bz af | (simp;omega)))) (rI (by ((rw [l6 ae af ae ae]) <;> first|rfl|exact bz af | (simp;omega))))
  refine C (b=x.aO) ?_ ?_ <;> intro h9
  .exact R.rT O Tryz.results90 (RV.cell 0 O O bM) (RV.tmp O) (congrArg ak.val (show (⟨id,x.av,r,x.aO,x.ID⟩:ak)=(derived x id r b).1 from by ((rw [kb ae af ae ae]) <;> first|rfl|exact bz af | (simp;omega)))) (rI (by ((rw [kb ae af ae ae]) <;> first|rfl|exact bz af | (simp;omega))))
  exact R.rT O Tryz.results90 (RV.cell 0 O O bM) (RV.tmp O) (congrArg ak.val (show (⟨0,0,0,0,0⟩:ak)=(derived x id r b).1 from by ((rw [oy ae af ae]) <;> rfl))) (rI (by ((rw [oy ae af ae]) <;> first|rfl|exact bz af | (simp;omega))))
 refine R.kc O O (fun w hw=>cv (congrArg Value.bool h5) (o0 x.Rights r w ae ae))<|U ?_
 exact R.rT O Tryz.results90 (RV.cell 0 O O bM) (RV.tmp O) (congrArg ak.val (show (⟨0,0,0,0,0⟩:ak)=(derived x id r b).1 from by ((rw [ox ae af]) <;> rfl))) (rI (by ((rw [ox ae af]) <;> first|rfl|exact bz af | (simp;omega))))
theorem Ff (x:ak)(id:Int)(O7:Nat)(w:World)(VP:(ah.box O7 [iV id] 3).ok w):Calls Tryz.prog 200 #[.agg #[iV x.ID,iV x.av,iV x.Rights,iV x.aO,iV x.From],pV O7] w fun e w'=>e = .returned (.bool (x.ID==id))/\Ext w w':=by
 refine R.enter [] [(0,.agg #[iV x.ID,iV x.av,iV x.Rights,iV x.aO,iV x.From]),(1,pV O7)] Tryz.func200 O O O O<|R.nH (r:=ah.box O7 [iV id] 3) VP (jf VP)<|U ?_
 refine R.nb fun b1=>?_
 refine R.q (q.zu 0 O O dX O) O<|C (x.ID=id) ?_ ?_ <;> intro h1
 .
  refine R.rt ?_
  (exact (beq_iff_eq.2 af).symm)
 refine R.rt ?_
 (exact (beq_eq_false_iff_ne.2 af).symm)
theorem mA (bA:Value)(l:List ak)(p:ak->Bool)(Wl:Nat)(Xk:List Value)(VQ:dB Wl)(w:World)(fC:Sl w bA l)(Yh:∀W (x1:ak),Ext w W->Calls Tryz.prog Wl ([x1.val]++Xk).toArray W fun e w'=>e = .returned (.bool (p x1))/\Ext W w'):Calls Tryz.prog 199 #[bA,.func (.func Wl) #[] Xk.toArray] w fun e w'=>e = .returned (iV (idxOf p l))/\Ext w w':=by
 have uO:=fC.dY
 refine R.eV ?_
 refine R.loop (fun k:Nat=>[(0,bA),(1,.func (.func Wl) #[] Xk.toArray),(7,iV (l.length:Int)),(8,iV (k:Int))]) (fun k:Nat=>[]) (fun k:Nat=>[]) (fun k:Nat=>k<=l.length /\ ∀ (j:Nat) x,j<k->l[j]? = some x->p x=false) (fun k:Nat=>l.length-k) 0 O (by exact ⟨ae,fun j x hj=>absurd hj (Nat.not_lt_zero _)⟩) (sF O) (dE [] [] O) ?_
 rintro k ⟨hk,HA⟩
 refine U ?_
 refine C (k<l.length) ?_ ?_ <;> intro h1
 .
  obtain ⟨x1,hx1⟩:=gE l k
  refine U ?_
  rcases Bool.eq_false_or_eq_true (p x1) with h2|h2
  .
   refine R.c (q.call VQ O O (fun w hw=>cv (congrArg Value.bool h2) (Yh w x1 hw.ext))) O<|U ?_
   refine R.rt ?_
   (exact (idxOf_hit hx1 af HA).symm)
  refine R.c (q.call VQ O O (fun w hw=>cv (congrArg Value.bool h2) (Yh w x1 hw.ext))) O<|U ?_
  refine R.back (k+1) O (by exact ⟨ae,jy HA hx1 af⟩) ae (sF O) (dE [] [] O)
 refine R.rt ?_
 (exact (idxOf_miss af HA).symm)
theorem gM (bA:Value)(l:List ak)(id:Int)(w:World)(fC:Sl w bA l):Calls Tryz.prog 143 #[bA,iV id] w fun e w'=>e = .returned (iV (bY l id))/\Ext w w':=by
 have uO:=fC.dY
 refine R.eV ?_
 refine R.nb fun b1=>?_
 refine R.q (q.NA (cap:=[pV b1]) O O) O<|R.kc O O (fun w hw=>mA _ l (fun (x:ak)=>x.ID==id) _ _ R8 w ((fun _=>Wd.old fC) w hw) (fun W x hW=>Ff x id _ W (sW (hw.b 0 O) hW)))<|U ?_
 refine R.rt ?_
 rfl
theorem fQ (bA:Value)(l:List ak)(id:Int)(w:World)(fC:Sl w bA l):Calls Tryz.prog 147 #[bA,iV id] w fun e w'=>e = .returned (iV (bY l id))/\Ext w w':=by
 have uO:=fC.dY
 refine R.eV ?_
 refine R.loop (fun k:Nat=>[(0,bA),(1,iV id),(5,iV (k:Int))]) (fun k:Nat=>[]) (fun k:Nat=>[]) (fun k:Nat=>k<=l.length /\ ∀ (j:Nat) x,j<k->l[j]? = some x->(x.ID==id)=false) (fun k:Nat=>l.length-k) 0 O (by exact ⟨ae,fun j x hj=>absurd hj (Nat.not_lt_zero _)⟩) (sF O) (dE [] [] O) ?_
 rintro k ⟨hk,HA⟩
 refine U ?_
 refine C (k<l.length) ?_ ?_ <;> intro h1
 .
  obtain ⟨x1,hx1⟩:=gE l k
  refine U ?_
  refine C (x1.ID=id) ?_ ?_ <;> intro h2
  .
   refine R.rt ?_
   (rw [Ae];exact (idxOf_hit (p:=fun x=>x.ID==id) hx1 (beq_iff_eq.2 h2) HA).symm)
  refine R.back (k+1) O (by exact ⟨ae,jy (p:=fun x=>x.ID==id) HA hx1 (beq_eq_false_iff_ne.2 h2)⟩) ae (sF O) (dE [] [] O)
 refine R.rt ?_
 (rw [Ae];exact (idxOf_miss h1 HA).symm)
end
section
open Go Go.RowKit
attribute [local irreducible] Run Rg Rq Qt Qa Stp Dg Do Dm bN
theorem zP (bA:Value)(l:List ak)(w:World)(fC:Sl w bA l):Calls Tryz.prog 142 #[bA] w fun e w'=>e = .returned (bN (dS l))/\Ext w w':=by
 have uO:=fC.dY
 refine R.eV ?_
 refine R.loop (fun k:Nat=>[(0,bA),(8,bA),(9,iV (l.length:Int)),(10,iV (k:Int))]) (fun k:Nat=>[]) (fun k:Nat=>[]) (fun k:Nat=>k<=l.length /\ ∀j,j<k->gk l j=0) (fun k:Nat=>l.length-k) 0 O (by exact ⟨ae,fun j hj=>absurd hj (Nat.not_lt_zero _)⟩) (sF O) (dE [] [] O) ?_
 rintro k ⟨hk,HA⟩
 refine U ?_
 by_cases h1:k<l.length
 .
  refine U ?_
  obtain ⟨x1,hx1⟩:=gE l k
  have Xl:=jM x1
  refine U ?_
  refine R.nb fun b1=>?_
  refine R.kc O O (fun w hw=>zO x1 w)<|U ?_
  by_cases h2:cI x1=0
  .
   refine V ?_
   refine R.cut 2 (fun _u:Unit=>[(0,bA),(3,iV (k:Int)),(4,pV b1),(8,bA),(9,iV (l.length:Int)),(10,iV (k:Int))]) (fun _u:Unit=>[ah.box b1 (rQ x1) 126]) (fun _u:Unit=>[]) (fun _u:Unit=>Hid (¬ 0<k ∨ ∃y,l[k-1]? = some y/\y.ID<x1.ID)) O O O ?_ ?_
   .
    by_cases h3:0<k
    .
     obtain ⟨x2,hx2⟩:=gE l (k-1)
     have Tt:=jM x2
     by_cases h4:x2.ID<x1.ID
     .
      refine R.cG O mixed ao<|U ?_
      refine Q.qg O (q.jY (r:=((k-1:Nat):Int)) O O) O<|U ?_
      exact R.meet () O (by exact .inr ⟨_,hx2,af⟩) (sF O) (dE [0] [] O)
     refine R.cG O mixed ao<|U ?_
     refine Q.qg O (q.jY (r:=((k-1:Nat):Int)) O O) O<|U ?_
     refine R.rt ?_
     (exact (fU ae (mQ hx1 ae af hx2 af) aD HA))
    refine R.cG O mixed ao<|U ?_
    exact R.meet () O (by exact .inl af) (sF O) (dE [0] [] O)
   rintro _u hS
   refine U ?_
   by_cases h5:x1.From=0
   .
    refine U ?_
    refine R.back (k+1) O (by exact ⟨ae,rX HA (xm hx1 ae hS.out af)⟩) ae (sF O) (dE [] [] O)
   refine U ?_
   rcases dv (l.take k) x1.From with ⟨eW,CK⟩ | ⟨vP,lz,eW,ub,QS⟩
   .
    refine R.cG O mixed ao<|U ?_
    refine Q.q (q.jJ (i:=k) (fun _=>Wd.old fC) O O Tryz.underlying43 Cm O ae) O<|U ?_
    refine Q.c (q.call Co O O (fun w hw=>cv (congrArg (Value.int .i64) eW) (gM _ (l.take k) x1.From w ((fun w hw=>Sl.to ((fun _=>Wd.old fC) w hw) ae) w hw)))) O<|U ?_
    refine R.rt ?_
    (exact (fU ae (xn hx1 ae hS.out af eW) aD HA))
   refine R.cG O mixed ao<|U ?_
   refine Q.q (q.jJ (i:=k) (fun _=>Wd.old fC) O O Tryz.underlying43 Cm O ae) O<|U ?_
   refine Q.c (q.call Co O O (fun w hw=>cv (congrArg (Value.int .i64) eW) (gM _ (l.take k) x1.From w ((fun w hw=>Sl.to ((fun _=>Wd.old fC) w hw) ae) w hw)))) O<|U ?_
   have vQ:vP<k:=by simp at lz;omega
   obtain ⟨x3,hx3⟩:=gE l vP
   have wx:=s8 hx3 (HA vP vQ)
   have Xl:=wx.P8;have Tt:=wx.P9
   have wd:=gO x3 x1.ID x1.Rights x1.aO
   refine R.dC (fuel:=17) [0] O O mixed O<|D.l j1 [0] [] O<|U ?_
   refine D.two (i:=10) (j:=14) O O ?_ ?_
   .
    refine Do.p [0] [] (s.c (q.call Mi O O (fun w hw=>mo x3 x1.ID x1.Rights x1.aO w ae)) O) fun _=>?_
    refine D.l [11,12,13] [0] [] O<|U ?_
    refine D.p 14 O [1] [] (s.alloc dK O O) fun b2=>?_
    refine D.p 15 O [1] [] (s.st 0 _ O O O O (.inl bM) O O O O) fun _=>?_
    refine D.l [16] [1] [] O<|U ?_
    refine D.done<|U ?_
    by_cases h6:(derived x3 x1.ID x1.Rights x1.aO).2=0
    .
     refine U ?_
     by_cases h7:(derived x3 x1.ID x1.Rights x1.aO).1=x1
     .
      refine R.q (q.j3 (x:=(derived x3 x1.ID x1.Rights x1.aO).1) (y:=x1) uM O O h7) O<|U ?_
      refine R.back (k+1) O (by exact ⟨ae,rX HA ((ij hx1 ae hS.out af eW vQ hx3).trans ((if_neg ae).trans (if_neg (fun h=>h af))))⟩) ae (sF O) (dE [] [] O)
     refine R.q (q.j4 (x:=(derived x3 x1.ID x1.Rights x1.aO).1) (y:=x1) uM O O h7) O<|U ?_
     refine R.rt ?_
     (exact (fU ae ((ij hx1 ae hS.out af eW vQ hx3).trans ((if_neg ae).trans (if_pos af))) aD HA))
    refine U ?_
    refine R.rt ?_
    (exact (fU ae ((ij hx1 ae hS.out af eW vQ hx3).trans (if_pos ae)) ae HA).symm)
   refine Do.p [1] [] (s.alloc dK O O) fun b3=>?_
   refine D.p 10 O [1] [] (s.c (q.call Mi O O (fun w hw=>mo x3 x1.ID x1.Rights x1.aO w ae)) O) fun _=>?_
   refine D.l [11,12,13] [1] [] O<|U ?_
   refine D.p 15 O [1] [] (s.st 0 _ O O O O (.inl bM) O O O O) fun _=>?_
   refine D.l [16] [1] [] O<|U ?_
   refine D.done<|U ?_
   by_cases h8:(derived x3 x1.ID x1.Rights x1.aO).2=0
   .
    refine U ?_
    by_cases h9:(derived x3 x1.ID x1.Rights x1.aO).1=x1
    .
     refine R.q (q.j3 (x:=(derived x3 x1.ID x1.Rights x1.aO).1) (y:=x1) uM O O h9) O<|U ?_
     refine R.back (k+1) O (by exact ⟨ae,rX HA ((ij hx1 ae hS.out af eW vQ hx3).trans ((if_neg ae).trans (if_neg (fun h=>h af))))⟩) ae (sF O) (dE [] [] O)
    refine R.q (q.j4 (x:=(derived x3 x1.ID x1.Rights x1.aO).1) (y:=x1) uM O O h9) O<|U ?_
    refine R.rt ?_
    (exact (fU ae ((ij hx1 ae hS.out af eW vQ hx3).trans ((if_neg ae).trans (if_pos af))) aD HA))
   refine U ?_
   refine R.rt ?_
   (exact (fU ae ((ij hx1 ae hS.out af eW vQ hx3).trans (if_pos ae)) ae HA).symm)
  refine U ?_
  refine R.rt ?_
  (have e:cI x1=1:=ae;rw [e];exact (fU ae (ig hx1 ae) aD HA).symm)
 refine U ?_
 refine R.rt ?_
 (exact (pW (fun j hj=>HA j ae)))
theorem qv (bA:Value)(l:List ak)(id:Int)(w:World)(fC:Sl w bA l)(hl:l.length<=1000000):Calls Tryz.prog 161 #[bA,iV id] w fun e w' => ∃u,e = .returned u/\Own w.heap.size 126 w' u (without l id)/\Ext w w':=by
 have uO:=fC.dY
 refine R.eV ?_
 rcases dv l id with ⟨eW,CK⟩ | ⟨vP,lz,eW,ub,QS⟩
 .
  refine R.kc O O (fun w hw=>cv (congrArg (Value.int .i64) eW) (gM _ l id w ((fun _=>Wd.old fC) w hw)))<|U ?_
  refine R.row0 (α:=ak) 126<|R.loop (fun g_:Nat×Value×(List ak)=>[(1,iV id),(5,g_.2.1),(6,iV 0),(20,bA),(21,iV (l.length:Int)),(22,iV (g_.1:Int))]) (fun g_=>[ah.row 126 g_.2.1 g_.2.2]) (fun g_=>[]) (fun g_=>g_.1<=l.length/\g_.2.2=DJ id 0 (l.take g_.1)) (fun g_=>l.length-g_.1) (0,nS,[]) O (by exact ⟨bC,by simp [DJ,rx]⟩) (sF O) (dE [0] [] O) ?_
  rintro ⟨k,v,acc⟩ ⟨hk,HA⟩
  dsimp only at *
  have hal:acc.length<=k:=by rw [HA];exact Nat.le_trans (BM _ _ _) (List.length_take_le _ _)
  refine U ?_
  refine C (k<l.length) ?_ ?_ <;> intro h1
  .
   obtain ⟨x1,hx1⟩:=gE l k
   refine U ?_
   refine R.nb fun b1=>?_
   refine C (x1.ID=id) ?_ ?_ <;> intro h2
   .refine R.back (k+1,v,acc) O (by exact ⟨ae,by rw [HA,Hs hx1 af]⟩) aG (sF O) (dE [1] [] O)
   refine C (x1.From=id) ?_ ?_ <;> intro h3
   .
    refine R.s O (s.bs (l:=([(⟨x1.ID,x1.av,x1.Rights,x1.aO,0⟩:ak)]:List ak)) fF dK O O O O O O O) fun b2=>?_
    refine R.ap fun v1=>?_
    refine R.back (k+1,v1,(acc++([(⟨x1.ID,x1.av,x1.Rights,x1.aO,0⟩:ak)]))) O (by exact ⟨ae,by rw [HA,s9 hx1 af,xp af]⟩) aG (sF O) (dE [2] [] O)
   refine R.s O (s.bs (l:=([x1]:List ak)) fF dK O O O O O O O) fun b3=>?_
   refine R.ap fun v2=>?_
   refine R.back (k+1,v2,(acc++([x1]))) O (by exact ⟨ae,by rw [HA,s9 hx1 af,uq af]⟩) aG (sF O) (dE [2] [] O)
  exact R.ro 0 O Tryz.results161 O O (by rw [HA,List.take_of_length_le ae];unfold without;rw [vu eW])
 refine R.kc O O (fun w hw=>cv (congrArg (Value.int .i64) eW) (gM _ l id w ((fun _=>Wd.old fC) w hw)))<|U ?_
 refine R.q (q.idx (i:=vP) (fun _=>Wd.old fC) O O fF O (List.getElem?_eq_getElem lz)) O ?_
 refine R.q (q.Kz (j':=4) (fun _=>Wd.old fC) (List.getElem?_eq_getElem lz) O ym O) O ?_
 refine R.q (q.NJ (fun _=>Wd.old fC) (List.getElem?_eq_getElem lz) O dX O) O ?_
 refine U ?_
 refine R.row0 (α:=ak) 126<|R.loop (fun g_:Nat×Value×(List ak)=>[(1,iV id),(5,g_.2.1),(6,iV (l[vP]).From),(20,bA),(21,iV (l.length:Int)),(22,iV (g_.1:Int))]) (fun g_=>[ah.row 126 g_.2.1 g_.2.2]) (fun g_=>[]) (fun g_=>g_.1<=l.length/\g_.2.2=DJ id (l[vP]).From (l.take g_.1)) (fun g_=>l.length-g_.1) (0,nS,[]) O (by exact ⟨bC,by simp [DJ,rx]⟩) (sF O) (dE [0] [] O) ?_
 rintro ⟨k,v,acc⟩ ⟨hk,HA⟩
 dsimp only at *
 have hal:acc.length<=k:=by rw [HA];exact Nat.le_trans (BM _ _ _) (List.length_take_le _ _)
 refine U ?_
 refine C (k<l.length) ?_ ?_ <;> intro h4
 .
  obtain ⟨x2,hx2⟩:=gE l k
  refine U ?_
  refine R.nb fun b4=>?_
  refine C (x2.ID=id) ?_ ?_ <;> intro h5
  .refine R.back (k+1,v,acc) O (by exact ⟨ae,by rw [HA,Hs hx2 af]⟩) aG (sF O) (dE [1] [] O)
  refine C (x2.From=id) ?_ ?_ <;> intro h6
  .
   refine R.s O (s.bs (l:=([(⟨x2.ID,x2.av,x2.Rights,x2.aO,(l[vP]).From⟩:ak)]:List ak)) fF dK O O O O O O O) fun b5=>?_
   refine R.ap fun v3=>?_
   refine R.back (k+1,v3,(acc++([(⟨x2.ID,x2.av,x2.Rights,x2.aO,(l[vP]).From⟩:ak)]))) O (by exact ⟨ae,by rw [HA,s9 hx2 af,xp af]⟩) aG (sF O) (dE [2] [] O)
  refine R.s O (s.bs (l:=([x2]:List ak)) fF dK O O O O O O O) fun b6=>?_
  refine R.ap fun v4=>?_
  refine R.back (k+1,v4,(acc++([x2]))) O (by exact ⟨ae,by rw [HA,s9 hx2 af,uq af]⟩) aG (sF O) (dE [2] [] O)
 exact R.ro 0 O Tryz.results161 O O (by rw [HA,List.take_of_length_le ae];unfold without;rw [mR eW (List.getElem?_eq_getElem lz)])
theorem zb (bA:Value)(l:List ak)(id:Int)(w:World)(fC:Sl w bA l)(hl:l.length<=1000000):Calls Tryz.prog 84 #[bA,iV id] w fun e w' => ∃u,e = .returned u/\Own w.heap.size 126 w' u (DK l id)/\Ext w w':=by
 have uO:=fC.dY
 refine R.eV ?_
 rcases dv l id with ⟨eW,CK⟩ | ⟨vP,lz,eW,ub,QS⟩
 .
  refine R.kc O O (fun w hw=>cv (congrArg (Value.int .i64) eW) (fQ _ l id w ((fun _=>Wd.old fC) w hw)))<|U ?_
  refine R.row0 (α:=ak) 126<|R.loop (fun g_:Nat×Value×(List ak)=>[(0,bA),(1,iV id),(5,g_.2.1),(6,iV (-1)),(7,iV (g_.1:Int))]) (fun g_=>[ah.row 126 g_.2.1 g_.2.2]) (fun g_=>[]) (fun g_=>g_.1<=l.length/\g_.2.2=rx l id (l.take g_.1)) (fun g_=>l.length-g_.1) (0,nS,[]) O (by exact ⟨bC,by simp [rx]⟩) (sF O) (dE [0] [] O) ?_
  rintro ⟨k,v,acc⟩ ⟨hk,HA⟩
  dsimp only at *
  have hal:acc.length<=k:=by rw [HA];exact Nat.le_trans (DL _ _ _) (List.length_take_le _ _)
  refine U ?_
  refine C (k<l.length) ?_ ?_ <;> intro h1
  .
   obtain ⟨x1,hx1⟩:=gE l k
   refine U ?_
   refine R.nb fun b1=>?_
   refine C (x1.ID=id) ?_ ?_ <;> intro h2
   .refine R.back (k+1,v,acc) O (by exact ⟨ae,by rw [HA,xq hx1 af]⟩) aG (sF O) (dE [1] [] O)
   refine R.s O (s.bs (l:=([x1]:List ak)) fF dK O O O O O O O) fun b2=>?_
   refine R.ap fun v1=>?_
   refine R.back (k+1,v1,(acc++([x1]))) O (by exact ⟨ae,by rw [HA,ut hx1 af,show K0 l id x1=x1 from by unfold K0;rw [if_pos ae]]⟩) aG (sF O) (dE [2] [] O)
  exact R.ro 0 O Tryz.results84 O O (by rw [HA,List.take_of_length_le ae];exact DN _ _)
 refine R.kc O O (fun w hw=>cv (congrArg (Value.int .i64) eW) (fQ _ l id w ((fun _=>Wd.old fC) w hw)))<|U ?_
 refine R.row0 (α:=ak) 126<|R.loop (fun g_:Nat×Value×(List ak)=>[(0,bA),(1,iV id),(5,g_.2.1),(6,iV (vP:Int)),(7,iV (g_.1:Int))]) (fun g_=>[ah.row 126 g_.2.1 g_.2.2]) (fun g_=>[]) (fun g_=>g_.1<=l.length/\g_.2.2=rx l id (l.take g_.1)) (fun g_=>l.length-g_.1) (0,nS,[]) O (by exact ⟨bC,by simp [rx]⟩) (sF O) (dE [0] [] O) ?_
 rintro ⟨k,v,acc⟩ ⟨hk,HA⟩
 dsimp only at *
 have hal:acc.length<=k:=by rw [HA];exact Nat.le_trans (DL _ _ _) (List.length_take_le _ _)
 refine U ?_
 refine C (k<l.length) ?_ ?_ <;> intro h3
 .
  obtain ⟨x2,hx2⟩:=gE l k
  refine U ?_
  refine R.nb fun b3=>?_
  refine C (x2.From=id) ?_ ?_ <;> intro h4
  .
   refine R.q (q.idx (i:=vP) (fun _=>Wd.old fC) O O fF O (List.getElem?_eq_getElem lz)) O ?_
   refine R.q (q.Kz (j':=4) (fun _=>Wd.old fC) (List.getElem?_eq_getElem lz) O ym O) O ?_
   refine R.q (q.NJ (fun _=>Wd.old fC) (List.getElem?_eq_getElem lz) O dX O) O ?_
   refine U ?_
   refine C (x2.ID=id) ?_ ?_ <;> intro h5
   .refine R.back (k+1,v,acc) O (by exact ⟨ae,by rw [HA,xq hx2 af]⟩) aG (sF O) (dE [1] [] O)
   refine R.s O (s.bs (l:=([(⟨x2.ID,x2.av,x2.Rights,x2.aO,(l[vP]).From⟩:ak)]:List ak)) fF dK O O O O O O O) fun b4=>?_
   refine R.ap fun v2=>?_
   refine R.back (k+1,v2,(acc++([(⟨x2.ID,x2.av,x2.Rights,x2.aO,(l[vP]).From⟩:ak)]))) O (by exact ⟨ae,by rw [HA,ut hx2 af,show K0 l id x2=_ from by unfold K0;rw [if_neg ae,mR eW (List.getElem?_eq_getElem lz),xp af]]⟩) aG (sF O) (dE [2] [] O)
  refine C (x2.ID=id) ?_ ?_ <;> intro h6
  .refine R.back (k+1,v,acc) O (by exact ⟨ae,by rw [HA,xq hx2 af]⟩) aG (sF O) (dE [1] [] O)
  refine R.s O (s.bs (l:=([x2]:List ak)) fF dK O O O O O O O) fun b5=>?_
  refine R.ap fun v3=>?_
  refine R.back (k+1,v3,(acc++([x2]))) O (by exact ⟨ae,by rw [HA,ut hx2 af,show K0 l id x2=x2 from by unfold K0;rw [if_neg ae,uq af]]⟩) aG (sF O) (dE [2] [] O)
 exact R.ro 0 O Tryz.results84 O O (by rw [HA,List.take_of_length_le ae];exact DN _ _)
end
section
open Go Go.RowKit
attribute [local irreducible] Run Rg Rq Qt Qa Stp Dg Do Dm bN
theorem CL (bA:Value)(l:List ak)(id:Int)(w:World)(fC:Sl w bA l)(hl:l.length<=1000000):Calls Tryz.prog 163 #[bA,iV id] w fun e w' => ∃u,e = .returned u/\Own w.heap.size 3 w' u (im id l)/\Ext w w':=by
 have uO:=fC.dY
 refine R.eV ?_
 refine R.s O (s.mk O) fun b1=>U ?_
 refine R.s O (s.Wx 0 _ O O O O tQ O) fun _=>U ?_
 refine R.row0 (α:=Int) 3<|R.loop (fun g_:Nat×Value×(List Int)×(List Int)=>[(5,.map (some b1)),(6,g_.2.1),(12,bA),(13,iV (l.length:Int)),(14,iV (g_.1:Int))]) (fun g_=>[ah.row 3 g_.2.1 g_.2.2.1,ah.rU b1 g_.2.2.2]) (fun g_=>[]) (fun g_=>g_.1<=l.length/\g_.2.2.1=im id (l.take g_.1) /\ ∀z,z∈g_.2.2.2↔z=id∨z∈g_.2.2.1) (fun g_=>l.length-g_.1) (0,nS,[],[id]) O (by exact ⟨bC,by simp [im],bC⟩) (sF O) (dE [0,1] [] O) ?_
 rintro ⟨k,v,acc,S⟩ ⟨hk,HA,HS⟩
 dsimp only at *
 have hal:acc.length<=k:=by rw [HA];exact Nat.le_trans (K2 _ _) (List.length_take_le _ _)
 refine U ?_
 refine C (k<l.length) ?_ ?_ <;> intro h1
 .
  obtain ⟨x1,hx1⟩:=gE l k
  refine U ?_
  refine R.nb fun b2=>?_
  refine C (x1.From∈S) ?_ ?_ <;> intro h2
  .
   refine R.q (q.P1 2 O O O tQ (decide_eq_true h2)) O<|U ?_
   refine C (0<x1.From) ?_ ?_ <;> intro h3
   .
    refine R.s O (s.Yq 2 _ O O O O tQ O) fun _=>U ?_
    refine R.s O (s.bs (l:=([x1.ID]:List Int)) lF jQ O O O O O O O) fun b3=>?_
    refine R.ap fun v1=>?_
    refine R.back (k+1,v1,acc++([x1.ID]),(x1.ID::S)) O (by (exact ⟨ae,by rw [HA,DR hx1 (HA▸HS) af af],by intro z;rw [List.mem_cons,HS,List.mem_append,List.mem_singleton];constructor <;> (intro h;rcases h with h|h|h <;> simp [h])⟩)) aG (sF O) (dE [2,3] [] O)
   refine R.back (k+1,v,acc,S) O (by exact ⟨ae,by rw [HA,uu hx1 (HA▸HS) (by intro hh;exact absurd hh.2 af)],HS⟩) aG (sF O) (dE [1,2] [] O)
  refine R.q (q.P1 2 O O O tQ (decide_eq_false h2)) O<|U ?_
  refine R.back (k+1,v,acc,S) O (by exact ⟨ae,by rw [HA,uu hx1 (HA▸HS) (by intro hh;exact absurd hh.1 af)],HS⟩) aG (sF O) (dE [1,2] [] O)
 exact R.ro 0 O Tryz.results163 O O (by rw [HA,List.take_of_length_le ae])
theorem zc (bA:Value)(l:List ak)(id:Int)(w:World)(fC:Sl w bA l)(hT:cb l)(hl:l.length<=1000000):Calls Tryz.prog 92 #[bA,iV id] w fun e w' => ∃u,e = .returned u/\Own w.heap.size 3 w' u (beneath l id)/\Ext w w':=by
 have uO:=fC.dY
 refine R.eV ?_
 refine R.row0 (α:=Int) 3<|R.loop (fun g_:Nat×Value×(List Int)=>[(0,bA),(1,iV id),(5,g_.2.1),(6,iV (g_.1:Int))]) (fun g_=>[ah.row 3 g_.2.1 g_.2.2]) (fun g_=>[]) (fun g_=>g_.1<=l.length/\g_.2.2=r5 l id (l.take g_.1)) (fun g_=>l.length-g_.1) (0,nS,[]) O (by exact ⟨bC,by simp [r5]⟩) (sF O) (dE [0] [] O) ?_
 rintro ⟨k,v,acc⟩ ⟨hk,HA⟩
 dsimp only at *
 have hal:acc.length<=k:=by rw [HA];exact Nat.le_trans (K3 _ _ _) (List.length_take_le _ _)
 refine U ?_
 refine C (k<l.length) ?_ ?_ <;> intro h1
 .
  obtain ⟨x1,hx1⟩:=gE l k
  have Xl:=hT.mem (List.mem_of_getElem? hx1)
  have Zm:=Xl.P6
  refine U ?_
  refine R.loop (fun f:Int=>[(0,bA),(1,iV id),(5,v),(6,iV (k:Int)),(7,iV f)]) (fun f:Int=>[ah.row 3 v acc]) (fun f:Int=>[]) (fun f:Int=>0<=f/\up l id f=up l id x1.From) (fun f:Int=>f.toNat) x1.From O (by exact ⟨ae,rfl⟩) (sF O) (dE [0] [] O) ?_
  rintro f ⟨hf0,HU⟩
  refine U ?_
  refine C (0<f) ?_ ?_ <;> intro h2
  .
   refine C (f=id) ?_ ?_ <;> intro h3
   .
    refine R.s O (s.bs (l:=([x1.ID]:List Int)) lF jQ O O O O O O O) fun b1=>?_
    refine R.ap fun v1=>?_
    refine R.back (k+1,v1,(acc++([x1.ID]))) O (by exact ⟨ae,by rw [HA,DT hx1 (by rw [<- HU,pX ae];omega) ae]⟩) aG (sF O) (dE [1] [] O)
   refine R.kc O O (fun w hw=>fQ _ l f w ((fun _=>Wd.old fC) w hw))<|U ?_
   refine C (bY l f<0) ?_ ?_ <;> intro h4
   .refine R.back (k+1,v,acc) O (by exact ⟨ae,by rw [HA,qE hx1 (by rw [<- HU,pX ae];omega)]⟩) aG (sF O) (dE [0] [] O)
   obtain ⟨x2,hx2,ZX,Zn⟩:=xo l f ae
   have Tt:=hT.mem Zn
   have Zo:=Tt.id1;have Zp:=Tt.P6;have Zq:=Tt.P7;have Zr:=Tt.P5
   have Wm:eC l f=x2.From:=mR (j:=(bY l f).toNat) ae hx2
   refine R.q (q.idx (i:=(bY l f).toNat) (fun _=>Wd.old fC) O O fF ae hx2) O<|U ?_
   refine R.back x2.From O (by exact ⟨ae,by rw [<- HU,BN hT (f:=f) ae ae,Wm]⟩) ae (sF O) (dE [0] [] O)
  refine C (f=id) ?_ ?_ <;> intro h5
  .refine R.back (k+1,v,acc) O (by exact ⟨ae,by rw [HA,qE hx1 (by rw [<- HU,pX ae];omega)]⟩) aG (sF O) (dE [0] [] O)
  refine R.back (k+1,v,acc) O (by exact ⟨ae,by rw [HA,qE hx1 (by rw [<- HU,pX ae];omega)]⟩) aG (sF O) (dE [0] [] O)
 exact R.ro 0 O Tryz.results92 O O (by rw [HA,List.take_of_length_le ae];rfl)
end
section
open Go Go.RowKit
attribute [local irreducible] Run Rg Rq Qt Qa Stp Dg Do Dm bN
theorem GU (bA:Value)(l:List ak)(w:World)(fC:Sl w bA l)(hl:l.length<=1000000):Calls Tryz.prog 146 #[bA] w fun e w' => ∃u,e = .returned u/\Own w.heap.size 3 w' u (Lib.compact (pA (l.map ak.av)))/\Ext w w':=by
 have uO:=fC.dY
 refine R.eV ?_
 refine R.row0 (α:=Int) 3<|R.loop (fun g_:Nat×Value×(List Int)=>[(3,g_.2.1),(6,bA),(7,iV (l.length:Int)),(8,iV (g_.1:Int))]) (fun g_=>[ah.row 3 g_.2.1 g_.2.2]) (fun g_=>[]) (fun g_=>g_.1<=l.length/\g_.2.2=(l.take g_.1).map ak.av) (fun g_=>l.length-g_.1) (0,nS,[]) O (by exact ⟨ae,bC⟩) (sF O) (dE [0] [] O) ?_
 rintro ⟨k,v,acc⟩ ⟨hk,HA⟩
 dsimp only at *
 have hal:acc.length<=k:=by rw [HA];simp;omega
 refine U ?_
 refine C (k<l.length) ?_ ?_ <;> intro h1
 .
  obtain ⟨x1,hx1⟩:=gE l k
  refine U ?_
  refine R.nb fun b1=>?_
  refine R.s O (s.bs (l:=([x1.av]:List Int)) lF jQ O O O O O O O) fun b2=>?_
  refine R.ap fun v1=>?_
  refine R.back (k+1,v1,(acc++([x1.av]))) O (by exact ⟨ae,by rw [HA,List.take_add_one,hx1];simp⟩) aG (sF O) (dE [2] [] O)
 refine R.s O (s.KJ [0] _ _ O O R9 O O (fun w hw H=>K7 v acc w H ae) O) fun u1=>U ?_
 refine R.s O (s.KJ [0] _ _ O O Sb O O (fun w hw H=>DW v (pA acc) w H (by simp [pA];omega)) O) fun v2=>U ?_
 exact R.ro 0 O Tryz.results146 O O (by rw [HA,List.take_of_length_le ae])
theorem zQ (bA:Value)(l:List ak)(w:World)(fC:Sl w bA l):Calls Tryz.prog 148 #[bA] w fun e w' => ∃u,e = .returned u/\Own w.heap.size 3 w' u (DV l)/\Ext w w':=by
 have uO:=fC.dY
 refine R.eV ?_
 refine R.row0 (α:=Int) 3<|R.loop (fun g_:Nat×Value×(List Int)=>[(0,bA),(3,g_.2.1),(4,iV (g_.1:Int))]) (fun g_=>[ah.row 3 g_.2.1 g_.2.2]) (fun g_=>[]) (fun g_=>1<=g_.1/\g_.1<=1000/\g_.2.2=ea l (g_.1-1)) (fun g_=>1000-g_.1) (1,nS,[]) O (by exact ⟨ae,ae,rfl⟩) (sF O) (dE [0] [] O) ?_
 rintro ⟨k,v,acc⟩ ⟨hk1,hk,HA⟩
 dsimp only at *
 have hal:acc.length<=k:=by rw [HA];exact Nat.le_trans (ta _ _) ae
 refine U ?_
 refine C (k<1000) ?_ ?_ <;> intro h1
 .
  refine R.loop (fun j:Nat=>[(0,bA),(3,v),(4,iV (k:Int)),(5,iV (j:Int))]) (fun j:Nat=>[ah.row 3 v acc]) (fun j:Nat=>[]) (fun j:Nat => ∀ (i:Nat) x,i<j->l[i]? = some x->¬ x.av=(k:Int)) (fun j:Nat=>l.length-j) 0 O (by exact fun i x hi=>absurd hi (Nat.not_lt_zero _)) (sF O) (dE [0] [] O) ?_
  rintro j HJ
  refine U ?_
  refine C (j<l.length) ?_ ?_ <;> intro h2
  .
   obtain ⟨x1,hx1⟩:=gE l j
   refine U ?_
   refine C (x1.av=(k:Int)) ?_ ?_ <;> intro h3
   .
    refine R.s O (s.bs (l:=([(k:Int)]:List Int)) lF jQ O O O O O O O) fun b1=>?_
    refine R.ap fun v1=>?_
    refine R.back (k+1,v1,(acc++([(k:Int)]))) O (by exact ⟨ae,ae,by rw [HA,Nat.add_sub_cancel];exact (BO ae O hx1 af).symm⟩) aG (sF O) (dE [1] [] O)
   refine R.back (j+1) O (by (exact fun i x hi hx=>if e:i=j then by subst e;rw [hx1] at hx;injection hx with hx;subst hx;assumption else HJ i x ae hx)) ae (sF O) (dE [0] [] O)
  refine R.back (k+1,v,acc) O (by exact ⟨ae,ae,by rw [HA,Nat.add_sub_cancel];exact (zD ae (fun i x hi=>HJ i x ae)).symm⟩) aG (sF O) (dE [0] [] O)
 exact R.ro 0 O Tryz.results148 O O (by (rw [HA];have:k=1000:=ae;subst this;rfl))
end
end Go.Proofs.YtnmpibjlnninjaaGreatDoor
