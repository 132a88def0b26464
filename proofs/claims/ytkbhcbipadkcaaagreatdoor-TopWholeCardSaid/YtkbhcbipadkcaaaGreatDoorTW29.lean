import Derived.Test.YtkbhcbipadkcaaaGreatDoorTW28
namespace Go.Proofs.YtkbhcbipadkcaaaGreatDoor
set_option linter.unusedVariables false
set_option linter.unusedSimpArgs false
set_option maxRecDepth 100000
set_option maxHeartbeats 90000000
section
open Go Go.RowKit
section
variable {n u t:Nat} {st:oP} {d e:cx}
theorem rest_of {m:Nat}(h:fN n m e)(hd:e.Down=false)(hk:e.Kept=e.Now)(hw:e.Wait=[]):Rest n e :=
 ⟨⟨h.kl,h.nl,h.ks,h.ns,by rw [hw];simp,h.Gd,h.f0,h.f1⟩,hd,h.f0,hk,hw⟩
theorem LS (z:Int)(l:List ByteArray):mM z [] l=l:=rfl
theorem LU (z:Int)(x:Turn)(l:List ByteArray):mM z [x] l=l∨mM z [x] l=l.set x.At.toNat x.Data:=by
 show oI z l (x,0)=l∨oI z l (x,0)=_
 unfold oI;dsimp only;split
 .exact .inr rfl
 .exact .inl rfl
theorem LV {m:Nat}(hO:fN n m e)(hd:e.Down=false){first:Int}(h:iF (e.Now.drop 102) first [] 0)(hn:166<=n):fF e 102 ((e.Now.length:Int)-102).toNat first=0:=by
 have hl:=hO.nl
 have HY:qi e 102 ((e.Now.length:Int)-102).toNat=e.Now.drop 102:=by
  have:=oc (d:=e) (f:=102) (k:=e.Now.length-102) hd (by omega)
  rw [show ((102:Nat):Int)=102 from rfl] at this
  rw [show ((e.Now.length:Int)-102).toNat=e.Now.length-102 by omega,this,List.take_of_length_le (by rw [List.length_drop];omega)]
 unfold fF;rw [HY,h.sc]
theorem Ej (h:SV n d st u t)(ht:t<=9999) :
 (∃e st',cu st d=(st',e,0)/\SV n e st' 0 (t+1)/\st'.Rows=st.Rows/\(d.Fuse = -1->e.Fuse = -1)) ∨
 (∃e,cu st d=(st,e,10)/\¬ d.Fuse = -1/\fN n 3000 e /\ ∀z,∃st' u',SV n (gD e z) st' u' (t+1)/\st'.Rows=st.Rows):=by
 have hR:=h.rest;have hS:=h.sn
 have h3:=hS.sd;have h4:=hS.rows.size;have h5:=hS.nb;have h6:=hS.len;have h1:=hS.eb;have h2:=hS.fb
 have hck:=Kn (s:=st) hR.ok (by omega)
 have hkn:=hR.kn;have hwt:=hR.wait
 have hM:st.L.Many=(n:Int)-102:=by rw [hS.lg]
 have Wm:st.L.First=st.First:=by rw [hS.lg]
 obtain ⟨f,hf⟩:∃f:Nat,f=2+((1-st.Side)*50).toNat:=⟨_,rfl⟩
 have hfi:(2:Int)+(1-st.Side)*50=(f:Int):=by omega
 have hb:ck1 st d=iO (f:Int) (aJ st.Rows) ((aJ st.Rows).size+1) 0 d:=by unfold ck1;rw [hfi]
 have old:∀e:cx,fN n 3000 e->e.Kept=d.Now->(∀x∈e.Wait,(f:Int)<=x.At/\x.At<(f:Int)+50) -> ∀z,∃st' u',SV n (gD e z) st' u' (t+1)/\st'.Rows=st.Rows:=fun e hO hk hw z =>
  ⟨st,u,⟨(h.fell hO hk f hf hw z).rest,(h.fell hO hk f hf hw z).sn.up (Nat.le_succ t)⟩,rfl⟩
 rcases Am (f:=f) (x:=aJ st.Rows) (by omega) ((aJ st.Rows).size+1) 0 d hR.down hR.fuse (by omega) (by omega) with ⟨g,N,T,q1,q0,q2,q3,q4,q5,q6⟩ | ⟨e,q0,q1,q2,T,q3,q4⟩
 rotate_left
 .
  right
  have hc:=SC (s:=st) (d:=d) (m:=e) (e:=10) (hb.trans q1) (by decide)
  rw [hc] at hck
  exact ⟨e,hc,q0,hck.up (by omega),old e (hck.up (by omega)) (q2.trans hkn) (by rw [q3,hwt,List.nil_append];exact q4)⟩
 have hm:=hb.trans q2
 rw [hwt,List.nil_append] at hm
 rcases ve (d:=⟨d.Kept,N,T,g,false⟩) rfl q1 with ⟨g2,q7,q8,q9⟩ | ⟨q8,q9⟩
 rotate_left
 .
  right
  have hc:=SD hm rfl (by rw [q9];exact j1)
  rw [q9] at hc
  rw [hc] at hck
  exact ⟨_,hc,fun hq=>q8 (q0 hq),hck.up (by omega),old _ (hck.up (by omega)) hkn q3⟩
 have hN:SN n N st u t:=hS.same q4 fun j hj=>q5 j (by omega)
 have hH:uB N f (aJ st.Rows):=fun k hk=>q6 k (Nat.zero_le _) hk
 have hm2:fN n 2450 (⟨N,N,[],g2,false⟩:cx):=by
  have:=(ub (f:=(f:Int)) (t:=aJ st.Rows) ((aJ st.Rows).size+1) 0 d 0 hR.ok).flush
  rw [q2,hwt,List.nil_append,q9] at this
  exact this.up (by omega)
 have Wn:SV n (⟨N,N,[],g2,false⟩:cx) st u t:=⟨rest_of hm2 rfl rfl rfl,hN⟩
 have TA:0<=(st.Epoch+1) % 2/\(st.Epoch+1) % 2<2:=⟨by omega,by omega⟩
 have hcs:(aN (uN st)).size<=48:=by rw [sE];decide
 rcases vd (d:=⟨N,N,[],g2,false⟩) (i:=(st.Epoch+1) % 2) (x:=aN (uN st)) rfl q7 TA.1 (by dsimp only;omega) hcs with ⟨g3,Wo,TS,LW⟩ | ⟨TS,LW⟩
 rotate_left
 .
  right
  have hc:=SE hm rfl (by rw [q9]) (by rw [q9,LW];exact j1)
  rw [q9] at hc;dsimp only at hc;rw [LW] at hc
  rw [hc] at hck
  refine ⟨_,hc,fun hq=>TS (q8 (q0 hq)),hck.up (by omega),fun z=>⟨st,u,⟨mJ hck z,?_⟩,rfl⟩⟩
  exact hN.up (Nat.le_succ t)
 have LX:∀L,L=(⟨102,(n:Int)-102,st.First+((n:Int)-102),0⟩:Lg)->SN n (N.set ((st.Epoch+1) % 2).toNat (full (aN (uN st)))) ⟨st.Epoch+1,1-st.Side,((aJ st.Rows).size:Int),st.First+((n:Int)-102),L,st.Rows⟩ 0 (t+1):=fun L hL =>
  hN.flip ht (hf▸hH) rfl L hL
 dsimp only at LW
 rw [List.nil_append] at LW
 rcases ve (d:=⟨N,N.set ((st.Epoch+1) % 2).toNat (full (aN (uN st))),[⟨(st.Epoch+1) % 2,full (aN (uN st))⟩],g3,false⟩) rfl Wo with ⟨g4,WM,UH,TB⟩ | ⟨UH,TB⟩
 .
  left
  have hc:=SG hm rfl (by rw [q9]) (by rw [q9];dsimp only;rw [LW]) (by rw [q9];dsimp only;rw [LW,TB])
  rw [q9] at hc;dsimp only at hc;rw [LW] at hc;dsimp only at hc;rw [TB] at hc;dsimp only at hc
  rw [hc] at hck
  have Iy:fN n 2500 (⟨N.set ((st.Epoch+1) % 2).toNat (full (aN (uN st))),N.set ((st.Epoch+1) % 2).toNat (full (aN (uN st))),[],g4,false⟩:cx):=hck.up (by omega)
  have hx:=LX _ rfl
  obtain ⟨b,W,hb1,hb2,hb3,hb4,hb5⟩:=hx.base
  have UI:iF ((N.set ((st.Epoch+1) % 2).toNat (full (aN (uN st)))).drop 102) (st.First+((n:Int)-102)) [] 0:=by
   obtain ⟨b',W',_,_,_,hl',_⟩:=hN.base
   have hdl:(N.drop 102).length=n-102:=by rw [List.length_drop,q4,h6]
   have hx:=hl'.next (by omega) (by rw [hdl];omega)
   rw [hdl] at hx
   rw [List.drop_set_of_lt (by omega),show st.First+((n:Int)-102)=st.First+((n-102:Nat):Int) by omega]
   exact hx
  have hu:=LV Iy rfl UI h5.1
  have hlen:((N.set ((st.Epoch+1) % 2).toNat (full (aN (uN st)))).length:Int)=(n:Int):=by rw [List.length_set,q4,h6]
  refine ⟨_,_,hc,⟨rest_of Iy rfl rfl rfl,?_⟩,rfl,fun hq=>UH (TS (q8 (q0 hq)))⟩
  unfold Sy
  dsimp only at hu ⊢
  rw [hlen] at hu
  rw [Wm,hM,hlen]
  exact LX _ (by rw [hu];rfl)
 .
  right
  have hc:=SF hm rfl (by rw [q9]) (by rw [q9];dsimp only;rw [LW]) (by rw [q9];dsimp only;rw [LW,TB];exact j1)
  rw [q9] at hc;dsimp only at hc;rw [LW] at hc;dsimp only at hc;rw [TB] at hc
  rw [hc] at hck
  refine ⟨_,hc,fun hq=>UH (TS (q8 (q0 hq))),hck.up (by omega),fun z=>?_⟩
  rcases LU z (⟨(st.Epoch+1) % 2,full (aN (uN st))⟩:Turn) N with hz|hz
  .
   refine ⟨st,u,⟨mJ hck z,?_⟩,rfl⟩
   show SN n (mM z _ N) st u (t+1)
   rw [hz];exact hN.up (Nat.le_succ t)
  .
   refine ⟨(⟨st.Epoch+1,1-st.Side,((aJ st.Rows).size:Int),st.First+((n:Int)-102),⟨102,(n:Int)-102,st.First+((n:Int)-102),0⟩,st.Rows⟩:oP),0,⟨mJ hck z,?_⟩,rfl⟩
   show SN n (mM z _ N) _ 0 (t+1)
   rw [hz];exact LX _ rfl
end
end
section
open Go Go.RowKit
section
variable {n u t:Nat} {st:oP} {d e:cx} {l:List Change}
theorem SN.QW {l0 l':List ByteArray}(h:SN n l0 st u t)(hl:l'.length=l0.length)(ht:l'.take 102=l0.take 102){b:List Change}{W':List (List Change)}{u':Nat}{rows:List Change}(hb:nn b)(hz:st.Size=((aJ b).size:Int))(hh:uB l0 (2+(st.Side*50).toNat) (aJ b))
 (NI:iF (l'.drop 102) st.First W' u') (hr:rows=ky b W') (hg:nn rows):SN n l' (ta st ⟨102,(n:Int)-102,st.First,(u':Int)⟩ rows) u' t:=by
 have h3:=h.sd;have h4:=hb.size;have h1:=h.eb
 have hs:∀j:Nat,j<102->l'[j]? = l0[j]?:=fun j hj=>by rw [<- List.getElem?_take_of_lt hj,ht,List.getElem?_take_of_lt hj]
 refine ⟨hl.trans h.len,h.nb,h.eb,h.fb,h.sd,?_,fun s hx=>?_,rfl,hg,b,W',hb,hz,fun k hk=>?_,NI,hr⟩
 .
  show l'[(st.Epoch % 2).toNat]? = _
  rw [hs _ (by omega)];exact h.hd
 .
  refine h.oh s ?_
  rw [<- hs _ (by omega)];exact hx
 .
  show l'[2+(st.Side*50).toNat+k]? = _
  rw [hs _ (by omega)];exact hh k hk
theorem FJ {b:List Change}{W:List (List Change)}{c:List Change}:ky b (W++[c])=bX (ky b W) c:=by
 unfold ky;rw [List.foldl_append];rfl
theorem Ek (h:SV n d st u t)(ht:t<=10000)(h0:¬ 62<l.length)(h1:jH l=0)(h2:¬ 60<(bX st.Rows l).length)(hr:¬ st.L.Many-st.L.Next<(l.length:Int)+1) :
 (∃e st',cy st.L d l=(st'.L,e,0)/\SV n e st' (u+l.length+1) t/\st'=ta st st'.L (bX st.Rows l)/\(d.Fuse = -1->e.Fuse = -1)) ∨
 (∃e,cy st.L d l=(st.L,e,10)/\¬ d.Fuse = -1 /\ ∀z,∃st' u',SV n (gD e z) st' u' t/\(st'.Rows=st.Rows∨st'.Rows=bX st.Rows l)):=by
 obtain ⟨b,W,hb,hz,hh,NI,hrw⟩:=h.sn.base
 have h3:=h.sn.nb;have h4:=h.sn.fb;have h6:=h.sn.len
 have hL:st.L=⟨((102:Nat):Int),((n-102:Nat):Int),st.First,(u:Int)⟩:=by rw [h.sn.lg,show ((n-102:Nat):Int)=(n:Int)-102 by omega];rfl
 have ha:jI ⟨((102:Nat):Int),((n-102:Nat):Int),st.First,(u:Int)⟩ l=0:=Bs h0 (by rw [<- hL];exact hr) h1
 have hgood:=h.sn.rows.apply h1 (by omega)
 have hnew:bX st.Rows l=ky b (W++[l]):=by rw [FJ,<- hrw]
 rcases NF (f:=102) (k:=n-102) h.rest (by omega) (by omega) (by omega) NI ha with ⟨e,q1,q2,q3,q4,q5⟩ | ⟨e,q1,q2,q3⟩
 .
  left
  have hlen:e.Now.length=d.Now.length:=by rw [q2.ok.nl,h6]
  refine ⟨e,ta st ⟨102,(n:Int)-102,st.First,((u+l.length+1:Nat):Int)⟩ (bX st.Rows l),?_,⟨q2,h.sn.QW hlen q3 hb hz hh q4 hnew hgood⟩,rfl,q5⟩
  rw [hL,q1]
  show (_,_,_)=((⟨102,(n:Int)-102,st.First,((u+l.length+1:Nat):Int)⟩:Lg),e,(0:Int))
  rw [show ((n-102:Nat):Int)=(n:Int)-102 by omega];rfl
 .
  right
  refine ⟨e,by rw [hL];exact q1,q2,fun z=>?_⟩
  obtain ⟨a1,a2,W',u',a3,a4⟩:=q3 z
  have hrs:Rest n (gD e z):=⟨a1,rfl,by show (-1:Int) <= -1;decide,rfl,rfl⟩
  have hlen:(mM z e.Wait e.Kept).length=d.Now.length:=by have:=a1.nl;rw [h6];exact this
  rcases a4 with a4|a4
  .exact ⟨_,u',⟨hrs,h.sn.QW (l':=mM z e.Wait e.Kept) hlen a2 hb hz hh a3 (rows:=st.Rows) (by rw [a4];exact hrw) h.sn.rows⟩,.inl rfl⟩
  .exact ⟨_,u',⟨hrs,h.sn.QW (l':=mM z e.Wait e.Kept) hlen a2 hb hz hh a3 (rows:=bX st.Rows l) (by rw [a4];exact hnew) hgood⟩,.inr rfl⟩
theorem SV.up (h:SV n d st u t){t':Nat}(ht:t<=t'):SV n d st u t':=⟨h.rest,h.sn.up ht⟩
theorem yB (h:SV n d st u t)(ht:t<=9999)(hf:nz st d.Now.length l=0) :
 (∃e st' u',bE st d l=(st',e,0)/\SV n e st' u' (t+1)/\st'.Rows=bX st.Rows l/\(d.Fuse = -1->e.Fuse = -1)/\(u':Int)=(if st.L.Many-st.L.Next<(l.length:Int)+1 then 0 else (u:Int))+(l.length:Int)+1) ∨
 (∃e st1,bE st d l=(st1,e,10)/\¬ d.Fuse = -1/\fN n 4000 e /\ ∀z,∃st' u',SV n (gD e z) st' u' (t+1)/\(st'.Rows=st.Rows∨st'.Rows=bX st.Rows l)):=by
 have hf2:=hf
 have h6:=h.sn.len;have h3:=h.sn.nb
 unfold nz at hf2
 split at hf2
 .cases hf2
 rename_i h0
 split at hf2
 .rename_i h1;exact absurd hf2 h1
 rename_i h1
 have h1:jH l=0:=by simpa using h1
 split at hf2
 .cases hf2
 rename_i h2
 have Vh:¬ 60<(bX st.Rows l).length:=fun hh=>h2 (.inl hh)
 have WN:¬ (d.Now.length:Int)-102<(l.length:Int)+1:=fun hh=>h2 (.inr hh)
 by_cases hr:st.L.Many-st.L.Next<(l.length:Int)+1
 .
  rw [if_pos hr]
  rcases Ej h ht with ⟨e1,s1,c1,c2,c3,c4⟩ | ⟨e1,c1,c2,c3,c4⟩
  .
   have hM:s1.L.Many=(n:Int)-102/\s1.L.Next=0:=by rw [c2.sn.lg];exact ⟨rfl,rfl⟩
   have hz:(cu st d).2.2=0:=by rw [c1]
   rcases Ek (l:=l) c2 (by omega) h0 h1 (by rw [c3];exact Vh) (by omega) with ⟨e,s2,a1,a2,a3,a4⟩ | ⟨e,a1,a2,a3⟩
   .
    left
    have hc:=Ot hf hr hz (by rw [c1];dsimp only;rw [a1])
    rw [c1] at hc;dsimp only at hc;rw [a1] at hc;dsimp only at hc
    rw [c3] at a3
    refine ⟨e,s2,0+l.length+1,hc.trans (by rw [<- a3]),a2,by rw [a3];rfl,fun hq=>a4 (c4 hq),by omega⟩
   .
    right
    have hc:=Ou hf hr hz (by rw [c1];dsimp only;rw [a1];exact j1)
    rw [c1] at hc;dsimp only at hc;rw [a1] at hc;dsimp only at hc
    have hO:=vG (lg:=s1.L) (c:=l) c2.rest.ok
    rw [a1] at hO
    refine ⟨e,_,hc,fun hq=>a2 (c4 hq),hO.up (by omega),fun z=>?_⟩
    obtain ⟨st',u',b1,b2⟩:=a3 z
    rw [c3] at b2
    exact ⟨st',u',b1,b2⟩
  .
   right
   have hc:=Oq hf hr (by rw [c1];exact j1)
   rw [c1] at hc
   refine ⟨e1,st,hc,c2,c3.up (by omega),fun z=>?_⟩
   obtain ⟨st',u',b1,b2⟩:=c4 z
   exact ⟨st',u',b1,.inl b2⟩
 .
  rw [if_neg hr]
  rcases Ek (l:=l) h (by omega) h0 h1 Vh hr with ⟨e,s2,a1,a2,a3,a4⟩ | ⟨e,a1,a2,a3⟩
  .
   left
   have hc:=Ov hf hr (by rw [a1])
   rw [a1] at hc;dsimp only at hc
   exact ⟨e,s2,u+l.length+1,hc.trans (by rw [<- a3]),a2.up (by omega),by rw [a3];rfl,a4,by omega⟩
  .
   right
   have hc:=Ow hf hr (by rw [a1];exact j1)
   rw [a1] at hc;dsimp only at hc
   have hO:=vG (lg:=st.L) (c:=l) h.rest.ok
   rw [a1] at hO
   refine ⟨e,_,hc,a2,hO.up (by omega),fun z=>?_⟩
   obtain ⟨st',u',b1,b2⟩:=a3 z
   exact ⟨st',u',b1.up (by omega),b2⟩
theorem vf:∀ (k i:Nat) (d:cx),d.Down=false->d.Fuse = -1->d.Now=List.replicate n (tW 48)->i+k<=n -> ∃T,kv k i (d,0)=(⟨d.Kept,d.Now,T,-1,false⟩,0)
 | 0,i,d,h1,h2,h3,h4=>⟨d.Wait,by rw [kv];obtain ⟨a,b,c,g,q⟩:=d;simp only at h1 h2;rw [h1,h2]⟩
 | k+1,i,d,h1,h2,h3,h4=>by
  have hw:=jy (d:=d) (i:=(i:Int)) (x:=⟨#[]⟩) h1 h2 (by omega) (by rw [h3,List.length_replicate];omega) (by decide)
  rw [Int.toNat_natCast,CU] at hw
  have hset:d.Now.set i (tW 48)=d.Now:=by rw [h3,List.set_replicate_self]
  rw [hset] at hw
  rw [kv,if_pos rfl,hw]
  exact vf k (i+1) ⟨d.Kept,d.Now,d.Wait++[⟨(i:Int),tW 48⟩],-1,false⟩ rfl rfl h3 (by omega)
theorem Ao {m:Nat}:∀ (k i:Nat) (s:cx×Int) (m:Nat),fN n m s.1->fN n (m+k) (kv k i s).1
 | 0,i,s,m,h=>h
 | k+1,i,s,m,h=>by
  rw [kv];split
  .exact (Ao (m:=m) k (i+1) _ (m+1) (h.write _ _)).up (by omega)
  .exact h.up (by omega)
def st0 (n:Nat):oP:=⟨1,0,0,1,⟨102,(n:Int)-102,1,0⟩,[]⟩
theorem NJ (h1:166<=n)(h2:n<=200):∃e,dL (dNew n)=(e,0)/\SV n e (st0 n) 0 0/\e.Fuse = -1:=by
 have hl:(dNew n).Now.length=n:=by simp [dNew]
 have w0:=jy (d:=dNew n) (i:=0) (x:=⟨#[]⟩) rfl rfl (by decide) (by omega) (by decide)
 have hN:(dNew n).Now=List.replicate n (tW 48):=rfl
 rw [show Int.toNat 0=0 from rfl,CU,hN,List.set_replicate_self] at w0
 obtain ⟨T,hT⟩:=vf (n:=n) (n-102) 102 ⟨(dNew n).Kept,List.replicate n (tW 48),(dNew n).Wait++[⟨0,tW 48⟩],-1,false⟩ rfl rfl rfl (by omega)
 have f1:xm (dNew n)=(⟨(dNew n).Kept,List.replicate n (tW 48),T,-1,false⟩,0):=by
  unfold xm;rw [hl,w0];exact hT
 have f2:=lB (d:=⟨(dNew n).Kept,List.replicate n (tW 48),T,-1,false⟩) rfl rfl
 have f3:=jy (d:=⟨List.replicate n (tW 48),List.replicate n (tW 48),[],-1,false⟩) (i:=1) (x:=aN ⟨1,0,0,1⟩) rfl rfl (by decide) (by dsimp only;rw [List.length_replicate];omega) (by rw [sE];decide)
 rw [show Int.toNat 1=1 from rfl] at f3
 dsimp only at f2 f3
 have f4:=lB (d:=⟨List.replicate n (tW 48),(List.replicate n (tW 48)).set 1 (full (aN ⟨1,0,0,1⟩)),[]++[⟨1,full (aN ⟨1,0,0,1⟩)⟩],-1,false⟩) rfl rfl
 dsimp only at f4
 have hok:fN n 2000 (⟨(List.replicate n (tW 48)).set 1 (full (aN ⟨1,0,0,1⟩)),(List.replicate n (tW 48)).set 1 (full (aN ⟨1,0,0,1⟩)),[],-1,false⟩:cx):=by
  have k1:=Ao (m:=0) (n-102) 102 (ap (dNew n) 0 ⟨#[]⟩) 1 ((AR n).write 0 ⟨#[]⟩)
  have k2:fN n (1+(n-102)) (xm (dNew n)).1:=by unfold xm;rw [hl];exact k1
  rw [f1] at k2
  have k3:=k2.flush;rw [f2] at k3
  have k4:=k3.write 1 (aN ⟨1,0,0,1⟩);dsimp only at k4;rw [f3] at k4
  have k5:=k4.flush;dsimp only at k5;rw [f4] at k5
  exact k5.up (by omega)
 refine ⟨_,(Qi (by omega) f1 rfl (by rw [f2]) (by rw [f2];dsimp only;rw [f3])).trans (by rw [f2];dsimp only;rw [f3];dsimp only;rw [f4]),⟨rest_of hok rfl rfl rfl,?_⟩,rfl⟩
 refine ⟨by simp,⟨h1,h2⟩,⟨by show (1:Int)<=1;decide,by show (1:Int)<=1+((0:Nat):Int);decide⟩,⟨by show (1:Int)<=1;decide,by show (1:Int)<=1+100*((0:Nat):Int);decide⟩,.inl rfl,?_,fun s hs=>?_,rfl,nn.nil,[],[],nn.nil,rfl,fun k hk=>?_,iF.blank 1 fun s hs=>?_,rfl⟩
 .
  show ((List.replicate n (tW 48)).set 1 (full (aN ⟨1,0,0,1⟩)))[1]? = some (full (aN ⟨1,0,0,1⟩))
  rw [List.getElem?_set_self (by rw [List.length_replicate];omega)]
 .
  have hs':((List.replicate n (tW 48)).set 1 (full (aN ⟨1,0,0,1⟩)))[0]? = some s:=hs
  rw [List.getElem?_set_ne (by decide),List.getElem?_replicate] at hs'
  rw [if_pos (by omega)] at hs'
  rw [<- Option.some.inj hs',IP];show (0:Int)<1;decide
 .
  have:(aJ []).size=0:=rfl
  omega
 .
  have hs':s∈((List.replicate n (tW 48)).set 1 (full (aN ⟨1,0,0,1⟩))).drop 102:=hs
  rw [List.drop_set_of_lt (by decide),List.drop_replicate] at hs'
  rw [List.eq_of_mem_replicate hs'];exact CS
end
end
section
open Go Go.RowKit
structure TD where
  Rows:List Change
  Used:Int
  Many:Int
section
variable {m:TD} {l:List Change}
end
end
section
open Go Go.RowKit
section
variable {n u t:Nat} {sc:ka} {lg:Lg} {d:cx} {l:List Change} {m:TD}
theorem G4 (s:oP):mkS s.c s.L=s:=rfl
theorem SV.ok (h:SV n d (mkS sc lg) u t):fN d.Now.length 60000 d/\d.Now.length<=200/\166<=d.Now.length:=by
 have h1:=h.sn.len;have h2:=h.sn.nb
 exact ⟨h1.symm▸h.rest.ok.up (by omega),by omega,by omega⟩
theorem SV.bnd (h:SV n d (mkS sc lg) u t)(ht:t<=10000):0<=sc.Epoch/\sc.Epoch<=1000000000/\0<=sc.Side/\sc.Side<=1/\0<=lg.Many/\lg.Many<=1000/\1<=lg.First/\lg.First<=1000000000/\0<=lg.From/\lg.From<=1000/\0<=lg.Next/\lg.Next<=1000:=by
 have e1:1<=sc.Epoch/\sc.Epoch<=1+(t:Int):=h.sn.eb
 have e2:1<=sc.First/\sc.First<=1+100*(t:Int):=h.sn.fb
 have e3:sc.Side=0∨sc.Side=1:=h.sn.sd
 have e4:lg=⟨102,(n:Int)-102,sc.First,(u:Int)⟩:=h.sn.lg
 have e5:=h.sn.nb;have e6:=h.sn.len
 obtain ⟨b,W,_,_,_,hl,_⟩:=h.sn.base
 have e7:=hl.ule
 rw [List.length_drop] at e7
 rw [e4];dsimp only
 refine ⟨?_,?_,?_,?_,?_,?_,?_,?_,?_,?_,?_,?_⟩ <;> omega
theorem SV.good (h:SV n d (mkS sc lg) u t):sc.Rows.length<=60/\(∀c∈sc.Rows,iI c=0)/\dt sc.Rows:=⟨h.sn.rows.len,h.sn.rows.ok,h.sn.rows.rise⟩
theorem SV.room (h:SV n d (mkS sc lg) u t):lg.Many=(n:Int)-102/\lg.Next=(u:Int)/\d.Down=false/\d.Now.length=n/\166<=n/\n<=200:=by
 have e4:lg=⟨102,(n:Int)-102,sc.First,(u:Int)⟩:=h.sn.lg
 exact ⟨by rw [e4],by rw [e4],h.rest.down,h.sn.len,h.sn.nb.1,h.sn.nb.2⟩
theorem SV.opened (h:SV n d (mkS sc lg) u t)(ht:t<=10000):kx d=0/\(bA d).c=sc/\(bA d).L=lg:=by
 obtain ⟨h1,h2⟩:=yA h.rest.ok h.rest.down h.sn ht
 exact ⟨h1,by rw [h2];rfl,by rw [h2];rfl⟩
theorem NK (h:SV n d (mkS sc lg) u t)(ht:t<=9999)(hf:d.Fuse = -1) :
 (cu (mkS sc lg) d).2.2=0/\(cu (mkS sc lg) d).1.c.Rows=sc.Rows/\(cu (mkS sc lg) d).2.1.Fuse = -1/\SV n (cu (mkS sc lg) d).2.1 (mkS (cu (mkS sc lg) d).1.c (cu (mkS sc lg) d).1.L) 0 (t+1):=by
 rcases Ej h ht with ⟨e1,s1,a1,a2,a3,a4⟩ | ⟨e1,a1,a2,_⟩
 .rw [a1];exact ⟨rfl,a3,a4 hf,a2⟩
 .exact absurd hf a2
theorem LY {k:Nat}(h1:166<=k)(h2:k<=200):(dL (dNew k)).2=0/\(dL (dNew k)).1.Fuse = -1/\kx (dL (dNew k)).1=0/\SV k (dL (dNew k)).1 (mkS (bA (dL (dNew k)).1).c (bA (dL (dNew k)).1).L) 0 0/\(bA (dL (dNew k)).1).c.Rows=[]:=by
 obtain ⟨e,q1,q2,q3⟩:=NJ h1 h2
 have q4:=yA q2.rest.ok q2.rest.down q2.sn (by omega)
 rw [q1];dsimp only
 rw [q4.2,G4]
 exact ⟨rfl,q3,q4.1,q2,rfl⟩
end
end
section
open Go Go.RowKit
section
variable {n u t:Nat} {st:oP} {sc:ka} {lg:Lg} {d:cx} {l:List Change}
theorem SV.reopen (h:SV n d st u t)(ht:t<=10000):kx d=0/\SV n d (mkS (bA d).c (bA d).L) u t/\(bA d).c.Rows=st.Rows:=by
 obtain ⟨h1,h2⟩:=yA h.rest.ok h.rest.down h.sn ht
 rw [h2,G4];exact ⟨h1,h,rfl⟩
theorem SV.again (h:SV n d st u t)(z:Int):SV n (gD d z) st u t:=by
 refine ⟨mJ h.rest.ok z,?_⟩
 show SN n (mM z d.Wait d.Kept) st u t
 rw [h.rest.wait,LS,h.rest.kn];exact h.sn
end
end
section
open Go Go.RowKit
structure kF where
  R:aC
abbrev Vi:Type:=kF×ka×cx×Lg×Int
abbrev l7 (a b:aC):List Change:=gT (mO (bH a) (bH b))
def UJ (k:kF)(r:aC)(c:oP×cx×Int):Vi:=if c.2.2=0 then (⟨r⟩,c.1.c,c.2.1,c.1.L,c.2.2) else (k,c.1.c,c.2.1,c.1.L,c.2.2)
def e8 (k:kF)(sc:ka)(d:cx)(lg:Lg)(z:aC×Int):Vi :=
  if ¬ z.2=0 then (k,sc,d,lg,z.2) else if 0<(l7 k.R z.1).length then UJ k z.1 (bE (mkS sc lg) d (l7 k.R z.1)) else (⟨z.1⟩,sc,d,lg,z.2)
section
variable {k:kF} {sc:ka} {d:cx} {lg:Lg} {z:aC×Int}
theorem OQ (h:¬ z.2=0):e8 k sc d lg z=(k,sc,d,lg,z.2):=if_pos h
theorem OT (h:z.2=0)(h1:¬ 0<(l7 k.R z.1).length):e8 k sc d lg z=(⟨z.1⟩,sc,d,lg,z.2):=by unfold e8;rw [if_neg (by omega),if_neg h1]
theorem OU (h:z.2=0)(h1:0<(l7 k.R z.1).length)(h2:(bE (mkS sc lg) d (l7 k.R z.1)).2.2=0):e8 k sc d lg z=(⟨z.1⟩,(bE (mkS sc lg) d (l7 k.R z.1)).1.c,(bE (mkS sc lg) d (l7 k.R z.1)).2.1,(bE (mkS sc lg) d (l7 k.R z.1)).1.L,(bE (mkS sc lg) d (l7 k.R z.1)).2.2):=by unfold e8;rw [if_neg (by omega),if_pos h1];exact if_pos h2
theorem OV (h:z.2=0)(h1:0<(l7 k.R z.1).length)(h2:¬ (bE (mkS sc lg) d (l7 k.R z.1)).2.2=0):e8 k sc d lg z=(k,(bE (mkS sc lg) d (l7 k.R z.1)).1.c,(bE (mkS sc lg) d (l7 k.R z.1)).2.1,(bE (mkS sc lg) d (l7 k.R z.1)).1.L,(bE (mkS sc lg) d (l7 k.R z.1)).2.2):=by unfold e8;rw [if_neg (by omega),if_pos h1];exact if_neg h2
end
structure KI (d:cx)(sc:ka)(lg:Lg)(r:aC)(u t:Nat):Prop where
  sv:SV 170 d (mkS sc lg) u t
  rows:sc.Rows=bH r
  inv:Inv r
section
variable {d e:cx} {sc:ka} {lg:Lg} {r:aC} {u t k:Nat} {a:dQ} {z:aC×Int}
theorem KI.up (h:KI d sc lg r u t){t':Nat}(ht:t<=t'):KI d sc lg r u t':=⟨h.sv.up ht,h.rows,h.inv⟩
theorem vQ {a b:aC}(ha:Inv a)(hb:Inv b):l7 a b=dU (bH a) (bH b):=Ea (fZ ha) (fZ hb)
theorem KI.com (h:KI d sc lg r u t){q:aC}(hq:Inv q)(hl:(l7 r q).length<=59):nz (mkS sc lg) d.Now.length (l7 r q)=0:=by
 have e:=vQ h.inv hq
 have h1:=h.sv.room
 have ha:bX (mkS sc lg).Rows (l7 r q)=bH q:=by
  show bX sc.Rows _=_
  rw [e,h.rows];exact Cb h.inv hq
 unfold nz
 rw [if_neg (by omega),if_neg (by rw [e,QU h.inv hq];decide),if_neg]
 rw [ha]
 have:=oq hq
 omega
theorem QX (h:Inv r){q:aC}(hq:Inv q)(hl:¬ 0<(l7 r q).length):bH q=bH r:=by
 have h1:dU (bH r) (bH q)=[]:=by rw [<- vQ h hq];exact List.eq_nil_of_length_eq_zero (by omega)
 have h2:=Cb h hq
 rw [h1] at h2;exact h2.symm
theorem KI.do (h:KI d sc lg r u t)(ht:t<=9999)(hz:z.2=0->Inv z.1/\(l7 r z.1).length<=59) :
 (¬ z.2=0->e8 ⟨r⟩ sc d lg z=(⟨r⟩,sc,d,lg,z.2)) /\
 (z.2=0->((e8 ⟨r⟩ sc d lg z).2.2.2.2=0/\(e8 ⟨r⟩ sc d lg z).1.R=z.1/\(d.Fuse = -1->(e8 ⟨r⟩ sc d lg z).2.2.1.Fuse = -1) /\ ∃u2,KI (e8 ⟨r⟩ sc d lg z).2.2.1 (e8 ⟨r⟩ sc d lg z).2.1 (e8 ⟨r⟩ sc d lg z).2.2.2.1 z.1 u2 (t+1)) ∨
  ((e8 ⟨r⟩ sc d lg z).2.2.2.2=10/\(e8 ⟨r⟩ sc d lg z).1.R=r/\¬ d.Fuse = -1/\fN 170 4000 (e8 ⟨r⟩ sc d lg z).2.2.1 /\
   ∀q,∃sc' Vj u2,KI (gD (e8 ⟨r⟩ sc d lg z).2.2.1 q) sc' Vj r u2 (t+1)∨KI (gD (e8 ⟨r⟩ sc d lg z).2.2.1 q) sc' Vj z.1 u2 (t+1))):=by
 refine ⟨fun h0=>OQ h0,fun h0=>?_⟩
 obtain ⟨hi,hl⟩:=hz h0
 by_cases h1:0<(l7 r z.1).length
 .
  have hc:=h.com hi hl
  have happ:bX (mkS sc lg).Rows (l7 r z.1)=bH z.1:=by
   show bX sc.Rows _=_
   rw [vQ h.inv hi,h.rows];exact Cb h.inv hi
  have hst:∀s:oP,s.c.Rows=s.Rows:=fun _=>rfl
  rcases yB h.sv ht hc with ⟨e1,s1,u1,a1,a2,a3,a4,_⟩ | ⟨e1,s1,a1,a2,a3,a4⟩
  .
   left
   rw [OU (k:=⟨r⟩) h0 h1 (by rw [a1])]
   dsimp only
   rw [a1]
   exact ⟨rfl,rfl,a4,u1,a2,(hst s1).trans (a3.trans happ),hi⟩
  .
   right
   rw [OV (k:=⟨r⟩) h0 h1 (by rw [a1];show ¬ (10:Int)=0;decide)]
   dsimp only
   rw [a1]
   refine ⟨rfl,rfl,a2,a3,fun q=>?_⟩
   obtain ⟨s2,u2,b1,b2⟩:=a4 q
   refine ⟨s2.c,s2.L,u2,?_⟩
   rcases b2 with b2|b2
   .exact .inl ⟨b1,(hst s2).trans (b2.trans h.rows),h.inv⟩
   .exact .inr ⟨b1,(hst s2).trans (b2.trans happ),hi⟩
 .
  left
  rw [OT (k:=⟨r⟩) h0 h1]
  exact ⟨h0,rfl,id,u,h.sv.up (Nat.le_succ t),h.rows.trans (QX h.inv hi h1).symm,hi⟩
theorem KI.save (h:KI d sc lg r u t)(ht:t<=9999)(hf:d.Fuse = -1):(cu (mkS sc lg) d).2.2=0/\(cu (mkS sc lg) d).2.1.Fuse = -1/\KI (cu (mkS sc lg) d).2.1 (cu (mkS sc lg) d).1.c (cu (mkS sc lg) d).1.L r 0 (t+1):=by
 obtain ⟨a1,a2,a3,a4⟩:=NK h.sv ht hf
 exact ⟨a1,a3,a4,a2.trans h.rows,h.inv⟩
theorem KI.opened (h:KI d sc lg r u t)(ht:t<=9999):kx d=0/\(bA d).c=sc/\(bA d).L=lg/\cr sc.Rows=(bj r,0)/\KI d sc lg (bj r) u t:=by
 obtain ⟨a1,a2,a3⟩:=h.sv.opened (by omega)
 exact ⟨a1,a2,a3,by rw [h.rows];exact u6 h.inv,h.sv,h.rows.trans (FG h.inv).symm,(jz h.inv).1⟩
theorem KI.again (h:KI d sc lg r u t)(z:Int):KI (gD d z) sc lg r u t:=⟨h.sv.again z,h.rows,h.inv⟩
theorem vR (h:Inv r)(a:dQ):(cE r a).2=0->Inv (cE r a).1/\(l7 r (cE r a).1).length<=59:=fun hm=>⟨h.do hm,by rw [vQ h (h.do hm)];exact QT h hm⟩
end
end
section
open Go Go.RowKit
attribute [local irreducible] dNew dL bA kx bE
theorem bR {α:Type}{c:Prop}[Decidable c]{x y:α×Int}(h:0<=x.2)(h':0<=y.2):0<=(if c then x else y).2:=by split <;> assumption
theorem Ap {r:aC}(a:dQ):0<=(cE r a).2:=by
 have hd:=fun (w:ak) id rg b=>rO w id rg b
 have dn:∀ (w:ak) id rg b,0<=(derived w id rg b).2:=fun w id rg b=>by have:=hd w id rg b;omega
 have hT:0<=(eB r a.P).2.2.2:=by
  have:=qv r a.P 2 1;unfold eB;(repeat' split) <;> first|(dsimp only;omega)|omega
 unfold cE
 refine bR ?_ (bR ?_ (bR ?_ (bR ?_ (bR ?_ (bR ?_ (bR ?_ (bR hT (Int.le_refl 0))))))))
 .exact bR (bR (bR (by decide) (by exact Int.le_refl 0)) (oU r a.P)) (by decide)
 .exact bR (bR (bR (bR (by decide) (bR (by exact Int.le_refl 0) (dn _ _ _ _))) (by decide)) (oU r a.Q)) (j6 r a.P)
 .exact bR (bR (by exact Int.le_refl 0) (oU r _)) (j6 r a.P)
 .exact bR (by exact Int.le_refl 0) (j6 r a.P)
 .exact bR (by exact Int.le_refl 0) (j6 r a.P)
 .exact bR (bR (by decide) (by exact Int.le_refl 0)) (qv r a.P 1 2)
 .
  refine bR (bR (by decide) (bR (by decide) (bR (by exact Int.le_refl 0) (bR ?_ (by decide))))) (qv r a.P 2 2)
  exact bR (bR (by decide) (bR (by exact Int.le_refl 0) (dn _ _ _ _))) (j6 r _)
abbrev nR:aC:=⟨[],[],[],[],1,1⟩
theorem LZ:Ok nR:=Sz.new.ok (by decide)
theorem l8:Inv nR:=Inv.new
theorem Aq:bj nR=nR:=yu l8 rfl
theorem L5:bH nR=[DJ nR]:=by unfold bH;rw [Aq];rfl
def rG (d:cx):oP×cx×Int:=bE (mkS (bA (dL d).1).c (bA (dL d).1).L) (dL d).1 (bH nR)
theorem El {dk:cx}(h:dk=dNew 170):(dL dk).2=0/\(dL dk).1.Fuse = -1/\kx (dL dk).1=0/\SV 170 (dL dk).1 (mkS (bA (dL dk).1).c (bA (dL dk).1).L) 0 0/\(bA (dL dk).1).c.Rows=[]:=by
 subst h;exact LY (by omega) (by omega)
def ij:cx:=(rG (dNew 170)).2.1
def iR:ka:=(bA ij).c
def lT:Lg:=(bA ij).L
noncomputable def gi:kF:=⟨(cr iR.Rows).1⟩
theorem TE:(rG (dNew 170)).2.2=0/\ij.Fuse = -1 /\ ∃s,SV 170 ij s 2 1/\s.Rows=bH nR:=by
 obtain ⟨f1,f2,f3,f4,f5⟩:=El rfl
 have hl:(bH nR).length=1:=by rw [L5];rfl
 have hap:bX [] (bH nR)=bH nR:=by
  have:=u7 (a:=[]) (b:=bH nR) List.Pairwise.nil (fZ l8) (fun c hc=>(ry l8 c hc).g)
  rwa [Ag] at this
 have TF:bX (mkS (bA (dL (dNew 170)).1).c (bA (dL (dNew 170)).1).L).Rows (bH nR)=bH nR:=by
  show bX (bA (dL (dNew 170)).1).c.Rows _=_
  rw [f5];exact hap
 have h6:=f4.room
 have hc:nz (mkS (bA (dL (dNew 170)).1).c (bA (dL (dNew 170)).1).L) (dL (dNew 170)).1.Now.length (bH nR)=0:=by
  unfold nz
  rw [if_neg (by omega),if_neg (by rw [yw _ (fun c hc=>(ry l8 c hc).ok)];decide),if_neg]
  rw [TF];omega
 rcases yB f4 (by omega) hc with ⟨e1,s1,u1,a1,a2,a3,a4,a5⟩ | ⟨e1,s1,a1,a2,_⟩
 .
  have hu:u1=2:=by
   rw [hl] at a5
   split at a5 <;> omega
  subst hu
  unfold ij rG;rw [a1]
  exact ⟨rfl,a4 f2,s1,a2,a3.trans TF⟩
 .exact absurd f2 a2
theorem ov:(rG (dNew 170)).2.2=0/\ij.Fuse = -1/\kx ij=0/\(cr iR.Rows).2=0/\gi.R=nR/\KI ij iR lT nR 2 1:=by
 obtain ⟨h1,h2,s,h3,h4⟩:=TE
 obtain ⟨a1,a2,a3⟩:=h3.reopen (by omega)
 have e:iR.Rows=bH nR:=a3.trans h4
 have hp:cr iR.Rows=(nR,0):=by rw [e,u6 l8,Aq]
 exact ⟨h1,h2,a1,by rw [hp],by show (cr iR.Rows).1=_;rw [hp],a2,e,l8⟩
theorem Cc:(rG (dNew 170)).2.2=0/\ij.Fuse = -1/\kx ij=0/\(cr iR.Rows).2=0/\gi.R=nR /\ ∃u,KI ij iR lT nR u 1 :=
 ⟨ov.1,ov.2.1,ov.2.2.1,ov.2.2.2.1,ov.2.2.2.2.1,2,ov.2.2.2.2.2⟩
abbrev QY:Type:=kF×ka×cx×Lg
def qC (s:QY)(a:dQ):QY :=
  if a.Kind=(⟨#[115,97,118,101]⟩:ByteArray) then (s.1,(cu (mkS s.2.1 s.2.2.2) s.2.2.1).1.c,(cu (mkS s.2.1 s.2.2.2) s.2.2.1).2.1,(cu (mkS s.2.1 s.2.2.2) s.2.2.1).1.L)
  else ((e8 s.1 s.2.1 s.2.2.1 s.2.2.2 (cE s.1.R a)).1,(e8 s.1 s.2.1 s.2.2.1 s.2.2.2 (cE s.1.R a)).2.1,(e8 s.1 s.2.1 s.2.2.1 s.2.2.2 (cE s.1.R a)).2.2.1,(e8 s.1 s.2.1 s.2.2.1 s.2.2.2 (cE s.1.R a)).2.2.2.1)
noncomputable def aX (l:List dQ):QY:=l.foldl qC (gi,iR,ij,lT)
theorem Ar {l:List dQ}{k:Nat}{a:dQ}(h:l[k]? = some a):aX (l.take (k+1))=qC (aX (l.take k)) a:=by
 unfold aX;rw [List.take_add_one,h];simp
theorem Em {k:kF}{sc:ka}{d:cx}{lg:Lg}{a:dQ}(h:a.Kind=(⟨#[115,97,118,101]⟩:ByteArray)):qC (k,sc,d,lg) a=(k,(cu (mkS sc lg) d).1.c,(cu (mkS sc lg) d).2.1,(cu (mkS sc lg) d).1.L):=if_pos h
theorem IW {k:kF}{sc:ka}{d:cx}{lg:Lg}{a:dQ}(h:¬ a.Kind=(⟨#[115,97,118,101]⟩:ByteArray)):qC (k,sc,d,lg) a=((e8 k sc d lg (cE k.R a)).1,(e8 k sc d lg (cE k.R a)).2.1,(e8 k sc d lg (cE k.R a)).2.2.1,(e8 k sc d lg (cE k.R a)).2.2.2.1):=if_neg h
theorem L6 {r:aC}{k:Nat}(h:Sz k r)(a:dQ)(hk:k<=990):(cE r a).2=0->Ok (cE r a).1:=fun _=>(K1 h a).ok (by omega)
def PI (s:QY)(t:Nat):Prop:=(∃u,KI s.2.2.1 s.2.1 s.2.2.2 s.1.R u (t+1))/\s.2.2.1.Fuse = -1/\Sz t s.1.R
theorem G5 (k:kF):(⟨k.R⟩:kF)=k:=rfl
theorem NL {s:QY}{t:Nat}(h:PI s t)(ht:t<=9000)(a:dQ):PI (qC s a) (t+1):=by
 obtain ⟨⟨u,hk⟩,hf,hz⟩:=h
 obtain ⟨k,sc,d,lg⟩:=s
 dsimp only at hk hf hz
 unfold qC
 split
 .
  obtain ⟨a1,a2,a3⟩:=hk.save (by omega) hf
  exact ⟨⟨0,a3⟩,a2,hz.up (Nat.le_succ t)⟩
 .
  obtain ⟨b1,b2⟩:=hk.do (z:=cE k.R a) (by omega) (vR hk.inv a)
  dsimp only
  rw [G5] at b1 b2
  by_cases h0:(cE k.R a).2=0
  .
   rcases b2 h0 with ⟨c1,c2,c3,u2,c4⟩ | ⟨_,_,c3,_⟩
   .
    refine ⟨⟨u2,?_⟩,c3 hf,?_⟩
    .dsimp only;rw [c2];exact c4
    .dsimp only;rw [c2];exact K1 hz a
   .exact absurd hf c3
  .
   rw [b1 h0]
   exact ⟨⟨u,hk.up (Nat.le_succ _)⟩,hf,hz.up (Nat.le_succ t)⟩
theorem G6:∀ (l:List dQ),l.length<=9000->PI (aX l) l.length:=by
 have key:∀ (l:List dQ) (s:QY) (t:Nat),PI s t->t+l.length<=9000->PI (l.foldl qC s) (t+l.length):=by
  intro l
  induction l with
  | nil=>intro s t h _;exact h
  | cons a l ih =>
   intro s t h ht
   rw [List.length_cons] at ht ⊢
   have:=ih (qC s a) (t+1) (NL h (by omega) a) (by omega)
   rwa [show t+1+l.length=t+(l.length+1) by omega] at this
 intro l hl
 obtain ⟨_,h2,_,_,h5,u,h6⟩:=Cc
 have:=key l (gi,iR,ij,lT) 0 ⟨⟨u,by dsimp only;rw [h5];exact h6⟩,h2,by dsimp only;rw [h5];exact Sz.new⟩ (by omega)
 rwa [Nat.zero_add] at this
theorem PI.acts {s:QY}{t:Nat}(h:PI s t)(ht:t<=9000)(a:dQ):(e8 s.1 s.2.1 s.2.2.1 s.2.2.2 (cE s.1.R a)).2.2.2.2=(cE s.1.R a).2 /\
 (¬ (cE s.1.R a).2=0->(e8 s.1 s.2.1 s.2.2.1 s.2.2.2 (cE s.1.R a)).1.R=s.1.R)/\((cE s.1.R a).2=0->(e8 s.1 s.2.1 s.2.2.1 s.2.2.2 (cE s.1.R a)).1.R=(cE s.1.R a).1):=by
 obtain ⟨⟨u,hk⟩,hf,hz⟩:=h
 obtain ⟨k,sc,d,lg⟩:=s
 dsimp only at hk hf hz ⊢
 obtain ⟨b1,b2⟩:=hk.do (z:=cE k.R a) (by omega) (vR hk.inv a)
 rw [G5] at b1 b2
 by_cases h0:(cE k.R a).2=0
 .
  rcases b2 h0 with ⟨c1,c2,_⟩ | ⟨_,_,c3,_⟩
  .exact ⟨c1.trans h0.symm,fun q=>absurd h0 q,fun _=>c2⟩
  .exact absurd hf c3
 .
  rw [b1 h0]
  exact ⟨rfl,fun _=>rfl,fun q=>absurd q h0⟩
section
variable {d:cx} {sc:ka} {lg:Lg} {r:aC} {u t:Nat}
theorem KI.small (h:KI d sc lg r u t):sc.Rows.length<=60 /\ ∀c∈sc.Rows,c.Key.size<=1000/\c.Val.size<=1000:=by
 rw [h.rows];exact ⟨oq h.inv,FE h.inv⟩
theorem KI.pre (h:KI d sc lg r u t)(ht:t<=9999):(fN d.Now.length 60000 d/\d.Now.length<=200/\166<=d.Now.length)/\(0<=sc.Epoch/\sc.Epoch<=1000000000/\0<=sc.Side/\sc.Side<=1/\0<=lg.Many/\lg.Many<=1000/\1<=lg.First/\lg.First<=1000000000/\0<=lg.From/\lg.From<=1000/\0<=lg.Next/\lg.Next<=1000)/\sc.Rows.length<=60/\(∀c∈sc.Rows,iI c=0):=by
 have g:=h.sv.good
 exact ⟨h.sv.ok,h.sv.bnd (by omega),g.1,g.2.1⟩
theorem KI.anew (h:KI d sc lg r u t)(ht:t<=9999):d.Down=false/\kx d=0/\(fN d.Now.length 90000 d/\d.Now.length<=200)/\(cr (bA d).c.Rows).2=0/\((bA d).c.Rows.length<=60 /\ ∀c∈(bA d).c.Rows,c.Key.size<=1000/\c.Val.size<=1000)/\(cr (bA d).c.Rows).1=bj r/\KI d (bA d).c (bA d).L (bj r) u t:=by
 obtain ⟨a1,a2,a3,a4,a5⟩:=h.opened ht
 have g:=h.sv.ok
 rw [a2,a3]
 exact ⟨h.sv.room.2.2.1,a1,⟨g.1.up (by omega),g.2.1⟩,by rw [a4],h.small,by rw [a4],a5⟩
end
end
end Go.Proofs.YtkbhcbipadkcaaaGreatDoor
