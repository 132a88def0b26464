import Derived.Test.YtkbhcbipadkcaaaGreatDoorTS28
namespace Go.Proofs.YtkbhcbipadkcaaaGreatDoor
set_option linter.unusedVariables false
set_option linter.unusedSimpArgs false
set_option maxRecDepth 100000
set_option maxHeartbeats 90000000
section
open Go Go.RowKit
section
variable {n u t:Nat} {st:oE} {d e:cw}
theorem rest_of {m:Nat}(h:fM n m e)(hd:e.Down=false)(hk:e.Kept=e.Now)(hw:e.Wait=[]):Rest n e :=
 ⟨⟨h.kl,h.nl,h.ks,h.ns,by rw [hw];simp,h.EK,h.f0,h.f1⟩,hd,h.f0,hk,hw⟩
theorem Ly (z:Int)(l:List ByteArray):lA z [] l=l:=rfl
theorem Lz (z:Int)(x:Turn)(l:List ByteArray):lA z [x] l=l∨lA z [x] l=l.set x.At.toNat x.Data:=by
 show nI z l (x,0)=l∨nI z l (x,0)=_
 unfold nI;dsimp only;split
 .exact .inr rfl
 .exact .inl rfl
theorem LA {m:Nat}(hO:fM n m e)(hd:e.Down=false){first:Int}(h:iE (e.Now.drop 102) first [] 0)(hn:166<=n):fE e 102 ((e.Now.length:Int)-102).toNat first=0:=by
 have hl:=hO.nl
 have HV:p6 e 102 ((e.Now.length:Int)-102).toNat=e.Now.drop 102:=by
  have:=nT (d:=e) (f:=102) (k:=e.Now.length-102) hd (by omega)
  rw [show ((102:Nat):Int)=102 from rfl] at this
  rw [show ((e.Now.length:Int)-102).toNat=e.Now.length-102 by omega,this,List.take_of_length_le (by rw [List.length_drop];omega)]
 unfold fE;rw [HV,h.sc]
theorem LB (h:SV n d st u t)(ht:t<=9999) :
 (∃e st',cU st d=(st',e,0)/\SV n e st' 0 (t+1)/\st'.Rows=st.Rows/\(d.Fuse = -1->e.Fuse = -1)) ∨
 (∃e,cU st d=(st,e,10)/\¬ d.Fuse = -1/\fM n 3000 e /\ ∀z,∃st' u',SV n (a8 e z) st' u' (t+1)/\st'.Rows=st.Rows):=by
 have hR:=h.rest;have hS:=h.sn
 have h3:=hS.sd;have h4:=hS.rows.size;have h5:=hS.nb;have h6:=hS.len;have h1:=hS.eb;have h2:=hS.fb
 have hck:=Kd (s:=st) hR.ok (by omega)
 have hkn:=hR.kn;have hwt:=hR.wait
 have hM:st.L.Many=(n:Int)-102:=by rw [hS.lg]
 have Wn:st.L.First=st.First:=by rw [hS.lg]
 obtain ⟨f,hf⟩:∃f:Nat,f=2+((1-st.Side)*50).toNat:=⟨_,rfl⟩
 have hfi:(2:Int)+(1-st.Side)*50=(f:Int):=by omega
 have hb:ck1 st d=iN (f:Int) (aJ st.Rows) ((aJ st.Rows).size+1) 0 d:=by unfold ck1;rw [hfi]
 have old:∀e:cw,fM n 3000 e->e.Kept=d.Now->(∀x∈e.Wait,(f:Int)<=x.At/\x.At<(f:Int)+50) -> ∀z,∃st' u',SV n (a8 e z) st' u' (t+1)/\st'.Rows=st.Rows:=fun e hO hk hw z =>
  ⟨st,u,⟨(h.fell hO hk f hf hw z).rest,(h.fell hO hk f hf hw z).sn.up (Nat.le_succ t)⟩,rfl⟩
 rcases Ad (f:=f) (x:=aJ st.Rows) (by omega) ((aJ st.Rows).size+1) 0 d hR.down hR.fuse (by omega) (by omega) with ⟨g,N,T,q1,q0,q2,q3,q4,q5,q6⟩ | ⟨e,q0,q1,q2,T,q3,q4⟩
 rotate_left
 .
  right
  have hc:=Sv (s:=st) (d:=d) (m:=e) (e:=10) (hb.trans q1) (by decide)
  rw [hc] at hck
  exact ⟨e,hc,q0,hck.up (by omega),old e (hck.up (by omega)) (q2.trans hkn) (by rw [q3,hwt,List.nil_append];exact q4)⟩
 have hm:=hb.trans q2
 rw [hwt,List.nil_append] at hm
 rcases uV (d:=⟨d.Kept,N,T,g,false⟩) rfl q1 with ⟨g2,q7,q8,q9⟩ | ⟨q8,q9⟩
 rotate_left
 .
  right
  have hc:=Sw hm rfl (by rw [q9];exact j1)
  rw [q9] at hc
  rw [hc] at hck
  exact ⟨_,hc,fun hq=>q8 (q0 hq),hck.up (by omega),old _ (hck.up (by omega)) hkn q3⟩
 have hN:SN n N st u t:=hS.same q4 fun j hj=>q5 j (by omega)
 have hH:uq N f (aJ st.Rows):=fun k hk=>q6 k (Nat.zero_le _) hk
 have hm2:fM n 2450 (⟨N,N,[],g2,false⟩:cw):=by
  have:=(tU (f:=(f:Int)) (t:=aJ st.Rows) ((aJ st.Rows).size+1) 0 d 0 hR.ok).flush
  rw [q2,hwt,List.nil_append,q9] at this
  exact this.up (by omega)
 have Wo:SV n (⟨N,N,[],g2,false⟩:cw) st u t:=⟨rest_of hm2 rfl rfl rfl,hN⟩
 have Tq:0<=(st.Epoch+1) % 2/\(st.Epoch+1) % 2<2:=⟨by omega,by omega⟩
 have hcs:(aL (uF st)).size<=48:=by rw [sj];decide
 rcases uU (d:=⟨N,N,[],g2,false⟩) (i:=(st.Epoch+1) % 2) (x:=aL (uF st)) rfl q7 Tq.1 (by dsimp only;omega) hcs with ⟨g3,Wp,TT,LC⟩ | ⟨TT,LC⟩
 rotate_left
 .
  right
  have hc:=Sx hm rfl (by rw [q9]) (by rw [q9,LC];exact j1)
  rw [q9] at hc;dsimp only at hc;rw [LC] at hc
  rw [hc] at hck
  refine ⟨_,hc,fun hq=>TT (q8 (q0 hq)),hck.up (by omega),fun z=>⟨st,u,⟨mE hck z,?_⟩,rfl⟩⟩
  exact hN.up (Nat.le_succ t)
 have LD:∀L,L=(⟨102,(n:Int)-102,st.First+((n:Int)-102),0⟩:Lg)->SN n (N.set ((st.Epoch+1) % 2).toNat (full (aL (uF st)))) ⟨st.Epoch+1,1-st.Side,((aJ st.Rows).size:Int),st.First+((n:Int)-102),L,st.Rows⟩ 0 (t+1):=fun L hL =>
  hN.flip ht (hf▸hH) rfl L hL
 dsimp only at LC
 rw [List.nil_append] at LC
 rcases uV (d:=⟨N,N.set ((st.Epoch+1) % 2).toNat (full (aL (uF st))),[⟨(st.Epoch+1) % 2,full (aL (uF st))⟩],g3,false⟩) rfl Wp with ⟨g4,WO,UJ,Tr⟩ | ⟨UJ,Tr⟩
 .
  left
  have hc:=SA hm rfl (by rw [q9]) (by rw [q9];dsimp only;rw [LC]) (by rw [q9];dsimp only;rw [LC,Tr])
  rw [q9] at hc;dsimp only at hc;rw [LC] at hc;dsimp only at hc;rw [Tr] at hc;dsimp only at hc
  rw [hc] at hck
  have Iu:fM n 2500 (⟨N.set ((st.Epoch+1) % 2).toNat (full (aL (uF st))),N.set ((st.Epoch+1) % 2).toNat (full (aL (uF st))),[],g4,false⟩:cw):=hck.up (by omega)
  have hx:=LD _ rfl
  obtain ⟨b,W,hb1,hb2,hb3,hb4,hb5⟩:=hx.base
  have UK:iE ((N.set ((st.Epoch+1) % 2).toNat (full (aL (uF st)))).drop 102) (st.First+((n:Int)-102)) [] 0:=by
   obtain ⟨b',W',_,_,_,hl',_⟩:=hN.base
   have hdl:(N.drop 102).length=n-102:=by rw [List.length_drop,q4,h6]
   have hx:=hl'.next (by omega) (by rw [hdl];omega)
   rw [hdl] at hx
   rw [List.drop_set_of_lt (by omega),show st.First+((n:Int)-102)=st.First+((n-102:Nat):Int) by omega]
   exact hx
  have hu:=LA Iu rfl UK h5.1
  have hlen:((N.set ((st.Epoch+1) % 2).toNat (full (aL (uF st)))).length:Int)=(n:Int):=by rw [List.length_set,q4,h6]
  refine ⟨_,_,hc,⟨rest_of Iu rfl rfl rfl,?_⟩,rfl,fun hq=>UJ (TT (q8 (q0 hq)))⟩
  unfold Sq
  dsimp only at hu ⊢
  rw [hlen] at hu
  rw [Wn,hM,hlen]
  exact LD _ (by rw [hu];rfl)
 .
  right
  have hc:=Sy hm rfl (by rw [q9]) (by rw [q9];dsimp only;rw [LC]) (by rw [q9];dsimp only;rw [LC,Tr];exact j1)
  rw [q9] at hc;dsimp only at hc;rw [LC] at hc;dsimp only at hc;rw [Tr] at hc
  rw [hc] at hck
  refine ⟨_,hc,fun hq=>UJ (TT (q8 (q0 hq))),hck.up (by omega),fun z=>?_⟩
  rcases Lz z (⟨(st.Epoch+1) % 2,full (aL (uF st))⟩:Turn) N with hz|hz
  .
   refine ⟨st,u,⟨mE hck z,?_⟩,rfl⟩
   show SN n (lA z _ N) st u (t+1)
   rw [hz];exact hN.up (Nat.le_succ t)
  .
   refine ⟨(⟨st.Epoch+1,1-st.Side,((aJ st.Rows).size:Int),st.First+((n:Int)-102),⟨102,(n:Int)-102,st.First+((n:Int)-102),0⟩,st.Rows⟩:oE),0,⟨mE hck z,?_⟩,rfl⟩
   show SN n (lA z _ N) _ 0 (t+1)
   rw [hz];exact LD _ rfl
end
end
section
open Go Go.RowKit
section
variable {n u t:Nat} {st:oE} {d e:cw} {l:List Change}
theorem SN.QJ {l0 l':List ByteArray}(h:SN n l0 st u t)(hl:l'.length=l0.length)(ht:l'.take 102=l0.take 102){b:List Change}{W':List (List Change)}{u':Nat}{rows:List Change}(hb:m7 b)(hz:st.Size=((aJ b).size:Int))(hh:uq l0 (2+(st.Side*50).toNat) (aJ b))
 (Nn:iE (l'.drop 102) st.First W' u') (hr:rows=ky b W') (hg:m7 rows):SN n l' (sS st ⟨102,(n:Int)-102,st.First,(u':Int)⟩ rows) u' t:=by
 have h3:=h.sd;have h4:=hb.size;have h1:=h.eb
 have hs:∀j:Nat,j<102->l'[j]? = l0[j]?:=fun j hj=>by rw [<- List.getElem?_take_of_lt hj,ht,List.getElem?_take_of_lt hj]
 refine ⟨hl.trans h.len,h.nb,h.eb,h.fb,h.sd,?_,fun s hx=>?_,rfl,hg,b,W',hb,hz,fun k hk=>?_,Nn,hr⟩
 .
  show l'[(st.Epoch % 2).toNat]? = _
  rw [hs _ (by omega)];exact h.hd
 .
  refine h.oh s ?_
  rw [<- hs _ (by omega)];exact hx
 .
  show l'[2+(st.Side*50).toNat+k]? = _
  rw [hs _ (by omega)];exact hh k hk
theorem FH {b:List Change}{W:List (List Change)}{c:List Change}:ky b (W++[c])=cb (ky b W) c:=by
 unfold ky;rw [List.foldl_append];rfl
theorem El (h:SV n d st u t)(ht:t<=10000)(h0:¬ 62<l.length)(h1:jF l=0)(h2:¬ 60<(cb st.Rows l).length)(hr:¬ st.L.Many-st.L.Next<(l.length:Int)+1) :
 (∃e st',cy st.L d l=(st'.L,e,0)/\SV n e st' (u+l.length+1) t/\st'=sS st st'.L (cb st.Rows l)/\(d.Fuse = -1->e.Fuse = -1)) ∨
 (∃e,cy st.L d l=(st.L,e,10)/\¬ d.Fuse = -1 /\ ∀z,∃st' u',SV n (a8 e z) st' u' t/\(st'.Rows=st.Rows∨st'.Rows=cb st.Rows l)):=by
 obtain ⟨b,W,hb,hz,hh,Nn,hrw⟩:=h.sn.base
 have h3:=h.sn.nb;have h4:=h.sn.fb;have h6:=h.sn.len
 have hL:st.L=⟨((102:Nat):Int),((n-102:Nat):Int),st.First,(u:Int)⟩:=by rw [h.sn.lg,show ((n-102:Nat):Int)=(n:Int)-102 by omega];rfl
 have ha:jG ⟨((102:Nat):Int),((n-102:Nat):Int),st.First,(u:Int)⟩ l=0:=Bm h0 (by rw [<- hL];exact hr) h1
 have hgood:=h.sn.rows.apply h1 (by omega)
 have hnew:cb st.Rows l=ky b (W++[l]):=by rw [FH,<- hrw]
 rcases Nk (f:=102) (k:=n-102) h.rest (by omega) (by omega) (by omega) Nn ha with ⟨e,q1,q2,q3,q4,q5⟩ | ⟨e,q1,q2,q3⟩
 .
  left
  have hlen:e.Now.length=d.Now.length:=by rw [q2.ok.nl,h6]
  refine ⟨e,sS st ⟨102,(n:Int)-102,st.First,((u+l.length+1:Nat):Int)⟩ (cb st.Rows l),?_,⟨q2,h.sn.QJ hlen q3 hb hz hh q4 hnew hgood⟩,rfl,q5⟩
  rw [hL,q1]
  show (_,_,_)=((⟨102,(n:Int)-102,st.First,((u+l.length+1:Nat):Int)⟩:Lg),e,(0:Int))
  rw [show ((n-102:Nat):Int)=(n:Int)-102 by omega];rfl
 .
  right
  refine ⟨e,by rw [hL];exact q1,q2,fun z=>?_⟩
  obtain ⟨a1,a2,W',u',a3,a4⟩:=q3 z
  have hrs:Rest n (a8 e z):=⟨a1,rfl,by show (-1:Int) <= -1;decide,rfl,rfl⟩
  have hlen:(lA z e.Wait e.Kept).length=d.Now.length:=by have:=a1.nl;rw [h6];exact this
  rcases a4 with a4|a4
  .exact ⟨_,u',⟨hrs,h.sn.QJ (l':=lA z e.Wait e.Kept) hlen a2 hb hz hh a3 (rows:=st.Rows) (by rw [a4];exact hrw) h.sn.rows⟩,.inl rfl⟩
  .exact ⟨_,u',⟨hrs,h.sn.QJ (l':=lA z e.Wait e.Kept) hlen a2 hb hz hh a3 (rows:=cb st.Rows l) (by rw [a4];exact hnew) hgood⟩,.inr rfl⟩
theorem SV.up (h:SV n d st u t){t':Nat}(ht:t<=t'):SV n d st u t':=⟨h.rest,h.sn.up ht⟩
theorem yq (h:SV n d st u t)(ht:t<=9999)(hf:nj st d.Now.length l=0) :
 (∃e st' u',bH st d l=(st',e,0)/\SV n e st' u' (t+1)/\st'.Rows=cb st.Rows l/\(d.Fuse = -1->e.Fuse = -1)/\(u':Int)=(if st.L.Many-st.L.Next<(l.length:Int)+1 then 0 else (u:Int))+(l.length:Int)+1) ∨
 (∃e st1,bH st d l=(st1,e,10)/\¬ d.Fuse = -1/\fM n 4000 e /\ ∀z,∃st' u',SV n (a8 e z) st' u' (t+1)/\(st'.Rows=st.Rows∨st'.Rows=cb st.Rows l)):=by
 have hf2:=hf
 have h6:=h.sn.len;have h3:=h.sn.nb
 unfold nj at hf2
 split at hf2
 .cases hf2
 rename_i h0
 split at hf2
 .rename_i h1;exact absurd hf2 h1
 rename_i h1
 have h1:jF l=0:=by simpa using h1
 split at hf2
 .cases hf2
 rename_i h2
 have Vj:¬ 60<(cb st.Rows l).length:=fun hh=>h2 (.inl hh)
 have WQ:¬ (d.Now.length:Int)-102<(l.length:Int)+1:=fun hh=>h2 (.inr hh)
 by_cases hr:st.L.Many-st.L.Next<(l.length:Int)+1
 .
  rw [if_pos hr]
  rcases LB h ht with ⟨e1,s1,c1,c2,c3,c4⟩ | ⟨e1,c1,c2,c3,c4⟩
  .
   have hM:s1.L.Many=(n:Int)-102/\s1.L.Next=0:=by rw [c2.sn.lg];exact ⟨rfl,rfl⟩
   have hz:(cU st d).2.2=0:=by rw [c1]
   rcases El (l:=l) c2 (by omega) h0 h1 (by rw [c3];exact Vj) (by omega) with ⟨e,s2,a1,a2,a3,a4⟩ | ⟨e,a1,a2,a3⟩
   .
    left
    have hc:=N7 hf hr hz (by rw [c1];dsimp only;rw [a1])
    rw [c1] at hc;dsimp only at hc;rw [a1] at hc;dsimp only at hc
    rw [c3] at a3
    refine ⟨e,s2,0+l.length+1,hc.trans (by rw [<- a3]),a2,by rw [a3];rfl,fun hq=>a4 (c4 hq),by omega⟩
   .
    right
    have hc:=N8 hf hr hz (by rw [c1];dsimp only;rw [a1];exact j1)
    rw [c1] at hc;dsimp only at hc;rw [a1] at hc;dsimp only at hc
    have hO:=vB (lg:=s1.L) (c:=l) c2.rest.ok
    rw [a1] at hO
    refine ⟨e,_,hc,fun hq=>a2 (c4 hq),hO.up (by omega),fun z=>?_⟩
    obtain ⟨st',u',b1,b2⟩:=a3 z
    rw [c3] at b2
    exact ⟨st',u',b1,b2⟩
  .
   right
   have hc:=N6 hf hr (by rw [c1];exact j1)
   rw [c1] at hc
   refine ⟨e1,st,hc,c2,c3.up (by omega),fun z=>?_⟩
   obtain ⟨st',u',b1,b2⟩:=c4 z
   exact ⟨st',u',b1,.inl b2⟩
 .
  rw [if_neg hr]
  rcases El (l:=l) h (by omega) h0 h1 Vj hr with ⟨e,s2,a1,a2,a3,a4⟩ | ⟨e,a1,a2,a3⟩
  .
   left
   have hc:=N9 hf hr (by rw [a1])
   rw [a1] at hc;dsimp only at hc
   exact ⟨e,s2,u+l.length+1,hc.trans (by rw [<- a3]),a2.up (by omega),by rw [a3];rfl,a4,by omega⟩
  .
   right
   have hc:=Oa hf hr (by rw [a1];exact j1)
   rw [a1] at hc;dsimp only at hc
   have hO:=vB (lg:=st.L) (c:=l) h.rest.ok
   rw [a1] at hO
   refine ⟨e,_,hc,a2,hO.up (by omega),fun z=>?_⟩
   obtain ⟨st',u',b1,b2⟩:=a3 z
   exact ⟨st',u',b1.up (by omega),b2⟩
theorem uW:∀ (k i:Nat) (d:cw),d.Down=false->d.Fuse = -1->d.Now=List.replicate n (tK 48)->i+k<=n -> ∃T,kv k i (d,0)=(⟨d.Kept,d.Now,T,-1,false⟩,0)
 | 0,i,d,h1,h2,h3,h4=>⟨d.Wait,by rw [kv];obtain ⟨a,b,c,g,q⟩:=d;simp only at h1 h2;rw [h1,h2]⟩
 | k+1,i,d,h1,h2,h3,h4=>by
  have hw:=jv (d:=d) (i:=(i:Int)) (x:=⟨#[]⟩) h1 h2 (by omega) (by rw [h3,List.length_replicate];omega) (by decide)
  rw [Int.toNat_natCast,CW] at hw
  have hset:d.Now.set i (tK 48)=d.Now:=by rw [h3,List.set_replicate_self]
  rw [hset] at hw
  rw [kv,if_pos rfl,hw]
  exact uW k (i+1) ⟨d.Kept,d.Now,d.Wait++[⟨(i:Int),tK 48⟩],-1,false⟩ rfl rfl h3 (by omega)
theorem Ae {m:Nat}:∀ (k i:Nat) (s:cw×Int) (m:Nat),fM n m s.1->fM n (m+k) (kv k i s).1
 | 0,i,s,m,h=>h
 | k+1,i,s,m,h=>by
  rw [kv];split
  .exact (Ae (m:=m) k (i+1) _ (m+1) (h.write _ _)).up (by omega)
  .exact h.up (by omega)
def st0 (n:Nat):oE:=⟨1,0,0,1,⟨102,(n:Int)-102,1,0⟩,[]⟩
theorem Np (h1:166<=n)(h2:n<=200):∃e,dH (dNew n)=(e,0)/\SV n e (st0 n) 0 0/\e.Fuse = -1:=by
 have hl:(dNew n).Now.length=n:=by simp [dNew]
 have w0:=jv (d:=dNew n) (i:=0) (x:=⟨#[]⟩) rfl rfl (by decide) (by omega) (by decide)
 have hN:(dNew n).Now=List.replicate n (tK 48):=rfl
 rw [show Int.toNat 0=0 from rfl,CW,hN,List.set_replicate_self] at w0
 obtain ⟨T,hT⟩:=uW (n:=n) (n-102) 102 ⟨(dNew n).Kept,List.replicate n (tK 48),(dNew n).Wait++[⟨0,tK 48⟩],-1,false⟩ rfl rfl rfl (by omega)
 have f1:w9 (dNew n)=(⟨(dNew n).Kept,List.replicate n (tK 48),T,-1,false⟩,0):=by
  unfold w9;rw [hl,w0];exact hT
 have f2:=lB (d:=⟨(dNew n).Kept,List.replicate n (tK 48),T,-1,false⟩) rfl rfl
 have f3:=jv (d:=⟨List.replicate n (tK 48),List.replicate n (tK 48),[],-1,false⟩) (i:=1) (x:=aL ⟨1,0,0,1⟩) rfl rfl (by decide) (by dsimp only;rw [List.length_replicate];omega) (by rw [sj];decide)
 rw [show Int.toNat 1=1 from rfl] at f3
 dsimp only at f2 f3
 have f4:=lB (d:=⟨List.replicate n (tK 48),(List.replicate n (tK 48)).set 1 (full (aL ⟨1,0,0,1⟩)),[]++[⟨1,full (aL ⟨1,0,0,1⟩)⟩],-1,false⟩) rfl rfl
 dsimp only at f4
 have hok:fM n 2000 (⟨(List.replicate n (tK 48)).set 1 (full (aL ⟨1,0,0,1⟩)),(List.replicate n (tK 48)).set 1 (full (aL ⟨1,0,0,1⟩)),[],-1,false⟩:cw):=by
  have k1:=Ae (m:=0) (n-102) 102 (au (dNew n) 0 ⟨#[]⟩) 1 ((AH n).write 0 ⟨#[]⟩)
  have k2:fM n (1+(n-102)) (w9 (dNew n)).1:=by unfold w9;rw [hl];exact k1
  rw [f1] at k2
  have k3:=k2.flush;rw [f2] at k3
  have k4:=k3.write 1 (aL ⟨1,0,0,1⟩);dsimp only at k4;rw [f3] at k4
  have k5:=k4.flush;dsimp only at k5;rw [f4] at k5
  exact k5.up (by omega)
 refine ⟨_,(P4 (by omega) f1 rfl (by rw [f2]) (by rw [f2];dsimp only;rw [f3])).trans (by rw [f2];dsimp only;rw [f3];dsimp only;rw [f4]),⟨rest_of hok rfl rfl rfl,?_⟩,rfl⟩
 refine ⟨by simp,⟨h1,h2⟩,⟨by show (1:Int)<=1;decide,by show (1:Int)<=1+((0:Nat):Int);decide⟩,⟨by show (1:Int)<=1;decide,by show (1:Int)<=1+100*((0:Nat):Int);decide⟩,.inl rfl,?_,fun s hs=>?_,rfl,m7.nil,[],[],m7.nil,rfl,fun k hk=>?_,iE.blank 1 fun s hs=>?_,rfl⟩
 .
  show ((List.replicate n (tK 48)).set 1 (full (aL ⟨1,0,0,1⟩)))[1]? = some (full (aL ⟨1,0,0,1⟩))
  rw [List.getElem?_set_self (by rw [List.length_replicate];omega)]
 .
  have hs':((List.replicate n (tK 48)).set 1 (full (aL ⟨1,0,0,1⟩)))[0]? = some s:=hs
  rw [List.getElem?_set_ne (by decide),List.getElem?_replicate] at hs'
  rw [if_pos (by omega)] at hs'
  rw [<- Option.some.inj hs',II];show (0:Int)<1;decide
 .
  have:(aJ []).size=0:=rfl
  omega
 .
  have hs':s∈((List.replicate n (tK 48)).set 1 (full (aL ⟨1,0,0,1⟩))).drop 102:=hs
  rw [List.drop_set_of_lt (by decide),List.drop_replicate] at hs'
  rw [List.eq_of_mem_replicate hs'];exact CV
end
end
section
open Go Go.RowKit
structure Ts where
  Rows:List Change
  Used:Int
  Many:Int
section
variable {m:Ts} {l:List Change}
end
end
section
open Go Go.RowKit
section
variable {n u t:Nat} {sc:kY} {lg:Lg} {d:cw} {l:List Change} {m:Ts}
theorem GY (s:oE):mkS s.c s.L=s:=rfl
theorem SV.ok (h:SV n d (mkS sc lg) u t):fM d.Now.length 60000 d/\d.Now.length<=200/\166<=d.Now.length:=by
 have h1:=h.sn.len;have h2:=h.sn.nb
 exact ⟨h1.symm▸h.rest.ok.up (by omega),by omega,by omega⟩
theorem SV.bnd (h:SV n d (mkS sc lg) u t)(ht:t<=10000):0<=sc.Epoch/\sc.Epoch<=1000000000/\0<=sc.Side/\sc.Side<=1/\0<=lg.Many/\lg.Many<=1000/\1<=lg.First/\lg.First<=1000000000/\0<=lg.From/\lg.From<=1000/\0<=lg.Next/\lg.Next<=1000:=by
 have e1:1<=sc.Epoch/\sc.Epoch<=1+(t:Int):=h.sn.eb
 have e2:1<=sc.First/\sc.First<=1+100*(t:Int):=h.sn.fb
 have e3:sc.Side=0∨sc.Side=1:=h.sn.sd
 have e4:lg=⟨102,(n:Int)-102,sc.First,(u:Int)⟩:=h.sn.lg
 have e5:=h.sn.nb;have e6:=h.sn.len
 obtain ⟨b,W,_,_,_,hl,_⟩:=h.sn.base
 have e7:=hl.ule
 rw [List.length_drop] at e7
 rw [e4];dsimp only
 refine ⟨?_,?_,?_,?_,?_,?_,?_,?_,?_,?_,?_,?_⟩ <;> omega
theorem SV.good (h:SV n d (mkS sc lg) u t):sc.Rows.length<=60/\(∀c∈sc.Rows,iL c=0)/\dr sc.Rows:=⟨h.sn.rows.len,h.sn.rows.ok,h.sn.rows.rise⟩
theorem SV.room (h:SV n d (mkS sc lg) u t):lg.Many=(n:Int)-102/\lg.Next=(u:Int)/\d.Down=false/\d.Now.length=n/\166<=n/\n<=200:=by
 have e4:lg=⟨102,(n:Int)-102,sc.First,(u:Int)⟩:=h.sn.lg
 exact ⟨by rw [e4],by rw [e4],h.rest.down,h.sn.len,h.sn.nb.1,h.sn.nb.2⟩
theorem SV.opened (h:SV n d (mkS sc lg) u t)(ht:t<=10000):kx d=0/\(aY d).c=sc/\(aY d).L=lg:=by
 obtain ⟨h1,h2⟩:=yp h.rest.ok h.rest.down h.sn ht
 exact ⟨h1,by rw [h2];rfl,by rw [h2];rfl⟩
theorem LF {k:Nat}(h1:166<=k)(h2:k<=200):(dH (dNew k)).2=0/\(dH (dNew k)).1.Fuse = -1/\kx (dH (dNew k)).1=0/\SV k (dH (dNew k)).1 (mkS (aY (dH (dNew k)).1).c (aY (dH (dNew k)).1).L) 0 0/\(aY (dH (dNew k)).1).c.Rows=[]:=by
 obtain ⟨e,q1,q2,q3⟩:=Np h1 h2
 have q4:=yp q2.rest.ok q2.rest.down q2.sn (by omega)
 rw [q1];dsimp only
 rw [q4.2,GY]
 exact ⟨rfl,q3,q4.1,q2,rfl⟩
end
end
section
open Go Go.RowKit
section
variable {n u t:Nat} {st:oE} {sc:kY} {lg:Lg} {d:cw} {l:List Change}
theorem SV.reopen (h:SV n d st u t)(ht:t<=10000):kx d=0/\SV n d (mkS (aY d).c (aY d).L) u t/\(aY d).c.Rows=st.Rows:=by
 obtain ⟨h1,h2⟩:=yp h.rest.ok h.rest.down h.sn ht
 rw [h2,GY];exact ⟨h1,h,rfl⟩
theorem SV.again (h:SV n d st u t)(z:Int):SV n (a8 d z) st u t:=by
 refine ⟨mE h.rest.ok z,?_⟩
 show SN n (lA z d.Wait d.Kept) st u t
 rw [h.rest.wait,Ly,h.rest.kn];exact h.sn
theorem Ow {α:Type}[DecidableEq α]{a b:α}(h:decide (a=b)=false)(e:a=b):False:=of_decide_eq_false h e
theorem SV.arm (h:SV n d st u t){k:Int}(h1 : -1<=k)(h2:k<=400):SV n (fS d k) st u t:=by
 have hO:=h.rest.ok.arm (k:=k) (by omega)
 exact ⟨⟨hO,h.rest.down,hO.f0,h.rest.kn,h.rest.wait⟩,h.sn⟩
end
end
section
open Go Go.RowKit
structure jM where
  R:aB
abbrev Vk:Type:=jM×kY×cw×Lg×Int
abbrev lN (a b:aB):List Change:=gR (mK (bf a) (bf b))
def UL (k:jM)(r:aB)(c:oE×cw×Int):Vk:=if c.2.2=0 then (⟨r⟩,c.1.c,c.2.1,c.1.L,c.2.2) else (k,c.1.c,c.2.1,c.1.L,c.2.2)
def dL (k:jM)(sc:kY)(d:cw)(lg:Lg)(z:aB×Int):Vk :=
  if ¬ z.2=0 then (k,sc,d,lg,z.2) else if 0<(lN k.R z.1).length then UL k z.1 (bH (mkS sc lg) d (lN k.R z.1)) else (⟨z.1⟩,sc,d,lg,z.2)
section
variable {k:jM} {sc:kY} {d:cw} {lg:Lg} {z:aB×Int}
theorem Ox (h:¬ z.2=0):dL k sc d lg z=(k,sc,d,lg,z.2):=if_pos h
theorem Oy (h:z.2=0)(h1:¬ 0<(lN k.R z.1).length):dL k sc d lg z=(⟨z.1⟩,sc,d,lg,z.2):=by unfold dL;rw [if_neg (by omega),if_neg h1]
theorem Oz (h:z.2=0)(h1:0<(lN k.R z.1).length)(h2:(bH (mkS sc lg) d (lN k.R z.1)).2.2=0):dL k sc d lg z=(⟨z.1⟩,(bH (mkS sc lg) d (lN k.R z.1)).1.c,(bH (mkS sc lg) d (lN k.R z.1)).2.1,(bH (mkS sc lg) d (lN k.R z.1)).1.L,(bH (mkS sc lg) d (lN k.R z.1)).2.2):=by unfold dL;rw [if_neg (by omega),if_pos h1];exact if_pos h2
theorem OA (h:z.2=0)(h1:0<(lN k.R z.1).length)(h2:¬ (bH (mkS sc lg) d (lN k.R z.1)).2.2=0):dL k sc d lg z=(k,(bH (mkS sc lg) d (lN k.R z.1)).1.c,(bH (mkS sc lg) d (lN k.R z.1)).2.1,(bH (mkS sc lg) d (lN k.R z.1)).1.L,(bH (mkS sc lg) d (lN k.R z.1)).2.2):=by unfold dL;rw [if_neg (by omega),if_pos h1];exact if_neg h2
end
structure KI (d:cw)(sc:kY)(lg:Lg)(r:aB)(u t:Nat):Prop where
  sv:SV 170 d (mkS sc lg) u t
  rows:sc.Rows=bf r
  inv:Inv r
section
variable {d e:cw} {sc:kY} {lg:Lg} {r:aB} {u t k:Nat} {a:ft} {z:aB×Int}
theorem KI.up (h:KI d sc lg r u t){t':Nat}(ht:t<=t'):KI d sc lg r u t':=⟨h.sv.up ht,h.rows,h.inv⟩
theorem vL {a b:aB}(ha:Inv a)(hb:Inv b):lN a b=dO (bf a) (bf b):=Ec (fZ ha) (fZ hb)
theorem KI.com (h:KI d sc lg r u t){q:aB}(hq:Inv q)(hl:(lN r q).length<=59):nj (mkS sc lg) d.Now.length (lN r q)=0:=by
 have e:=vL h.inv hq
 have h1:=h.sv.room
 have ha:cb (mkS sc lg).Rows (lN r q)=bf q:=by
  show cb sc.Rows _=_
  rw [e,h.rows];exact BZ h.inv hq
 unfold nj
 rw [if_neg (by omega),if_neg (by rw [e,QH h.inv hq];decide),if_neg]
 rw [ha]
 have:=lj hq
 omega
theorem QK (h:Inv r){q:aB}(hq:Inv q)(hl:¬ 0<(lN r q).length):bf q=bf r:=by
 have h1:dO (bf r) (bf q)=[]:=by rw [<- vL h hq];exact List.eq_nil_of_length_eq_zero (by omega)
 have h2:=BZ h hq
 rw [h1] at h2;exact h2.symm
theorem KI.do (h:KI d sc lg r u t)(ht:t<=9999)(hz:z.2=0->Inv z.1/\(lN r z.1).length<=59) :
 (¬ z.2=0->dL ⟨r⟩ sc d lg z=(⟨r⟩,sc,d,lg,z.2)) /\
 (z.2=0->((dL ⟨r⟩ sc d lg z).2.2.2.2=0/\(dL ⟨r⟩ sc d lg z).1.R=z.1/\(d.Fuse = -1->(dL ⟨r⟩ sc d lg z).2.2.1.Fuse = -1) /\ ∃u2,KI (dL ⟨r⟩ sc d lg z).2.2.1 (dL ⟨r⟩ sc d lg z).2.1 (dL ⟨r⟩ sc d lg z).2.2.2.1 z.1 u2 (t+1)) ∨
  ((dL ⟨r⟩ sc d lg z).2.2.2.2=10/\(dL ⟨r⟩ sc d lg z).1.R=r/\¬ d.Fuse = -1/\fM 170 4000 (dL ⟨r⟩ sc d lg z).2.2.1 /\
   ∀q,∃sc' QL u2,KI (a8 (dL ⟨r⟩ sc d lg z).2.2.1 q) sc' QL r u2 (t+1)∨KI (a8 (dL ⟨r⟩ sc d lg z).2.2.1 q) sc' QL z.1 u2 (t+1))):=by
 refine ⟨fun h0=>Ox h0,fun h0=>?_⟩
 obtain ⟨hi,hl⟩:=hz h0
 by_cases h1:0<(lN r z.1).length
 .
  have hc:=h.com hi hl
  have happ:cb (mkS sc lg).Rows (lN r z.1)=bf z.1:=by
   show cb sc.Rows _=_
   rw [vL h.inv hi,h.rows];exact BZ h.inv hi
  have hst:∀s:oE,s.c.Rows=s.Rows:=fun _=>rfl
  rcases yq h.sv ht hc with ⟨e1,s1,u1,a1,a2,a3,a4,_⟩ | ⟨e1,s1,a1,a2,a3,a4⟩
  .
   left
   rw [Oz (k:=⟨r⟩) h0 h1 (by rw [a1])]
   dsimp only
   rw [a1]
   exact ⟨rfl,rfl,a4,u1,a2,(hst s1).trans (a3.trans happ),hi⟩
  .
   right
   rw [OA (k:=⟨r⟩) h0 h1 (by rw [a1];show ¬ (10:Int)=0;decide)]
   dsimp only
   rw [a1]
   refine ⟨rfl,rfl,a2,a3,fun q=>?_⟩
   obtain ⟨s2,u2,b1,b2⟩:=a4 q
   refine ⟨s2.c,s2.L,u2,?_⟩
   rcases b2 with b2|b2
   .exact .inl ⟨b1,(hst s2).trans (b2.trans h.rows),h.inv⟩
   .exact .inr ⟨b1,(hst s2).trans (b2.trans happ),hi⟩
 .
  left
  rw [Oy (k:=⟨r⟩) h0 h1]
  exact ⟨h0,rfl,id,u,h.sv.up (Nat.le_succ t),h.rows.trans (QK h.inv hi h1).symm,hi⟩
theorem KI.opened (h:KI d sc lg r u t)(ht:t<=9999):kx d=0/\(aY d).c=sc/\(aY d).L=lg/\bE sc.Rows=(bm r,0)/\KI d sc lg (bm r) u t:=by
 obtain ⟨a1,a2,a3⟩:=h.sv.opened (by omega)
 exact ⟨a1,a2,a3,by rw [h.rows];exact uS h.inv,h.sv,h.rows.trans (yl h.inv).symm,(jw h.inv).1⟩
theorem KI.again (h:KI d sc lg r u t)(z:Int):KI (a8 d z) sc lg r u t:=⟨h.sv.again z,h.rows,h.inv⟩
theorem KI.arm (h:KI d sc lg r u t){k:Int}(h1 : -1<=k)(h2:k<=400):KI (fS d k) sc lg r u t:=⟨h.sv.arm h1 h2,h.rows,h.inv⟩
theorem vM (h:Inv r)(a:ft):(cp r a).2=0->Inv (cp r a).1/\(lN r (cp r a).1).length<=59:=fun hm=>⟨h.do hm,by rw [vL h (h.do hm)];exact QG h hm⟩
end
end
section
open Go Go.RowKit
attribute [local irreducible] dNew dH aY kx bH
theorem bS {α:Type}{c:Prop}[Decidable c]{x y:α×Int}(h:0<=x.2)(h':0<=y.2):0<=(if c then x else y).2:=by split <;> assumption
theorem Af {r:aB}(a:ft):0<=(cp r a).2:=by
 have hd:=fun (w:ak) id rg b=>rC w id rg b
 have dn:∀ (w:ak) id rg b,0<=(derived w id rg b).2:=fun w id rg b=>by have:=hd w id rg b;omega
 have hT:0<=(eG r a.P).2.2.2:=by
  have:=qj r a.P 2 1;unfold eG;(repeat' split) <;> first|(dsimp only;omega)|omega
 unfold cp
 refine bS ?_ (bS ?_ (bS ?_ (bS ?_ (bS ?_ (bS ?_ (bS ?_ (bS hT (Int.le_refl 0))))))))
 .exact bS (bS (bS (by decide) (by exact Int.le_refl 0)) (oI r a.P)) (by decide)
 .exact bS (bS (bS (bS (by decide) (bS (by exact Int.le_refl 0) (dn _ _ _ _))) (by decide)) (oI r a.Q)) (j6 r a.P)
 .exact bS (bS (by exact Int.le_refl 0) (oI r _)) (j6 r a.P)
 .exact bS (by exact Int.le_refl 0) (j6 r a.P)
 .exact bS (by exact Int.le_refl 0) (j6 r a.P)
 .exact bS (bS (by decide) (by exact Int.le_refl 0)) (qj r a.P 1 2)
 .
  refine bS (bS (by decide) (bS (by decide) (bS (by exact Int.le_refl 0) (bS ?_ (by decide))))) (qj r a.P 2 2)
  exact bS (bS (by decide) (bS (by exact Int.le_refl 0) (dn _ _ _ _))) (j6 r _)
abbrev nR:aB:=⟨[],[],[],[],1,1⟩
theorem LG:Ok nR:=Sz.new.ok (by decide)
theorem lY:Inv nR:=Inv.new
theorem Ag:bm nR=nR:=yi lY rfl
theorem LH:bf nR=[DL nR]:=by unfold bf;rw [Ag];rfl
def rk (d:cw):oE×cw×Int:=bH (mkS (aY (dH d).1).c (aY (dH d).1).L) (dH d).1 (bf nR)
theorem Em {dk:cw}(h:dk=dNew 170):(dH dk).2=0/\(dH dk).1.Fuse = -1/\kx (dH dk).1=0/\SV 170 (dH dk).1 (mkS (aY (dH dk).1).c (aY (dH dk).1).L) 0 0/\(aY (dH dk).1).c.Rows=[]:=by
 subst h;exact LF (by omega) (by omega)
def iF:cw:=(rk (dNew 170)).2.1
def iP:kY:=(aY iF).c
def mF:Lg:=(aY iF).L
noncomputable def fH:jM:=⟨(bE iP.Rows).1⟩
theorem Tt:(rk (dNew 170)).2.2=0/\iF.Fuse = -1 /\ ∃s,SV 170 iF s 2 1/\s.Rows=bf nR:=by
 obtain ⟨f1,f2,f3,f4,f5⟩:=Em rfl
 have hl:(bf nR).length=1:=by rw [LH];rfl
 have hap:cb [] (bf nR)=bf nR:=by
  have:=uT (a:=[]) (b:=bf nR) List.Pairwise.nil (fZ lY) (fun c hc=>(qX lY c hc).g)
  rwa [zX] at this
 have Tv:cb (mkS (aY (dH (dNew 170)).1).c (aY (dH (dNew 170)).1).L).Rows (bf nR)=bf nR:=by
  show cb (aY (dH (dNew 170)).1).c.Rows _=_
  rw [f5];exact hap
 have h6:=f4.room
 have hc:nj (mkS (aY (dH (dNew 170)).1).c (aY (dH (dNew 170)).1).L) (dH (dNew 170)).1.Now.length (bf nR)=0:=by
  unfold nj
  rw [if_neg (by omega),if_neg (by rw [yk _ (fun c hc=>(qX lY c hc).ok)];decide),if_neg]
  rw [Tv];omega
 rcases yq f4 (by omega) hc with ⟨e1,s1,u1,a1,a2,a3,a4,a5⟩ | ⟨e1,s1,a1,a2,_⟩
 .
  have hu:u1=2:=by
   rw [hl] at a5
   split at a5 <;> omega
  subst hu
  unfold iF rk;rw [a1]
  exact ⟨rfl,a4 f2,s1,a2,a3.trans Tv⟩
 .exact absurd f2 a2
theorem oa:(rk (dNew 170)).2.2=0/\iF.Fuse = -1/\kx iF=0/\(bE iP.Rows).2=0/\fH.R=nR/\KI iF iP mF nR 2 1:=by
 obtain ⟨h1,h2,s,h3,h4⟩:=Tt
 obtain ⟨a1,a2,a3⟩:=h3.reopen (by omega)
 have e:iP.Rows=bf nR:=a3.trans h4
 have hp:bE iP.Rows=(nR,0):=by rw [e,uS lY,Ag]
 exact ⟨h1,h2,a1,by rw [hp],by show (bE iP.Rows).1=_;rw [hp],a2,e,lY⟩
theorem B3:(rk (dNew 170)).2.2=0/\iF.Fuse = -1/\kx iF=0/\(bE iP.Rows).2=0/\fH.R=nR /\ ∃u,KI iF iP mF nR u 1 :=
 ⟨oa.1,oa.2.1,oa.2.2.1,oa.2.2.2.1,oa.2.2.2.2.1,2,oa.2.2.2.2.2⟩
abbrev Tw:Type:=jM×kY×cw×Lg
def QM (s:Tw)(a:ft):Tw :=
  if a.Kind=(⟨#[115,97,118,101]⟩:ByteArray) then (s.1,(cU (mkS s.2.1 s.2.2.2) s.2.2.1).1.c,(cU (mkS s.2.1 s.2.2.2) s.2.2.1).2.1,(cU (mkS s.2.1 s.2.2.2) s.2.2.1).1.L)
  else ((dL s.1 s.2.1 s.2.2.1 s.2.2.2 (cp s.1.R a)).1,(dL s.1 s.2.1 s.2.2.1 s.2.2.2 (cp s.1.R a)).2.1,(dL s.1 s.2.1 s.2.2.1 s.2.2.2 (cp s.1.R a)).2.2.1,(dL s.1 s.2.1 s.2.2.1 s.2.2.2 (cp s.1.R a)).2.2.2.1)
noncomputable def Tx (l:List ft):Tw:=l.foldl QM (fH,iP,iF,mF)
theorem OB {r:aB}{k:Nat}(h:Sz k r)(a:ft)(hk:k<=990):(cp r a).2=0->Ok (cp r a).1:=fun _=>(KT h a).ok (by omega)
def PI (s:Tw)(t:Nat):Prop:=(∃u,KI s.2.2.1 s.2.1 s.2.2.2 s.1.R u (t+1))/\s.2.2.1.Fuse = -1/\Sz t s.1.R
theorem Nq (k:jM):(⟨k.R⟩:jM)=k:=rfl
theorem PI.acts {s:Tw}{t:Nat}(h:PI s t)(ht:t<=9000)(a:ft):(dL s.1 s.2.1 s.2.2.1 s.2.2.2 (cp s.1.R a)).2.2.2.2=(cp s.1.R a).2 /\
 (¬ (cp s.1.R a).2=0->(dL s.1 s.2.1 s.2.2.1 s.2.2.2 (cp s.1.R a)).1.R=s.1.R)/\((cp s.1.R a).2=0->(dL s.1 s.2.1 s.2.2.1 s.2.2.2 (cp s.1.R a)).1.R=(cp s.1.R a).1):=by
 obtain ⟨⟨u,hk⟩,hf,hz⟩:=h
 obtain ⟨k,sc,d,lg⟩:=s
 dsimp only at hk hf hz ⊢
 obtain ⟨b1,b2⟩:=hk.do (z:=cp k.R a) (by omega) (vM hk.inv a)
 rw [Nq] at b1 b2
 by_cases h0:(cp k.R a).2=0
 .
  rcases b2 h0 with ⟨c1,c2,_⟩ | ⟨_,_,c3,_⟩
  .exact ⟨c1.trans h0.symm,fun q=>absurd h0 q,fun _=>c2⟩
  .exact absurd hf c3
 .
  rw [b1 h0]
  exact ⟨rfl,fun _=>rfl,fun q=>absurd q h0⟩
section
variable {d:cw} {sc:kY} {lg:Lg} {r:aB} {u t:Nat}
theorem KI.small (h:KI d sc lg r u t):sc.Rows.length<=60 /\ ∀c∈sc.Rows,c.Key.size<=1000/\c.Val.size<=1000:=by
 rw [h.rows];exact ⟨lj h.inv,FE h.inv⟩
theorem KI.pre (h:KI d sc lg r u t)(ht:t<=9999):(fM d.Now.length 60000 d/\d.Now.length<=200/\166<=d.Now.length)/\(0<=sc.Epoch/\sc.Epoch<=1000000000/\0<=sc.Side/\sc.Side<=1/\0<=lg.Many/\lg.Many<=1000/\1<=lg.First/\lg.First<=1000000000/\0<=lg.From/\lg.From<=1000/\0<=lg.Next/\lg.Next<=1000)/\sc.Rows.length<=60/\(∀c∈sc.Rows,iL c=0):=by
 have g:=h.sv.good
 exact ⟨h.sv.ok,h.sv.bnd (by omega),g.1,g.2.1⟩
theorem KI.anew (h:KI d sc lg r u t)(ht:t<=9999):d.Down=false/\kx d=0/\(fM d.Now.length 90000 d/\d.Now.length<=200)/\(bE (aY d).c.Rows).2=0/\((aY d).c.Rows.length<=60 /\ ∀c∈(aY d).c.Rows,c.Key.size<=1000/\c.Val.size<=1000)/\(bE (aY d).c.Rows).1=bm r/\KI d (aY d).c (aY d).L (bm r) u t:=by
 obtain ⟨a1,a2,a3,a4,a5⟩:=h.opened ht
 have g:=h.sv.ok
 rw [a2,a3]
 exact ⟨h.sv.room.2.2.1,a1,⟨g.1.up (by omega),g.2.1⟩,by rw [a4],h.small,by rw [a4],a5⟩
theorem KI.fall (h:KI d sc lg r u t)(ht:t<=9999){z:aB×Int}(hz:z.2=0->Inv z.1/\(lN r z.1).length<=59)(h0:0<=z.2)(q:Int) :
 ((dL ⟨r⟩ sc d lg z).2.2.1.Kept.length=(dL ⟨r⟩ sc d lg z).2.2.1.Now.length/\(dL ⟨r⟩ sc d lg z).2.2.1.Wait.length<=100000 /\ ∀x∈(dL ⟨r⟩ sc d lg z).2.2.1.Wait,0<=x.At/\x.At<((dL ⟨r⟩ sc d lg z).2.2.1.Kept.length:Int)) /\
 0<=(dL ⟨r⟩ sc d lg z).2.2.2.2/\(¬ z.2=0->¬ (dL ⟨r⟩ sc d lg z).2.2.2.2=0) /\
 ∃p u2 sc' QL,KI (a8 (dL ⟨r⟩ sc d lg z).2.2.1 q) sc' QL p u2 (t+1)/\(¬ z.2=0->p=r)/\((dL ⟨r⟩ sc d lg z).2.2.2.2=0->p=z.1)/\(p=r∨p=z.1):=by
 obtain ⟨b1,b2⟩:=h.do (by omega) hz
 by_cases hq:z.2=0
 .
  rcases b2 hq with ⟨c1,c2,c3,u2,c4⟩ | ⟨c1,c2,c3,c4,c5⟩
  .exact ⟨c4.sv.rest.ok.rest (by omega),by omega,fun k=>absurd hq k,z.1,u2,_,_,c4.again q,fun k=>absurd hq k,fun _=>rfl,.inr rfl⟩
  .
   obtain ⟨sc',QL,u2,e⟩:=c5 q
   refine ⟨c4.rest (by omega),by omega,fun k=>absurd hq k,?_⟩
   rcases e with e|e
   .exact ⟨r,u2,sc',QL,e,fun _=>rfl,fun k=>absurd (c1.symm.trans k) (by decide),.inl rfl⟩
   .exact ⟨z.1,u2,sc',QL,e,fun k=>absurd hq k,fun _=>rfl,.inr rfl⟩
 .
  rw [b1 hq]
  dsimp only
  exact ⟨h.sv.rest.ok.rest (by omega),h0,fun k=>k,r,u,sc,lg,(h.up (Nat.le_succ t)).again q,fun _=>rfl,fun k=>absurd k hq,.inl rfl⟩
end
end
end Go.Proofs.YtkbhcbipadkcaaaGreatDoor
