import Derived.Test.YtkbhcbipadkcaaaGreatDoorTO45
namespace Go.Proofs.YtkbhcbipadkcaaaGreatDoor
set_option linter.unusedVariables false
set_option linter.unusedSimpArgs false
section
open Go Go.RowKit
section
variable {n u t:Nat} {st:oK} {d e:cD}
theorem rest_of {m:Nat}(h:fO n m e)(hd:e.Down=false)(hk:e.Kept=e.Now)(hw:e.Wait=[]):Rest n e :=
 ⟨⟨h.kl,h.nl,h.ks,h.ns,by rw [hw];simp,h.F8,h.f0,h.f1⟩,hd,h.f0,hk,hw⟩
theorem LK (z:Int)(l:List ByteArray):mO z [] l=l:=rfl
theorem LL (z:Int)(x:Turn)(l:List ByteArray):mO z [x] l=l\/mO z [x] l=l.set x.At.toNat x.Data:=by
 show oD z l (x,0)=l\/oD z l (x,0)=_
 unfold oD;dsimp only;split
 .exact .inr rfl
 .exact .inl rfl
theorem LM {m:Nat}(hO:fO n m e)(hd:e.Down=false){first:Int}(h:iD (e.Now.drop 102) first [] 0)(hn:166<=n):fG e 102 ((e.Now.length:Int)-102).toNat first=0:=by
 have hl:=hO.nl
 have HM:p8 e 102 ((e.Now.length:Int)-102).toNat=e.Now.drop 102:=by
  have:=nY (d:=e) (f:=102) (k:=e.Now.length-102) hd (by omega)
  rw [show ((102:Nat):Int)=102 from rfl] at this
  rw [show ((e.Now.length:Int)-102).toNat=e.Now.length-102 by omega,this,List.take_of_length_le (by rw [List.length_drop];omega)]
 unfold fG;rw [HM,h.sc]
theorem Ei (h:SV n d st u t)(ht:t<=9999) :
 (∃e st',cB st d=(st',e,0)/\SV n e st' 0 (t+1)/\st'.Rows=st.Rows/\(d.Fuse = -1->e.Fuse = -1)) \/
 (∃e,cB st d=(st,e,10)/\¬ d.Fuse = -1/\fO n 3000 e /\ ∀z,∃st' u',SV n (gE e z) st' u' (t+1)/\st'.Rows=st.Rows):=by
 have hR:=h.rest;have hS:=h.sn
 have h3:=hS.sd;have h4:=hS.rows.size;have h5:=hS.nb;have h6:=hS.len;have h1:=hS.eb;have h2:=hS.fb
 have hck:=Kh (s:=st) hR.ok (by omega)
 have hkn:=hR.kn;have hwt:=hR.wait
 have hM:st.L.Many=(n:Int)-102:=by rw [hS.lg]
 have V8:st.L.First=st.First:=by rw [hS.lg]
 obtain ⟨f,hf⟩:∃f:Nat,f=2+((1-st.Side)*50).toNat:=⟨_,rfl⟩
 have hfi:(2:Int)+(1-st.Side)*50=(f:Int):=by omega
 have hb:ck1 st d=iM (f:Int) (aI st.Rows) ((aI st.Rows).size+1) 0 d:=by unfold ck1;rw [hfi]
 have old:∀e:cD,fO n 3000 e->e.Kept=d.Now->(∀x∈e.Wait,(f:Int)<=x.At/\x.At<(f:Int)+50) -> ∀z,∃st' u',SV n (gE e z) st' u' (t+1)/\st'.Rows=st.Rows:=fun e hO hk hw z =>
  ⟨st,u,⟨(h.fell hO hk f hf hw z).rest,(h.fell hO hk f hf hw z).sn.up (Nat.le_succ t)⟩,rfl⟩
 rcases Am (f:=f) (x:=aI st.Rows) (by omega) ((aI st.Rows).size+1) 0 d hR.down hR.fuse (by omega) (by omega) with ⟨g,N,T,q1,q0,q2,q3,q4,q5,q6⟩ | ⟨e,q0,q1,q2,T,q3,q4⟩
 rotate_left
 .
  right
  have hc:=Sr (s:=st) (d:=d) (m:=e) (e:=10) (hb.trans q1) (by decide)
  rw [hc] at hck
  exact ⟨e,hc,q0,hck.up (by omega),old e (hck.up (by omega)) (q2.trans hkn) (by rw [q3,hwt,List.nil_append];exact q4)⟩
 have hm:=hb.trans q2
 rw [hwt,List.nil_append] at hm
 rcases uX (d:=⟨d.Kept,N,T,g,false⟩) rfl q1 with ⟨g2,q7,q8,q9⟩ | ⟨q8,q9⟩
 rotate_left
 .
  right
  have hc:=Ss hm rfl (by rw [q9];exact jZ)
  rw [q9] at hc
  rw [hc] at hck
  exact ⟨_,hc,fun hq=>q8 (q0 hq),hck.up (by omega),old _ (hck.up (by omega)) hkn q3⟩
 have hN:SN n N st u t:=hS.same q4 fun j hj=>q5 j (by omega)
 have hH:uw N f (aI st.Rows):=fun k hk=>q6 k (Nat.zero_le _) hk
 have hm2:fO n 2450 (⟨N,N,[],g2,false⟩:cD):=by
  have:=(tZ (f:=(f:Int)) (t:=aI st.Rows) ((aI st.Rows).size+1) 0 d 0 hR.ok).flush
  rw [q2,hwt,List.nil_append,q9] at this
  exact this.up (by omega)
 have V9:SV n (⟨N,N,[],g2,false⟩:cD) st u t:=⟨rest_of hm2 rfl rfl rfl,hN⟩
 have Tq:0<=(st.Epoch+1) % 2/\(st.Epoch+1) % 2<2:=⟨by omega,by omega⟩
 have hcs:(aM (uH st)).size<=48:=by rw [sB];decide
 rcases uW (d:=⟨N,N,[],g2,false⟩) (i:=(st.Epoch+1) % 2) (x:=aM (uH st)) rfl q7 Tq.1 (by dsimp only;omega) hcs with ⟨g3,Wa,TI,LN⟩ | ⟨TI,LN⟩
 rotate_left
 .
  right
  have hc:=Sv hm rfl (by rw [q9]) (by rw [q9,LN];exact jZ)
  rw [q9] at hc;dsimp only at hc;rw [LN] at hc
  rw [hc] at hck
  refine ⟨_,hc,fun hq=>TI (q8 (q0 hq)),hck.up (by omega),fun z=>⟨st,u,⟨mN hck z,?_⟩,rfl⟩⟩
  exact hN.up (Nat.le_succ t)
 have LO:∀L,L=(⟨102,(n:Int)-102,st.First+((n:Int)-102),0⟩:Lg)->SN n (N.set ((st.Epoch+1) % 2).toNat (full (aM (uH st)))) ⟨st.Epoch+1,1-st.Side,((aI st.Rows).size:Int),st.First+((n:Int)-102),L,st.Rows⟩ 0 (t+1):=fun L hL =>
  hN.flip ht (hf▸hH) rfl L hL
 dsimp only at LN
 rw [List.nil_append] at LN
 rcases uX (d:=⟨N,N.set ((st.Epoch+1) % 2).toNat (full (aM (uH st))),[⟨(st.Epoch+1) % 2,full (aM (uH st))⟩],g3,false⟩) rfl Wa with ⟨g4,WA,Ux,Tr⟩ | ⟨Ux,Tr⟩
 .
  left
  have hc:=Sx hm rfl (by rw [q9]) (by rw [q9];dsimp only;rw [LN]) (by rw [q9];dsimp only;rw [LN,Tr])
  rw [q9] at hc;dsimp only at hc;rw [LN] at hc;dsimp only at hc;rw [Tr] at hc;dsimp only at hc
  rw [hc] at hck
  have Iq:fO n 2500 (⟨N.set ((st.Epoch+1) % 2).toNat (full (aM (uH st))),N.set ((st.Epoch+1) % 2).toNat (full (aM (uH st))),[],g4,false⟩:cD):=hck.up (by omega)
  have hx:=LO _ rfl
  obtain ⟨b,W,hb1,hb2,hb3,hb4,hb5⟩:=hx.base
  have Uy:iD ((N.set ((st.Epoch+1) % 2).toNat (full (aM (uH st)))).drop 102) (st.First+((n:Int)-102)) [] 0:=by
   obtain ⟨b',W',_,_,_,hl',_⟩:=hN.base
   have hdl:(N.drop 102).length=n-102:=by rw [List.length_drop,q4,h6]
   have hx:=hl'.next (by omega) (by rw [hdl];omega)
   rw [hdl] at hx
   rw [List.drop_set_of_lt (by omega),show st.First+((n:Int)-102)=st.First+((n-102:Nat):Int) by omega]
   exact hx
  have hu:=LM Iq rfl Uy h5.1
  have hlen:((N.set ((st.Epoch+1) % 2).toNat (full (aM (uH st)))).length:Int)=(n:Int):=by rw [List.length_set,q4,h6]
  refine ⟨_,_,hc,⟨rest_of Iq rfl rfl rfl,?_⟩,rfl,fun hq=>Ux (TI (q8 (q0 hq)))⟩
  unfold Sn
  dsimp only at hu ⊢
  rw [hlen] at hu
  rw [V8,hM,hlen]
  exact LO _ (by rw [hu];rfl)
 .
  right
  have hc:=Sw hm rfl (by rw [q9]) (by rw [q9];dsimp only;rw [LN]) (by rw [q9];dsimp only;rw [LN,Tr];exact jZ)
  rw [q9] at hc;dsimp only at hc;rw [LN] at hc;dsimp only at hc;rw [Tr] at hc
  rw [hc] at hck
  refine ⟨_,hc,fun hq=>Ux (TI (q8 (q0 hq))),hck.up (by omega),fun z=>?_⟩
  rcases LL z (⟨(st.Epoch+1) % 2,full (aM (uH st))⟩:Turn) N with hz|hz
  .
   refine ⟨st,u,⟨mN hck z,?_⟩,rfl⟩
   show SN n (mO z _ N) st u (t+1)
   rw [hz];exact hN.up (Nat.le_succ t)
  .
   refine ⟨(⟨st.Epoch+1,1-st.Side,((aI st.Rows).size:Int),st.First+((n:Int)-102),⟨102,(n:Int)-102,st.First+((n:Int)-102),0⟩,st.Rows⟩:oK),0,⟨mN hck z,?_⟩,rfl⟩
   show SN n (mO z _ N) _ 0 (t+1)
   rw [hz];exact LO _ rfl
end
end
section
open Go Go.RowKit
section
variable {n u t:Nat} {st:oK} {d e:cD} {l:List Change}
theorem SN.QN {l0 l':List ByteArray}(h:SN n l0 st u t)(hl:l'.length=l0.length)(ht:l'.take 102=l0.take 102){b:List Change}{W':List (List Change)}{u':Nat}{rows:List Change}(hb:nj b)(hz:st.Size=((aI b).size:Int))(hh:uw l0 (2+(st.Side*50).toNat) (aI b))
 (Nw:iD (l'.drop 102) st.First W' u') (hr:rows=kv b W') (hg:nj rows):SN n l' (sY st ⟨102,(n:Int)-102,st.First,(u':Int)⟩ rows) u' t:=by
 have h3:=h.sd;have h4:=hb.size;have h1:=h.eb
 have hs:∀j:Nat,j<102->l'[j]? = l0[j]?:=fun j hj=>by rw [<- List.getElem?_take_of_lt hj,ht,List.getElem?_take_of_lt hj]
 refine ⟨hl.trans h.len,h.nb,h.eb,h.fb,h.sd,?_,fun s hx=>?_,rfl,hg,b,W',hb,hz,fun k hk=>?_,Nw,hr⟩
 .
  show l'[(st.Epoch % 2).toNat]? = _
  rw [hs _ (by omega)];exact h.hd
 .
  refine h.oh s ?_
  rw [<- hs _ (by omega)];exact hx
 .
  show l'[2+(st.Side*50).toNat+k]? = _
  rw [hs _ (by omega)];exact hh k hk
theorem FE {b:List Change}{W:List (List Change)}{c:List Change}:kv b (W++[c])=bZ (kv b W) c:=by
 unfold kv;rw [List.foldl_append];rfl
theorem Ej (h:SV n d st u t)(ht:t<=10000)(h0:¬ 62<l.length)(h1:jG l=0)(h2:¬ 60<(bZ st.Rows l).length)(hr:¬ st.L.Many-st.L.Next<(l.length:Int)+1) :
 (∃e st',cE st.L d l=(st'.L,e,0)/\SV n e st' (u+l.length+1) t/\st'=sY st st'.L (bZ st.Rows l)/\(d.Fuse = -1->e.Fuse = -1)) \/
 (∃e,cE st.L d l=(st.L,e,10)/\¬ d.Fuse = -1 /\ ∀z,∃st' u',SV n (gE e z) st' u' t/\(st'.Rows=st.Rows\/st'.Rows=bZ st.Rows l)):=by
 obtain ⟨b,W,hb,hz,hh,Nw,hrw⟩:=h.sn.base
 have h3:=h.sn.nb;have h4:=h.sn.fb;have h6:=h.sn.len
 have hL:st.L=⟨((102:Nat):Int),((n-102:Nat):Int),st.First,(u:Int)⟩:=by rw [h.sn.lg,show ((n-102:Nat):Int)=(n:Int)-102 by omega];rfl
 have ha:jH ⟨((102:Nat):Int),((n-102:Nat):Int),st.First,(u:Int)⟩ l=0:=Bt h0 (by rw [<- hL];exact hr) h1
 have hgood:=h.sn.rows.apply h1 (by omega)
 have hnew:bZ st.Rows l=kv b (W++[l]):=by rw [FE,<- hrw]
 rcases Nt (f:=102) (k:=n-102) h.rest (by omega) (by omega) (by omega) Nw ha with ⟨e,q1,q2,q3,q4,q5⟩ | ⟨e,q1,q2,q3⟩
 .
  left
  have hlen:e.Now.length=d.Now.length:=by rw [q2.ok.nl,h6]
  refine ⟨e,sY st ⟨102,(n:Int)-102,st.First,((u+l.length+1:Nat):Int)⟩ (bZ st.Rows l),?_,⟨q2,h.sn.QN hlen q3 hb hz hh q4 hnew hgood⟩,rfl,q5⟩
  rw [hL,q1]
  show (_,_,_)=((⟨102,(n:Int)-102,st.First,((u+l.length+1:Nat):Int)⟩:Lg),e,(0:Int))
  rw [show ((n-102:Nat):Int)=(n:Int)-102 by omega];rfl
 .
  right
  refine ⟨e,by rw [hL];exact q1,q2,fun z=>?_⟩
  obtain ⟨a1,a2,W',u',a3,a4⟩:=q3 z
  have hrs:Rest n (gE e z):=⟨a1,rfl,by show (-1:Int) <= -1;decide,rfl,rfl⟩
  have hlen:(mO z e.Wait e.Kept).length=d.Now.length:=by have:=a1.nl;rw [h6];exact this
  rcases a4 with a4|a4
  .exact ⟨_,u',⟨hrs,h.sn.QN (l':=mO z e.Wait e.Kept) hlen a2 hb hz hh a3 (rows:=st.Rows) (by rw [a4];exact hrw) h.sn.rows⟩,.inl rfl⟩
  .exact ⟨_,u',⟨hrs,h.sn.QN (l':=mO z e.Wait e.Kept) hlen a2 hb hz hh a3 (rows:=bZ st.Rows l) (by rw [a4];exact hnew) hgood⟩,.inr rfl⟩
theorem SV.up (h:SV n d st u t){t':Nat}(ht:t<=t'):SV n d st u t':=⟨h.rest,h.sn.up ht⟩
theorem yz (h:SV n d st u t)(ht:t<=9999)(hf:nu st d.Now.length l=0) :
 (∃e st' u',bI st d l=(st',e,0)/\SV n e st' u' (t+1)/\st'.Rows=bZ st.Rows l/\(d.Fuse = -1->e.Fuse = -1)/\(u':Int)=(if st.L.Many-st.L.Next<(l.length:Int)+1 then 0 else (u:Int))+(l.length:Int)+1) \/
 (∃e st1,bI st d l=(st1,e,10)/\¬ d.Fuse = -1/\fO n 4000 e /\ ∀z,∃st' u',SV n (gE e z) st' u' (t+1)/\(st'.Rows=st.Rows\/st'.Rows=bZ st.Rows l)):=by
 have hf2:=hf
 have h6:=h.sn.len;have h3:=h.sn.nb
 unfold nu at hf2
 split at hf2
 .cases hf2
 rename_i h0
 split at hf2
 .rename_i h1;exact absurd hf2 h1
 rename_i h1
 have h1:jG l=0:=by simpa using h1
 split at hf2
 .cases hf2
 rename_i h2
 have U5:¬ 60<(bZ st.Rows l).length:=fun hh=>h2 (.inl hh)
 have WB:¬ (d.Now.length:Int)-102<(l.length:Int)+1:=fun hh=>h2 (.inr hh)
 by_cases hr:st.L.Many-st.L.Next<(l.length:Int)+1
 .
  rw [if_pos hr]
  rcases Ei h ht with ⟨e1,s1,c1,c2,c3,c4⟩ | ⟨e1,c1,c2,c3,c4⟩
  .
   have hM:s1.L.Many=(n:Int)-102/\s1.L.Next=0:=by rw [c2.sn.lg];exact ⟨rfl,rfl⟩
   have hz:(cB st d).2.2=0:=by rw [c1]
   rcases Ej (l:=l) c2 (by omega) h0 h1 (by rw [c3];exact U5) (by omega) with ⟨e,s2,a1,a2,a3,a4⟩ | ⟨e,a1,a2,a3⟩
   .
    left
    have hc:=Od hf hr hz (by rw [c1];dsimp only;rw [a1])
    rw [c1] at hc;dsimp only at hc;rw [a1] at hc;dsimp only at hc
    rw [c3] at a3
    refine ⟨e,s2,0+l.length+1,hc.trans (by rw [<- a3]),a2,by rw [a3];rfl,fun hq=>a4 (c4 hq),by omega⟩
   .
    right
    have hc:=Oe hf hr hz (by rw [c1];dsimp only;rw [a1];exact jZ)
    rw [c1] at hc;dsimp only at hc;rw [a1] at hc;dsimp only at hc
    have hO:=vz (lg:=s1.L) (c:=l) c2.rest.ok
    rw [a1] at hO
    refine ⟨e,_,hc,fun hq=>a2 (c4 hq),hO.up (by omega),fun z=>?_⟩
    obtain ⟨st',u',b1,b2⟩:=a3 z
    rw [c3] at b2
    exact ⟨st',u',b1,b2⟩
  .
   right
   have hc:=Oc hf hr (by rw [c1];exact jZ)
   rw [c1] at hc
   refine ⟨e1,st,hc,c2,c3.up (by omega),fun z=>?_⟩
   obtain ⟨st',u',b1,b2⟩:=c4 z
   exact ⟨st',u',b1,.inl b2⟩
 .
  rw [if_neg hr]
  rcases Ej (l:=l) h (by omega) h0 h1 U5 hr with ⟨e,s2,a1,a2,a3,a4⟩ | ⟨e,a1,a2,a3⟩
  .
   left
   have hc:=Og hf hr (by rw [a1])
   rw [a1] at hc;dsimp only at hc
   exact ⟨e,s2,u+l.length+1,hc.trans (by rw [<- a3]),a2.up (by omega),by rw [a3];rfl,a4,by omega⟩
  .
   right
   have hc:=Oh hf hr (by rw [a1];exact jZ)
   rw [a1] at hc;dsimp only at hc
   have hO:=vz (lg:=st.L) (c:=l) h.rest.ok
   rw [a1] at hO
   refine ⟨e,_,hc,a2,hO.up (by omega),fun z=>?_⟩
   obtain ⟨st',u',b1,b2⟩:=a3 z
   exact ⟨st',u',b1.up (by omega),b2⟩
theorem uY:∀ (k i:Nat) (d:cD),d.Down=false->d.Fuse = -1->d.Now=List.replicate n (tP 48)->i+k<=n -> ∃T,kr k i (d,0)=(⟨d.Kept,d.Now,T,-1,false⟩,0)
 | 0,i,d,h1,h2,h3,h4=>⟨d.Wait,by rw [kr];obtain ⟨a,b,c,g,q⟩:=d;simp only at h1 h2;rw [h1,h2]⟩
 | k+1,i,d,h1,h2,h3,h4=>by
  have hw:=jx (d:=d) (i:=(i:Int)) (x:=⟨#[]⟩) h1 h2 (by omega) (by rw [h3,List.length_replicate];omega) (by decide)
  rw [Int.toNat_natCast,CQ] at hw
  have hset:d.Now.set i (tP 48)=d.Now:=by rw [h3,List.set_replicate_self]
  rw [hset] at hw
  rw [kr,if_pos rfl,hw]
  exact uY k (i+1) ⟨d.Kept,d.Now,d.Wait++[⟨(i:Int),tP 48⟩],-1,false⟩ rfl rfl h3 (by omega)
theorem Ao {m:Nat}:∀ (k i:Nat) (s:cD×Int) (m:Nat),fO n m s.1->fO n (m+k) (kr k i s).1
 | 0,i,s,m,h=>h
 | k+1,i,s,m,h=>by
  rw [kr];split
  .exact (Ao (m:=m) k (i+1) _ (m+1) (h.write _ _)).up (by omega)
  .exact h.up (by omega)
def st0 (n:Nat):oK:=⟨1,0,0,1,⟨102,(n:Int)-102,1,0⟩,[]⟩
theorem Nx (h1:166<=n)(h2:n<=200):∃e,dK (dNew n)=(e,0)/\SV n e (st0 n) 0 0/\e.Fuse = -1:=by
 have hl:(dNew n).Now.length=n:=by simp [dNew]
 have w0:=jx (d:=dNew n) (i:=0) (x:=⟨#[]⟩) rfl rfl (by decide) (by omega) (by decide)
 have hN:(dNew n).Now=List.replicate n (tP 48):=rfl
 rw [show Int.toNat 0=0 from rfl,CQ,hN,List.set_replicate_self] at w0
 obtain ⟨T,hT⟩:=uY (n:=n) (n-102) 102 ⟨(dNew n).Kept,List.replicate n (tP 48),(dNew n).Wait++[⟨0,tP 48⟩],-1,false⟩ rfl rfl rfl (by omega)
 have f1:xk (dNew n)=(⟨(dNew n).Kept,List.replicate n (tP 48),T,-1,false⟩,0):=by
  unfold xk;rw [hl,w0];exact hT
 have f2:=lx (d:=⟨(dNew n).Kept,List.replicate n (tP 48),T,-1,false⟩) rfl rfl
 have f3:=jx (d:=⟨List.replicate n (tP 48),List.replicate n (tP 48),[],-1,false⟩) (i:=1) (x:=aM ⟨1,0,0,1⟩) rfl rfl (by decide) (by dsimp only;rw [List.length_replicate];omega) (by rw [sB];decide)
 rw [show Int.toNat 1=1 from rfl] at f3
 dsimp only at f2 f3
 have f4:=lx (d:=⟨List.replicate n (tP 48),(List.replicate n (tP 48)).set 1 (full (aM ⟨1,0,0,1⟩)),[]++[⟨1,full (aM ⟨1,0,0,1⟩)⟩],-1,false⟩) rfl rfl
 dsimp only at f4
 have hok:fO n 2000 (⟨(List.replicate n (tP 48)).set 1 (full (aM ⟨1,0,0,1⟩)),(List.replicate n (tP 48)).set 1 (full (aM ⟨1,0,0,1⟩)),[],-1,false⟩:cD):=by
  have k1:=Ao (m:=0) (n-102) 102 (au (dNew n) 0 ⟨#[]⟩) 1 ((AR n).write 0 ⟨#[]⟩)
  have k2:fO n (1+(n-102)) (xk (dNew n)).1:=by unfold xk;rw [hl];exact k1
  rw [f1] at k2
  have k3:=k2.flush;rw [f2] at k3
  have k4:=k3.write 1 (aM ⟨1,0,0,1⟩);dsimp only at k4;rw [f3] at k4
  have k5:=k4.flush;dsimp only at k5;rw [f4] at k5
  exact k5.up (by omega)
 refine ⟨_,(P8 (by omega) f1 rfl (by rw [f2]) (by rw [f2];dsimp only;rw [f3])).trans (by rw [f2];dsimp only;rw [f3];dsimp only;rw [f4]),⟨rest_of hok rfl rfl rfl,?_⟩,rfl⟩
 refine ⟨by simp,⟨h1,h2⟩,⟨by show (1:Int)<=1;decide,by show (1:Int)<=1+((0:Nat):Int);decide⟩,⟨by show (1:Int)<=1;decide,by show (1:Int)<=1+100*((0:Nat):Int);decide⟩,.inl rfl,?_,fun s hs=>?_,rfl,nj.nil,[],[],nj.nil,rfl,fun k hk=>?_,iD.blank 1 fun s hs=>?_,rfl⟩
 .
  show ((List.replicate n (tP 48)).set 1 (full (aM ⟨1,0,0,1⟩)))[1]? = some (full (aM ⟨1,0,0,1⟩))
  rw [List.getElem?_set_self (by rw [List.length_replicate];omega)]
 .
  have hs':((List.replicate n (tP 48)).set 1 (full (aM ⟨1,0,0,1⟩)))[0]? = some s:=hs
  rw [List.getElem?_set_ne (by decide),List.getElem?_replicate] at hs'
  rw [if_pos (by omega)] at hs'
  rw [<- Option.some.inj hs',IE];show (0:Int)<1;decide
 .
  have:(aI []).size=0:=rfl
  omega
 .
  have hs':s∈((List.replicate n (tP 48)).set 1 (full (aM ⟨1,0,0,1⟩))).drop 102:=hs
  rw [List.drop_set_of_lt (by decide),List.drop_replicate] at hs'
  rw [List.eq_of_mem_replicate hs'];exact CP
end
end
section
open Go Go.RowKit
set_option maxRecDepth 100000
set_option maxHeartbeats 1000000
structure Ts where
  Rows:List Change
  Used:Int
  Many:Int
section
variable {m:Ts} {l:List Change}
end
end
section
open Go Go.RowKit
section
variable {n u t:Nat} {sc:j8} {lg:Lg} {d:cD} {l:List Change} {m:Ts}
theorem GV (s:oK):mkS s.c s.L=s:=rfl
theorem SV.ok (h:SV n d (mkS sc lg) u t):fO d.Now.length 60000 d/\d.Now.length<=200/\166<=d.Now.length:=by
 have h1:=h.sn.len;have h2:=h.sn.nb
 exact ⟨h1.symm▸h.rest.ok.up (by omega),by omega,by omega⟩
theorem SV.bnd (h:SV n d (mkS sc lg) u t)(ht:t<=10000):0<=sc.Epoch/\sc.Epoch<=1000000000/\0<=sc.Side/\sc.Side<=1/\0<=lg.Many/\lg.Many<=1000/\1<=lg.First/\lg.First<=1000000000/\0<=lg.From/\lg.From<=1000/\0<=lg.Next/\lg.Next<=1000:=by
 have e1:1<=sc.Epoch/\sc.Epoch<=1+(t:Int):=h.sn.eb
 have e2:1<=sc.First/\sc.First<=1+100*(t:Int):=h.sn.fb
 have e3:sc.Side=0\/sc.Side=1:=h.sn.sd
 have e4:lg=⟨102,(n:Int)-102,sc.First,(u:Int)⟩:=h.sn.lg
 have e5:=h.sn.nb;have e6:=h.sn.len
 obtain ⟨b,W,_,_,_,hl,_⟩:=h.sn.base
 have e7:=hl.ule
 rw [List.length_drop] at e7
 rw [e4];dsimp only
 refine ⟨?_,?_,?_,?_,?_,?_,?_,?_,?_,?_,?_,?_⟩ <;> omega
theorem SV.good (h:SV n d (mkS sc lg) u t):sc.Rows.length<=60/\(∀c∈sc.Rows,iG c=0)/\dt sc.Rows:=⟨h.sn.rows.len,h.sn.rows.ok,h.sn.rows.rise⟩
theorem SV.room (h:SV n d (mkS sc lg) u t):lg.Many=(n:Int)-102/\lg.Next=(u:Int)/\d.Down=false/\d.Now.length=n/\166<=n/\n<=200:=by
 have e4:lg=⟨102,(n:Int)-102,sc.First,(u:Int)⟩:=h.sn.lg
 exact ⟨by rw [e4],by rw [e4],h.rest.down,h.sn.len,h.sn.nb.1,h.sn.nb.2⟩
theorem SV.opened (h:SV n d (mkS sc lg) u t)(ht:t<=10000):ku d=0/\(bq d).c=sc/\(bq d).L=lg:=by
 obtain ⟨h1,h2⟩:=yy h.rest.ok h.rest.down h.sn ht
 exact ⟨h1,by rw [h2];rfl,by rw [h2];rfl⟩
theorem Ny (h:SV n d (mkS sc lg) u t)(ht:t<=9999)(hf:d.Fuse = -1) :
 (cB (mkS sc lg) d).2.2=0/\(cB (mkS sc lg) d).1.c.Rows=sc.Rows/\(cB (mkS sc lg) d).2.1.Fuse = -1/\SV n (cB (mkS sc lg) d).2.1 (mkS (cB (mkS sc lg) d).1.c (cB (mkS sc lg) d).1.L) 0 (t+1):=by
 rcases Ei h ht with ⟨e1,s1,a1,a2,a3,a4⟩ | ⟨e1,a1,a2,_⟩
 .rw [a1];exact ⟨rfl,a3,a4 hf,a2⟩
 .exact absurd hf a2
theorem LP {k:Nat}(h1:166<=k)(h2:k<=200):(dK (dNew k)).2=0/\(dK (dNew k)).1.Fuse = -1/\ku (dK (dNew k)).1=0/\SV k (dK (dNew k)).1 (mkS (bq (dK (dNew k)).1).c (bq (dK (dNew k)).1).L) 0 0/\(bq (dK (dNew k)).1).c.Rows=[]:=by
 obtain ⟨e,q1,q2,q3⟩:=Nx h1 h2
 have q4:=yy q2.rest.ok q2.rest.down q2.sn (by omega)
 rw [q1];dsimp only
 rw [q4.2,GV]
 exact ⟨rfl,q3,q4.1,q2,rfl⟩
end
end
section
open Go Go.RowKit
section
variable {n u t:Nat} {st:oK} {sc:j8} {lg:Lg} {d:cD} {l:List Change}
theorem SV.reopen (h:SV n d st u t)(ht:t<=10000):ku d=0/\SV n d (mkS (bq d).c (bq d).L) u t/\(bq d).c.Rows=st.Rows:=by
 obtain ⟨h1,h2⟩:=yy h.rest.ok h.rest.down h.sn ht
 rw [h2,GV];exact ⟨h1,h,rfl⟩
theorem SV.again (h:SV n d st u t)(z:Int):SV n (gE d z) st u t:=by
 refine ⟨mN h.rest.ok z,?_⟩
 show SN n (mO z d.Wait d.Kept) st u t
 rw [h.rest.wait,LK,h.rest.kn];exact h.sn
end
end
section
open Go Go.RowKit
structure j9 where
  R:aD
abbrev U6:Type:=j9×j8×cD×Lg×Int
abbrev l6 (a b:aD):List Change:=gV (mQ (bL a) (bL b))
def Uz (k:j9)(r:aD)(c:oK×cD×Int):U6:=if c.2.2=0 then (⟨r⟩,c.1.c,c.2.1,c.1.L,c.2.2) else (k,c.1.c,c.2.1,c.1.L,c.2.2)
def fS (k:j9)(sc:j8)(d:cD)(lg:Lg)(z:aD×Int):U6 :=
  if ¬ z.2=0 then (k,sc,d,lg,z.2) else if 0<(l6 k.R z.1).length then Uz k z.1 (bI (mkS sc lg) d (l6 k.R z.1)) else (⟨z.1⟩,sc,d,lg,z.2)
section
variable {k:j9} {sc:j8} {d:cD} {lg:Lg} {z:aD×Int}
theorem OD (h:¬ z.2=0):fS k sc d lg z=(k,sc,d,lg,z.2):=if_pos h
theorem OE (h:z.2=0)(h1:¬ 0<(l6 k.R z.1).length):fS k sc d lg z=(⟨z.1⟩,sc,d,lg,z.2):=by unfold fS;rw [if_neg (by omega),if_neg h1]
theorem OG (h:z.2=0)(h1:0<(l6 k.R z.1).length)(h2:(bI (mkS sc lg) d (l6 k.R z.1)).2.2=0):fS k sc d lg z=(⟨z.1⟩,(bI (mkS sc lg) d (l6 k.R z.1)).1.c,(bI (mkS sc lg) d (l6 k.R z.1)).2.1,(bI (mkS sc lg) d (l6 k.R z.1)).1.L,(bI (mkS sc lg) d (l6 k.R z.1)).2.2):=by unfold fS;rw [if_neg (by omega),if_pos h1];exact if_pos h2
theorem OH (h:z.2=0)(h1:0<(l6 k.R z.1).length)(h2:¬ (bI (mkS sc lg) d (l6 k.R z.1)).2.2=0):fS k sc d lg z=(k,(bI (mkS sc lg) d (l6 k.R z.1)).1.c,(bI (mkS sc lg) d (l6 k.R z.1)).2.1,(bI (mkS sc lg) d (l6 k.R z.1)).1.L,(bI (mkS sc lg) d (l6 k.R z.1)).2.2):=by unfold fS;rw [if_neg (by omega),if_pos h1];exact if_neg h2
end
structure KI (d:cD)(sc:j8)(lg:Lg)(r:aD)(u t:Nat):Prop where
  sv:SV 170 d (mkS sc lg) u t
  rows:sc.Rows=bL r
  inv:Inv r
section
variable {d e:cD} {sc:j8} {lg:Lg} {r:aD} {u t k:Nat} {a:ej} {z:aD×Int}
theorem KI.up (h:KI d sc lg r u t){t':Nat}(ht:t<=t'):KI d sc lg r u t':=⟨h.sv.up ht,h.rows,h.inv⟩
theorem vJ {a b:aD}(ha:Inv a)(hb:Inv b):l6 a b=dU (bL a) (bL b):=D9 (fY ha) (fY hb)
theorem KI.com (h:KI d sc lg r u t){q:aD}(hq:Inv q)(hl:(l6 r q).length<=59):nu (mkS sc lg) d.Now.length (l6 r q)=0:=by
 have e:=vJ h.inv hq
 have h1:=h.sv.room
 have ha:bZ (mkS sc lg).Rows (l6 r q)=bL q:=by
  show bZ sc.Rows _=_
  rw [e,h.rows];exact Ca h.inv hq
 unfold nu
 rw [if_neg (by omega),if_neg (by rw [e,QL h.inv hq];decide),if_neg]
 rw [ha]
 have:=og hq
 omega
theorem QO (h:Inv r){q:aD}(hq:Inv q)(hl:¬ 0<(l6 r q).length):bL q=bL r:=by
 have h1:dU (bL r) (bL q)=[]:=by rw [<- vJ h hq];exact List.eq_nil_of_length_eq_zero (by omega)
 have h2:=Ca h hq
 rw [h1] at h2;exact h2.symm
theorem KI.do (h:KI d sc lg r u t)(ht:t<=9999)(hz:z.2=0->Inv z.1/\(l6 r z.1).length<=59) :
 (¬ z.2=0->fS ⟨r⟩ sc d lg z=(⟨r⟩,sc,d,lg,z.2)) /\
 (z.2=0->((fS ⟨r⟩ sc d lg z).2.2.2.2=0/\(fS ⟨r⟩ sc d lg z).1.R=z.1/\(d.Fuse = -1->(fS ⟨r⟩ sc d lg z).2.2.1.Fuse = -1) /\ ∃u2,KI (fS ⟨r⟩ sc d lg z).2.2.1 (fS ⟨r⟩ sc d lg z).2.1 (fS ⟨r⟩ sc d lg z).2.2.2.1 z.1 u2 (t+1)) \/
  ((fS ⟨r⟩ sc d lg z).2.2.2.2=10/\(fS ⟨r⟩ sc d lg z).1.R=r/\¬ d.Fuse = -1/\fO 170 4000 (fS ⟨r⟩ sc d lg z).2.2.1 /\
   ∀q,∃sc' U7 u2,KI (gE (fS ⟨r⟩ sc d lg z).2.2.1 q) sc' U7 r u2 (t+1)\/KI (gE (fS ⟨r⟩ sc d lg z).2.2.1 q) sc' U7 z.1 u2 (t+1))):=by
 refine ⟨fun h0=>OD h0,fun h0=>?_⟩
 obtain ⟨hi,hl⟩:=hz h0
 by_cases h1:0<(l6 r z.1).length
 .
  have hc:=h.com hi hl
  have happ:bZ (mkS sc lg).Rows (l6 r z.1)=bL z.1:=by
   show bZ sc.Rows _=_
   rw [vJ h.inv hi,h.rows];exact Ca h.inv hi
  have hst:∀s:oK,s.c.Rows=s.Rows:=fun _=>rfl
  rcases yz h.sv ht hc with ⟨e1,s1,u1,a1,a2,a3,a4,_⟩ | ⟨e1,s1,a1,a2,a3,a4⟩
  .
   left
   rw [OG (k:=⟨r⟩) h0 h1 (by rw [a1])]
   dsimp only
   rw [a1]
   exact ⟨rfl,rfl,a4,u1,a2,(hst s1).trans (a3.trans happ),hi⟩
  .
   right
   rw [OH (k:=⟨r⟩) h0 h1 (by rw [a1];show ¬ (10:Int)=0;decide)]
   dsimp only
   rw [a1]
   refine ⟨rfl,rfl,a2,a3,fun q=>?_⟩
   obtain ⟨s2,u2,b1,b2⟩:=a4 q
   refine ⟨s2.c,s2.L,u2,?_⟩
   rcases b2 with b2|b2
   .exact .inl ⟨b1,(hst s2).trans (b2.trans h.rows),h.inv⟩
   .exact .inr ⟨b1,(hst s2).trans (b2.trans happ),hi⟩
 .
  left
  rw [OE (k:=⟨r⟩) h0 h1]
  exact ⟨h0,rfl,id,u,h.sv.up (Nat.le_succ t),h.rows.trans (QO h.inv hi h1).symm,hi⟩
theorem KI.save (h:KI d sc lg r u t)(ht:t<=9999)(hf:d.Fuse = -1):(cB (mkS sc lg) d).2.2=0/\(cB (mkS sc lg) d).2.1.Fuse = -1/\KI (cB (mkS sc lg) d).2.1 (cB (mkS sc lg) d).1.c (cB (mkS sc lg) d).1.L r 0 (t+1):=by
 obtain ⟨a1,a2,a3,a4⟩:=Ny h.sv ht hf
 exact ⟨a1,a3,a4,a2.trans h.rows,h.inv⟩
theorem KI.opened (h:KI d sc lg r u t)(ht:t<=9999):ku d=0/\(bq d).c=sc/\(bq d).L=lg/\cb sc.Rows=(aR r,0)/\KI d sc lg (aR r) u t:=by
 obtain ⟨a1,a2,a3⟩:=h.sv.opened (by omega)
 exact ⟨a1,a2,a3,by rw [h.rows];exact uU h.inv,h.sv,h.rows.trans (FC h.inv).symm,(jy h.inv).1⟩
theorem KI.again (h:KI d sc lg r u t)(z:Int):KI (gE d z) sc lg r u t:=⟨h.sv.again z,h.rows,h.inv⟩
theorem vK (h:Inv r)(a:ej):(cR r a).2=0->Inv (cR r a).1/\(l6 r (cR r a).1).length<=59:=fun hm=>⟨h.do hm,by rw [vJ h (h.do hm)];exact QK h hm⟩
end
end
section
open Go Go.RowKit
set_option maxRecDepth 100000
attribute [local irreducible] dNew dK bq ku bI
theorem bU {α:Type}{c:Prop}[Decidable c]{x y:α×Int}(h:0<=x.2)(h':0<=y.2):0<=(if c then x else y).2:=by split <;> assumption
theorem IK {r:aD}(a:ej):0<=(cR r a).2:=by
 have hd:=fun (w:ap) id rg b=>rK w id rg b
 have dn:∀ (w:ap) id rg b,0<=(derived w id rg b).2:=fun w id rg b=>by have:=hd w id rg b;omega
 have hT:0<=(eC r a.P).2.2.2:=by
  have:=qn r a.P 2 1;unfold eC;(repeat' split) <;> first|(dsimp only;omega)|omega
 unfold cR
 refine bU ?_ (bU ?_ (bU ?_ (bU ?_ (bU ?_ (bU ?_ (bU ?_ (bU hT (Int.le_refl 0))))))))
 .exact bU (bU (bU (by decide) (by exact Int.le_refl 0)) (oO r a.P)) (by decide)
 .exact bU (bU (bU (bU (by decide) (bU (by exact Int.le_refl 0) (dn _ _ _ _))) (by decide)) (oO r a.Q)) (j4 r a.P)
 .exact bU (bU (by exact Int.le_refl 0) (oO r _)) (j4 r a.P)
 .exact bU (by exact Int.le_refl 0) (j4 r a.P)
 .exact bU (by exact Int.le_refl 0) (j4 r a.P)
 .exact bU (bU (by decide) (by exact Int.le_refl 0)) (qn r a.P 1 2)
 .
  refine bU (bU (by decide) (bU (by decide) (bU (by exact Int.le_refl 0) (bU ?_ (by decide))))) (qn r a.P 2 2)
  exact bU (bU (by decide) (bU (by exact Int.le_refl 0) (dn _ _ _ _))) (j4 r _)
abbrev nR:aD:=⟨[],[],[],[],1,1⟩
theorem LQ:Ok nR:=Sz.new.ok (by decide)
theorem l7:Inv nR:=Inv.new
theorem Ap:aR nR=nR:=yr l7 rfl
theorem LR:bL nR=[DI nR]:=by unfold bL;rw [Ap];rfl
def rx (d:cD):oK×cD×Int:=bI (mkS (bq (dK d).1).c (bq (dK d).1).L) (dK d).1 (bL nR)
theorem Ek {dk:cD}(h:dk=dNew 170):(dK dk).2=0/\(dK dk).1.Fuse = -1/\ku (dK dk).1=0/\SV 170 (dK dk).1 (mkS (bq (dK dk).1).c (bq (dK dk).1).L) 0 0/\(bq (dK dk).1).c.Rows=[]:=by
 subst h;exact LP (by omega) (by omega)
def im:cD:=(rx (dNew 170)).2.1
def iQ:j8:=(bq im).c
def lS:Lg:=(bq im).L
noncomputable def gj:j9:=⟨(cb iQ.Rows).1⟩
theorem Tt:(rx (dNew 170)).2.2=0/\im.Fuse = -1 /\ ∃s,SV 170 im s 2 1/\s.Rows=bL nR:=by
 obtain ⟨f1,f2,f3,f4,f5⟩:=Ek rfl
 have hl:(bL nR).length=1:=by rw [LR];rfl
 have hap:bZ [] (bL nR)=bL nR:=by
  have:=uV (a:=[]) (b:=bL nR) List.Pairwise.nil (fY l7) (fun c hc=>(rl l7 c hc).g)
  rwa [Ag] at this
 have Tv:bZ (mkS (bq (dK (dNew 170)).1).c (bq (dK (dNew 170)).1).L).Rows (bL nR)=bL nR:=by
  show bZ (bq (dK (dNew 170)).1).c.Rows _=_
  rw [f5];exact hap
 have h6:=f4.room
 have hc:nu (mkS (bq (dK (dNew 170)).1).c (bq (dK (dNew 170)).1).L) (dK (dNew 170)).1.Now.length (bL nR)=0:=by
  unfold nu
  rw [if_neg (by omega),if_neg (by rw [yu _ (fun c hc=>(rl l7 c hc).ok)];decide),if_neg]
  rw [Tv];omega
 rcases yz f4 (by omega) hc with ⟨e1,s1,u1,a1,a2,a3,a4,a5⟩ | ⟨e1,s1,a1,a2,_⟩
 .
  have hu:u1=2:=by
   rw [hl] at a5
   split at a5 <;> omega
  subst hu
  unfold im rx;rw [a1]
  exact ⟨rfl,a4 f2,s1,a2,a3.trans Tv⟩
 .exact absurd f2 a2
theorem oq:(rx (dNew 170)).2.2=0/\im.Fuse = -1/\ku im=0/\(cb iQ.Rows).2=0/\gj.R=nR/\KI im iQ lS nR 2 1:=by
 obtain ⟨h1,h2,s,h3,h4⟩:=Tt
 obtain ⟨a1,a2,a3⟩:=h3.reopen (by omega)
 have e:iQ.Rows=bL nR:=a3.trans h4
 have hp:cb iQ.Rows=(nR,0):=by rw [e,uU l7,Ap]
 exact ⟨h1,h2,a1,by rw [hp],by show (cb iQ.Rows).1=_;rw [hp],a2,e,l7⟩
theorem Cb:(rx (dNew 170)).2.2=0/\im.Fuse = -1/\ku im=0/\(cb iQ.Rows).2=0/\gj.R=nR /\ ∃u,KI im iQ lS nR u 1 :=
 ⟨oq.1,oq.2.1,oq.2.2.1,oq.2.2.2.1,oq.2.2.2.2.1,2,oq.2.2.2.2.2⟩
abbrev QP:Type:=j9×j8×cD×Lg
def qw (s:QP)(a:ej):QP :=
  if a.Kind=(⟨#[115,97,118,101]⟩:ByteArray) then (s.1,(cB (mkS s.2.1 s.2.2.2) s.2.2.1).1.c,(cB (mkS s.2.1 s.2.2.2) s.2.2.1).2.1,(cB (mkS s.2.1 s.2.2.2) s.2.2.1).1.L)
  else ((fS s.1 s.2.1 s.2.2.1 s.2.2.2 (cR s.1.R a)).1,(fS s.1 s.2.1 s.2.2.1 s.2.2.2 (cR s.1.R a)).2.1,(fS s.1 s.2.1 s.2.2.1 s.2.2.2 (cR s.1.R a)).2.2.1,(fS s.1 s.2.1 s.2.2.1 s.2.2.2 (cR s.1.R a)).2.2.2.1)
noncomputable def dI (l:List ej):QP:=l.foldl qw (gj,iQ,im,lS)
theorem Aq {l:List ej}{k:Nat}{a:ej}(h:l[k]? = some a):dI (l.take (k+1))=qw (dI (l.take k)) a:=by
 unfold dI;rw [List.take_add_one,h];simp
theorem El {k:j9}{sc:j8}{d:cD}{lg:Lg}{a:ej}(h:a.Kind=(⟨#[115,97,118,101]⟩:ByteArray)):qw (k,sc,d,lg) a=(k,(cB (mkS sc lg) d).1.c,(cB (mkS sc lg) d).2.1,(cB (mkS sc lg) d).1.L):=if_pos h
theorem IL {k:j9}{sc:j8}{d:cD}{lg:Lg}{a:ej}(h:¬ a.Kind=(⟨#[115,97,118,101]⟩:ByteArray)):qw (k,sc,d,lg) a=((fS k sc d lg (cR k.R a)).1,(fS k sc d lg (cR k.R a)).2.1,(fS k sc d lg (cR k.R a)).2.2.1,(fS k sc d lg (cR k.R a)).2.2.2.1):=if_neg h
theorem OI {r:aD}{k:Nat}(h:Sz k r)(a:ej)(hk:k<=990):(cR r a).2=0->Ok (cR r a).1:=fun _=>(KU h a).ok (by omega)
def PI (s:QP)(t:Nat):Prop:=(∃u,KI s.2.2.1 s.2.1 s.2.2.2 s.1.R u (t+1))/\s.2.2.1.Fuse = -1/\Sz t s.1.R
theorem GX (k:j9):(⟨k.R⟩:j9)=k:=rfl
theorem Nz {s:QP}{t:Nat}(h:PI s t)(ht:t<=9000)(a:ej):PI (qw s a) (t+1):=by
 obtain ⟨⟨u,hk⟩,hf,hz⟩:=h
 obtain ⟨k,sc,d,lg⟩:=s
 dsimp only at hk hf hz
 unfold qw
 split
 .
  obtain ⟨a1,a2,a3⟩:=hk.save (by omega) hf
  exact ⟨⟨0,a3⟩,a2,hz.up (Nat.le_succ t)⟩
 .
  obtain ⟨b1,b2⟩:=hk.do (z:=cR k.R a) (by omega) (vK hk.inv a)
  dsimp only
  rw [GX] at b1 b2
  by_cases h0:(cR k.R a).2=0
  .
   rcases b2 h0 with ⟨c1,c2,c3,u2,c4⟩ | ⟨_,_,c3,_⟩
   .
    refine ⟨⟨u2,?_⟩,c3 hf,?_⟩
    .dsimp only;rw [c2];exact c4
    .dsimp only;rw [c2];exact KU hz a
   .exact absurd hf c3
  .
   rw [b1 h0]
   exact ⟨⟨u,hk.up (Nat.le_succ _)⟩,hf,hz.up (Nat.le_succ t)⟩
theorem GY:∀ (l:List ej),l.length<=9000->PI (dI l) l.length:=by
 have key:∀ (l:List ej) (s:QP) (t:Nat),PI s t->t+l.length<=9000->PI (l.foldl qw s) (t+l.length):=by
  intro l
  induction l with
  | nil=>intro s t h _;exact h
  | cons a l ih =>
   intro s t h ht
   rw [List.length_cons] at ht ⊢
   have:=ih (qw s a) (t+1) (Nz h (by omega) a) (by omega)
   rwa [show t+1+l.length=t+(l.length+1) by omega] at this
 intro l hl
 obtain ⟨_,h2,_,_,h5,u,h6⟩:=Cb
 have:=key l (gj,iQ,im,lS) 0 ⟨⟨u,by dsimp only;rw [h5];exact h6⟩,h2,by dsimp only;rw [h5];exact Sz.new⟩ (by omega)
 rwa [Nat.zero_add] at this
theorem PI.acts {s:QP}{t:Nat}(h:PI s t)(ht:t<=9000)(a:ej):(fS s.1 s.2.1 s.2.2.1 s.2.2.2 (cR s.1.R a)).2.2.2.2=(cR s.1.R a).2 /\
 (¬ (cR s.1.R a).2=0->(fS s.1 s.2.1 s.2.2.1 s.2.2.2 (cR s.1.R a)).1.R=s.1.R)/\((cR s.1.R a).2=0->(fS s.1 s.2.1 s.2.2.1 s.2.2.2 (cR s.1.R a)).1.R=(cR s.1.R a).1):=by
 obtain ⟨⟨u,hk⟩,hf,hz⟩:=h
 obtain ⟨k,sc,d,lg⟩:=s
 dsimp only at hk hf hz ⊢
 obtain ⟨b1,b2⟩:=hk.do (z:=cR k.R a) (by omega) (vK hk.inv a)
 rw [GX] at b1 b2
 by_cases h0:(cR k.R a).2=0
 .
  rcases b2 h0 with ⟨c1,c2,_⟩ | ⟨_,_,c3,_⟩
  .exact ⟨c1.trans h0.symm,fun q=>absurd h0 q,fun _=>c2⟩
  .exact absurd hf c3
 .
  rw [b1 h0]
  exact ⟨rfl,fun _=>rfl,fun q=>absurd q h0⟩
section
variable {d:cD} {sc:j8} {lg:Lg} {r:aD} {u t:Nat}
theorem KI.small (h:KI d sc lg r u t):sc.Rows.length<=60 /\ ∀c∈sc.Rows,c.Key.size<=1000/\c.Val.size<=1000:=by
 rw [h.rows];exact ⟨og h.inv,FB h.inv⟩
theorem KI.pre (h:KI d sc lg r u t)(ht:t<=9999):(fO d.Now.length 60000 d/\d.Now.length<=200/\166<=d.Now.length)/\(0<=sc.Epoch/\sc.Epoch<=1000000000/\0<=sc.Side/\sc.Side<=1/\0<=lg.Many/\lg.Many<=1000/\1<=lg.First/\lg.First<=1000000000/\0<=lg.From/\lg.From<=1000/\0<=lg.Next/\lg.Next<=1000)/\sc.Rows.length<=60/\(∀c∈sc.Rows,iG c=0):=by
 have g:=h.sv.good
 exact ⟨h.sv.ok,h.sv.bnd (by omega),g.1,g.2.1⟩
theorem KI.anew (h:KI d sc lg r u t)(ht:t<=9999):d.Down=false/\ku d=0/\(fO d.Now.length 90000 d/\d.Now.length<=200)/\(cb (bq d).c.Rows).2=0/\((bq d).c.Rows.length<=60 /\ ∀c∈(bq d).c.Rows,c.Key.size<=1000/\c.Val.size<=1000)/\(cb (bq d).c.Rows).1=aR r/\KI d (bq d).c (bq d).L (aR r) u t:=by
 obtain ⟨a1,a2,a3,a4,a5⟩:=h.opened ht
 have g:=h.sv.ok
 rw [a2,a3]
 exact ⟨h.sv.room.2.2.1,a1,⟨g.1.up (by omega),g.2.1⟩,by rw [a4],h.small,by rw [a4],a5⟩
end
end
end Go.Proofs.YtkbhcbipadkcaaaGreatDoor
