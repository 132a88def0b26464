import Derived.Test.YtkbhcbipadkcaaaGreatDoorTO45
namespace Go.Proofs.YtkbhcbipadkcaaaGreatDoor
set_option linter.unusedVariables false
set_option linter.unusedSimpArgs false
section
open Go Go.RowKit
section
variable {n u t:Nat} {st:oM} {d e:cw}
theorem rest_of {m:Nat}(h:fL n m e)(hd:e.Down=false)(hk:e.Kept=e.Now)(hw:e.Wait=[]):Rest n e :=
 ⟨⟨h.kl,h.nl,h.ks,h.ns,by rw [hw];simp,h.F4,h.f0,h.f1⟩,hd,h.f0,hk,hw⟩
theorem LH (z:Int)(l:List ByteArray):mL z [] l=l:=rfl
theorem LJ (z:Int)(x:Turn)(l:List ByteArray):mL z [x] l=l∨mL z [x] l=l.set x.At.toNat x.Data:=by
 show oF z l (x,0)=l∨oF z l (x,0)=_
 unfold oF;dsimp only;split
 .exact .inr rfl
 .exact .inl rfl
theorem LK {m:Nat}(hO:fL n m e)(hd:e.Down=false){first:Int}(h:iF (e.Now.drop 102) first [] 0)(hn:166<=n):fE e 102 ((e.Now.length:Int)-102).toNat first=0:=by
 have hl:=hO.nl
 have HG:p9 e 102 ((e.Now.length:Int)-102).toNat=e.Now.drop 102:=by
  have:=nZ (d:=e) (f:=102) (k:=e.Now.length-102) hd (by omega)
  rw [show ((102:Nat):Int)=102 from rfl] at this
  rw [show ((e.Now.length:Int)-102).toNat=e.Now.length-102 by omega,this,List.take_of_length_le (by rw [List.length_drop];omega)]
 unfold fE;rw [HG,h.sc]
theorem Ed (h:SV n d st u t)(ht:t<=9999) :
 (∃e st',ct st d=(st',e,0)/\SV n e st' 0 (t+1)/\st'.Rows=st.Rows/\(d.Fuse = -1->e.Fuse = -1)) ∨
 (∃e,ct st d=(st,e,10)/\¬ d.Fuse = -1/\fL n 3000 e /\ ∀z,∃st' u',SV n (gD e z) st' u' (t+1)/\st'.Rows=st.Rows):=by
 have hR:=h.rest;have hS:=h.sn
 have h3:=hS.sd;have h4:=hS.rows.size;have h5:=hS.nb;have h6:=hS.len;have h1:=hS.eb;have h2:=hS.fb
 have hck:=Kd (s:=st) hR.ok (by omega)
 have hkn:=hR.kn;have hwt:=hR.wait
 have hM:st.L.Many=(n:Int)-102:=by rw [hS.lg]
 have V8:st.L.First=st.First:=by rw [hS.lg]
 obtain ⟨f,hf⟩:∃f:Nat,f=2+((1-st.Side)*50).toNat:=⟨_,rfl⟩
 have hfi:(2:Int)+(1-st.Side)*50=(f:Int):=by omega
 have hb:ck1 st d=iO (f:Int) (aJ st.Rows) ((aJ st.Rows).size+1) 0 d:=by unfold ck1;rw [hfi]
 have old:∀e:cw,fL n 3000 e->e.Kept=d.Now->(∀x∈e.Wait,(f:Int)<=x.At/\x.At<(f:Int)+50) -> ∀z,∃st' u',SV n (gD e z) st' u' (t+1)/\st'.Rows=st.Rows:=fun e hO hk hw z =>
  ⟨st,u,⟨(h.fell hO hk f hf hw z).rest,(h.fell hO hk f hf hw z).sn.up (Nat.le_succ t)⟩,rfl⟩
 rcases Ah (f:=f) (x:=aJ st.Rows) (by omega) ((aJ st.Rows).size+1) 0 d hR.down hR.fuse (by omega) (by omega) with ⟨g,N,T,q1,q0,q2,q3,q4,q5,q6⟩ | ⟨e,q0,q1,q2,T,q3,q4⟩
 rotate_left
 .
  right
  have hc:=Sq (s:=st) (d:=d) (m:=e) (e:=10) (hb.trans q1) (by decide)
  rw [hc] at hck
  exact ⟨e,hc,q0,hck.up (by omega),old e (hck.up (by omega)) (q2.trans hkn) (by rw [q3,hwt,List.nil_append];exact q4)⟩
 have hm:=hb.trans q2
 rw [hwt,List.nil_append] at hm
 rcases uX (d:=⟨d.Kept,N,T,g,false⟩) rfl q1 with ⟨g2,q7,q8,q9⟩ | ⟨q8,q9⟩
 rotate_left
 .
  right
  have hc:=Sr hm rfl (by rw [q9];exact j1)
  rw [q9] at hc
  rw [hc] at hck
  exact ⟨_,hc,fun hq=>q8 (q0 hq),hck.up (by omega),old _ (hck.up (by omega)) hkn q3⟩
 have hN:SN n N st u t:=hS.same q4 fun j hj=>q5 j (by omega)
 have hH:uu N f (aJ st.Rows):=fun k hk=>q6 k (Nat.zero_le _) hk
 have hm2:fL n 2450 (⟨N,N,[],g2,false⟩:cw):=by
  have:=(tX (f:=(f:Int)) (t:=aJ st.Rows) ((aJ st.Rows).size+1) 0 d 0 hR.ok).flush
  rw [q2,hwt,List.nil_append,q9] at this
  exact this.up (by omega)
 have V9:SV n (⟨N,N,[],g2,false⟩:cw) st u t:=⟨rest_of hm2 rfl rfl rfl,hN⟩
 have Tp:0<=(st.Epoch+1) % 2/\(st.Epoch+1) % 2<2:=⟨by omega,by omega⟩
 have hcs:(aN (uH st)).size<=48:=by rw [sy];decide
 rcases uW (d:=⟨N,N,[],g2,false⟩) (i:=(st.Epoch+1) % 2) (x:=aN (uH st)) rfl q7 Tp.1 (by dsimp only;omega) hcs with ⟨g3,Wa,TH,LL⟩ | ⟨TH,LL⟩
 rotate_left
 .
  right
  have hc:=Ss hm rfl (by rw [q9]) (by rw [q9,LL];exact j1)
  rw [q9] at hc;dsimp only at hc;rw [LL] at hc
  rw [hc] at hck
  refine ⟨_,hc,fun hq=>TH (q8 (q0 hq)),hck.up (by omega),fun z=>⟨st,u,⟨mJ hck z,?_⟩,rfl⟩⟩
  exact hN.up (Nat.le_succ t)
 have LM:∀L,L=(⟨102,(n:Int)-102,st.First+((n:Int)-102),0⟩:Lg)->SN n (N.set ((st.Epoch+1) % 2).toNat (full (aN (uH st)))) ⟨st.Epoch+1,1-st.Side,((aJ st.Rows).size:Int),st.First+((n:Int)-102),L,st.Rows⟩ 0 (t+1):=fun L hL =>
  hN.flip ht (hf▸hH) rfl L hL
 dsimp only at LL
 rw [List.nil_append] at LL
 rcases uX (d:=⟨N,N.set ((st.Epoch+1) % 2).toNat (full (aN (uH st))),[⟨(st.Epoch+1) % 2,full (aN (uH st))⟩],g3,false⟩) rfl Wa with ⟨g4,WA,Ux,Tq⟩ | ⟨Ux,Tq⟩
 .
  left
  have hc:=Sw hm rfl (by rw [q9]) (by rw [q9];dsimp only;rw [LL]) (by rw [q9];dsimp only;rw [LL,Tq])
  rw [q9] at hc;dsimp only at hc;rw [LL] at hc;dsimp only at hc;rw [Tq] at hc;dsimp only at hc
  rw [hc] at hck
  have Im:fL n 2500 (⟨N.set ((st.Epoch+1) % 2).toNat (full (aN (uH st))),N.set ((st.Epoch+1) % 2).toNat (full (aN (uH st))),[],g4,false⟩:cw):=hck.up (by omega)
  have hx:=LM _ rfl
  obtain ⟨b,W,hb1,hb2,hb3,hb4,hb5⟩:=hx.base
  have Uy:iF ((N.set ((st.Epoch+1) % 2).toNat (full (aN (uH st)))).drop 102) (st.First+((n:Int)-102)) [] 0:=by
   obtain ⟨b',W',_,_,_,hl',_⟩:=hN.base
   have hdl:(N.drop 102).length=n-102:=by rw [List.length_drop,q4,h6]
   have hx:=hl'.next (by omega) (by rw [hdl];omega)
   rw [hdl] at hx
   rw [List.drop_set_of_lt (by omega),show st.First+((n:Int)-102)=st.First+((n-102:Nat):Int) by omega]
   exact hx
  have hu:=LK Im rfl Uy h5.1
  have hlen:((N.set ((st.Epoch+1) % 2).toNat (full (aN (uH st)))).length:Int)=(n:Int):=by rw [List.length_set,q4,h6]
  refine ⟨_,_,hc,⟨rest_of Im rfl rfl rfl,?_⟩,rfl,fun hq=>Ux (TH (q8 (q0 hq)))⟩
  unfold Sm
  dsimp only at hu ⊢
  rw [hlen] at hu
  rw [V8,hM,hlen]
  exact LM _ (by rw [hu];rfl)
 .
  right
  have hc:=Sv hm rfl (by rw [q9]) (by rw [q9];dsimp only;rw [LL]) (by rw [q9];dsimp only;rw [LL,Tq];exact j1)
  rw [q9] at hc;dsimp only at hc;rw [LL] at hc;dsimp only at hc;rw [Tq] at hc
  rw [hc] at hck
  refine ⟨_,hc,fun hq=>Ux (TH (q8 (q0 hq))),hck.up (by omega),fun z=>?_⟩
  rcases LJ z (⟨(st.Epoch+1) % 2,full (aN (uH st))⟩:Turn) N with hz|hz
  .
   refine ⟨st,u,⟨mJ hck z,?_⟩,rfl⟩
   show SN n (mL z _ N) st u (t+1)
   rw [hz];exact hN.up (Nat.le_succ t)
  .
   refine ⟨(⟨st.Epoch+1,1-st.Side,((aJ st.Rows).size:Int),st.First+((n:Int)-102),⟨102,(n:Int)-102,st.First+((n:Int)-102),0⟩,st.Rows⟩:oM),0,⟨mJ hck z,?_⟩,rfl⟩
   show SN n (mL z _ N) _ 0 (t+1)
   rw [hz];exact LM _ rfl
end
end
section
open Go Go.RowKit
section
variable {n u t:Nat} {st:oM} {d e:cw} {l:List Change}
theorem SN.QM {l0 l':List ByteArray}(h:SN n l0 st u t)(hl:l'.length=l0.length)(ht:l'.take 102=l0.take 102){b:List Change}{W':List (List Change)}{u':Nat}{rows:List Change}(hb:nk b)(hz:st.Size=((aJ b).size:Int))(hh:uu l0 (2+(st.Side*50).toNat) (aJ b))
 (Nv:iF (l'.drop 102) st.First W' u') (hr:rows=kz b W') (hg:nk rows):SN n l' (sW st ⟨102,(n:Int)-102,st.First,(u':Int)⟩ rows) u' t:=by
 have h3:=h.sd;have h4:=hb.size;have h1:=h.eb
 have hs:∀j:Nat,j<102->l'[j]? = l0[j]?:=fun j hj=>by rw [<- List.getElem?_take_of_lt hj,ht,List.getElem?_take_of_lt hj]
 refine ⟨hl.trans h.len,h.nb,h.eb,h.fb,h.sd,?_,fun s hx=>?_,rfl,hg,b,W',hb,hz,fun k hk=>?_,Nv,hr⟩
 .
  show l'[(st.Epoch % 2).toNat]? = _
  rw [hs _ (by omega)];exact h.hd
 .
  refine h.oh s ?_
  rw [<- hs _ (by omega)];exact hx
 .
  show l'[2+(st.Side*50).toNat+k]? = _
  rw [hs _ (by omega)];exact hh k hk
theorem FB {b:List Change}{W:List (List Change)}{c:List Change}:kz b (W++[c])=bW (kz b W) c:=by
 unfold kz;rw [List.foldl_append];rfl
theorem Ee (h:SV n d st u t)(ht:t<=10000)(h0:¬ 62<l.length)(h1:jH l=0)(h2:¬ 60<(bW st.Rows l).length)(hr:¬ st.L.Many-st.L.Next<(l.length:Int)+1) :
 (∃e st',cx st.L d l=(st'.L,e,0)/\SV n e st' (u+l.length+1) t/\st'=sW st st'.L (bW st.Rows l)/\(d.Fuse = -1->e.Fuse = -1)) ∨
 (∃e,cx st.L d l=(st.L,e,10)/\¬ d.Fuse = -1 /\ ∀z,∃st' u',SV n (gD e z) st' u' t/\(st'.Rows=st.Rows∨st'.Rows=bW st.Rows l)):=by
 obtain ⟨b,W,hb,hz,hh,Nv,hrw⟩:=h.sn.base
 have h3:=h.sn.nb;have h4:=h.sn.fb;have h6:=h.sn.len
 have hL:st.L=⟨((102:Nat):Int),((n-102:Nat):Int),st.First,(u:Int)⟩:=by rw [h.sn.lg,show ((n-102:Nat):Int)=(n:Int)-102 by omega];rfl
 have ha:jI ⟨((102:Nat):Int),((n-102:Nat):Int),st.First,(u:Int)⟩ l=0:=Bj h0 (by rw [<- hL];exact hr) h1
 have hgood:=h.sn.rows.apply h1 (by omega)
 have hnew:bW st.Rows l=kz b (W++[l]):=by rw [FB,<- hrw]
 rcases Ns (f:=102) (k:=n-102) h.rest (by omega) (by omega) (by omega) Nv ha with ⟨e,q1,q2,q3,q4,q5⟩ | ⟨e,q1,q2,q3⟩
 .
  left
  have hlen:e.Now.length=d.Now.length:=by rw [q2.ok.nl,h6]
  refine ⟨e,sW st ⟨102,(n:Int)-102,st.First,((u+l.length+1:Nat):Int)⟩ (bW st.Rows l),?_,⟨q2,h.sn.QM hlen q3 hb hz hh q4 hnew hgood⟩,rfl,q5⟩
  rw [hL,q1]
  show (_,_,_)=((⟨102,(n:Int)-102,st.First,((u+l.length+1:Nat):Int)⟩:Lg),e,(0:Int))
  rw [show ((n-102:Nat):Int)=(n:Int)-102 by omega];rfl
 .
  right
  refine ⟨e,by rw [hL];exact q1,q2,fun z=>?_⟩
  obtain ⟨a1,a2,W',u',a3,a4⟩:=q3 z
  have hrs:Rest n (gD e z):=⟨a1,rfl,by show (-1:Int) <= -1;decide,rfl,rfl⟩
  have hlen:(mL z e.Wait e.Kept).length=d.Now.length:=by have:=a1.nl;rw [h6];exact this
  rcases a4 with a4|a4
  .exact ⟨_,u',⟨hrs,h.sn.QM (l':=mL z e.Wait e.Kept) hlen a2 hb hz hh a3 (rows:=st.Rows) (by rw [a4];exact hrw) h.sn.rows⟩,.inl rfl⟩
  .exact ⟨_,u',⟨hrs,h.sn.QM (l':=mL z e.Wait e.Kept) hlen a2 hb hz hh a3 (rows:=bW st.Rows l) (by rw [a4];exact hnew) hgood⟩,.inr rfl⟩
theorem SV.up (h:SV n d st u t){t':Nat}(ht:t<=t'):SV n d st u t':=⟨h.rest,h.sn.up ht⟩
theorem yv (h:SV n d st u t)(ht:t<=9999)(hf:ny st d.Now.length l=0) :
 (∃e st' u',bD st d l=(st',e,0)/\SV n e st' u' (t+1)/\st'.Rows=bW st.Rows l/\(d.Fuse = -1->e.Fuse = -1)/\(u':Int)=(if st.L.Many-st.L.Next<(l.length:Int)+1 then 0 else (u:Int))+(l.length:Int)+1) ∨
 (∃e st1,bD st d l=(st1,e,10)/\¬ d.Fuse = -1/\fL n 4000 e /\ ∀z,∃st' u',SV n (gD e z) st' u' (t+1)/\(st'.Rows=st.Rows∨st'.Rows=bW st.Rows l)):=by
 have hf2:=hf
 have h6:=h.sn.len;have h3:=h.sn.nb
 unfold ny at hf2
 split at hf2
 .cases hf2
 rename_i h0
 split at hf2
 .rename_i h1;exact absurd hf2 h1
 rename_i h1
 have h1:jH l=0:=by simpa using h1
 split at hf2
 .cases hf2
 rename_i h2
 have U5:¬ 60<(bW st.Rows l).length:=fun hh=>h2 (.inl hh)
 have WB:¬ (d.Now.length:Int)-102<(l.length:Int)+1:=fun hh=>h2 (.inr hh)
 by_cases hr:st.L.Many-st.L.Next<(l.length:Int)+1
 .
  rw [if_pos hr]
  rcases Ed h ht with ⟨e1,s1,c1,c2,c3,c4⟩ | ⟨e1,c1,c2,c3,c4⟩
  .
   have hM:s1.L.Many=(n:Int)-102/\s1.L.Next=0:=by rw [c2.sn.lg];exact ⟨rfl,rfl⟩
   have hz:(ct st d).2.2=0:=by rw [c1]
   rcases Ee (l:=l) c2 (by omega) h0 h1 (by rw [c3];exact U5) (by omega) with ⟨e,s2,a1,a2,a3,a4⟩ | ⟨e,a1,a2,a3⟩
   .
    left
    have hc:=Ob hf hr hz (by rw [c1];dsimp only;rw [a1])
    rw [c1] at hc;dsimp only at hc;rw [a1] at hc;dsimp only at hc
    rw [c3] at a3
    refine ⟨e,s2,0+l.length+1,hc.trans (by rw [<- a3]),a2,by rw [a3];rfl,fun hq=>a4 (c4 hq),by omega⟩
   .
    right
    have hc:=Oc hf hr hz (by rw [c1];dsimp only;rw [a1];exact j1)
    rw [c1] at hc;dsimp only at hc;rw [a1] at hc;dsimp only at hc
    have hO:=vz (lg:=s1.L) (c:=l) c2.rest.ok
    rw [a1] at hO
    refine ⟨e,_,hc,fun hq=>a2 (c4 hq),hO.up (by omega),fun z=>?_⟩
    obtain ⟨st',u',b1,b2⟩:=a3 z
    rw [c3] at b2
    exact ⟨st',u',b1,b2⟩
  .
   right
   have hc:=Oa hf hr (by rw [c1];exact j1)
   rw [c1] at hc
   refine ⟨e1,st,hc,c2,c3.up (by omega),fun z=>?_⟩
   obtain ⟨st',u',b1,b2⟩:=c4 z
   exact ⟨st',u',b1,.inl b2⟩
 .
  rw [if_neg hr]
  rcases Ee (l:=l) h (by omega) h0 h1 U5 hr with ⟨e,s2,a1,a2,a3,a4⟩ | ⟨e,a1,a2,a3⟩
  .
   left
   have hc:=Od hf hr (by rw [a1])
   rw [a1] at hc;dsimp only at hc
   exact ⟨e,s2,u+l.length+1,hc.trans (by rw [<- a3]),a2.up (by omega),by rw [a3];rfl,a4,by omega⟩
  .
   right
   have hc:=Oe hf hr (by rw [a1];exact j1)
   rw [a1] at hc;dsimp only at hc
   have hO:=vz (lg:=st.L) (c:=l) h.rest.ok
   rw [a1] at hO
   refine ⟨e,_,hc,a2,hO.up (by omega),fun z=>?_⟩
   obtain ⟨st',u',b1,b2⟩:=a3 z
   exact ⟨st',u',b1.up (by omega),b2⟩
theorem uY:∀ (k i:Nat) (d:cw),d.Down=false->d.Fuse = -1->d.Now=List.replicate n (tN 48)->i+k<=n -> ∃T,kx k i (d,0)=(⟨d.Kept,d.Now,T,-1,false⟩,0)
 | 0,i,d,h1,h2,h3,h4=>⟨d.Wait,by rw [kx];obtain ⟨a,b,c,g,q⟩:=d;simp only at h1 h2;rw [h1,h2]⟩
 | k+1,i,d,h1,h2,h3,h4=>by
  have hw:=jy (d:=d) (i:=(i:Int)) (x:=⟨#[]⟩) h1 h2 (by omega) (by rw [h3,List.length_replicate];omega) (by decide)
  rw [Int.toNat_natCast,CM] at hw
  have hset:d.Now.set i (tN 48)=d.Now:=by rw [h3,List.set_replicate_self]
  rw [hset] at hw
  rw [kx,if_pos rfl,hw]
  exact uY k (i+1) ⟨d.Kept,d.Now,d.Wait++[⟨(i:Int),tN 48⟩],-1,false⟩ rfl rfl h3 (by omega)
theorem Ai {m:Nat}:∀ (k i:Nat) (s:cw×Int) (m:Nat),fL n m s.1->fL n (m+k) (kx k i s).1
 | 0,i,s,m,h=>h
 | k+1,i,s,m,h=>by
  rw [kx];split
  .exact (Ai (m:=m) k (i+1) _ (m+1) (h.write _ _)).up (by omega)
  .exact h.up (by omega)
def st0 (n:Nat):oM:=⟨1,0,0,1,⟨102,(n:Int)-102,1,0⟩,[]⟩
theorem Nw (h1:166<=n)(h2:n<=200):∃e,dK (dNew n)=(e,0)/\SV n e (st0 n) 0 0/\e.Fuse = -1:=by
 have hl:(dNew n).Now.length=n:=by simp [dNew]
 have w0:=jy (d:=dNew n) (i:=0) (x:=⟨#[]⟩) rfl rfl (by decide) (by omega) (by decide)
 have hN:(dNew n).Now=List.replicate n (tN 48):=rfl
 rw [show Int.toNat 0=0 from rfl,CM,hN,List.set_replicate_self] at w0
 obtain ⟨T,hT⟩:=uY (n:=n) (n-102) 102 ⟨(dNew n).Kept,List.replicate n (tN 48),(dNew n).Wait++[⟨0,tN 48⟩],-1,false⟩ rfl rfl rfl (by omega)
 have f1:xe (dNew n)=(⟨(dNew n).Kept,List.replicate n (tN 48),T,-1,false⟩,0):=by
  unfold xe;rw [hl,w0];exact hT
 have f2:=lz (d:=⟨(dNew n).Kept,List.replicate n (tN 48),T,-1,false⟩) rfl rfl
 have f3:=jy (d:=⟨List.replicate n (tN 48),List.replicate n (tN 48),[],-1,false⟩) (i:=1) (x:=aN ⟨1,0,0,1⟩) rfl rfl (by decide) (by dsimp only;rw [List.length_replicate];omega) (by rw [sy];decide)
 rw [show Int.toNat 1=1 from rfl] at f3
 dsimp only at f2 f3
 have f4:=lz (d:=⟨List.replicate n (tN 48),(List.replicate n (tN 48)).set 1 (full (aN ⟨1,0,0,1⟩)),[]++[⟨1,full (aN ⟨1,0,0,1⟩)⟩],-1,false⟩) rfl rfl
 dsimp only at f4
 have hok:fL n 2000 (⟨(List.replicate n (tN 48)).set 1 (full (aN ⟨1,0,0,1⟩)),(List.replicate n (tN 48)).set 1 (full (aN ⟨1,0,0,1⟩)),[],-1,false⟩:cw):=by
  have k1:=Ai (m:=0) (n-102) 102 (ap (dNew n) 0 ⟨#[]⟩) 1 ((AJ n).write 0 ⟨#[]⟩)
  have k2:fL n (1+(n-102)) (xe (dNew n)).1:=by unfold xe;rw [hl];exact k1
  rw [f1] at k2
  have k3:=k2.flush;rw [f2] at k3
  have k4:=k3.write 1 (aN ⟨1,0,0,1⟩);dsimp only at k4;rw [f3] at k4
  have k5:=k4.flush;dsimp only at k5;rw [f4] at k5
  exact k5.up (by omega)
 refine ⟨_,(P7 (by omega) f1 rfl (by rw [f2]) (by rw [f2];dsimp only;rw [f3])).trans (by rw [f2];dsimp only;rw [f3];dsimp only;rw [f4]),⟨rest_of hok rfl rfl rfl,?_⟩,rfl⟩
 refine ⟨by simp,⟨h1,h2⟩,⟨by show (1:Int)<=1;decide,by show (1:Int)<=1+((0:Nat):Int);decide⟩,⟨by show (1:Int)<=1;decide,by show (1:Int)<=1+100*((0:Nat):Int);decide⟩,.inl rfl,?_,fun s hs=>?_,rfl,nk.nil,[],[],nk.nil,rfl,fun k hk=>?_,iF.blank 1 fun s hs=>?_,rfl⟩
 .
  show ((List.replicate n (tN 48)).set 1 (full (aN ⟨1,0,0,1⟩)))[1]? = some (full (aN ⟨1,0,0,1⟩))
  rw [List.getElem?_set_self (by rw [List.length_replicate];omega)]
 .
  have hs':((List.replicate n (tN 48)).set 1 (full (aN ⟨1,0,0,1⟩)))[0]? = some s:=hs
  rw [List.getElem?_set_ne (by decide),List.getElem?_replicate] at hs'
  rw [if_pos (by omega)] at hs'
  rw [<- Option.some.inj hs',IA];show (0:Int)<1;decide
 .
  have:(aJ []).size=0:=rfl
  omega
 .
  have hs':s∈((List.replicate n (tN 48)).set 1 (full (aN ⟨1,0,0,1⟩))).drop 102:=hs
  rw [List.drop_set_of_lt (by decide),List.drop_replicate] at hs'
  rw [List.eq_of_mem_replicate hs'];exact CL
end
end
section
open Go Go.RowKit
set_option maxRecDepth 100000
set_option maxHeartbeats 90000000
structure Tr where
  Rows:List Change
  Used:Int
  Many:Int
section
variable {m:Tr} {l:List Change}
end
end
section
open Go Go.RowKit
section
variable {n u t:Nat} {sc:ka} {lg:Lg} {d:cw} {l:List Change} {m:Tr}
theorem GQ (s:oM):mkS s.c s.L=s:=rfl
theorem SV.ok (h:SV n d (mkS sc lg) u t):fL d.Now.length 60000 d/\d.Now.length<=200/\166<=d.Now.length:=by
 have h1:=h.sn.len;have h2:=h.sn.nb
 exact ⟨h1.symm▸h.rest.ok.up (by omega),by omega,by omega⟩
theorem SV.bnd (h:SV n d (mkS sc lg) u t)(ht:t<=10000):0<=sc.Epoch/\sc.Epoch<=1000000000/\0<=sc.Side/\sc.Side<=1/\0<=lg.Many/\lg.Many<=1000/\1<=lg.First/\lg.First<=1000000000/\0<=lg.From/\lg.From<=1000/\0<=lg.Next/\lg.Next<=1000:=by
 have e1:1<=sc.Epoch/\sc.Epoch<=1+(t:Int):=h.sn.eb
 have e2:1<=sc.First/\sc.First<=1+100*(t:Int):=h.sn.fb
 have e3:sc.Side=0∨sc.Side=1:=h.sn.sd
 have e4:lg=⟨102,(n:Int)-102,sc.First,(u:Int)⟩:=h.sn.lg
 have e5:=h.sn.nb;have e6:=h.sn.len
 obtain ⟨b,W,_,_,_,hl,_⟩:=h.sn.base
 have e7:=hl.ule
 rw [List.length_drop] at e7
 rw [e4];dsimp only
 refine ⟨?_,?_,?_,?_,?_,?_,?_,?_,?_,?_,?_,?_⟩ <;> omega
theorem SV.good (h:SV n d (mkS sc lg) u t):sc.Rows.length<=60/\(∀c∈sc.Rows,iI c=0)/\dq sc.Rows:=⟨h.sn.rows.len,h.sn.rows.ok,h.sn.rows.rise⟩
theorem SV.room (h:SV n d (mkS sc lg) u t):lg.Many=(n:Int)-102/\lg.Next=(u:Int)/\d.Down=false/\d.Now.length=n/\166<=n/\n<=200:=by
 have e4:lg=⟨102,(n:Int)-102,sc.First,(u:Int)⟩:=h.sn.lg
 exact ⟨by rw [e4],by rw [e4],h.rest.down,h.sn.len,h.sn.nb.1,h.sn.nb.2⟩
theorem SV.opened (h:SV n d (mkS sc lg) u t)(ht:t<=10000):ky d=0/\(bm d).c=sc/\(bm d).L=lg:=by
 obtain ⟨h1,h2⟩:=yu h.rest.ok h.rest.down h.sn ht
 exact ⟨h1,by rw [h2];rfl,by rw [h2];rfl⟩
theorem Nx (h:SV n d (mkS sc lg) u t)(ht:t<=9999)(hf:d.Fuse = -1) :
 (ct (mkS sc lg) d).2.2=0/\(ct (mkS sc lg) d).1.c.Rows=sc.Rows/\(ct (mkS sc lg) d).2.1.Fuse = -1/\SV n (ct (mkS sc lg) d).2.1 (mkS (ct (mkS sc lg) d).1.c (ct (mkS sc lg) d).1.L) 0 (t+1):=by
 rcases Ed h ht with ⟨e1,s1,a1,a2,a3,a4⟩ | ⟨e1,a1,a2,_⟩
 .rw [a1];exact ⟨rfl,a3,a4 hf,a2⟩
 .exact absurd hf a2
theorem LN {k:Nat}(h1:166<=k)(h2:k<=200):(dK (dNew k)).2=0/\(dK (dNew k)).1.Fuse = -1/\ky (dK (dNew k)).1=0/\SV k (dK (dNew k)).1 (mkS (bm (dK (dNew k)).1).c (bm (dK (dNew k)).1).L) 0 0/\(bm (dK (dNew k)).1).c.Rows=[]:=by
 obtain ⟨e,q1,q2,q3⟩:=Nw h1 h2
 have q4:=yu q2.rest.ok q2.rest.down q2.sn (by omega)
 rw [q1];dsimp only
 rw [q4.2,GQ]
 exact ⟨rfl,q3,q4.1,q2,rfl⟩
end
end
section
open Go Go.RowKit
section
variable {n u t:Nat} {st:oM} {sc:ka} {lg:Lg} {d:cw} {l:List Change}
theorem SV.reopen (h:SV n d st u t)(ht:t<=10000):ky d=0/\SV n d (mkS (bm d).c (bm d).L) u t/\(bm d).c.Rows=st.Rows:=by
 obtain ⟨h1,h2⟩:=yu h.rest.ok h.rest.down h.sn ht
 rw [h2,GQ];exact ⟨h1,h,rfl⟩
theorem SV.again (h:SV n d st u t)(z:Int):SV n (gD d z) st u t:=by
 refine ⟨mJ h.rest.ok z,?_⟩
 show SN n (mL z d.Wait d.Kept) st u t
 rw [h.rest.wait,LH,h.rest.kn];exact h.sn
end
end
section
open Go Go.RowKit
structure kb where
  R:aC
abbrev U6:Type:=kb×ka×cw×Lg×Int
abbrev l4 (a b:aC):List Change:=gT (mN (bF a) (bF b))
def Uz (k:kb)(r:aC)(c:oM×cw×Int):U6:=if c.2.2=0 then (⟨r⟩,c.1.c,c.2.1,c.1.L,c.2.2) else (k,c.1.c,c.2.1,c.1.L,c.2.2)
def fQ (k:kb)(sc:ka)(d:cw)(lg:Lg)(z:aC×Int):U6 :=
  if ¬ z.2=0 then (k,sc,d,lg,z.2) else if 0<(l4 k.R z.1).length then Uz k z.1 (bD (mkS sc lg) d (l4 k.R z.1)) else (⟨z.1⟩,sc,d,lg,z.2)
section
variable {k:kb} {sc:ka} {d:cw} {lg:Lg} {z:aC×Int}
theorem OB (h:¬ z.2=0):fQ k sc d lg z=(k,sc,d,lg,z.2):=if_pos h
theorem OC (h:z.2=0)(h1:¬ 0<(l4 k.R z.1).length):fQ k sc d lg z=(⟨z.1⟩,sc,d,lg,z.2):=by unfold fQ;rw [if_neg (by omega),if_neg h1]
theorem OD (h:z.2=0)(h1:0<(l4 k.R z.1).length)(h2:(bD (mkS sc lg) d (l4 k.R z.1)).2.2=0):fQ k sc d lg z=(⟨z.1⟩,(bD (mkS sc lg) d (l4 k.R z.1)).1.c,(bD (mkS sc lg) d (l4 k.R z.1)).2.1,(bD (mkS sc lg) d (l4 k.R z.1)).1.L,(bD (mkS sc lg) d (l4 k.R z.1)).2.2):=by unfold fQ;rw [if_neg (by omega),if_pos h1];exact if_pos h2
theorem OE (h:z.2=0)(h1:0<(l4 k.R z.1).length)(h2:¬ (bD (mkS sc lg) d (l4 k.R z.1)).2.2=0):fQ k sc d lg z=(k,(bD (mkS sc lg) d (l4 k.R z.1)).1.c,(bD (mkS sc lg) d (l4 k.R z.1)).2.1,(bD (mkS sc lg) d (l4 k.R z.1)).1.L,(bD (mkS sc lg) d (l4 k.R z.1)).2.2):=by unfold fQ;rw [if_neg (by omega),if_pos h1];exact if_neg h2
end
structure KI (d:cw)(sc:ka)(lg:Lg)(r:aC)(u t:Nat):Prop where
  sv:SV 170 d (mkS sc lg) u t
  rows:sc.Rows=bF r
  inv:Inv r
section
variable {d e:cw} {sc:ka} {lg:Lg} {r:aC} {u t k:Nat} {a:eh} {z:aC×Int}
theorem KI.up (h:KI d sc lg r u t){t':Nat}(ht:t<=t'):KI d sc lg r u t':=⟨h.sv.up ht,h.rows,h.inv⟩
theorem vJ {a b:aC}(ha:Inv a)(hb:Inv b):l4 a b=dS (bF a) (bF b):=D4 (fW ha) (fW hb)
theorem KI.com (h:KI d sc lg r u t){q:aC}(hq:Inv q)(hl:(l4 r q).length<=59):ny (mkS sc lg) d.Now.length (l4 r q)=0:=by
 have e:=vJ h.inv hq
 have h1:=h.sv.room
 have ha:bW (mkS sc lg).Rows (l4 r q)=bF q:=by
  show bW sc.Rows _=_
  rw [e,h.rows];exact BX h.inv hq
 unfold ny
 rw [if_neg (by omega),if_neg (by rw [e,QK h.inv hq];decide),if_neg]
 rw [ha]
 have:=om hq
 omega
theorem QN (h:Inv r){q:aC}(hq:Inv q)(hl:¬ 0<(l4 r q).length):bF q=bF r:=by
 have h1:dS (bF r) (bF q)=[]:=by rw [<- vJ h hq];exact List.eq_nil_of_length_eq_zero (by omega)
 have h2:=BX h hq
 rw [h1] at h2;exact h2.symm
theorem KI.do (h:KI d sc lg r u t)(ht:t<=9999)(hz:z.2=0->Inv z.1/\(l4 r z.1).length<=59) :
 (¬ z.2=0->fQ ⟨r⟩ sc d lg z=(⟨r⟩,sc,d,lg,z.2)) /\
 (z.2=0->((fQ ⟨r⟩ sc d lg z).2.2.2.2=0/\(fQ ⟨r⟩ sc d lg z).1.R=z.1/\(d.Fuse = -1->(fQ ⟨r⟩ sc d lg z).2.2.1.Fuse = -1) /\ ∃u2,KI (fQ ⟨r⟩ sc d lg z).2.2.1 (fQ ⟨r⟩ sc d lg z).2.1 (fQ ⟨r⟩ sc d lg z).2.2.2.1 z.1 u2 (t+1)) ∨
  ((fQ ⟨r⟩ sc d lg z).2.2.2.2=10/\(fQ ⟨r⟩ sc d lg z).1.R=r/\¬ d.Fuse = -1/\fL 170 4000 (fQ ⟨r⟩ sc d lg z).2.2.1 /\
   ∀q,∃sc' U7 u2,KI (gD (fQ ⟨r⟩ sc d lg z).2.2.1 q) sc' U7 r u2 (t+1)∨KI (gD (fQ ⟨r⟩ sc d lg z).2.2.1 q) sc' U7 z.1 u2 (t+1))):=by
 refine ⟨fun h0=>OB h0,fun h0=>?_⟩
 obtain ⟨hi,hl⟩:=hz h0
 by_cases h1:0<(l4 r z.1).length
 .
  have hc:=h.com hi hl
  have happ:bW (mkS sc lg).Rows (l4 r z.1)=bF z.1:=by
   show bW sc.Rows _=_
   rw [vJ h.inv hi,h.rows];exact BX h.inv hi
  have hst:∀s:oM,s.c.Rows=s.Rows:=fun _=>rfl
  rcases yv h.sv ht hc with ⟨e1,s1,u1,a1,a2,a3,a4,_⟩ | ⟨e1,s1,a1,a2,a3,a4⟩
  .
   left
   rw [OD (k:=⟨r⟩) h0 h1 (by rw [a1])]
   dsimp only
   rw [a1]
   exact ⟨rfl,rfl,a4,u1,a2,(hst s1).trans (a3.trans happ),hi⟩
  .
   right
   rw [OE (k:=⟨r⟩) h0 h1 (by rw [a1];show ¬ (10:Int)=0;decide)]
   dsimp only
   rw [a1]
   refine ⟨rfl,rfl,a2,a3,fun q=>?_⟩
   obtain ⟨s2,u2,b1,b2⟩:=a4 q
   refine ⟨s2.c,s2.L,u2,?_⟩
   rcases b2 with b2|b2
   .exact .inl ⟨b1,(hst s2).trans (b2.trans h.rows),h.inv⟩
   .exact .inr ⟨b1,(hst s2).trans (b2.trans happ),hi⟩
 .
  left
  rw [OC (k:=⟨r⟩) h0 h1]
  exact ⟨h0,rfl,id,u,h.sv.up (Nat.le_succ t),h.rows.trans (QN h.inv hi h1).symm,hi⟩
theorem KI.save (h:KI d sc lg r u t)(ht:t<=9999)(hf:d.Fuse = -1):(ct (mkS sc lg) d).2.2=0/\(ct (mkS sc lg) d).2.1.Fuse = -1/\KI (ct (mkS sc lg) d).2.1 (ct (mkS sc lg) d).1.c (ct (mkS sc lg) d).1.L r 0 (t+1):=by
 obtain ⟨a1,a2,a3,a4⟩:=Nx h.sv ht hf
 exact ⟨a1,a3,a4,a2.trans h.rows,h.inv⟩
theorem KI.opened (h:KI d sc lg r u t)(ht:t<=9999):ky d=0/\(bm d).c=sc/\(bm d).L=lg/\bX sc.Rows=(aZ r,0)/\KI d sc lg (aZ r) u t:=by
 obtain ⟨a1,a2,a3⟩:=h.sv.opened (by omega)
 exact ⟨a1,a2,a3,by rw [h.rows];exact uU h.inv,h.sv,h.rows.trans (Fy h.inv).symm,(jz h.inv).1⟩
theorem KI.again (h:KI d sc lg r u t)(z:Int):KI (gD d z) sc lg r u t:=⟨h.sv.again z,h.rows,h.inv⟩
theorem vK (h:Inv r)(a:eh):(cQ r a).2=0->Inv (cQ r a).1/\(l4 r (cQ r a).1).length<=59:=fun hm=>⟨h.do hm,by rw [vJ h (h.do hm)];exact QJ h hm⟩
end
end
section
open Go Go.RowKit
set_option maxRecDepth 100000
attribute [local irreducible] dNew dK bm ky bD
theorem bQ {α:Type}{c:Prop}[Decidable c]{x y:α×Int}(h:0<=x.2)(h':0<=y.2):0<=(if c then x else y).2:=by split <;> assumption
theorem IG {r:aC}(a:eh):0<=(cQ r a).2:=by
 have hd:=fun (w:aj) id rg b=>rK w id rg b
 have dn:∀ (w:aj) id rg b,0<=(derived w id rg b).2:=fun w id rg b=>by have:=hd w id rg b;omega
 have hT:0<=(eB r a.P).2.2.2:=by
  have:=qn r a.P 2 1;unfold eB;(repeat' split) <;> first|(dsimp only;omega)|omega
 unfold cQ
 refine bQ ?_ (bQ ?_ (bQ ?_ (bQ ?_ (bQ ?_ (bQ ?_ (bQ ?_ (bQ hT (Int.le_refl 0))))))))
 .exact bQ (bQ (bQ (by decide) (by exact Int.le_refl 0)) (oQ r a.P)) (by decide)
 .exact bQ (bQ (bQ (bQ (by decide) (bQ (by exact Int.le_refl 0) (dn _ _ _ _))) (by decide)) (oQ r a.Q)) (j6 r a.P)
 .exact bQ (bQ (by exact Int.le_refl 0) (oQ r _)) (j6 r a.P)
 .exact bQ (by exact Int.le_refl 0) (j6 r a.P)
 .exact bQ (by exact Int.le_refl 0) (j6 r a.P)
 .exact bQ (bQ (by decide) (by exact Int.le_refl 0)) (qn r a.P 1 2)
 .
  refine bQ (bQ (by decide) (bQ (by decide) (bQ (by exact Int.le_refl 0) (bQ ?_ (by decide))))) (qn r a.P 2 2)
  exact bQ (bQ (by decide) (bQ (by exact Int.le_refl 0) (dn _ _ _ _))) (j6 r _)
abbrev nR:aC:=⟨[],[],[],[],1,1⟩
theorem LO:Ok nR:=Sz.new.ok (by decide)
theorem l5:Inv nR:=Inv.new
theorem Aj:aZ nR=nR:=yn l5 rfl
theorem LP:bF nR=[Dy nR]:=by unfold bF;rw [Aj];rfl
def rA (d:cw):oM×cw×Int:=bD (mkS (bm (dK d).1).c (bm (dK d).1).L) (dK d).1 (bF nR)
theorem Ef {dk:cw}(h:dk=dNew 170):(dK dk).2=0/\(dK dk).1.Fuse = -1/\ky (dK dk).1=0/\SV 170 (dK dk).1 (mkS (bm (dK dk).1).c (bm (dK dk).1).L) 0 0/\(bm (dK dk).1).c.Rows=[]:=by
 subst h;exact LN (by omega) (by omega)
def ij:cw:=(rA (dNew 170)).2.1
def iR:ka:=(bm ij).c
def lR:Lg:=(bm ij).L
noncomputable def gi:kb:=⟨(bX iR.Rows).1⟩
theorem Ts:(rA (dNew 170)).2.2=0/\ij.Fuse = -1 /\ ∃s,SV 170 ij s 2 1/\s.Rows=bF nR:=by
 obtain ⟨f1,f2,f3,f4,f5⟩:=Ef rfl
 have hl:(bF nR).length=1:=by rw [LP];rfl
 have hap:bW [] (bF nR)=bF nR:=by
  have:=uV (a:=[]) (b:=bF nR) List.Pairwise.nil (fW l5) (fun c hc=>(rl l5 c hc).g)
  rwa [Ab] at this
 have Tt:bW (mkS (bm (dK (dNew 170)).1).c (bm (dK (dNew 170)).1).L).Rows (bF nR)=bF nR:=by
  show bW (bm (dK (dNew 170)).1).c.Rows _=_
  rw [f5];exact hap
 have h6:=f4.room
 have hc:ny (mkS (bm (dK (dNew 170)).1).c (bm (dK (dNew 170)).1).L) (dK (dNew 170)).1.Now.length (bF nR)=0:=by
  unfold ny
  rw [if_neg (by omega),if_neg (by rw [yp _ (fun c hc=>(rl l5 c hc).ok)];decide),if_neg]
  rw [Tt];omega
 rcases yv f4 (by omega) hc with ⟨e1,s1,u1,a1,a2,a3,a4,a5⟩ | ⟨e1,s1,a1,a2,_⟩
 .
  have hu:u1=2:=by
   rw [hl] at a5
   split at a5 <;> omega
  subst hu
  unfold ij rA;rw [a1]
  exact ⟨rfl,a4 f2,s1,a2,a3.trans Tt⟩
 .exact absurd f2 a2
theorem ot:(rA (dNew 170)).2.2=0/\ij.Fuse = -1/\ky ij=0/\(bX iR.Rows).2=0/\gi.R=nR/\KI ij iR lR nR 2 1:=by
 obtain ⟨h1,h2,s,h3,h4⟩:=Ts
 obtain ⟨a1,a2,a3⟩:=h3.reopen (by omega)
 have e:iR.Rows=bF nR:=a3.trans h4
 have hp:bX iR.Rows=(nR,0):=by rw [e,uU l5,Aj]
 exact ⟨h1,h2,a1,by rw [hp],by show (bX iR.Rows).1=_;rw [hp],a2,e,l5⟩
theorem BZ:(rA (dNew 170)).2.2=0/\ij.Fuse = -1/\ky ij=0/\(bX iR.Rows).2=0/\gi.R=nR /\ ∃u,KI ij iR lR nR u 1 :=
 ⟨ot.1,ot.2.1,ot.2.2.1,ot.2.2.2.1,ot.2.2.2.2.1,2,ot.2.2.2.2.2⟩
abbrev QO:Type:=kb×ka×cw×Lg
def qw (s:QO)(a:eh):QO :=
  if a.Kind=(⟨#[115,97,118,101]⟩:ByteArray) then (s.1,(ct (mkS s.2.1 s.2.2.2) s.2.2.1).1.c,(ct (mkS s.2.1 s.2.2.2) s.2.2.1).2.1,(ct (mkS s.2.1 s.2.2.2) s.2.2.1).1.L)
  else ((fQ s.1 s.2.1 s.2.2.1 s.2.2.2 (cQ s.1.R a)).1,(fQ s.1 s.2.1 s.2.2.1 s.2.2.2 (cQ s.1.R a)).2.1,(fQ s.1 s.2.1 s.2.2.1 s.2.2.2 (cQ s.1.R a)).2.2.1,(fQ s.1 s.2.1 s.2.2.1 s.2.2.2 (cQ s.1.R a)).2.2.2.1)
noncomputable def dI (l:List eh):QO:=l.foldl qw (gi,iR,ij,lR)
theorem Ak {l:List eh}{k:Nat}{a:eh}(h:l[k]? = some a):dI (l.take (k+1))=qw (dI (l.take k)) a:=by
 unfold dI;rw [List.take_add_one,h];simp
theorem Eg {k:kb}{sc:ka}{d:cw}{lg:Lg}{a:eh}(h:a.Kind=(⟨#[115,97,118,101]⟩:ByteArray)):qw (k,sc,d,lg) a=(k,(ct (mkS sc lg) d).1.c,(ct (mkS sc lg) d).2.1,(ct (mkS sc lg) d).1.L):=if_pos h
theorem II {k:kb}{sc:ka}{d:cw}{lg:Lg}{a:eh}(h:¬ a.Kind=(⟨#[115,97,118,101]⟩:ByteArray)):qw (k,sc,d,lg) a=((fQ k sc d lg (cQ k.R a)).1,(fQ k sc d lg (cQ k.R a)).2.1,(fQ k sc d lg (cQ k.R a)).2.2.1,(fQ k sc d lg (cQ k.R a)).2.2.2.1):=if_neg h
theorem OG {r:aC}{k:Nat}(h:Sz k r)(a:eh)(hk:k<=990):(cQ r a).2=0->Ok (cQ r a).1:=fun _=>(KS h a).ok (by omega)
def PI (s:QO)(t:Nat):Prop:=(∃u,KI s.2.2.1 s.2.1 s.2.2.2 s.1.R u (t+1))/\s.2.2.1.Fuse = -1/\Sz t s.1.R
theorem GR (k:kb):(⟨k.R⟩:kb)=k:=rfl
theorem Ny {s:QO}{t:Nat}(h:PI s t)(ht:t<=9000)(a:eh):PI (qw s a) (t+1):=by
 obtain ⟨⟨u,hk⟩,hf,hz⟩:=h
 obtain ⟨k,sc,d,lg⟩:=s
 dsimp only at hk hf hz
 unfold qw
 split
 .
  obtain ⟨a1,a2,a3⟩:=hk.save (by omega) hf
  exact ⟨⟨0,a3⟩,a2,hz.up (Nat.le_succ t)⟩
 .
  obtain ⟨b1,b2⟩:=hk.do (z:=cQ k.R a) (by omega) (vK hk.inv a)
  dsimp only
  rw [GR] at b1 b2
  by_cases h0:(cQ k.R a).2=0
  .
   rcases b2 h0 with ⟨c1,c2,c3,u2,c4⟩ | ⟨_,_,c3,_⟩
   .
    refine ⟨⟨u2,?_⟩,c3 hf,?_⟩
    .dsimp only;rw [c2];exact c4
    .dsimp only;rw [c2];exact KS hz a
   .exact absurd hf c3
  .
   rw [b1 h0]
   exact ⟨⟨u,hk.up (Nat.le_succ _)⟩,hf,hz.up (Nat.le_succ t)⟩
theorem GU:∀ (l:List eh),l.length<=9000->PI (dI l) l.length:=by
 have key:∀ (l:List eh) (s:QO) (t:Nat),PI s t->t+l.length<=9000->PI (l.foldl qw s) (t+l.length):=by
  intro l
  induction l with
  | nil=>intro s t h _;exact h
  | cons a l ih =>
   intro s t h ht
   rw [List.length_cons] at ht ⊢
   have:=ih (qw s a) (t+1) (Ny h (by omega) a) (by omega)
   rwa [show t+1+l.length=t+(l.length+1) by omega] at this
 intro l hl
 obtain ⟨_,h2,_,_,h5,u,h6⟩:=BZ
 have:=key l (gi,iR,ij,lR) 0 ⟨⟨u,by dsimp only;rw [h5];exact h6⟩,h2,by dsimp only;rw [h5];exact Sz.new⟩ (by omega)
 rwa [Nat.zero_add] at this
theorem PI.acts {s:QO}{t:Nat}(h:PI s t)(ht:t<=9000)(a:eh):(fQ s.1 s.2.1 s.2.2.1 s.2.2.2 (cQ s.1.R a)).2.2.2.2=(cQ s.1.R a).2 /\
 (¬ (cQ s.1.R a).2=0->(fQ s.1 s.2.1 s.2.2.1 s.2.2.2 (cQ s.1.R a)).1.R=s.1.R)/\((cQ s.1.R a).2=0->(fQ s.1 s.2.1 s.2.2.1 s.2.2.2 (cQ s.1.R a)).1.R=(cQ s.1.R a).1):=by
 obtain ⟨⟨u,hk⟩,hf,hz⟩:=h
 obtain ⟨k,sc,d,lg⟩:=s
 dsimp only at hk hf hz ⊢
 obtain ⟨b1,b2⟩:=hk.do (z:=cQ k.R a) (by omega) (vK hk.inv a)
 rw [GR] at b1 b2
 by_cases h0:(cQ k.R a).2=0
 .
  rcases b2 h0 with ⟨c1,c2,_⟩ | ⟨_,_,c3,_⟩
  .exact ⟨c1.trans h0.symm,fun q=>absurd h0 q,fun _=>c2⟩
  .exact absurd hf c3
 .
  rw [b1 h0]
  exact ⟨rfl,fun _=>rfl,fun q=>absurd q h0⟩
section
variable {d:cw} {sc:ka} {lg:Lg} {r:aC} {u t:Nat}
theorem KI.small (h:KI d sc lg r u t):sc.Rows.length<=60 /\ ∀c∈sc.Rows,c.Key.size<=1000/\c.Val.size<=1000:=by
 rw [h.rows];exact ⟨om h.inv,Fx h.inv⟩
theorem KI.pre (h:KI d sc lg r u t)(ht:t<=9999):(fL d.Now.length 60000 d/\d.Now.length<=200/\166<=d.Now.length)/\(0<=sc.Epoch/\sc.Epoch<=1000000000/\0<=sc.Side/\sc.Side<=1/\0<=lg.Many/\lg.Many<=1000/\1<=lg.First/\lg.First<=1000000000/\0<=lg.From/\lg.From<=1000/\0<=lg.Next/\lg.Next<=1000)/\sc.Rows.length<=60/\(∀c∈sc.Rows,iI c=0):=by
 have g:=h.sv.good
 exact ⟨h.sv.ok,h.sv.bnd (by omega),g.1,g.2.1⟩
theorem KI.anew (h:KI d sc lg r u t)(ht:t<=9999):d.Down=false/\ky d=0/\(fL d.Now.length 90000 d/\d.Now.length<=200)/\(bX (bm d).c.Rows).2=0/\((bm d).c.Rows.length<=60 /\ ∀c∈(bm d).c.Rows,c.Key.size<=1000/\c.Val.size<=1000)/\(bX (bm d).c.Rows).1=aZ r/\KI d (bm d).c (bm d).L (aZ r) u t:=by
 obtain ⟨a1,a2,a3,a4,a5⟩:=h.opened ht
 have g:=h.sv.ok
 rw [a2,a3]
 exact ⟨h.sv.room.2.2.1,a1,⟨g.1.up (by omega),g.2.1⟩,by rw [a4],h.small,by rw [a4],a5⟩
end
end
end Go.Proofs.YtkbhcbipadkcaaaGreatDoor
