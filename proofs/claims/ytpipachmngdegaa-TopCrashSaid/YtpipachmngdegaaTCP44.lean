import Derived.Test.YtpipachmngdegaaTCP43
import Derived.Test.YtpipachmngdegaaTCP31
section
namespace Go.Proofs.Ytpipachmngdegaa
open Go Go.RowKit
set_option linter.unusedVariables false
section
variable {n u t:Nat} {st:iQ} {d e:bp}
theorem rest_of {m:Nat}(h:cz n m e)(hd:e.Down=false)(hk:e.Kept=e.Now)(hw:e.Wait=[]):Rest n e :=
  ⟨⟨h.kl,h.nl,h.ks,h.ns,by rw [hw];simp,h.v7,h.f0,h.f1⟩,hd,h.f0,hk,hw⟩
theorem t6 (z:Int)(l:List ByteArray):fA z [] l=l:=rfl
theorem t7 (z:Int)(x:Turn)(l:List ByteArray):fA z [x] l=l∨fA z [x] l=l.set x.At.toNat x.Data:=by
  show hY z l (x,0)=l∨hY z l (x,0)=_
  unfold hY;dsimp only;split
  · exact .inr rfl
  · exact .inl rfl
theorem t8 {m:Nat}(hO:cz n m e)(hd:e.Down=false){first:Int}(h:dD (e.Now.drop 102) first [] 0)(hn:166≤n):bY e 102 ((e.Now.length:Int)-102).toNat first=0:=by
  have hl:=hO.nl
  have rZ:je e 102 ((e.Now.length:Int)-102).toNat=e.Now.drop 102:=by
    have:=ik (d:=e) (f:=102) (k:=e.Now.length-102) hd (by omega)
    rw [show ((102:Nat):Int)=102 from rfl] at this
    rw [show ((e.Now.length:Int)-102).toNat=e.Now.length-102 by omega,this,List.take_of_length_le (by rw [List.length_drop];omega)]
  unfold bY;rw [rZ,h.sc]
theorem mq (h:SV n d st u t)(ht:t≤9999) :
    (∃e st',ay st d=(st',e,0)∧SV n e st' 0 (t+1)∧st'.Rows=st.Rows∧(d.Fuse = -1→e.Fuse = -1)) ∨
    (∃e,ay st d=(st,e,10)∧¬ d.Fuse = -1∧cz n 3000 e ∧ ∀z,∃st' u',SV n (ae e z) st' u' (t+1)∧st'.Rows=st.Rows):=by
  have hR:=h.rest;have hS:=h.sn
  have h3:=hS.sd;have h4:=hS.rows.size;have h5:=hS.nb;have h6:=hS.len;have h1:=hS.eb;have h2:=hS.fb
  have hck:=tH (s:=st) hR.ok (by omega)
  have hkn:=hR.kn;have hwt:=hR.wait
  have hM:st.L.Many=(n:Int)-102:=by rw [hS.lg]
  have Af:st.L.First=st.First:=by rw [hS.lg]
  obtain ⟨f,hf⟩:∃f:Nat,f=2+((1-st.Side)*50).toNat:=⟨_,rfl⟩
  have hfi:(2:Int)+(1-st.Side)*50=(f:Int):=by omega
  have hb:ck1 st d=dG (f:Int) (aB st.Rows) ((aB st.Rows).size+1) 0 d:=by unfold ck1;rw [hfi]
  have old:∀e:bp,cz n 3000 e→e.Kept=d.Now→(∀x∈e.Wait,(f:Int)≤x.At∧x.At<(f:Int)+50) → ∀z,∃st' u',SV n (ae e z) st' u' (t+1)∧st'.Rows=st.Rows:=fun e hO hk hw z =>
    ⟨st,u,⟨(h.fell hO hk f hf hw z).rest,(h.fell hO hk f hf hw z).sn.up (Nat.le_succ t)⟩,rfl⟩
  rcases nF (f:=f) (x:=aB st.Rows) (by omega) ((aB st.Rows).size+1) 0 d hR.down hR.fuse (by omega) (by omega) with ⟨g,N,T,q1,q0,q2,q3,q4,q5,q6⟩ | ⟨e,q0,q1,q2,T,q3,q4⟩
  rotate_left
  ·
    right
    have hc:=rR (s:=st) (d:=d) (m:=e) (e:=10) (hb.trans q1) (by decide)
    rw [hc] at hck
    exact ⟨e,hc,q0,hck.up (by omega),old e (hck.up (by omega)) (q2.trans hkn) (by rw [q3,hwt,List.nil_append];exact q4)⟩
  have hm:=hb.trans q2
  rw [hwt,List.nil_append] at hm
  rcases kR (d:=⟨d.Kept,N,T,g,false⟩) rfl q1 with ⟨g2,q7,q8,q9⟩ | ⟨q8,q9⟩
  rotate_left
  ·
    right
    have hc:=rT hm rfl (by rw [q9];exact eC)
    rw [q9] at hc
    rw [hc] at hck
    exact ⟨_,hc,fun hq=>q8 (q0 hq),hck.up (by omega),old _ (hck.up (by omega)) hkn q3⟩
  have hN:SN n N st u t:=hS.same q4 fun j hj=>q5 j (by omega)
  have hH:kC N f (aB st.Rows):=fun k hk=>q6 k (Nat.zero_le _) hk
  have hm2:cz n 2450 (⟨N,N,[],g2,false⟩:bp):=by
    have:=(kz (f:=(f:Int)) (t:=aB st.Rows) ((aB st.Rows).size+1) 0 d 0 hR.ok).flush
    rw [q2,hwt,List.nil_append,q9] at this
    exact this.up (by omega)
  have Ag:SV n (⟨N,N,[],g2,false⟩:bp) st u t:=⟨rest_of hm2 rfl rfl rfl,hN⟩
  have ym:0≤(st.Epoch+1) % 2∧(st.Epoch+1) % 2<2:=⟨by omega,by omega⟩
  have hcs:(aC (kK st)).size≤48:=by rw [jO];decide
  rcases kQ (d:=⟨N,N,[],g2,false⟩) (i:=(st.Epoch+1) % 2) (x:=aC (kK st)) rfl q7 ym.1 (by dsimp only;omega) hcs with ⟨g3,Ah,yw,ua⟩ | ⟨yw,ua⟩
  rotate_left
  ·
    right
    have hc:=rU hm rfl (by rw [q9]) (by rw [q9,ua];exact eC)
    rw [q9] at hc;dsimp only at hc;rw [ua] at hc
    rw [hc] at hck
    refine ⟨_,hc,fun hq=>yw (q8 (q0 hq)),hck.up (by omega),fun z=>⟨st,u,⟨gF hck z,?_⟩,rfl⟩⟩
    exact hN.up (Nat.le_succ t)
  have ub:∀L,L=(⟨102,(n:Int)-102,st.First+((n:Int)-102),0⟩:Lg)→SN n (N.set ((st.Epoch+1) % 2).toNat (full (aC (kK st)))) ⟨st.Epoch+1,1-st.Side,((aB st.Rows).size:Int),st.First+((n:Int)-102),L,st.Rows⟩ 0 (t+1):=fun L hL =>
    hN.flip ht (hf▸hH) rfl L hL
  dsimp only at ua
  rw [List.nil_append] at ua
  rcases kR (d:=⟨N,N.set ((st.Epoch+1) % 2).toNat (full (aC (kK st))),[⟨(st.Epoch+1) % 2,full (aC (kK st))⟩],g3,false⟩) rfl Ah with ⟨g4,AH,y6,yn⟩ | ⟨y6,yn⟩
  ·
    left
    have hc:=rW hm rfl (by rw [q9]) (by rw [q9];dsimp only;rw [ua]) (by rw [q9];dsimp only;rw [ua,yn])
    rw [q9] at hc;dsimp only at hc;rw [ua] at hc;dsimp only at hc;rw [yn] at hc;dsimp only at hc
    rw [hc] at hck
    have zr:cz n 2500 (⟨N.set ((st.Epoch+1) % 2).toNat (full (aC (kK st))),N.set ((st.Epoch+1) % 2).toNat (full (aC (kK st))),[],g4,false⟩:bp):=hck.up (by omega)
    have hx:=ub _ rfl
    obtain ⟨b,W,hb1,hb2,hb3,hb4,hb5⟩:=hx.base
    have y7:dD ((N.set ((st.Epoch+1) % 2).toNat (full (aC (kK st)))).drop 102) (st.First+((n:Int)-102)) [] 0:=by
      obtain ⟨b',W',_,_,_,hl',_⟩:=hN.base
      have hdl:(N.drop 102).length=n-102:=by rw [List.length_drop,q4,h6]
      have hx:=hl'.next (by omega) (by rw [hdl];omega)
      rw [hdl] at hx
      rw [List.drop_set_of_lt (by omega),show st.First+((n:Int)-102)=st.First+((n-102:Nat):Int) by omega]
      exact hx
    have hu:=t8 zr rfl y7 h5.1
    have hlen:((N.set ((st.Epoch+1) % 2).toNat (full (aC (kK st)))).length:Int)=(n:Int):=by rw [List.length_set,q4,h6]
    refine ⟨_,_,hc,⟨rest_of zr rfl rfl rfl,?_⟩,rfl,fun hq=>y6 (yw (q8 (q0 hq)))⟩
    unfold x5
    dsimp only at hu ⊢
    rw [hlen] at hu
    rw [Af,hM,hlen]
    exact ub _ (by rw [hu];rfl)
  ·
    right
    have hc:=rV hm rfl (by rw [q9]) (by rw [q9];dsimp only;rw [ua]) (by rw [q9];dsimp only;rw [ua,yn];exact eC)
    rw [q9] at hc;dsimp only at hc;rw [ua] at hc;dsimp only at hc;rw [yn] at hc
    rw [hc] at hck
    refine ⟨_,hc,fun hq=>y6 (yw (q8 (q0 hq))),hck.up (by omega),fun z=>?_⟩
    rcases t7 z (⟨(st.Epoch+1) % 2,full (aC (kK st))⟩:Turn) N with hz|hz
    ·
      refine ⟨st,u,⟨gF hck z,?_⟩,rfl⟩
      show SN n (fA z _ N) st u (t+1)
      rw [hz];exact hN.up (Nat.le_succ t)
    ·
      refine ⟨(⟨st.Epoch+1,1-st.Side,((aB st.Rows).size:Int),st.First+((n:Int)-102),⟨102,(n:Int)-102,st.First+((n:Int)-102),0⟩,st.Rows⟩:iQ),0,⟨gF hck z,?_⟩,rfl⟩
      show SN n (fA z _ N) _ 0 (t+1)
      rw [hz];exact ub _ rfl
end
end Go.Proofs.Ytpipachmngdegaa
end
