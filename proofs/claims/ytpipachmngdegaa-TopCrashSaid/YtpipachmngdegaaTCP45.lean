import Derived.Test.YtpipachmngdegaaTCP44
section
namespace Go.Proofs.Ytpipachmngdegaa
open Go Go.RowKit
set_option linter.unusedVariables false
section
variable {n u t:Nat} {st:iQ} {d e:bp} {l:List Change}
theorem SN.wH {l0 l':List ByteArray}(h:SN n l0 st u t)(hl:l'.length=l0.length)(ht:l'.take 102=l0.take 102){b:List Change}{W':List (List Change)}{u':Nat}{rows:List Change}(hb:gT b)(hz:st.Size=((aB b).size:Int))(hh:kC l0 (2+(st.Side*50).toNat) (aB b))
    (vf:dD (l'.drop 102) st.First W' u') (hr:rows=eS b W') (hg:gT rows):SN n l' (kc st ⟨102,(n:Int)-102,st.First,(u':Int)⟩ rows) u' t:=by
  have h3:=h.sd;have h4:=hb.size;have h1:=h.eb
  have hs:∀j:Nat,j<102→l'[j]? = l0[j]?:=fun j hj=>by rw [← List.getElem?_take_of_lt hj,ht,List.getElem?_take_of_lt hj]
  refine ⟨hl.trans h.len,h.nb,h.eb,h.fb,h.sd,?_,fun s hx=>?_,rfl,hg,b,W',hb,hz,fun k hk=>?_,vf,hr⟩
  ·
    show l'[(st.Epoch % 2).toNat]? = _
    rw [hs _ (by omega)];exact h.hd
  ·
    refine h.oh s ?_
    rw [← hs _ (by omega)];exact hx
  ·
    show l'[2+(st.Side*50).toNat+k]? = _
    rw [hs _ (by omega)];exact hh k hk
theorem qa {b:List Change}{W:List (List Change)}{c:List Change}:eS b (W++[c])=a7 (eS b W) c:=by
  unfold eS;rw [List.foldl_append];rfl
theorem pz (h:SV n d st u t)(ht:t≤10000)(h0:¬ 62<l.length)(h1:dR l=0)(h2:¬ 60<(a7 st.Rows l).length)(hr:¬ st.L.Many-st.L.Next<(l.length:Int)+1) :
    (∃e st',aP st.L d l=(st'.L,e,0)∧SV n e st' (u+l.length+1) t∧st'=kc st st'.L (a7 st.Rows l)∧(d.Fuse = -1→e.Fuse = -1)) ∨
    (∃e,aP st.L d l=(st.L,e,10)∧¬ d.Fuse = -1 ∧ ∀z,∃st' u',SV n (ae e z) st' u' t∧(st'.Rows=st.Rows∨st'.Rows=a7 st.Rows l)):=by
  obtain ⟨b,W,hb,hz,hh,vf,hrw⟩:=h.sn.base
  have h3:=h.sn.nb;have h4:=h.sn.fb;have h6:=h.sn.len
  have hL:st.L=⟨((102:Nat):Int),((n-102:Nat):Int),st.First,(u:Int)⟩:=by rw [h.sn.lg,show ((n-102:Nat):Int)=(n:Int)-102 by omega];rfl
  have ha:ec ⟨((102:Nat):Int),((n-102:Nat):Int),st.First,(u:Int)⟩ l=0:=oo h0 (by rw [← hL];exact hr) h1
  have hgood:=h.sn.rows.apply h1 (by omega)
  have hnew:a7 st.Rows l=eS b (W++[l]):=by rw [qa,← hrw]
  rcases u7 (f:=102) (k:=n-102) h.rest (by omega) (by omega) (by omega) vf ha with ⟨e,q1,q2,q3,q4,q5⟩ | ⟨e,q1,q2,q3⟩
  ·
    left
    have hlen:e.Now.length=d.Now.length:=by rw [q2.ok.nl,h6]
    refine ⟨e,kc st ⟨102,(n:Int)-102,st.First,((u+l.length+1:Nat):Int)⟩ (a7 st.Rows l),?_,⟨q2,h.sn.wH hlen q3 hb hz hh q4 hnew hgood⟩,rfl,q5⟩
    rw [hL,q1]
    show (_,_,_)=((⟨102,(n:Int)-102,st.First,((u+l.length+1:Nat):Int)⟩:Lg),e,(0:Int))
    rw [show ((n-102:Nat):Int)=(n:Int)-102 by omega];rfl
  ·
    right
    refine ⟨e,by rw [hL];exact q1,q2,fun z=>?_⟩
    obtain ⟨a1,a2,W',u',a3,a4⟩:=q3 z
    have hrs:Rest n (ae e z):=⟨a1,rfl,by show (-1:Int) ≤ -1;decide,rfl,rfl⟩
    have hlen:(fA z e.Wait e.Kept).length=d.Now.length:=by have:=a1.nl;rw [h6];exact this
    rcases a4 with a4|a4
    · exact ⟨_,u',⟨hrs,h.sn.wH (l':=fA z e.Wait e.Kept) hlen a2 hb hz hh a3 (rows:=st.Rows) (by rw [a4];exact hrw) h.sn.rows⟩,.inl rfl⟩
    · exact ⟨_,u',⟨hrs,h.sn.wH (l':=fA z e.Wait e.Kept) hlen a2 hb hz hh a3 (rows:=a7 st.Rows l) (by rw [a4];exact hnew) hgood⟩,.inr rfl⟩
theorem SV.up (h:SV n d st u t){t':Nat}(ht:t≤t'):SV n d st u t':=⟨h.rest,h.sn.up ht⟩
theorem jQ (h:SV n d st u t)(ht:t≤9999)(hf:fJ st d.Now.length l=0) :
    (∃e st' u',ai st d l=(st',e,0)∧SV n e st' u' (t+1)∧st'.Rows=a7 st.Rows l∧(d.Fuse = -1→e.Fuse = -1)∧(u':Int)=(if st.L.Many-st.L.Next<(l.length:Int)+1 then 0 else (u:Int))+(l.length:Int)+1) ∨
    (∃e st1,ai st d l=(st1,e,10)∧¬ d.Fuse = -1∧cz n 4000 e ∧ ∀z,∃st' u',SV n (ae e z) st' u' (t+1)∧(st'.Rows=st.Rows∨st'.Rows=a7 st.Rows l)):=by
  have hf2:=hf
  have h6:=h.sn.len;have h3:=h.sn.nb
  unfold fJ at hf2
  split at hf2
  · cases hf2
  rename_i h0
  split at hf2
  · rename_i h1;exact absurd hf2 h1
  rename_i h1
  have h1:dR l=0:=by simpa using h1
  split at hf2
  · cases hf2
  rename_i h2
  have zt:¬ 60<(a7 st.Rows l).length:=fun hh=>h2 (.inl hh)
  have AJ:¬ (d.Now.length:Int)-102<(l.length:Int)+1:=fun hh=>h2 (.inr hh)
  by_cases hr:st.L.Many-st.L.Next<(l.length:Int)+1
  ·
    rw [if_pos hr]
    rcases mq h ht with ⟨e1,s1,c1,c2,c3,c4⟩ | ⟨e1,c1,c2,c3,c4⟩
    ·
      have hM:s1.L.Many=(n:Int)-102∧s1.L.Next=0:=by rw [c2.sn.lg];exact ⟨rfl,rfl⟩
      have hz:(ay st d).2.2=0:=by rw [c1]
      rcases pz (l:=l) c2 (by omega) h0 h1 (by rw [c3];exact zt) (by omega) with ⟨e,s2,a1,a2,a3,a4⟩ | ⟨e,a1,a2,a3⟩
      ·
        left
        have hc:=kM hf hr hz (by rw [c1];dsimp only;rw [a1])
        rw [c1] at hc;dsimp only at hc;rw [a1] at hc;dsimp only at hc
        rw [c3] at a3
        refine ⟨e,s2,0+l.length+1,hc.trans (by rw [← a3]),a2,by rw [a3];rfl,fun hq=>a4 (c4 hq),by omega⟩
      ·
        right
        have hc:=kN hf hr hz (by rw [c1];dsimp only;rw [a1];exact eC)
        rw [c1] at hc;dsimp only at hc;rw [a1] at hc;dsimp only at hc
        have hO:=k0 (lg:=s1.L) (c:=l) c2.rest.ok
        rw [a1] at hO
        refine ⟨e,_,hc,fun hq=>a2 (c4 hq),hO.up (by omega),fun z=>?_⟩
        obtain ⟨st',u',b1,b2⟩:=a3 z
        rw [c3] at b2
        exact ⟨st',u',b1,b2⟩
    ·
      right
      have hc:=kL hf hr (by rw [c1];exact eC)
      rw [c1] at hc
      refine ⟨e1,st,hc,c2,c3.up (by omega),fun z=>?_⟩
      obtain ⟨st',u',b1,b2⟩:=c4 z
      exact ⟨st',u',b1,.inl b2⟩
  ·
    rw [if_neg hr]
    rcases pz (l:=l) h (by omega) h0 h1 zt hr with ⟨e,s2,a1,a2,a3,a4⟩ | ⟨e,a1,a2,a3⟩
    ·
      left
      have hc:=kO hf hr (by rw [a1])
      rw [a1] at hc;dsimp only at hc
      exact ⟨e,s2,u+l.length+1,hc.trans (by rw [← a3]),a2.up (by omega),by rw [a3];rfl,a4,by omega⟩
    ·
      right
      have hc:=kP hf hr (by rw [a1];exact eC)
      rw [a1] at hc;dsimp only at hc
      have hO:=k0 (lg:=st.L) (c:=l) h.rest.ok
      rw [a1] at hO
      refine ⟨e,_,hc,a2,hO.up (by omega),fun z=>?_⟩
      obtain ⟨st',u',b1,b2⟩:=a3 z
      exact ⟨st',u',b1.up (by omega),b2⟩
theorem kS:∀ (k i:Nat) (d:bp),d.Down=false→d.Fuse = -1→d.Now=List.replicate n (kt 48)→i+k≤n → ∃T,eR k i (d,0)=(⟨d.Kept,d.Now,T,-1,false⟩,0)
  | 0,i,d,h1,h2,h3,h4=>⟨d.Wait,by rw [eR];obtain ⟨a,b,c,g,q⟩:=d;simp only at h1 h2;rw [h1,h2]⟩
  | k+1,i,d,h1,h2,h3,h4=>by
    have hw:=d8 (d:=d) (i:=(i:Int)) (x:=⟨#[]⟩) h1 h2 (by omega) (by rw [h3,List.length_replicate];omega) (by decide)
    rw [Int.toNat_natCast,oX] at hw
    have hset:d.Now.set i (kt 48)=d.Now:=by rw [h3,List.set_replicate_self]
    rw [hset] at hw
    rw [eR,if_pos rfl,hw]
    exact kS k (i+1) ⟨d.Kept,d.Now,d.Wait++[⟨(i:Int),kt 48⟩],-1,false⟩ rfl rfl h3 (by omega)
theorem nG {m:Nat}:∀ (k i:Nat) (s:bp×Int) (m:Nat),cz n m s.1→cz n (m+k) (eR k i s).1
  | 0,i,s,m,h=>h
  | k+1,i,s,m,h=>by
    rw [eR];split
    · exact (nG (m:=m) k (i+1) _ (m+1) (h.write _ _)).up (by omega)
    · exact h.up (by omega)
def st0 (n:Nat):iQ:=⟨1,0,0,1,⟨102,(n:Int)-102,1,0⟩,[]⟩
theorem vg (h1:166≤n)(h2:n≤200):∃e,av (dNew n)=(e,0)∧SV n e (st0 n) 0 0∧e.Fuse = -1:=by
  have hl:(dNew n).Now.length=n:=by simp [dNew]
  have w0:=d8 (d:=dNew n) (i:=0) (x:=⟨#[]⟩) rfl rfl (by decide) (by omega) (by decide)
  have hN:(dNew n).Now=List.replicate n (kt 48):=rfl
  rw [show Int.toNat 0=0 from rfl,oX,hN,List.set_replicate_self] at w0
  obtain ⟨T,hT⟩:=kS (n:=n) (n-102) 102 ⟨(dNew n).Kept,List.replicate n (kt 48),(dNew n).Wait++[⟨0,kt 48⟩],-1,false⟩ rfl rfl rfl (by omega)
  have f1:l3 (dNew n)=(⟨(dNew n).Kept,List.replicate n (kt 48),T,-1,false⟩,0):=by
    unfold l3;rw [hl,w0];exact hT
  have f2:=fB (d:=⟨(dNew n).Kept,List.replicate n (kt 48),T,-1,false⟩) rfl rfl
  have f3:=d8 (d:=⟨List.replicate n (kt 48),List.replicate n (kt 48),[],-1,false⟩) (i:=1) (x:=aC ⟨1,0,0,1⟩) rfl rfl (by decide) (by dsimp only;rw [List.length_replicate];omega) (by rw [jO];decide)
  rw [show Int.toNat 1=1 from rfl] at f3
  dsimp only at f2 f3
  have f4:=fB (d:=⟨List.replicate n (kt 48),(List.replicate n (kt 48)).set 1 (full (aC ⟨1,0,0,1⟩)),[]++[⟨1,full (aC ⟨1,0,0,1⟩)⟩],-1,false⟩) rfl rfl
  dsimp only at f4
  have hok:cz n 2000 (⟨(List.replicate n (kt 48)).set 1 (full (aC ⟨1,0,0,1⟩)),(List.replicate n (kt 48)).set 1 (full (aC ⟨1,0,0,1⟩)),[],-1,false⟩:bp):=by
    have k1:=nG (m:=0) (n-102) 102 (ar (dNew n) 0 ⟨#[]⟩) 1 ((iA n).write 0 ⟨#[]⟩)
    have k2:cz n (1+(n-102)) (l3 (dNew n)).1:=by unfold l3;rw [hl];exact k1
    rw [f1] at k2
    have k3:=k2.flush;rw [f2] at k3
    have k4:=k3.write 1 (aC ⟨1,0,0,1⟩);dsimp only at k4;rw [f3] at k4
    have k5:=k4.flush;dsimp only at k5;rw [f4] at k5
    exact k5.up (by omega)
  refine ⟨_,(wz (by omega) f1 rfl (by rw [f2]) (by rw [f2];dsimp only;rw [f3])).trans (by rw [f2];dsimp only;rw [f3];dsimp only;rw [f4]),⟨rest_of hok rfl rfl rfl,?_⟩,rfl⟩
  refine ⟨by simp,⟨h1,h2⟩,⟨by show (1:Int)≤1;decide,by show (1:Int)≤1+((0:Nat):Int);decide⟩,⟨by show (1:Int)≤1;decide,by show (1:Int)≤1+100*((0:Nat):Int);decide⟩,.inl rfl,?_,fun s hs=>?_,rfl,gT.nil,[],[],gT.nil,rfl,fun k hk=>?_,dD.blank 1 fun s hs=>?_,rfl⟩
  ·
    show ((List.replicate n (kt 48)).set 1 (full (aC ⟨1,0,0,1⟩)))[1]? = some (full (aC ⟨1,0,0,1⟩))
    rw [List.getElem?_set_self (by rw [List.length_replicate];omega)]
  ·
    have hs':((List.replicate n (kt 48)).set 1 (full (aC ⟨1,0,0,1⟩)))[0]? = some s:=hs
    rw [List.getElem?_set_ne (by decide),List.getElem?_replicate] at hs'
    rw [if_pos (by omega)] at hs'
    rw [← Option.some.inj hs',sh];show (0:Int)<1;decide
  ·
    have:(aB []).size=0:=rfl
    omega
  ·
    have hs':s∈((List.replicate n (kt 48)).set 1 (full (aC ⟨1,0,0,1⟩))).drop 102:=hs
    rw [List.drop_set_of_lt (by decide),List.drop_replicate] at hs'
    rw [List.eq_of_mem_replicate hs'];exact oW
end
end Go.Proofs.Ytpipachmngdegaa
end
