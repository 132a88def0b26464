import Derived.Test.YtpipachmngdegaaSSP47
section
namespace Go.Proofs.Ytpipachmngdegaa
open Go Go.RowKit
set_option linter.unusedVariables false
section
variable {n u t:Nat} {sc:ic} {lg:Lg} {d:bA} {l:List Change} {m:jL}
theorem oF (s:jo):mkS s.c s.L=s:=rfl
theorem SV.ok (h:SV n d (mkS sc lg) u t):cI d.Now.length 60000 d∧d.Now.length≤200∧166≤d.Now.length:=by
  have h1:=h.sn.len;have h2:=h.sn.nb
  exact ⟨h1.symm▸h.rest.ok.up (by omega),by omega,by omega⟩
theorem SV.bnd (h:SV n d (mkS sc lg) u t)(ht:t≤10000):0≤sc.Epoch∧sc.Epoch≤1000000000∧0≤sc.Side∧sc.Side≤1∧0≤lg.Many∧lg.Many≤1000∧1≤lg.First∧lg.First≤1000000000∧0≤lg.From∧lg.From≤1000∧0≤lg.Next∧lg.Next≤1000:=by
  have e1:1≤sc.Epoch∧sc.Epoch≤1+(t:Int):=h.sn.eb
  have e2:1≤sc.First∧sc.First≤1+100*(t:Int):=h.sn.fb
  have e3:sc.Side=0∨sc.Side=1:=h.sn.sd
  have e4:lg=⟨102,(n:Int)-102,sc.First,(u:Int)⟩:=h.sn.lg
  have e5:=h.sn.nb;have e6:=h.sn.len
  obtain ⟨b,W,_,_,_,hl,_⟩:=h.sn.base
  have e7:=hl.ule
  rw [List.length_drop] at e7
  rw [e4];dsimp only
  refine ⟨?_,?_,?_,?_,?_,?_,?_,?_,?_,?_,?_,?_⟩ <;> omega
theorem SV.good (h:SV n d (mkS sc lg) u t):sc.Rows.length≤60∧(∀c∈sc.Rows,dH c=0)∧fS sc.Rows:=⟨h.sn.rows.len,h.sn.rows.ok,h.sn.rows.rise⟩
theorem SV.room (h:SV n d (mkS sc lg) u t):lg.Many=(n:Int)-102∧lg.Next=(u:Int)∧d.Down=false∧d.Now.length=n∧166≤n∧n≤200:=by
  have e4:lg=⟨102,(n:Int)-102,sc.First,(u:Int)⟩:=h.sn.lg
  exact ⟨by rw [e4],by rw [e4],h.rest.down,h.sn.len,h.sn.nb.1,h.sn.nb.2⟩
theorem SV.opened (h:SV n d (mkS sc lg) u t)(ht:t≤10000):jQ d=0∧(ao d).c=sc∧(ao d).L=lg:=by
  obtain ⟨h1,h2⟩:=pE h.rest.ok h.rest.down h.sn ht
  exact ⟨h1,by rw [h2];rfl,by rw [h2];rfl⟩
theorem wY (h:SV n d (mkS sc lg) u t)(h1:m.Rows=sc.Rows)(h3:m.Many=(n:Int)-102):sI m l=gl (mkS sc lg) d.Now.length l:=by
  have e:bQ m.Rows l=a8 sc.Rows l:=by rw [h1];exact (l8 l h.good.2.2).symm
  unfold sI gl;rw [e,h3,h.sn.len];rfl
theorem pI (h:SV n d (mkS sc lg) u t)(ht:t≤9999)(hf:d.Fuse = -1)(h1:m.Rows=sc.Rows)(h2:m.Used=(u:Int))(h3:m.Many=(n:Int)-102) :
    (aD (mkS sc lg) d l).2.2=(fZ m l).2∧(fZ m l).1.Many=(n:Int)-102∧(fZ m l).1.Rows=(aD (mkS sc lg) d l).1.c.Rows∧(aD (mkS sc lg) d l).2.1.Fuse = -1 ∧
    ∃u',SV n (aD (mkS sc lg) d l).2.1 (mkS (aD (mkS sc lg) d l).1.c (aD (mkS sc lg) d l).1.L) u' (t+1)∧(fZ m l).1.Used=(u':Int):=by
  have hF:=wY (l:=l) h h1 h3
  have e:bQ m.Rows l=a8 sc.Rows l:=by rw [h1];exact (l8 l h.good.2.2).symm
  have hr:=h.room
  by_cases hc:gl (mkS sc lg) d.Now.length l=0
  ·
    have hm:fZ m l=(⟨bQ m.Rows l,(if m.Many-m.Used<(l.length:Int)+1 then 0 else m.Used)+(l.length:Int)+1,m.Many⟩,0):=by
      unfold fZ;rw [hF,hc,if_neg (by decide)]
    rcases mK h ht hc with ⟨e1,s1,u1,a1,a2,a3,a4,a5⟩ | ⟨e1,s1,a1,a2,_⟩
    ·
      rw [a1,hm]
      dsimp only
      rw [oF]
      refine ⟨rfl,h3,?_,a4 hf,u1,a2,?_⟩
      · rw [e];exact a3.symm
      ·
        rw [a5,h3,h2]
        have:(mkS sc lg).L.Many-(mkS sc lg).L.Next=(n:Int)-102-(u:Int):=by
          show lg.Many-lg.Next=_
          rw [hr.1,hr.2.1]
        rw [this]
    · exact absurd hf a2
  ·
    have hm:fZ m l=(m,gl (mkS sc lg) d.Now.length l):=by
      unfold fZ;rw [hF,if_pos hc]
    have hs:aD (mkS sc lg) d l=(mkS sc lg,d,gl (mkS sc lg) d.Now.length l):=by
      unfold aD;rw [if_pos hc]
    rw [hs,hm]
    exact ⟨rfl,h3,h1,hf,u,h.up (Nat.le_succ t),h2⟩
theorem vx (h:SV n d (mkS sc lg) u t)(ht:t≤9999)(hf:d.Fuse = -1) :
    (aQ (mkS sc lg) d).2.2=0∧(aQ (mkS sc lg) d).1.c.Rows=sc.Rows∧(aQ (mkS sc lg) d).2.1.Fuse = -1∧SV n (aQ (mkS sc lg) d).2.1 (mkS (aQ (mkS sc lg) d).1.c (aQ (mkS sc lg) d).1.L) 0 (t+1):=by
  rcases pF h ht with ⟨e1,s1,a1,a2,a3,a4⟩ | ⟨e1,a1,a2,_⟩
  · rw [a1];exact ⟨rfl,a3,a4 hf,a2⟩
  · exact absurd hf a2
theorem uu {k:Nat}:(dNew k).Down=false:=rfl
theorem qn (k:Nat)(hk:2≤k):(headD (dNew k)).Epoch=0:=by
  have h0:(dNew k).Now[0]? = some (jK 48):=by show (List.replicate k (jK 48))[0]? = _;rw [List.getElem?_replicate,if_pos (by omega)]
  have h1:(dNew k).Now[1]? = some (jK 48):=by show (List.replicate k (jK 48))[1]? = _;rw [List.getElem?_replicate,if_pos (by omega)]
  have r0:(aO (dNew k) 0).1=jK 48:=by have:=iI (d:=dNew k) (i:=0) rfl h0;rw [show ((0:Nat):Int)=0 from rfl] at this;rw [this]
  have r1:(aO (dNew k) 1).1=jK 48:=by have:=iI (d:=dNew k) (i:=1) rfl h1;rw [show ((1:Nat):Int)=1 from rfl] at this;rw [this]
  unfold headD;rw [r0,r1,nQ];rfl
theorem nT {k:Nat}:(dNew k).Now.length<166∨(headD (dNew k)).Epoch=0:=by
  by_cases h:k<166
  · left;simp [dNew];exact h
  · right;exact qn k (by omega)
theorem uv {k:Nat}:¬ jQ (dNew k)=0:=by
  intro h
  obtain ⟨h1,h2,_⟩:=vU h
  rcases nT (k:=k) with h3|h3
  · exact h1 h3
  · exact h2 h3
theorem mN {k:Nat}(h1:166≤k)(h2:k≤200):(ar (dNew k)).2=0∧(ar (dNew k)).1.Fuse = -1∧jQ (ar (dNew k)).1=0∧SV k (ar (dNew k)).1 (mkS (ao (ar (dNew k)).1).c (ao (ar (dNew k)).1).L) 0 0∧(ao (ar (dNew k)).1).c.Rows=[]:=by
  obtain ⟨e,q1,q2,q3⟩:=vw h1 h2
  have q4:=pE q2.rest.ok q2.rest.down q2.sn (by omega)
  rw [q1];dsimp only
  rw [q4.2,oF]
  exact ⟨rfl,q3,q4.1,q2,rfl⟩
end
end Go.Proofs.Ytpipachmngdegaa
end
