import Derived.Test.YtpipachmngdegaaTCP42
section
namespace Go.Proofs.Ytpipachmngdegaa
open Go Go.RowKit
set_option linter.unusedVariables false
structure SN (n:Nat)(l:List ByteArray)(st:iQ)(u t:Nat):Prop where
  len:l.length=n
  nb:166≤n∧n≤200
  eb:1≤st.Epoch∧st.Epoch≤1+(t:Int)
  fb:1≤st.First∧st.First≤1+100*(t:Int)
  sd:st.Side=0∨st.Side=1
  hd:l[(st.Epoch % 2).toNat]? = some (full (aC ⟨st.Epoch,st.Side,st.Size,st.First⟩))
  oh:∀s,l[((st.Epoch+1) % 2).toNat]? = some s→(bh s).Epoch<st.Epoch
  lg:st.L=⟨102,(n:Int)-102,st.First,(u:Int)⟩
  rows:gT st.Rows
  base:∃b W,gT b∧st.Size=((aB b).size:Int)∧kC l (2+(st.Side*50).toNat) (aB b)∧dD (l.drop 102) st.First W u∧st.Rows=eS b W
def mP (st:iQ):bq:=⟨st.Epoch,st.Side,st.Size,st.First⟩
section
variable {n u t:Nat} {l l':List ByteArray} {st:iQ} {d e:bp}
theorem SN.hed (h:SN n l st u t)(ht:t≤10000):tZ (mP st):=by
  obtain ⟨b,W,hb,hz,_⟩:=h.base
  have h1:=h.eb;have h2:=h.fb;have h3:=h.sd;have h4:=hb.size
  unfold tZ mP;dsimp only
  refine ⟨?_,?_,?_,?_,?_,?_,?_,?_⟩ <;> omega
theorem SN.up (h:SN n l st u t){t':Nat}(ht:t≤t'):SN n l st u t' :=
  ⟨h.len,h.nb,⟨h.eb.1,by have:=h.eb.2;omega⟩,⟨h.fb.1,by have:=h.fb.2;omega⟩,h.sd,h.hd,h.oh,h.lg,h.rows,h.base⟩
theorem SN.same (h:SN n l st u t)(hl:l'.length=l.length)(hs:∀j:Nat,j<2∨102≤j∨(2+(st.Side*50).toNat≤j∧j<52+(st.Side*50).toNat)→l'[j]? = l[j]?):SN n l' st u t:=by
  obtain ⟨b,W,hb,hz,hh,vf,hr⟩:=h.base
  have h3:=h.sd;have h4:=hb.size;have h1:=h.eb
  refine ⟨hl.trans h.len,h.nb,h.eb,h.fb,h.sd,by rw [hs _ (.inl (by omega))];exact h.hd,fun s hx=>h.oh s (by rw [← hs _ (.inl (by omega))];exact hx),h.lg,h.rows,b,W,hb,hz,fun k hk=>?_,?_,hr⟩
  · rw [hs _ (.inr (.inr ⟨by omega,by omega⟩))];exact hh k hk
  ·
    have e:l'.drop 102=l.drop 102:=List.ext_getElem? fun j=>by rw [List.getElem?_drop,List.getElem?_drop];exact hs _ (.inr (.inl (by omega)))
    rw [e];exact vf
theorem SN.flip (h:SN n l st u t)(ht:t≤9999)(hh:kC l (2+((1-st.Side)*50).toNat) (aB st.Rows))(hl:l'=l.set ((st.Epoch+1) % 2).toNat (full (aC (kK st))))(L:Lg)(hL:L=⟨102,(n:Int)-102,st.First+((n:Int)-102),0⟩) :
    SN n l' ⟨st.Epoch+1,1-st.Side,((aB st.Rows).size:Int),st.First+((n:Int)-102),L,st.Rows⟩ 0 (t+1):=by
  obtain ⟨b,W,hb,hz,hh0,vf,hr⟩:=h.base
  have h1:=h.eb;have h2:=h.fb;have h3:=h.sd;have h4:=h.rows.size;have h5:=h.nb;have h6:=h.len;have hM:st.L.Many=(n:Int)-102:=by rw [h.lg]
  have hdl:(l.drop 102).length=n-102:=by rw [List.length_drop];omega
  have hF:st.L.First=st.First:=by rw [h.lg]
  subst hl
  refine ⟨by rw [List.length_set];exact h6,h5,⟨by dsimp only;omega,by dsimp only;omega⟩,⟨by dsimp only;omega,by dsimp only;omega⟩,by dsimp only;omega,?_,fun s hs=>?_,by rw [hL];rfl,h.rows,st.Rows,[],h.rows,rfl,fun k hk=>?_,?_,rfl⟩
  ·
    dsimp only
    rw [List.getElem?_set_self (by omega)]
    unfold kK
    rw [hM,hF]
  ·
    dsimp only at hs ⊢
    rw [List.getElem?_set_ne (by omega)] at hs
    rw [show (st.Epoch+1+1) % 2=st.Epoch % 2 by omega,h.hd] at hs
    injection hs with hs
    have:=mj (h.hed (by omega))
    unfold mP at this
    rw [← hs,this];dsimp only;omega
  ·
    dsimp only at hk ⊢
    rw [List.getElem?_set_ne (by omega)]
    exact hh k hk
  ·
    dsimp only
    have e:(l.set ((st.Epoch+1) % 2).toNat (full (aC (kK st)))).drop 102=l.drop 102:=by rw [List.drop_set_of_lt (by omega)]
    have hx:=vf.next (by omega) (by rw [hdl];omega)
    rw [hdl] at hx
    rw [e,show st.First+((n:Int)-102)=st.First+((n-102:Nat):Int) by omega]
    exact hx
theorem ml {a b:bq}(h:1≤a.Epoch)(hb:b.Epoch<a.Epoch):ij (ij ⟨0,0,0,0⟩ a) b=a∧(0≤b.Epoch→ij (ij ⟨0,0,0,0⟩ b) a=a):=by
  unfold ij
  refine ⟨?_,fun h0=>?_⟩
  · rw [if_pos (show (⟨0,0,0,0⟩:bq).Epoch<a.Epoch by show (0:Int)<_;omega),if_neg (by omega)]
  ·
    have:(if (⟨0,0,0,0⟩:bq).Epoch<b.Epoch then b else (⟨0,0,0,0⟩:bq)).Epoch<a.Epoch:=by
      split
      · exact hb
      · show (0:Int)<_;omega
    rw [if_pos this]
theorem mo {m:Nat}(hO:cz n m d)(hd:d.Down=false)(h:SN n d.Now st u t)(ht:t≤10000):jB d=0∧af d=st:=by
  obtain ⟨b,W,hb,hz,hh,vf,hr⟩:=h.base
  have h1:=h.eb;have h2:=h.fb;have h3:=h.sd;have h4:=hb.size;have h5:=h.nb;have h6:=h.len
  have hH:=mj (h.hed ht)
  have hrd:∀ (j:Nat) s,d.Now[j]? = some s→(a6 d (j:Int)).1=s:=fun j s hs=>by rw [lK hd hs]
  obtain ⟨x0,hx0⟩:∃x,d.Now[0]? = some x:=⟨_,List.getElem?_eq_getElem (by omega)⟩
  obtain ⟨x1,hx1⟩:∃x,d.Now[1]? = some x:=⟨_,List.getElem?_eq_getElem (by omega)⟩
  have r0:(a6 d 0).1=x0:=hrd 0 x0 hx0
  have r1:(a6 d 1).1=x1:=hrd 1 x1 hx1
  have hhead:headD d=mP st:=by
    unfold headD;rw [r0,r1]
    rcases (by omega:st.Epoch % 2=0∨st.Epoch % 2=1) with he|he
    ·
      have a:=h.hd;rw [he,show Int.toNat 0=0 from rfl,hx0] at a;replace a:=Option.some.inj a
      have o:=h.oh x1 (by rw [show (st.Epoch+1) % 2=1 by omega];exact hx1)
      have e0:bh x0=mP st:=by rw [a];exact hH
      rw [e0];generalize bh x1=y at o ⊢;exact (ml (a:=mP st) (b:=y) (by show 1≤st.Epoch;omega) o).1
    ·
      have a:=h.hd;rw [he,show Int.toNat 1=1 from rfl,hx1] at a;replace a:=Option.some.inj a
      have o:=h.oh x0 (by rw [show (st.Epoch+1) % 2=0 by omega];exact hx0)
      have e0:bh x1=mP st:=by rw [a];exact hH
      have o2:=(lZ x0).1
      rw [e0];generalize bh x0=y at o o2 ⊢;exact (ml (a:=mP st) (b:=y) (by show 1≤st.Epoch;omega) o).2 o2
  have vI:jA d=aB b:=by
    unfold jA;rw [hhead];unfold mP;dsimp only
    rw [hz,Int.toNat_natCast,show (2:Int)+st.Side*50=((2+(st.Side*50).toNat:Nat):Int) by omega]
    exact sk hd hO.ns (by omega) (by omega) hh
  have hp:=sj hb
  have rZ:je d 102 ((d.Now.length:Int)-102).toNat=d.Now.drop 102:=by
    have:=ik (d:=d) (f:=102) (k:=d.Now.length-102) hd (by omega)
    rw [show ((102:Nat):Int)=102 from rfl] at this
    rw [show ((d.Now.length:Int)-102).toNat=d.Now.length-102 by omega,this,List.take_of_length_le (by rw [List.length_drop];omega)]
  refine ⟨?_,?_⟩
  ·
    unfold jB
    rw [if_neg (by omega),hhead,if_neg (by show ¬ st.Epoch=0;omega),vI,hp,if_pos rfl]
  ·
    unfold af
    rw [hhead,vI,hp]
    unfold mP bY dz;dsimp only
    rw [rZ,vf.sc,h6]
    dsimp only
    rw [← hr,← h.lg]
structure yZ (d e:bp)(p:Nat):Prop where
  kept:e.Kept=d.Kept
  wait:∃T,e.Wait=d.Wait++T ∧ ∀x∈T,(p:Int)≤x.At∧x.At<(p:Int)+50
theorem rj (z:Int)(p q:Nat):∀ (w:List Turn) (i:Nat) (l:List ByteArray) (j:Nat),(∀x∈w,(p:Int)≤x.At∧x.At<(q:Int))→j<p∨q≤j→((w.zipIdx i).foldl (hY z) l)[j]? = l[j]?
  | [],i,l,j,_,_=>rfl
  | x::w,i,l,j,h,hj=>by
    rw [List.zipIdx_cons,List.foldl_cons,rj z p q w (i+1) _ j (fun y hy=>h y (List.mem_cons_of_mem _ hy)) hj]
    have hx:=h x (List.mem_cons_self ..)
    unfold hY;dsimp only
    split
    · rw [List.getElem?_set_ne (by omega)]
    · rfl
theorem kQ {i:Int}{x:ByteArray}(hd:d.Down=false)(hf : -1≤d.Fuse)(h0:0≤i)(h1:i<(d.Now.length:Int))(h2:x.size≤48) :
    (∃g,-1≤g∧(d.Fuse = -1→g = -1)∧ar d i x=(⟨d.Kept,d.Now.set i.toNat (full x),d.Wait++[⟨i,full x⟩],g,false⟩,0))∨(¬ d.Fuse = -1∧ar d i x=(⟨d.Kept,d.Now,d.Wait,-1,true⟩,10)):=by
  have hl:=fun hq=>oL (d:=d) (i:=i) (x:=x) hd hq
  rcases iG hd hf h0 h1 h2 with ⟨g,hg,h⟩ | h
  · left;exact ⟨g,hg,fun hq=>by have:=(hl hq).2;rw [h] at this;exact this,h⟩
  · right;exact ⟨(fun hq=>by have h9:=(hl hq).1;rw [h] at h9;exact absurd (show true=false from h9) (by decide)),h⟩
theorem kR (hd:d.Down=false)(hf : -1≤d.Fuse):(∃g,-1≤g∧(d.Fuse = -1→g = -1)∧aj d=(⟨d.Now,d.Now,[],g,false⟩,0))∨(¬ d.Fuse = -1∧aj d=(⟨d.Kept,d.Now,d.Wait,-1,true⟩,10)):=by
  have hl:=fun hq=>fB (d:=d) hd hq
  rcases jM hd hf with ⟨g,hg,h⟩ | h
  · left;exact ⟨g,hg,fun hq=>by have:=hl hq;rw [h] at this;exact congrArg (fun q:bp×Int=>q.1.Fuse) this,h⟩
  · right;exact ⟨(fun hq=>by have h9:=hl hq;rw [h] at h9;exact absurd (congrArg (fun q:bp×Int=>q.2) h9) (by show ¬ (10:Int)=0;decide)),h⟩
theorem nF {f:Nat}{x:ByteArray}(hx:x.size≤2400):∀ (k i:Nat) (d:bp),d.Down=false → -1≤d.Fuse→f+50≤d.Now.length→x.size<48*(i+k) →
    (∃g N T,-1≤g∧(d.Fuse = -1→g = -1)∧dG (f:Int) x k i d=(⟨d.Kept,N,d.Wait++T,g,false⟩,0)∧(∀y∈T,(f:Int)≤y.At∧y.At<(f:Int)+50)∧N.length=d.Now.length∧(∀j:Nat,j<f+i∨f+50≤j→N[j]? = d.Now[j]?) ∧
      ∀j:Nat,i≤j→j*48<x.size→N[f+j]? = some (full (x.extract (j*48) (j*48+min 48 (x.size-j*48))))) ∨
    (∃e,¬ d.Fuse = -1∧dG (f:Int) x k i d=(e,10)∧yZ d e f)
  | 0,i,d,hd,hf,hl,hk=>by
    left
    refine ⟨d.Fuse,d.Now,[],hf,id,?_,(fun y hy=>by cases hy),rfl,fun _ _=>rfl,fun j h1 h2=>by omega⟩
    rw [dG,List.append_nil];obtain ⟨a,b,c,g,q⟩:=d;simp only at hd;rw [hd]
  | k+1,i,d,hd,hf,hl,hk=>by
    rw [dG]
    by_cases hi:i*48<x.size
    ·
      rw [if_pos hi]
      generalize hc:x.extract (i*48) (i*48+min 48 (x.size-i*48))=c
      have hcs:c.size≤48:=by rw [← hc,ByteArray.size_extract];omega
      rcases kQ (d:=d) (i:=(f:Int)+(i:Int)) (x:=c) hd hf (by omega) (by omega) hcs with ⟨g,hg,hgf,hw⟩ | ⟨hgf,hw⟩
      ·
        rw [hw,if_pos rfl]
        have ei:((f:Int)+(i:Int)).toNat=f+i:=by omega
        rw [ei]
        dsimp only
        rcases nF (f:=f) hx k (i+1) ⟨d.Kept,d.Now.set (f+i) (full c),d.Wait++[⟨(f:Int)+(i:Int),full c⟩],g,false⟩ rfl hg (by dsimp only;rw [List.length_set];exact hl) (by omega) with ⟨g',N,T,q1,q0,q2,q3,q4,q5,q6⟩ | ⟨e,q0,q1,q2,T,q3,q4⟩
        ·
          left
          dsimp only at q2 q4 q5
          rw [List.length_set] at q4
          refine ⟨g',N,[⟨(f:Int)+(i:Int),full c⟩]++T,q1,fun hq=>q0 (hgf hq),by rw [q2,List.append_assoc],fun y hy=>?_,q4,fun j hj=>?_,fun j h1 h2=>?_⟩
          ·
            rcases List.mem_append.1 hy with hy|hy
            · rw [List.mem_singleton.1 hy];dsimp only;omega
            · exact q3 y hy
          · rw [q5 j (by omega),List.getElem?_set_ne (by omega)]
          ·
            by_cases hji:j=i
            ·
              subst hji
              rw [q5 (f+j) (by omega),List.getElem?_set_self (by omega),hc]
            · exact q6 j (by omega) h2
        ·
          right
          dsimp only at q2 q3
          refine ⟨e,fun hq=>q0 (hgf hq),q1,q2,[⟨(f:Int)+(i:Int),full c⟩]++T,by rw [q3,List.append_assoc],fun y hy=>?_⟩
          rcases List.mem_append.1 hy with hy|hy
          · rw [List.mem_singleton.1 hy];dsimp only;omega
          · exact q4 y hy
      ·
        right
        rw [hw,if_neg eC]
        exact ⟨_,hgf,rfl,rfl,[],by simp,fun y hy=>by cases hy⟩
    ·
      rw [if_neg hi]
      left
      refine ⟨d.Fuse,d.Now,[],hf,id,?_,(fun y hy=>by cases hy),rfl,fun _ _=>rfl,fun j h1 h2=>by omega⟩
      rw [List.append_nil];obtain ⟨a,b,c,g,q⟩:=d;simp only at hd;rw [hd]
structure SV (n:Nat)(d:bp)(st:iQ)(u t:Nat):Prop where
  rest:Rest n d
  sn:SN n d.Now st u t
theorem gF {m:Nat}(h:cz n m e)(z:Int):Rest n (ae e z):=⟨h.restart z,rfl,by show (-1:Int) ≤ -1;decide,rfl,rfl⟩
theorem SV.fell (h:SV n d st u t)(hO:cz n 3000 e)(hk:e.Kept=d.Now)(p:Nat)(hp:p=2+((1-st.Side)*50).toNat)(hw:∀x∈e.Wait,(p:Int)≤x.At∧x.At<(p:Int)+50)(z:Int):SV n (ae e z) st u t:=by
  refine ⟨gF hO z,?_⟩
  have h3:=h.sn.sd
  refine h.sn.same (by show (fA z e.Wait e.Kept).length=_;rw [lJ,hk]) fun j hj=>?_
  show (fA z e.Wait e.Kept)[j]? = _
  rw [← hk]
  exact rj z p (p+50) e.Wait 0 e.Kept j (fun x hx=>⟨(hw x hx).1,by have:=(hw x hx).2;omega⟩) (by omega)
end
end Go.Proofs.Ytpipachmngdegaa
end
