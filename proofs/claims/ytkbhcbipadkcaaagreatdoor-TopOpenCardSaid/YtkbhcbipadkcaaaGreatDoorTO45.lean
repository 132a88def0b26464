import Derived.Test.YtkbhcbipadkcaaaGreatDoorTO44
namespace Go.Proofs.YtkbhcbipadkcaaaGreatDoor
set_option linter.unusedVariables false
set_option linter.unusedSimpArgs false
section
open Go Go.RowKit
theorem QL (s:ByteArray):dE s=(((bl s)[0]?).getD 0).toNat+(((bl s)[1]?).getD 0).toNat*256+(((bl s)[2]?).getD 0).toNat*65536+(((bl s)[3]?).getD 0).toNat*16777216:=by
 unfold dE;simp only [hG]
theorem tE {n:Int}(h0:0<=n)(h1:n<4294967296):((dE (bV n):Nat):Int)=n:=by
 rw [QL,pZ]
 have e0:=my (n:=n % 256) (by omega)
 have e1:=my (n:=n / 256 % 256) (by omega)
 have e2:=my (n:=n / 65536 % 256) (by omega)
 have e3:=my (n:=n / 16777216 % 256) (by omega)
 simp only [List.getElem?_cons_zero,List.getElem?_cons_succ,Option.getD_some]
 omega
theorem sy (h:cY):(aN h).size=17:=by
 unfold aN;simp only [ByteArray.size_append,aF];rfl
theorem LF (h:cY):bl (aN h)=[72]++bl (bV h.Epoch)++bl (bV h.Side)++bl (bV h.Size)++bl (bV h.First):=by
 unfold aN;simp only [iN];first|done|rfl
theorem head_piece (h:cY):(full (aN h)).extract 1 5=bV h.Epoch/\(full (aN h)).extract 5 9=bV h.Side/\(full (aN h)).extract 9 13=bV h.Size/\(full (aN h)).extract 13 17=bV h.First/\bf (full (aN h)) 0=72:=by
 have e:bl (full (aN h))=[72]++bl (bV h.Epoch)++bl (bV h.Side)++bl (bV h.Size)++bl (bV h.First)++List.replicate 31 0:=by rw [Ba,LF,sy]
 simp only [pZ] at e
 refine ⟨?_,?_,?_,?_,?_⟩
 .exact gP ((jf _ 1 5).trans (by rw [e];rfl))
 .exact gP ((jf _ 5 9).trans (by rw [e];rfl))
 .exact gP ((jf _ 9 13).trans (by rw [e];rfl))
 .exact gP ((jf _ 13 17).trans (by rw [e];rfl))
 .rw [hG,e];rfl
def LG (h:cY):Prop:=0<=h.Epoch/\h.Epoch<4294967296/\0<=h.Side/\h.Side<=1/\0<=h.Size/\h.Size<=2400/\1<=h.First/\h.First<4294967296
theorem yr {h:cY}(k:LG h):ck (full (aN h))=h:=by
 obtain ⟨k1,k2,k3,k4,k5,k6,k7,k8⟩:=k
 obtain ⟨p1,p2,p3,p4,p5⟩:=head_piece h
 have e1:=tE k1 k2;have e2:=tE k3 (by omega:h.Side<4294967296);have e3:=tE k5 (by omega:h.Size<4294967296);have e4:=tE (by omega:0<=h.First) k8
 rw [mC (by unfold fF;rw [p5,p2,p3,p4];omega)]
 unfold Gm
 rw [p1,p2,p3,p4,e1,e2,e3,e4]
theorem IA:ck (tN 48)=⟨0,0,0,0⟩:=dc (.inl (by rw [CL];decide))
structure nk (l:List Change):Prop where
  rise:dq l
  ok:∀c∈l,iI c=0
  live:∀c∈l,c.Gone=false
  len:l.length<=60
theorem sA (c:Change)(l:List Change)(b:ByteArray):(c::l).foldl (fun b c=>b++iT c) b=l.foldl (fun b c=>b++iT c) (b++iT c):=rfl
theorem ut:∀ (l:List Change) (b:ByteArray),l.foldl (fun b c=>b++iT c) b=b++aJ l
 | [],b=>gP (by unfold aJ;simp)
 | c::l,b=>by
  have h1:=ut l (b++iT c)
  have h2:=ut l (⟨#[]⟩++iT c)
  rw [sA,h1]
  unfold aJ at h2 ⊢
  rw [sA,h2]
  exact gP (by simp)
theorem IB (c:Change)(l:List Change):aJ (c::l)=iT c++aJ l:=by
 have:=ut l (⟨#[]⟩++iT c)
 unfold aJ at this ⊢
 rw [sA,this]
 exact gP (by simp)
theorem Nt {c:Change}(h:iI c=0):bl (iT c)=UInt8.ofNat c.Key.size::UInt8.ofNat c.Val.size::0::(bl c.Key++bl c.Val):=by
 obtain ⟨_,_,h3,h4⟩:=g9 h
 unfold iT;rw [iN,iN,show c.Val.size / 256=0 by omega];rfl
theorem Nu {c:Change}(h:iI c=0)(hg:c.Gone=false)(t:ByteArray):qe (iT c++t)=(iT c).size/\xg (iT c++t)=c/\(iT c++t).extract (iT c).size (iT c++t).size=t:=by
 obtain ⟨_,_,h3,h4⟩:=g9 h
 have eb:bl (iT c++t)=UInt8.ofNat c.Key.size::UInt8.ofNat c.Val.size::0::(bl c.Key++bl c.Val++bl t):=by rw [iN,Nt h];simp
 have b0:bf (iT c++t) 0=c.Key.size:=by rw [hG,eb];exact nU (by omega)
 have b1:bf (iT c++t) 1=c.Val.size:=by rw [hG,eb];exact nU (by omega)
 have b2:bf (iT c++t) 2=0:=by rw [hG,eb];rfl
 have hn:qe (iT c++t)=(iT c).size:=by unfold qe;rw [b0,b1,b2,qL];rfl
 have kl:=ez c.Key;have vl:=ez c.Val
 refine ⟨hn,?_,?_⟩
 .
  unfold xg
  rw [hn,b0,qL]
  have e1:(iT c++t).extract 3 (3+c.Key.size)=c.Key:=gP ((jf _ _ _).trans (by
   rw [eb]
   simp only [List.take_succ_cons,Nat.add_comm 3 c.Key.size,List.drop_succ_cons,List.drop_zero]
   rw [List.append_assoc,<- kl,List.take_left]))
  have e2:(iT c++t).extract (3+c.Key.size) (3+c.Key.size+c.Val.size)=c.Val:=gP ((jf _ _ _).trans (by
   rw [eb,show 3+c.Key.size+c.Val.size=(c.Key.size+c.Val.size)+3 by omega,show 3+c.Key.size=c.Key.size+3 by omega]
   simp only [List.take_succ_cons,List.drop_succ_cons,List.drop_zero]
   rw [List.take_append_of_le_length (by rw [List.length_append];omega),List.take_of_length_le (by rw [List.length_append];omega),<- kl,List.drop_left]))
  rw [e1,e2]
  obtain ⟨a,b,g⟩:=c
  simp only at hg;rw [hg]
 .
  refine gP ((jf _ _ _).trans ?_)
  rw [<- ez (iT c++t),List.take_length,iN,<- ez (iT c),List.drop_left]
theorem FA {l:List Change}{c:Change}(h:dq (l++[c]))(hg:c.Gone=false):bW l [c]=l++[c]:=by
 have h1:=(List.pairwise_append.1 h).2.2
 have e:=CK (A:=l) (B:=[]) (c:=c) (fun y hy=>h1 y hy c (List.mem_singleton.2 rfl)) (fun y hy=>by cases hy)
 show zu l c=_
 rw [List.append_nil] at e
 rw [e];unfold mid;rw [if_neg (by rw [hg];decide)];simp
theorem Eb:∀ (l:List Change) (k:Nat) (acc:List Change),dq (acc++l)->(∀c∈l,iI c=0/\c.Gone=false)->(aJ l).size<k->py k (aJ l) acc=(acc++l,true)
 | [],k,acc,_,_,hk=>by
  cases k with
  | zero=>omega
  | succ k=>rw [py,if_pos (show aJ []=⟨#[]⟩ from rfl),List.append_nil]
 | c::l,k,acc,hr,hc,hk=>by
  obtain ⟨h1,h2⟩:=hc c (List.mem_cons_self ..)
  have hz:=qL c
  rw [IB] at hk ⊢
  obtain ⟨p1,p2,p3⟩:=Nu h1 h2 (aJ l)
  have hsz:(iT c++aJ l).size=(iT c).size+(aJ l).size:=ByteArray.size_append
  cases k with
  | zero=>omega
  | succ k =>
   have hne:¬ iT c++aJ l=⟨#[]⟩:=fun h=>by
    have:=congrArg ByteArray.size h
    rw [hsz,hz] at this
    have h0:(⟨#[]⟩:ByteArray).size=0:=rfl
    omega
   rw [py,if_neg hne,if_neg (by rw [p1];omega),p2,if_pos h1,p1,p3]
   rw [show acc++c::l=(acc++[c])++l by simp] at hr ⊢
   rw [FA (List.pairwise_append.1 hr).1 h2]
   exact Eb l k (acc++[c]) hr (fun x hx=>hc x (List.mem_cons_of_mem _ hx)) (by omega)
theorem IC {l:List Change}(h:nk l):eY (aJ l)=(l,true):=by
 have:=Eb l ((aJ l).size+1) [] h.rise (fun c hc=>⟨h.ok c hc,h.live c hc⟩) (by omega)
 simpa [eY] using this
theorem nk.size {l:List Change}(h:nk l):(aJ l).size<=2100:=by
 have:=vA h.ok;have:=h.len;omega
theorem Ec:∀ (c:List Change) {rows:List Change},dq rows->(∀x∈rows,iI x=0/\x.Gone=false)->(∀x∈c,iI x=0) -> ∀x∈bW rows c,iI x=0/\x.Gone=false
 | [],rows,_,h,_=>h
 | x::c,rows,hr,h,hc=>by
  show ∀y∈bW (zu rows x) c,_
  refine Ec c (wT hr x) (fun y hy=>?_) (fun y hy=>hc y (List.mem_cons_of_mem _ hy))
  rcases (Gb hr).1 hy with ⟨h1,_⟩ | ⟨h1,rfl⟩
  .exact h y h1
  .exact ⟨hc y (List.mem_cons_self ..),h1⟩
theorem nk.apply {rows c:List Change}(h:nk rows)(hc:jH c=0)(hl:(bW rows c).length<=60):nk (bW rows c):=by
 have ha:=Ec c h.rise (fun x hx=>⟨h.ok x hx,h.live x hx⟩) (qK hc)
 exact ⟨rV c h.rise,fun x hx=>(ha x hx).1,fun x hx=>(ha x hx).2,hl⟩
theorem nk.nil:nk []:=⟨List.Pairwise.nil,fun c hc=>by (cases hc),fun c hc=>by (cases hc),by simp⟩
def uu (l:List ByteArray)(p:Nat)(t:ByteArray):Prop:= ∀k:Nat,k*48<t.size->l[p+k]? = some (full (t.extract (k*48) (k*48+min 48 (t.size-k*48))))
theorem GM {d:cw}{p:Nat}{t:ByteArray}(hd:d.Down=false)(hn:∀s∈d.Now,s.size=48)(hl:p+50<=d.Now.length)(h:uu d.Now p t):∀k:Nat,k<=50->(bl (vg d (p:Int) k)).length=48*k/\(bl (vg d (p:Int) k)).take t.size=(bl t).take (48*k)
 | 0,_=>by
  unfold vg
  refine ⟨rfl,?_⟩
  rw [show bl ⟨#[]⟩=[] from rfl];simp
 | k+1,hk=>by
  obtain ⟨h1,h2⟩:=GM hd hn hl h k (by omega)
  obtain ⟨x,hx⟩:∃x,d.Now[p+k]? = some x:=⟨_,List.getElem?_eq_getElem (by omega)⟩
  have hr:bY d ((p:Int)+(k:Int))=(x,0):=pU hd (by omega) (by rw [show ((p:Int)+(k:Int)).toNat=p+k by omega];exact hx)
  have hxs:=hn x (List.mem_of_getElem? hx)
  have hxl:(bl x).length=48:=by rw [ez];exact hxs
  have htl:=ez t
  unfold vg
  rw [hr,iN]
  refine ⟨by rw [List.length_append,h1,hxl];omega,?_⟩
  by_cases hkt:k*48<t.size
  .
   have hxe:=h k hkt
   rw [hx] at hxe
   injection hxe with hxe
   have hbx:bl x=((bl t).take (k*48+min 48 (t.size-k*48))).drop (k*48)++List.replicate (48-(t.extract (k*48) (k*48+min 48 (t.size-k*48))).size) 0:=by
    rw [hxe,Ba,jf]
   have hA:bl (vg d (p:Int) k)=(bl t).take (48*k):=by
    have:(bl (vg d (p:Int) k)).take t.size=bl (vg d (p:Int) k):=List.take_of_length_le (by rw [h1];omega)
    rw [<- this];exact h2
   rw [hA,hbx]
   by_cases hm:48<=t.size-k*48
   .
    rw [show min 48 (t.size-k*48)=48 by omega]
    have hes:(t.extract (k*48) (k*48+48)).size=48:=by rw [ByteArray.size_extract];omega
    rw [hes,Nat.sub_self,List.replicate_zero,List.append_nil]
    have e1:(bl t).take (48*k)++((bl t).take (k*48+48)).drop (k*48)=(bl t).take (48*(k+1)):=by
     rw [show 48*(k+1)=48*k+48 by omega,show k*48=48*k by omega,<- List.take_drop,<- List.take_add]
    rw [e1,List.take_of_length_le (by rw [List.length_take];omega)]
   .
    rw [show k*48+min 48 (t.size-k*48)=t.size by omega,show (bl t).take t.size=bl t from List.take_of_length_le (by omega)]
    have e1:(bl t).take (48*k)++((bl t).drop (k*48)++List.replicate (48-(t.extract (k*48) t.size).size) 0)=bl t++List.replicate (48-(t.extract (k*48) t.size).size) 0:=by
     rw [<- List.append_assoc,show k*48=48*k by omega,List.take_append_drop]
    rw [e1,List.take_append_of_le_length (by omega),List.take_of_length_le (by omega),List.take_of_length_le (by omega)]
  .rw [List.take_append_of_le_length (by rw [h1];omega),h2,List.take_of_length_le (by omega),List.take_of_length_le (by omega)]
theorem IE {d:cw}{p:Nat}{t:ByteArray}(hd:d.Down=false)(hn:∀s∈d.Now,s.size=48)(hl:p+50<=d.Now.length)(ht:t.size<=2400)(h:uu d.Now p t):(vg d (p:Int) 50).extract 0 t.size=t:=by
 obtain ⟨h1,h2⟩:=GM hd hn hl h 50 (Nat.le_refl _)
 refine gP ((jf _ _ _).trans ?_)
 rw [List.drop_zero,h2,List.take_of_length_le (by rw [ez];omega)]
end
section
open Go Go.RowKit
structure SN (n:Nat)(l:List ByteArray)(st:oM)(u t:Nat):Prop where
  len:l.length=n
  nb:166<=n/\n<=200
  eb:1<=st.Epoch/\st.Epoch<=1+(t:Int)
  fb:1<=st.First/\st.First<=1+100*(t:Int)
  sd:st.Side=0∨st.Side=1
  hd:l[(st.Epoch % 2).toNat]? = some (full (aN ⟨st.Epoch,st.Side,st.Size,st.First⟩))
  oh:∀s,l[((st.Epoch+1) % 2).toNat]? = some s->(ck s).Epoch<st.Epoch
  lg:st.L=⟨102,(n:Int)-102,st.First,(u:Int)⟩
  rows:nk st.Rows
  base:∃b W,nk b/\st.Size=((aJ b).size:Int)/\uu l (2+(st.Side*50).toNat) (aJ b)/\iF (l.drop 102) st.First W u/\st.Rows=kz b W
def yW (st:oM):cY:=⟨st.Epoch,st.Side,st.Size,st.First⟩
section
variable {n u t:Nat} {l l':List ByteArray} {st:oM} {d e:cw}
theorem SN.hed (h:SN n l st u t)(ht:t<=10000):LG (yW st):=by
 obtain ⟨b,W,hb,hz,_⟩:=h.base
 have h1:=h.eb;have h2:=h.fb;have h3:=h.sd;have h4:=hb.size
 unfold LG yW;dsimp only
 refine ⟨?_,?_,?_,?_,?_,?_,?_,?_⟩ <;> omega
theorem SN.up (h:SN n l st u t){t':Nat}(ht:t<=t'):SN n l st u t' :=
 ⟨h.len,h.nb,⟨h.eb.1,by have:=h.eb.2;omega⟩,⟨h.fb.1,by have:=h.fb.2;omega⟩,h.sd,h.hd,h.oh,h.lg,h.rows,h.base⟩
theorem SN.same (h:SN n l st u t)(hl:l'.length=l.length)(hs:∀j:Nat,j<2∨102<=j∨(2+(st.Side*50).toNat<=j/\j<52+(st.Side*50).toNat)->l'[j]? = l[j]?):SN n l' st u t:=by
 obtain ⟨b,W,hb,hz,hh,Nv,hr⟩:=h.base
 have h3:=h.sd;have h4:=hb.size;have h1:=h.eb
 refine ⟨hl.trans h.len,h.nb,h.eb,h.fb,h.sd,by rw [hs _ (.inl (by omega))];exact h.hd,fun s hx=>h.oh s (by rw [<- hs _ (.inl (by omega))];exact hx),h.lg,h.rows,b,W,hb,hz,fun k hk=>?_,?_,hr⟩
 .rw [hs _ (.inr (.inr ⟨by omega,by omega⟩))];exact hh k hk
 .
  have e:l'.drop 102=l.drop 102:=List.ext_getElem? fun j=>by rw [List.getElem?_drop,List.getElem?_drop];exact hs _ (.inr (.inl (by omega)))
  rw [e];exact Nv
theorem SN.flip (h:SN n l st u t)(ht:t<=9999)(hh:uu l (2+((1-st.Side)*50).toNat) (aJ st.Rows))(hl:l'=l.set ((st.Epoch+1) % 2).toNat (full (aN (uH st))))(L:Lg)(hL:L=⟨102,(n:Int)-102,st.First+((n:Int)-102),0⟩) :
 SN n l' ⟨st.Epoch+1,1-st.Side,((aJ st.Rows).size:Int),st.First+((n:Int)-102),L,st.Rows⟩ 0 (t+1):=by
 obtain ⟨b,W,hb,hz,hh0,Nv,hr⟩:=h.base
 have h1:=h.eb;have h2:=h.fb;have h3:=h.sd;have h4:=h.rows.size;have h5:=h.nb;have h6:=h.len;have hM:st.L.Many=(n:Int)-102:=by rw [h.lg]
 have hdl:(l.drop 102).length=n-102:=by rw [List.length_drop];omega
 have hF:st.L.First=st.First:=by rw [h.lg]
 subst hl
 refine ⟨by rw [List.length_set];exact h6,h5,⟨by dsimp only;omega,by dsimp only;omega⟩,⟨by dsimp only;omega,by dsimp only;omega⟩,by dsimp only;omega,?_,fun s hs=>?_,by rw [hL];rfl,h.rows,st.Rows,[],h.rows,rfl,fun k hk=>?_,?_,rfl⟩
 .
  dsimp only
  rw [List.getElem?_set_self (by omega)]
  unfold uH
  rw [hM,hF]
 .
  dsimp only at hs ⊢
  rw [List.getElem?_set_ne (by omega)] at hs
  rw [show (st.Epoch+1+1) % 2=st.Epoch % 2 by omega,h.hd] at hs
  injection hs with hs
  have:=yr (h.hed (by omega))
  unfold yW at this
  rw [<- hs,this];dsimp only;omega
 .
  dsimp only at hk ⊢
  rw [List.getElem?_set_ne (by omega)]
  exact hh k hk
 .
  dsimp only
  have e:(l.set ((st.Epoch+1) % 2).toNat (full (aN (uH st)))).drop 102=l.drop 102:=by rw [List.drop_set_of_lt (by omega)]
  have hx:=Nv.next (by omega) (by rw [hdl];omega)
  rw [hdl] at hx
  rw [e,show st.First+((n:Int)-102)=st.First+((n-102:Nat):Int) by omega]
  exact hx
theorem yt {a b:cY}(h:1<=a.Epoch)(hb:b.Epoch<a.Epoch):nY (nY ⟨0,0,0,0⟩ a) b=a/\(0<=b.Epoch->nY (nY ⟨0,0,0,0⟩ b) a=a):=by
 unfold nY
 refine ⟨?_,fun h0=>?_⟩
 .rw [if_pos (show (⟨0,0,0,0⟩:cY).Epoch<a.Epoch by show (0:Int)<_;omega),if_neg (by omega)]
 .
  have:(if (⟨0,0,0,0⟩:cY).Epoch<b.Epoch then b else (⟨0,0,0,0⟩:cY)).Epoch<a.Epoch:=by
   split
   .exact hb
   .show (0:Int)<_;omega
  rw [if_pos this]
theorem yu {m:Nat}(hO:fL n m d)(hd:d.Down=false)(h:SN n d.Now st u t)(ht:t<=10000):ky d=0/\bm d=st:=by
 obtain ⟨b,W,hb,hz,hh,Nv,hr⟩:=h.base
 have h1:=h.eb;have h2:=h.fb;have h3:=h.sd;have h4:=hb.size;have h5:=h.nb;have h6:=h.len
 have hH:=yr (h.hed ht)
 have hrd:∀ (j:Nat) s,d.Now[j]? = some s->(bY d (j:Int)).1=s:=fun j s hs=>by rw [wM hd hs]
 obtain ⟨x0,hx0⟩:∃x,d.Now[0]? = some x:=⟨_,List.getElem?_eq_getElem (by omega)⟩
 obtain ⟨x1,hx1⟩:∃x,d.Now[1]? = some x:=⟨_,List.getElem?_eq_getElem (by omega)⟩
 have r0:(bY d 0).1=x0:=hrd 0 x0 hx0
 have r1:(bY d 1).1=x1:=hrd 1 x1 hx1
 have hhead:headD d=yW st:=by
  unfold headD;rw [r0,r1]
  rcases (by omega:st.Epoch % 2=0∨st.Epoch % 2=1) with he|he
  .
   have a:=h.hd;rw [he,show Int.toNat 0=0 from rfl,hx0] at a;replace a:=Option.some.inj a
   have o:=h.oh x1 (by rw [show (st.Epoch+1) % 2=1 by omega];exact hx1)
   have e0:ck x0=yW st:=by rw [a];exact hH
   rw [e0];generalize ck x1=y at o ⊢;exact (yt (a:=yW st) (b:=y) (by show 1<=st.Epoch;omega) o).1
  .
   have a:=h.hd;rw [he,show Int.toNat 1=1 from rfl,hx1] at a;replace a:=Option.some.inj a
   have o:=h.oh x0 (by rw [show (st.Epoch+1) % 2=0 by omega];exact hx0)
   have e0:ck x1=yW st:=by rw [a];exact hH
   have o2:=(xd x0).1
   rw [e0];generalize ck x0=y at o o2 ⊢;exact (yt (a:=yW st) (b:=y) (by show 1<=st.Epoch;omega) o).2 o2
 have OA:rJ d=aJ b:=by
  unfold rJ;rw [hhead];unfold yW;dsimp only
  rw [hz,Int.toNat_natCast,show (2:Int)+st.Side*50=((2+(st.Side*50).toNat:Nat):Int) by omega]
  exact IE hd hO.ns (by omega) (by omega) hh
 have hp:=IC hb
 have HG:p9 d 102 ((d.Now.length:Int)-102).toNat=d.Now.drop 102:=by
  have:=nZ (d:=d) (f:=102) (k:=d.Now.length-102) hd (by omega)
  rw [show ((102:Nat):Int)=102 from rfl] at this
  rw [show ((d.Now.length:Int)-102).toNat=d.Now.length-102 by omega,this,List.take_of_length_le (by rw [List.length_drop];omega)]
 refine ⟨?_,?_⟩
 .
  unfold ky
  rw [if_neg (by omega),hhead,if_neg (by show ¬ st.Epoch=0;omega),OA,hp,if_pos rfl]
 .
  unfold bm
  rw [hhead,OA,hp]
  unfold yW fE lC;dsimp only
  rw [HG,Nv.sc,h6]
  dsimp only
  rw [<- hr,<- h.lg]
structure Uw (d e:cw)(p:Nat):Prop where
  kept:e.Kept=d.Kept
  wait:∃T,e.Wait=d.Wait++T /\ ∀x∈T,(p:Int)<=x.At/\x.At<(p:Int)+50
theorem GN (z:Int)(p q:Nat):∀ (w:List Turn) (i:Nat) (l:List ByteArray) (j:Nat),(∀x∈w,(p:Int)<=x.At/\x.At<(q:Int))->j<p∨q<=j->((w.zipIdx i).foldl (oF z) l)[j]? = l[j]?
 | [],i,l,j,_,_=>rfl
 | x::w,i,l,j,h,hj=>by
  rw [List.zipIdx_cons,List.foldl_cons,GN z p q w (i+1) _ j (fun y hy=>h y (List.mem_cons_of_mem _ hy)) hj]
  have hx:=h x (List.mem_cons_self ..)
  unfold oF;dsimp only
  split
  .rw [List.getElem?_set_ne (by omega)]
  .rfl
theorem uW {i:Int}{x:ByteArray}(hd:d.Down=false)(hf : -1<=d.Fuse)(h0:0<=i)(h1:i<(d.Now.length:Int))(h2:x.size<=48) :
 (∃g,-1<=g/\(d.Fuse = -1->g = -1)/\ap d i x=(⟨d.Kept,d.Now.set i.toNat (full x),d.Wait++[⟨i,full x⟩],g,false⟩,0))∨(¬ d.Fuse = -1/\ap d i x=(⟨d.Kept,d.Now,d.Wait,-1,true⟩,10)):=by
 have hl:=fun hq=>Cv (d:=d) (i:=i) (x:=x) hd hq
 rcases oN hd hf h0 h1 h2 with ⟨g,hg,h⟩ | h
 .left;exact ⟨g,hg,fun hq=>by have:=(hl hq).2;rw [h] at this;exact this,h⟩
 .right;exact ⟨(fun hq=>by have h9:=(hl hq).1;rw [h] at h9;exact absurd (show true=false from h9) (by decide)),h⟩
theorem uX (hd:d.Down=false)(hf : -1<=d.Fuse):(∃g,-1<=g/\(d.Fuse = -1->g = -1)/\ai d=(⟨d.Now,d.Now,[],g,false⟩,0))∨(¬ d.Fuse = -1/\ai d=(⟨d.Kept,d.Now,d.Wait,-1,true⟩,10)):=by
 have hl:=fun hq=>lz (d:=d) hd hq
 rcases rY hd hf with ⟨g,hg,h⟩ | h
 .left;exact ⟨g,hg,fun hq=>by have:=hl hq;rw [h] at this;exact congrArg (fun q:cw×Int=>q.1.Fuse) this,h⟩
 .right;exact ⟨(fun hq=>by have h9:=hl hq;rw [h] at h9;exact absurd (congrArg (fun q:cw×Int=>q.2) h9) (by show ¬ (10:Int)=0;decide)),h⟩
theorem Ah {f:Nat}{x:ByteArray}(hx:x.size<=2400):∀ (k i:Nat) (d:cw),d.Down=false -> -1<=d.Fuse->f+50<=d.Now.length->x.size<48*(i+k) ->
 (∃g N T,-1<=g/\(d.Fuse = -1->g = -1)/\iO (f:Int) x k i d=(⟨d.Kept,N,d.Wait++T,g,false⟩,0)/\(∀y∈T,(f:Int)<=y.At/\y.At<(f:Int)+50)/\N.length=d.Now.length/\(∀j:Nat,j<f+i∨f+50<=j->N[j]? = d.Now[j]?) /\
  ∀j:Nat,i<=j->j*48<x.size->N[f+j]? = some (full (x.extract (j*48) (j*48+min 48 (x.size-j*48))))) ∨
 (∃e,¬ d.Fuse = -1/\iO (f:Int) x k i d=(e,10)/\Uw d e f)
 | 0,i,d,hd,hf,hl,hk=>by
  left
  refine ⟨d.Fuse,d.Now,[],hf,id,?_,(fun y hy=>by cases hy),rfl,fun _ _=>rfl,fun j h1 h2=>by omega⟩
  rw [iO,List.append_nil];obtain ⟨a,b,c,g,q⟩:=d;simp only at hd;rw [hd]
 | k+1,i,d,hd,hf,hl,hk=>by
  rw [iO]
  by_cases hi:i*48<x.size
  .
   rw [if_pos hi]
   generalize hc:x.extract (i*48) (i*48+min 48 (x.size-i*48))=c
   have hcs:c.size<=48:=by rw [<- hc,ByteArray.size_extract];omega
   rcases uW (d:=d) (i:=(f:Int)+(i:Int)) (x:=c) hd hf (by omega) (by omega) hcs with ⟨g,hg,hgf,hw⟩ | ⟨hgf,hw⟩
   .
    rw [hw,if_pos rfl]
    have ei:((f:Int)+(i:Int)).toNat=f+i:=by omega
    rw [ei]
    dsimp only
    rcases Ah (f:=f) hx k (i+1) ⟨d.Kept,d.Now.set (f+i) (full c),d.Wait++[⟨(f:Int)+(i:Int),full c⟩],g,false⟩ rfl hg (by dsimp only;rw [List.length_set];exact hl) (by omega) with ⟨g',N,T,q1,q0,q2,q3,q4,q5,q6⟩ | ⟨e,q0,q1,q2,T,q3,q4⟩
    .
     left
     dsimp only at q2 q4 q5
     rw [List.length_set] at q4
     refine ⟨g',N,[⟨(f:Int)+(i:Int),full c⟩]++T,q1,fun hq=>q0 (hgf hq),by rw [q2,List.append_assoc],fun y hy=>?_,q4,fun j hj=>?_,fun j h1 h2=>?_⟩
     .
      rcases List.mem_append.1 hy with hy|hy
      .rw [List.mem_singleton.1 hy];dsimp only;omega
      .exact q3 y hy
     .rw [q5 j (by omega),List.getElem?_set_ne (by omega)]
     .
      by_cases hji:j=i
      .
       subst hji
       rw [q5 (f+j) (by omega),List.getElem?_set_self (by omega),hc]
      .exact q6 j (by omega) h2
    .
     right
     dsimp only at q2 q3
     refine ⟨e,fun hq=>q0 (hgf hq),q1,q2,[⟨(f:Int)+(i:Int),full c⟩]++T,by rw [q3,List.append_assoc],fun y hy=>?_⟩
     rcases List.mem_append.1 hy with hy|hy
     .rw [List.mem_singleton.1 hy];dsimp only;omega
     .exact q4 y hy
   .
    right
    rw [hw,if_neg j1]
    exact ⟨_,hgf,rfl,rfl,[],by simp,fun y hy=>by cases hy⟩
  .
   rw [if_neg hi]
   left
   refine ⟨d.Fuse,d.Now,[],hf,id,?_,(fun y hy=>by cases hy),rfl,fun _ _=>rfl,fun j h1 h2=>by omega⟩
   rw [List.append_nil];obtain ⟨a,b,c,g,q⟩:=d;simp only at hd;rw [hd]
structure SV (n:Nat)(d:cw)(st:oM)(u t:Nat):Prop where
  rest:Rest n d
  sn:SN n d.Now st u t
theorem mJ {m:Nat}(h:fL n m e)(z:Int):Rest n (gD e z):=⟨h.restart z,rfl,by show (-1:Int) <= -1;decide,rfl,rfl⟩
theorem SV.fell (h:SV n d st u t)(hO:fL n 3000 e)(hk:e.Kept=d.Now)(p:Nat)(hp:p=2+((1-st.Side)*50).toNat)(hw:∀x∈e.Wait,(p:Int)<=x.At/\x.At<(p:Int)+50)(z:Int):SV n (gD e z) st u t:=by
 refine ⟨mJ hO z,?_⟩
 have h3:=h.sn.sd
 refine h.sn.same (by show (mL z e.Wait e.Kept).length=_;rw [Cr,hk]) fun j hj=>?_
 show (mL z e.Wait e.Kept)[j]? = _
 rw [<- hk]
 exact GN z p (p+50) e.Wait 0 e.Kept j (fun x hx=>⟨(hw x hx).1,by have:=(hw x hx).2;omega⟩) (by omega)
end
end
end Go.Proofs.YtkbhcbipadkcaaaGreatDoor
