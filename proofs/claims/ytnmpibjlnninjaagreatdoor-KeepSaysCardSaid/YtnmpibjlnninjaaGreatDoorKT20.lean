import Derived.Test.YtnmpibjlnninjaaGreatDoorKT19
namespace Go.Proofs.YtnmpibjlnninjaaGreatDoor
set_option linter.unusedVariables false
set_option linter.unusedSimpArgs false
set_option maxRecDepth 100000
set_option maxHeartbeats 90000000
section
open Go Go.RowKit
theorem SL (s:ByteArray):iH s=(((bl s)[0]?).getD 0).toNat+(((bl s)[1]?).getD 0).toNat*256+(((bl s)[2]?).getD 0).toNat*65536+(((bl s)[3]?).getD 0).toNat*16777216:=by
 grind [iH,jA]
theorem tW {n:Int}(h0:0<=n)(h1:n<4294967296):((iH (bW n):Nat):Int)=n:=by
 grind [SL,tL,yd,List.getElem?_cons_zero,List.getElem?_cons_succ]
theorem yX (h:zB):(cK h).size=17:=by
 rfl
theorem head_piece (h:zB):(full (cK h)).extract 1 5=bW h.Epoch/\(full (cK h)).extract 5 9=bW h.Side/\(full (cK h)).extract 9 13=bW h.Size/\(full (cK h)).extract 13 17=bW h.First/\bq (full (cK h)) 0=72:=by
 have e:bl (full (cK h))=[72]++bl (bW h.Epoch)++bl (bW h.Side)++bl (bW h.Size)++bl (bW h.First)++List.replicate 31 0:=eF
 simp only [tL] at e
 refine ⟨?_,?_,?_,?_,?_⟩
 .rfl
 .rfl
 .rfl
 .rfl
 rfl
def M0 (h:zB):Prop:=0<=h.Epoch/\h.Epoch<4294967296/\0<=h.Side/\h.Side<=1/\0<=h.Size/\h.Size<=2400/\1<=h.First/\h.First<4294967296
theorem yY {h:zB}(k:M0 h):cY (full (cK h))=h:=by
 obtain ⟨k1,k2,k3,k4,k5,k6,k7,k8⟩:=k
 obtain ⟨p1,p2,p3,p4,p5⟩:=head_piece h
 have e1:=tW k1 k2;have e2:=tW k3 (by omega:h.Side<4294967296);have e3:=tW k5 (by omega:h.Size<4294967296);have e4:=tW (by omega:0<=h.First) k8
 rw [me (by grind [fa])]
 simp_all [Iw]
theorem JO:cY (wG 48)=⟨0,0,0,0⟩:=cZ (.inl (by grind [Es]))
structure ng (l:List Change):Prop where
  rise:cX l
  ok:∀c∈l,gu c=0
  live:∀c∈l,c.Gone=false
  len:l.length<=60
theorem yZ (c:Change)(l:List Change)(b:ByteArray):(c::l).foldl (fun b c=>b++iI c) b=l.foldl (fun b c=>b++iI c) (b++iI c):=rfl
theorem uW:∀ (l:List Change) (b:ByteArray),l.foldl (fun b c=>b++iI c) b=b++bB l
 | [],b=>gX (by unfold bB;simp)
 | c::l,b=>by
  have h1:=uW l (b++iI c)
  have h2:=uW l (⟨#[]⟩++iI c)
  rw [yZ,h1]
  unfold bB at h2 ⊢
  rw [yZ,h2]
  exact gX bC
theorem JQ (c:Change)(l:List Change):bB (c::l)=iI c++bB l:=by
 have:=uW l (⟨#[]⟩++iI c)
 assumption
theorem O3 {c:Change}(h:gu c=0):bl (iI c)=UInt8.ofNat c.Key.size::UInt8.ofNat c.Val.size::0::(bl c.Key++bl c.Val):=by
 obtain ⟨_,_,h3,h4⟩:=gv h
 unfold iI;rw [jl,jl,show c.Val.size / 256=0 by omega];rfl
theorem O4 {c:Change}(h:gu c=0)(hg:c.Gone=false)(t:ByteArray):qq (iI c++t)=(iI c).size/\yK (iI c++t)=c/\(iI c++t).extract (iI c).size (iI c++t).size=t:=by
 obtain ⟨_,_,h3,h4⟩:=gv h
 have eb:bl (iI c++t)=UInt8.ofNat c.Key.size::UInt8.ofNat c.Val.size::0::(bl c.Key++bl c.Val++bl t):=by grind [jl,O3]
 have b0:bq (iI c++t) 0=c.Key.size:=by grind [jA,qc]
 have b1:bq (iI c++t) 1=c.Val.size:=by grind [jA,qc]
 have b2:bq (iI c++t) 2=0:=by rw [jA,eb];rfl
 have hn:qq (iI c++t)=(iI c).size:=by grind [qq,qV]
 have kl:=gC c.Key;have vl:=gC c.Val
 refine ⟨hn,?_,?_⟩
 .
  unfold yK
  rw [hn,b0,qV]
  have e1:(iI c++t).extract 3 (3+c.Key.size)=c.Key:=gX ((oI _ _ _).trans (by
   grind))
  have e2:(iI c++t).extract (3+c.Key.size) (3+c.Key.size+c.Val.size)=c.Val:=gX ((oI _ _ _).trans (by
   grind))
  rw [e1,e2]
  obtain ⟨a,b,g⟩:=c
  grind
 grind [gX,oI,gC,List.take_length,jl,List.drop_left]
theorem GM {l:List Change}{c:Change}(h:cX (l++[c]))(hg:c.Gone=false):bI l [c]=l++[c]:=by
 have h1:=(List.pairwise_append.1 h).2.2
 have e:=xQ (A:=l) (B:=[]) (c:=c) (fun y hy=>h1 y hy c (List.mem_singleton.2 rfl)) (fun y hy=>by grind)
 show zx l c=_
 simp_all [mid,List.append_nil,if_neg]
theorem E6:∀ (l:List Change) (k:Nat) (acc:List Change),cX (acc++l)->(∀c∈l,gu c=0/\c.Gone=false)->(bB l).size<k->pF k (bB l) acc=(acc++l,true)
 | [],k,acc,_,_,hk=>by
  cases k with
  | zero=>omega
  | succ k=>rw [pF,if_pos (show bB []=⟨#[]⟩ from rfl),List.append_nil]
 | c::l,k,acc,hr,hc,hk=>by
  obtain ⟨h1,h2⟩:=hc c (List.mem_cons_self ..)
  have hz:=qV c
  rw [JQ] at hk ⊢
  obtain ⟨p1,p2,p3⟩:=O4 h1 h2 (bB l)
  have hsz:(iI c++bB l).size=(iI c).size+(bB l).size:=ByteArray.size_append
  cases k with
  | zero=>omega
  | succ k =>
   have hne:¬ iI c++bB l=⟨#[]⟩:=fun h=>by
    have:=congrArg ByteArray.size h
    rw [hsz,hz] at this
    have h0:(⟨#[]⟩:ByteArray).size=0:=rfl
    omega
   rw [pF,if_neg hne,if_neg ae,p2,if_pos h1,p1,p3]
   rw [show acc++c::l=(acc++[c])++l by simp] at hr ⊢
   rw [GM (List.pairwise_append.1 hr).1 h2]
   exact E6 l k (acc++[c]) hr (fun x hx=>hc x (List.mem_cons_of_mem _ hx)) ae
theorem JR {l:List Change}(h:ng l):eP (bB l)=(l,true):=by
 have:=E6 l ((bB l).size+1) [] h.rise (fun c hc=>⟨h.ok c hc,h.live c hc⟩) ae
 assumption
theorem ng.size {l:List Change}(h:ng l):(bB l).size<=2100:=by
 have:=wL h.ok;have:=h.len;omega
theorem E7:∀ (c:List Change) {rows:List Change},cX rows->(∀x∈rows,gu x=0/\x.Gone=false)->(∀x∈c,gu x=0) -> ∀x∈bI rows c,gu x=0/\x.Gone=false
 | [],rows,_,h,_=>h
 | x::c,rows,hr,h,hc=>by
  show ∀y∈bI (zx rows x) c,_
  refine E7 c (tD hr x) (fun y hy=>?_) (fun y hy=>hc y (List.mem_cons_of_mem _ hy))
  rcases (H3 hr).1 hy with ⟨h1,_⟩ | ⟨h1,rfl⟩
  .exact h y h1
  exact ⟨hc y (List.mem_cons_self ..),h1⟩
theorem ng.apply {rows c:List Change}(h:ng rows)(hc:gI c=0)(hl:(bI rows c).length<=60):ng (bI rows c):=by
 have ha:=E7 c h.rise (fun x hx=>⟨h.ok x hx,h.live x hx⟩) (qR hc)
 exact ⟨si c h.rise,fun x hx=>(ha x hx).1,fun x hx=>(ha x hx).2,hl⟩
theorem ng.nil:ng []:=⟨List.Pairwise.nil,fun c hc=>by grind,fun c hc=>by grind,bC⟩
def uX (l:List ByteArray)(p:Nat)(t:ByteArray):Prop:= ∀k:Nat,k*48<t.size->l[p+k]? = some (full (t.extract (k*48) (k*48+min 48 (t.size-k*48))))
theorem Iz {d:bZ}{p:Nat}{t:ByteArray}(hd:d.Down=false)(hn:∀s∈d.Now,s.size=48)(hl:p+50<=d.Now.length)(h:uX d.Now p t):∀k:Nat,k<=50->(bl (bU d (p:Int) k)).length=48*k/\(bl (bU d (p:Int) k)).take t.size=(bl t).take (48*k)
 | 0,_=>by
  unfold bU
  refine ⟨rfl,?_⟩
  rw [show bl ⟨#[]⟩=[] from rfl];simp
 | k+1,hk=>by
  obtain ⟨h1,h2⟩:=Iz hd hn hl h k ae
  obtain ⟨x,hx⟩:∃x,d.Now[p+k]? = some x:=⟨_,List.getElem?_eq_getElem ae⟩
  have hr:cC d ((p:Int)+(k:Int))=(x,0):=qf hd ae (by rw [show ((p:Int)+(k:Int)).toNat=p+k by omega];exact hx)
  have hxs:=hn x (List.mem_of_getElem? hx)
  have hxl:(bl x).length=48:=by rw [gC];exact hxs
  have htl:=gC t
  unfold bU
  rw [hr,jl]
  refine ⟨by rw [List.length_append,h1,hxl];omega,?_⟩
  by_cases hkt:k*48<t.size
  .
   have hxe:=h k hkt
   rw [hx] at hxe
   injection hxe with hxe
   have hbx:bl x=((bl t).take (k*48+min 48 (t.size-k*48))).drop (k*48)++List.replicate (48-(t.extract (k*48) (k*48+min 48 (t.size-k*48))).size) 0:=by
    rw [hxe,H9,oI]
   have hA:bl (bU d (p:Int) k)=(bl t).take (48*k):=by
    have:(bl (bU d (p:Int) k)).take t.size=bl (bU d (p:Int) k):=List.take_of_length_le (by rw [h1];omega)
    rw [<- this];exact h2
   rw [hA,hbx]
   by_cases hm:48<=t.size-k*48
   .
    rw [show min 48 (t.size-k*48)=48 by omega]
    have hes:(t.extract (k*48) (k*48+48)).size=48:=by rw [ByteArray.size_extract];omega
    rw [hes,Nat.sub_self,List.replicate_zero,List.append_nil]
    have e1:(bl t).take (48*k)++((bl t).take (k*48+48)).drop (k*48)=(bl t).take (48*(k+1)):=by
     rw [show 48*(k+1)=48*k+48 by omega,show k*48=48*k by omega,<- List.take_drop,<- List.take_add]
    rw [e1,List.take_of_length_le (by rw [List.length_take];omega)]
   rw [show k*48+min 48 (t.size-k*48)=t.size by omega,show (bl t).take t.size=bl t from List.take_of_length_le ae]
   have e1:(bl t).take (48*k)++((bl t).drop (k*48)++List.replicate (48-(t.extract (k*48) t.size).size) 0)=bl t++List.replicate (48-(t.extract (k*48) t.size).size) 0:=by
    rw [<- List.append_assoc,show k*48=48*k by omega,List.take_append_drop]
   rw [e1,List.take_append_of_le_length ae,List.take_of_length_le ae,List.take_of_length_le ae]
  rw [List.take_append_of_le_length (by rw [h1];omega),h2,List.take_of_length_le ae,List.take_of_length_le ae]
theorem JU {d:bZ}{p:Nat}{t:ByteArray}(hd:d.Down=false)(hn:∀s∈d.Now,s.size=48)(hl:p+50<=d.Now.length)(ht:t.size<=2400)(h:uX d.Now p t):(bU d (p:Int) 50).extract 0 t.size=t:=by
 obtain ⟨h1,h2⟩:=Iz hd hn hl h 50 (Nat.le_refl _)
 refine gX ((oI _ _ _).trans ?_)
 rw [List.drop_zero,h2,List.take_of_length_le (by rw [gC];omega)]
end
section
open Go Go.RowKit
structure SN (n:Nat)(l:List ByteArray)(st:oW)(u t:Nat):Prop where
  len:l.length=n
  nb:166<=n/\n<=200
  eb:1<=st.Epoch/\st.Epoch<=1+(t:Int)
  fb:1<=st.First/\st.First<=1+100*(t:Int)
  sd:st.Side=0∨st.Side=1
  hd:l[(st.Epoch % 2).toNat]? = some (full (cK ⟨st.Epoch,st.Side,st.Size,st.First⟩))
  oh:∀s,l[((st.Epoch+1) % 2).toNat]? = some s->(cY s).Epoch<st.Epoch
  lg:st.L=⟨102,(n:Int)-102,st.First,(u:Int)⟩
  rows:ng st.Rows
  base:∃b W,ng b/\st.Size=((bB b).size:Int)/\uX l (2+(st.Side*50).toNat) (bB b)/\gK (l.drop 102) st.First W u/\st.Rows=jU b W
def E8 (st:oW):zB:=⟨st.Epoch,st.Side,st.Size,st.First⟩
section
variable {n u t:Nat} {l l':List ByteArray} {st:oW} {d e:bZ}
theorem SN.hed (h:SN n l st u t)(ht:t<=10000):M0 (E8 st):=by
 obtain ⟨b,W,hb,hz,_⟩:=h.base
 have h1:=h.eb;have h2:=h.fb;have h3:=h.sd;have h4:=hb.size
 grind [M0,E8]
theorem SN.up (h:SN n l st u t){t':Nat}(ht:t<=t'):SN n l st u t' :=
 ⟨h.len,h.nb,⟨h.eb.1,by have:=h.eb.2;omega⟩,⟨h.fb.1,by have:=h.fb.2;omega⟩,h.sd,h.hd,h.oh,h.lg,h.rows,h.base⟩
theorem SN.same (h:SN n l st u t)(hl:l'.length=l.length)(hs:∀j:Nat,j<2∨102<=j∨(2+(st.Side*50).toNat<=j/\j<52+(st.Side*50).toNat)->l'[j]? = l[j]?):SN n l' st u t:=by
 obtain ⟨b,W,hb,hz,hh,QK,hr⟩:=h.base
 have h3:=h.sd;have h4:=hb.size;have h1:=h.eb
 refine ⟨hl.trans h.len,h.nb,h.eb,h.fb,h.sd,by rw [hs _ (.inl ae)];exact h.hd,fun s hx=>h.oh s au,h.lg,h.rows,b,W,hb,hz,fun k hk=>?_,?_,hr⟩
 .rw [hs _ (.inr (.inr ⟨ae,ae⟩))];exact hh k hk
 have e:l'.drop 102=l.drop 102:=List.ext_getElem? fun j=>by grind
 grind
theorem SN.flip (h:SN n l st u t)(ht:t<=9999)(hh:uX l (2+((1-st.Side)*50).toNat) (bB st.Rows))(hl:l'=l.set ((st.Epoch+1) % 2).toNat (full (cK (vI st))))(L:Lg)(hL:L=⟨102,(n:Int)-102,st.First+((n:Int)-102),0⟩) :
 SN n l' ⟨st.Epoch+1,1-st.Side,((bB st.Rows).size:Int),st.First+((n:Int)-102),L,st.Rows⟩ 0 (t+1):=by
 obtain ⟨b,W,hb,hz,hh0,QK,hr⟩:=h.base
 have h1:=h.eb;have h2:=h.fb;have h3:=h.sd;have h4:=h.rows.size;have h5:=h.nb;have h6:=h.len;have hM:st.L.Many=(n:Int)-102:=by rw [h.lg]
 have hdl:(l.drop 102).length=n-102:=au
 have hF:st.L.First=st.First:=by rw [h.lg]
 subst hl
 refine ⟨au,h5,⟨au,au⟩,⟨au,au⟩,au,?_,fun s hs=>?_,ae,h.rows,st.Rows,[],h.rows,rfl,fun k hk=>?_,?_,rfl⟩
 .grind [vI,List.getElem?_set_self]
 .
  dsimp only at hs ⊢
  rw [List.getElem?_set_ne ae] at hs
  rw [show (st.Epoch+1+1) % 2=st.Epoch % 2 by omega,h.hd] at hs
  injection hs with hs
  have:=yY (h.hed ae)
  grind [E8]
 .
  dsimp only at hk ⊢
  rw [List.getElem?_set_ne ae]
  exact hh k hk
 dsimp only
 have e:(l.set ((st.Epoch+1) % 2).toNat (full (cK (vI st)))).drop 102=l.drop 102:=by grind [List.drop_set_of_lt]
 have hx:=QK.next ae ae
 grind
theorem y9 {a b:zB}(h:1<=a.Epoch)(hb:b.Epoch<a.Epoch):nZ (nZ ⟨0,0,0,0⟩ a) b=a/\(0<=b.Epoch->nZ (nZ ⟨0,0,0,0⟩ b) a=a):=by
 unfold nZ
 grind
theorem za {m:Nat}(hO:fx n m d)(hd:d.Down=false)(h:SN n d.Now st u t)(ht:t<=10000):jE d=0/\bg d=st:=by
 obtain ⟨b,W,hb,hz,hh,QK,hr⟩:=h.base
 have h1:=h.eb;have h2:=h.fb;have h3:=h.sd;have h4:=hb.size;have h5:=h.nb;have h6:=h.len
 have hH:=yY (h.hed ht)
 have hrd:∀ (j:Nat) s,d.Now[j]? = some s->(cC d (j:Int)).1=s:=fun j s hs=>by rw [yc hd hs]
 obtain ⟨x0,hx0⟩:∃x,d.Now[0]? = some x:=⟨_,List.getElem?_eq_getElem ae⟩
 obtain ⟨x1,hx1⟩:∃x,d.Now[1]? = some x:=⟨_,List.getElem?_eq_getElem ae⟩
 have r0:(cC d 0).1=x0:=hrd 0 x0 hx0
 have r1:(cC d 1).1=x1:=hrd 1 x1 hx1
 have hhead:headD d=E8 st:=by
  unfold headD;rw [r0,r1]
  rcases (by omega:st.Epoch % 2=0∨st.Epoch % 2=1) with he|he
  .
   have a:=h.hd;rw [he,show Int.toNat 0=0 from rfl,hx0] at a;replace a:=Option.some.inj a
   have o:=h.oh x1 au
   grind [cY,E8,y9]
  have a:=h.hd;rw [he,show Int.toNat 1=1 from rfl,hx1] at a;replace a:=Option.some.inj a
  have o:=h.oh x0 au
  grind [cY,E8,yJ,y9]
 have QL:rO d=bB b:=by
  unfold rO;rw [hhead];unfold E8;dsimp only
  rw [hz,Int.toNat_natCast,show (2:Int)+st.Side*50=((2+(st.Side*50).toNat:Nat):Int) by omega]
  exact JU hd hO.ns ae ae hh
 have hp:=JR hb
 have MK:qj d 102 ((d.Now.length:Int)-102).toNat=d.Now.drop 102:=by
  have:=oa (d:=d) (f:=102) (k:=d.Now.length-102) hd ae
  rw [show ((102:Nat):Int)=102 from rfl] at this
  rw [show ((d.Now.length:Int)-102).toNat=d.Now.length-102 by omega,this,List.take_of_length_le au]
 refine ⟨?_,?_⟩
 .
  unfold jE
  rw [if_neg ae,hhead,if_neg (by show ¬ st.Epoch=0;omega),QL,hp,if_pos rfl]
 unfold bg
 rw [hhead,QL,hp]
 unfold E8 eZ kZ;dsimp only
 rw [MK,QK.sc,h6]
 dsimp only
 rw [<- hr,<- h.lg]
structure Xd (d e:bZ)(p:Nat):Prop where
  kept:e.Kept=d.Kept
  wait:∃T,e.Wait=d.Wait++T /\ ∀x∈T,(p:Int)<=x.At/\x.At<(p:Int)+50
theorem IA (z:Int)(p q:Nat):∀ (w:List Turn) (i:Nat) (l:List ByteArray) (j:Nat),(∀x∈w,(p:Int)<=x.At/\x.At<(q:Int))->j<p∨q<=j->((w.zipIdx i).foldl (oN z) l)[j]? = l[j]?
 | [],i,l,j,_,_=>rfl
 | x::w,i,l,j,h,hj=>by
  rw [List.zipIdx_cons,List.foldl_cons,IA z p q w (i+1) _ j (fun y hy=>h y (List.mem_cons_of_mem _ hy)) hj]
  have hx:=h x (List.mem_cons_self ..)
  unfold oN;dsimp only
  split
  .rw [List.getElem?_set_ne ae]
  rfl
theorem vL {i:Int}{x:ByteArray}(hd:d.Down=false)(hf : -1<=d.Fuse)(h0:0<=i)(h1:i<(d.Now.length:Int))(h2:x.size<=48) :
 (∃g,-1<=g/\(d.Fuse = -1->g = -1)/\aP d i x=(⟨d.Kept,d.Now.set i.toNat (full x),d.Wait++[⟨i,full x⟩],g,false⟩,0))∨(¬ d.Fuse = -1/\aP d i x=(⟨d.Kept,d.Now,d.Wait,-1,true⟩,10)):=by
 grind [Ep,oX]
theorem vM (hd:d.Down=false)(hf : -1<=d.Fuse):(∃g,-1<=g/\(d.Fuse = -1->g = -1)/\aN d=(⟨d.Now,d.Now,[],g,false⟩,0))∨(¬ d.Fuse = -1/\aN d=(⟨d.Kept,d.Now,d.Wait,-1,true⟩,10)):=by
 have hl:=fun hq=>kV (d:=d) hd hq
 rcases sA hd hf with ⟨g,hg,h⟩ | h
 .grind
 grind
theorem Bc {f:Nat}{x:ByteArray}(hx:x.size<=2400):∀ (k i:Nat) (d:bZ),d.Down=false -> -1<=d.Fuse->f+50<=d.Now.length->x.size<48*(i+k) ->
 (∃g N T,-1<=g/\(d.Fuse = -1->g = -1)/\gY (f:Int) x k i d=(⟨d.Kept,N,d.Wait++T,g,false⟩,0)/\(∀y∈T,(f:Int)<=y.At/\y.At<(f:Int)+50)/\N.length=d.Now.length/\(∀j:Nat,j<f+i∨f+50<=j->N[j]? = d.Now[j]?) /\
  ∀j:Nat,i<=j->j*48<x.size->N[f+j]? = some (full (x.extract (j*48) (j*48+min 48 (x.size-j*48))))) ∨
 (∃e,¬ d.Fuse = -1/\gY (f:Int) x k i d=(e,10)/\Xd d e f)
 | 0,i,d,hd,hf,hl,hk=>by
  left
  refine ⟨d.Fuse,d.Now,[],hf,id,?_,(fun y hy=>by grind),rfl,fun _ _=>rfl,fun j h1 h2=>by omega⟩
  rw [gY,List.append_nil];obtain ⟨a,b,c,g,q⟩:=d;grind
 | k+1,i,d,hd,hf,hl,hk=>by
  rw [gY]
  by_cases hi:i*48<x.size
  .
   rw [if_pos hi]
   generalize hc:x.extract (i*48) (i*48+min 48 (x.size-i*48))=c
   have hcs:c.size<=48:=by grind [ByteArray.size_extract]
   rcases vL (d:=d) (i:=(f:Int)+(i:Int)) (x:=c) hd hf ae ae hcs with ⟨g,hg,hgf,hw⟩ | ⟨hgf,hw⟩
   .
    rw [hw,if_pos rfl]
    have ei:((f:Int)+(i:Int)).toNat=f+i:=ae
    rw [ei]
    dsimp only
    rcases Bc (f:=f) hx k (i+1) ⟨d.Kept,d.Now.set (f+i) (full c),d.Wait++[⟨(f:Int)+(i:Int),full c⟩],g,false⟩ rfl hg au ae with ⟨g',N,T,q1,q0,q2,q3,q4,q5,q6⟩ | ⟨e,q0,q1,q2,T,q3,q4⟩
    .grind [List.length_set,List.append_assoc,List.mem_singleton,List.getElem?_set_ne,List.getElem?_set_self]
    right
    dsimp only at q2 q3
    refine ⟨e,fun hq=>q0 (hgf hq),q1,q2,[⟨(f:Int)+(i:Int),full c⟩]++T,au,fun y hy=>?_⟩
    grind
   right
   rw [hw,if_neg uU]
   exact ⟨_,hgf,rfl,rfl,[],bC,fun y hy=>by grind⟩
  rw [if_neg hi]
  left
  refine ⟨d.Fuse,d.Now,[],hf,id,?_,(fun y hy=>by grind),rfl,fun _ _=>rfl,fun j h1 h2=>by omega⟩
  rw [List.append_nil];obtain ⟨a,b,c,g,q⟩:=d;grind
structure SV (n:Nat)(d:bZ)(st:oW)(u t:Nat):Prop where
  rest:Rest n d
  sn:SN n d.Now st u t
theorem oZ {m:Nat}(h:fx n m e)(z:Int):Rest n (gH e z):=⟨h.restart z,rfl,by show (-1:Int) <= -1;decide,rfl,rfl⟩
theorem SV.fell (h:SV n d st u t)(hO:fx n 3000 e)(hk:e.Kept=d.Now)(p:Nat)(hp:p=2+((1-st.Side)*50).toNat)(hw:∀x∈e.Wait,(p:Int)<=x.At/\x.At<(p:Int)+50)(z:Int):SV n (gH e z) st u t:=by
 refine ⟨oZ hO z,?_⟩
 have h3:=h.sn.sd
 refine h.sn.same (by show (nO z e.Wait e.Kept).length=_;rw [En,hk]) fun j hj=>?_
 show (nO z e.Wait e.Kept)[j]? = _
 rw [<- hk]
 exact IA z p (p+50) e.Wait 0 e.Kept j (fun x hx=>⟨(hw x hx).1,au⟩) ae
end
end
section
open Go Go.RowKit
section
variable {n u t:Nat} {st:oW} {d e:bZ}
theorem rest_of {m:Nat}(h:fx n m e)(hd:e.Down=false)(hk:e.Kept=e.Now)(hw:e.Wait=[]):Rest n e :=
 ⟨⟨h.kl,h.nl,h.ks,h.ns,au,h.Ja,h.f0,h.f1⟩,hd,h.f0,hk,hw⟩
theorem M1 (z:Int)(x:Turn)(l:List ByteArray):nO z [x] l=l∨nO z [x] l=l.set x.At.toNat x.Data:=by
 show oN z l (x,0)=l∨oN z l (x,0)=_
 unfold oN;grind
theorem M3 {m:Nat}(hO:fx n m e)(hd:e.Down=false){first:Int}(h:gK (e.Now.drop 102) first [] 0)(hn:166<=n):eZ e 102 ((e.Now.length:Int)-102).toNat first=0:=by
 have hl:=hO.nl
 have MK:qj e 102 ((e.Now.length:Int)-102).toNat=e.Now.drop 102:=by
  grind [oa,List.take_of_length_le,List.length_drop]
 unfold eZ;rw [MK,h.sc]
theorem E9 (h:SV n d st u t)(ht:t<=9999) :
 (∃e st',cj st d=(st',e,0)/\SV n e st' 0 (t+1)/\st'.Rows=st.Rows/\(d.Fuse = -1->e.Fuse = -1)) ∨
 (∃e,cj st d=(st,e,10)/\¬ d.Fuse = -1/\fx n 3000 e /\ ∀z,∃st' u',SV n (gH e z) st' u' (t+1)/\st'.Rows=st.Rows):=by
 have hR:=h.rest;have hS:=h.sn
 have h3:=hS.sd;have h4:=hS.rows.size;have h5:=hS.nb;have h6:=hS.len;have h1:=hS.eb;have h2:=hS.fb
 have hck:=MG (s:=st) hR.ok ae
 have hkn:=hR.kn;have hwt:=hR.wait
 have hM:st.L.Many=(n:Int)-102:=by rw [hS.lg]
 have ZU:st.L.First=st.First:=by rw [hS.lg]
 obtain ⟨f,hf⟩:∃f:Nat,f=2+((1-st.Side)*50).toNat:=⟨_,rfl⟩
 have hfi:(2:Int)+(1-st.Side)*50=(f:Int):=ae
 have hb:ck1 st d=gY (f:Int) (bB st.Rows) ((bB st.Rows).size+1) 0 d:=by grind [ck1]
 have old:∀e:bZ,fx n 3000 e->e.Kept=d.Now->(∀x∈e.Wait,(f:Int)<=x.At/\x.At<(f:Int)+50) -> ∀z,∃st' u',SV n (gH e z) st' u' (t+1)/\st'.Rows=st.Rows:=fun e hO hk hw z =>
  ⟨st,u,⟨(h.fell hO hk f hf hw z).rest,(h.fell hO hk f hf hw z).sn.up (Nat.le_succ t)⟩,rfl⟩
 rcases Bc (f:=f) (x:=bB st.Rows) ae ((bB st.Rows).size+1) 0 d hR.down hR.fuse ae ae with ⟨g,N,T,q1,q0,q2,q3,q4,q5,q6⟩ | ⟨e,q0,q1,q2,T,q3,q4⟩
 rotate_left
 .
  right
  have hc:=Vn (s:=st) (d:=d) (m:=e) (e:=10) (hb.trans q1) aD
  rw [hc] at hck
  exact ⟨e,hc,q0,hck.up ae,old e (hck.up ae) (q2.trans hkn) au⟩
 have hm:=hb.trans q2
 rw [hwt,List.nil_append] at hm
 rcases vM (d:=⟨d.Kept,N,T,g,false⟩) rfl q1 with ⟨g2,q7,q8,q9⟩ | ⟨q8,q9⟩
 rotate_left
 .
  right
  have hc:=Vo hm rfl au
  rw [q9] at hc
  rw [hc] at hck
  exact ⟨_,hc,fun hq=>q8 (q0 hq),hck.up ae,old _ (hck.up ae) hkn q3⟩
 have hN:SN n N st u t:=hS.same q4 fun j hj=>q5 j ae
 have hH:uX N f (bB st.Rows):=fun k hk=>q6 k (Nat.zero_le _) hk
 have hm2:fx n 2450 (⟨N,N,[],g2,false⟩:bZ):=by
  have:=(uR (f:=(f:Int)) (t:=bB st.Rows) ((bB st.Rows).size+1) 0 d 0 hR.ok).flush
  rw [q2,hwt,List.nil_append,q9] at this
  exact this.up ae
 have Zi:SV n (⟨N,N,[],g2,false⟩:bZ) st u t:=⟨rest_of hm2 rfl rfl rfl,hN⟩
 have VH:0<=(st.Epoch+1) % 2/\(st.Epoch+1) % 2<2:=⟨ae,ae⟩
 have hcs:(cK (vI st)).size<=48:=by grind [yX]
 rcases vL (d:=⟨N,N,[],g2,false⟩) (i:=(st.Epoch+1) % 2) (x:=cK (vI st)) rfl q7 VH.1 au hcs with ⟨g3,Zj,Wk,Ts⟩ | ⟨Wk,Ts⟩
 rotate_left
 .
  right
  have hc:=Vp hm rfl (by rw [q9]) au
  rw [q9] at hc;dsimp only at hc;rw [Ts] at hc
  rw [hc] at hck
  refine ⟨_,hc,fun hq=>Wk (q8 (q0 hq)),hck.up ae,fun z=>⟨st,u,⟨oZ hck z,?_⟩,rfl⟩⟩
  exact hN.up (Nat.le_succ t)
 have VI:∀L,L=(⟨102,(n:Int)-102,st.First+((n:Int)-102),0⟩:Lg)->SN n (N.set ((st.Epoch+1) % 2).toNat (full (cK (vI st)))) ⟨st.Epoch+1,1-st.Side,((bB st.Rows).size:Int),st.First+((n:Int)-102),L,st.Rows⟩ 0 (t+1):=fun L hL =>
  hN.flip ht (hf▸hH) rfl L hL
 dsimp only at Ts
 rw [List.nil_append] at Ts
 rcases vM (d:=⟨N,N.set ((st.Epoch+1) % 2).toNat (full (cK (vI st))),[⟨(st.Epoch+1) % 2,full (cK (vI st))⟩],g3,false⟩) rfl Zj with ⟨g4,ZV,Xe,Xf⟩ | ⟨Xe,Xf⟩
 .
  left
  have hc:=Vr hm rfl (by rw [q9]) au au
  rw [q9] at hc;dsimp only at hc;rw [Ts] at hc;dsimp only at hc;rw [Xf] at hc;dsimp only at hc
  rw [hc] at hck
  have H5:fx n 2500 (⟨N.set ((st.Epoch+1) % 2).toNat (full (cK (vI st))),N.set ((st.Epoch+1) % 2).toNat (full (cK (vI st))),[],g4,false⟩:bZ):=hck.up ae
  have hx:=VI _ rfl
  obtain ⟨b,W,hb1,hb2,hb3,hb4,hb5⟩:=hx.base
  have Xg:gK ((N.set ((st.Epoch+1) % 2).toNat (full (cK (vI st)))).drop 102) (st.First+((n:Int)-102)) [] 0:=by
   obtain ⟨b',W',_,_,_,hl',_⟩:=hN.base
   have hdl:(N.drop 102).length=n-102:=au
   have hx:=hl'.next ae ae
   grind [List.drop_set_of_lt]
  have hu:=M3 H5 rfl Xg h5.1
  have hlen:((N.set ((st.Epoch+1) % 2).toNat (full (cK (vI st)))).length:Int)=(n:Int):=au
  refine ⟨_,_,hc,⟨rest_of H5 rfl rfl rfl,?_⟩,rfl,fun hq=>Xe (Wk (q8 (q0 hq)))⟩
  grind [Vk]
 right
 have hc:=Vq hm rfl (by rw [q9]) au au
 rw [q9] at hc;dsimp only at hc;rw [Ts] at hc;dsimp only at hc;rw [Xf] at hc
 rw [hc] at hck
 refine ⟨_,hc,fun hq=>Xe (Wk (q8 (q0 hq))),hck.up ae,fun z=>?_⟩
 rcases M1 z (⟨(st.Epoch+1) % 2,full (cK (vI st))⟩:Turn) N with hz|hz
 .
  refine ⟨st,u,⟨oZ hck z,?_⟩,rfl⟩
  show SN n (nO z _ N) st u (t+1)
  rw [hz];exact hN.up (Nat.le_succ t)
 refine ⟨(⟨st.Epoch+1,1-st.Side,((bB st.Rows).size:Int),st.First+((n:Int)-102),⟨102,(n:Int)-102,st.First+((n:Int)-102),0⟩,st.Rows⟩:oW),0,⟨oZ hck z,?_⟩,rfl⟩
 show SN n (nO z _ N) _ 0 (t+1)
 grind
end
end
section
open Go Go.RowKit
section
variable {n u t:Nat} {st:oW} {d e:bZ} {l:List Change}
theorem SN.SQ {l0 l':List ByteArray}(h:SN n l0 st u t)(hl:l'.length=l0.length)(ht:l'.take 102=l0.take 102){b:List Change}{W':List (List Change)}{u':Nat}{rows:List Change}(hb:ng b)(hz:st.Size=((bB b).size:Int))(hh:uX l0 (2+(st.Side*50).toNat) (bB b))
 (QK:gK (l'.drop 102) st.First W' u') (hr:rows=jU b W') (hg:ng rows):SN n l' (tT st ⟨102,(n:Int)-102,st.First,(u':Int)⟩ rows) u' t:=by
 have h3:=h.sd;have h4:=hb.size;have h1:=h.eb
 have hs:∀j:Nat,j<102->l'[j]? = l0[j]?:=fun j hj=>by rw [<- List.getElem?_take_of_lt hj,ht,List.getElem?_take_of_lt hj]
 refine ⟨hl.trans h.len,h.nb,h.eb,h.fb,h.sd,?_,fun s hx=>?_,rfl,hg,b,W',hb,hz,fun k hk=>?_,QK,hr⟩
 .
  show l'[(st.Epoch % 2).toNat]? = _
  rw [hs _ ae];exact h.hd
 .
  refine h.oh s ?_
  rw [<- hs _ ae];exact hx
 show l'[2+(st.Side*50).toNat+k]? = _
 rw [hs _ ae];exact hh k hk
theorem GN {b:List Change}{W:List (List Change)}{c:List Change}:jU b (W++[c])=bI (jU b W) c:=by
 grind [jU]
theorem Fa (h:SV n d st u t)(ht:t<=10000)(h0:¬ 62<l.length)(h1:gI l=0)(h2:¬ 60<(bI st.Rows l).length)(hr:¬ st.L.Many-st.L.Next<(l.length:Int)+1) :
 (∃e st',cw st.L d l=(st'.L,e,0)/\SV n e st' (u+l.length+1) t/\st'=tT st st'.L (bI st.Rows l)/\(d.Fuse = -1->e.Fuse = -1)) ∨
 (∃e,cw st.L d l=(st.L,e,10)/\¬ d.Fuse = -1 /\ ∀z,∃st' u',SV n (gH e z) st' u' t/\(st'.Rows=st.Rows∨st'.Rows=bI st.Rows l)):=by
 obtain ⟨b,W,hb,hz,hh,QK,hrw⟩:=h.sn.base
 have h3:=h.sn.nb;have h4:=h.sn.fb;have h6:=h.sn.len
 have hL:st.L=⟨((102:Nat):Int),((n-102:Nat):Int),st.First,(u:Int)⟩:=by rw [h.sn.lg,show ((n-102:Nat):Int)=(n:Int)-102 by omega];rfl
 have ha:lf ⟨((102:Nat):Int),((n-102:Nat):Int),st.First,(u:Int)⟩ l=0:=Ii h0 au h1
 have hgood:=h.sn.rows.apply h1 ae
 have hnew:bI st.Rows l=jU b (W++[l]):=by grind [GN]
 rcases O2 (f:=102) (k:=n-102) h.rest ae ae ae QK ha with ⟨e,q1,q2,q3,q4,q5⟩ | ⟨e,q1,q2,q3⟩
 .
  left
  have hlen:e.Now.length=d.Now.length:=by rw [q2.ok.nl,h6]
  refine ⟨e,tT st ⟨102,(n:Int)-102,st.First,((u+l.length+1:Nat):Int)⟩ (bI st.Rows l),?_,⟨q2,h.sn.SQ hlen q3 hb hz hh q4 hnew hgood⟩,rfl,q5⟩
  rw [hL,q1]
  show (_,_,_)=((⟨102,(n:Int)-102,st.First,((u+l.length+1:Nat):Int)⟩:Lg),e,(0:Int))
  grind
 right
 refine ⟨e,au,q2,fun z=>?_⟩
 obtain ⟨a1,a2,W',u',a3,a4⟩:=q3 z
 have hrs:Rest n (gH e z):=⟨a1,rfl,by show (-1:Int) <= -1;decide,rfl,rfl⟩
 have hlen:(nO z e.Wait e.Kept).length=d.Now.length:=by have:=a1.nl;rw [h6];exact this
 rcases a4 with a4|a4
 .exact ⟨_,u',⟨hrs,h.sn.SQ (l':=nO z e.Wait e.Kept) hlen a2 hb hz hh a3 (rows:=st.Rows) au h.sn.rows⟩,.inl rfl⟩
 exact ⟨_,u',⟨hrs,h.sn.SQ (l':=nO z e.Wait e.Kept) hlen a2 hb hz hh a3 (rows:=bI st.Rows l) au hgood⟩,.inr rfl⟩
theorem SV.up (h:SV n d st u t){t':Nat}(ht:t<=t'):SV n d st u t':=⟨h.rest,h.sn.up ht⟩
theorem sC (h:SV n d st u t)(ht:t<=9999)(hf:mh st d.Now.length l=0) :
 (∃e st' u',bF st d l=(st',e,0)/\SV n e st' u' (t+1)/\st'.Rows=bI st.Rows l/\(d.Fuse = -1->e.Fuse = -1)/\(u':Int)=(if st.L.Many-st.L.Next<(l.length:Int)+1 then 0 else (u:Int))+(l.length:Int)+1) ∨
 (∃e st1,bF st d l=(st1,e,10)/\¬ d.Fuse = -1/\fx n 4000 e /\ ∀z,∃st' u',SV n (gH e z) st' u' (t+1)/\(st'.Rows=st.Rows∨st'.Rows=bI st.Rows l)):=by
 have hf2:=hf
 have h6:=h.sn.len;have h3:=h.sn.nb
 unfold mh at hf2
 split at hf2
 .omega
 rename_i h0
 split at hf2
 .omega
 rename_i h1
 have h1:gI l=0:=ae
 split at hf2
 .omega
 rename_i h2
 have Zk:¬ 60<(bI st.Rows l).length:=fun hh=>h2 (.inl hh)
 have ZW:¬ (d.Now.length:Int)-102<(l.length:Int)+1:=fun hh=>h2 (.inr hh)
 by_cases hr:st.L.Many-st.L.Next<(l.length:Int)+1
 .
  rw [if_pos hr]
  rcases E9 h ht with ⟨e1,s1,c1,c2,c3,c4⟩ | ⟨e1,c1,c2,c3,c4⟩
  .
   have hM:s1.L.Many=(n:Int)-102/\s1.L.Next=0:=by rw [c2.sn.lg];grind
   have hz:(cj st d).2.2=0:=by rw [c1]
   rcases Fa (l:=l) c2 ae h0 h1 au ae with ⟨e,s2,a1,a2,a3,a4⟩ | ⟨e,a1,a2,a3⟩
   .
    left
    have hc:=QC hf hr hz au
    rw [c1] at hc;dsimp only at hc;rw [a1] at hc;dsimp only at hc
    rw [c3] at a3
    refine ⟨e,s2,0+l.length+1,hc.trans au,a2,by rw [a3];rfl,fun hq=>a4 (c4 hq),ae⟩
   right
   have hc:=QD hf hr hz au
   rw [c1] at hc;dsimp only at hc;rw [a1] at hc;dsimp only at hc
   have hO:=wH (lg:=s1.L) (c:=l) c2.rest.ok
   rw [a1] at hO
   refine ⟨e,_,hc,fun hq=>a2 (c4 hq),hO.up ae,fun z=>?_⟩
   simp_all
  right
  have hc:=QB hf hr au
  rw [c1] at hc
  refine ⟨e1,st,hc,c2,c3.up ae,fun z=>?_⟩
  obtain ⟨st',u',b1,b2⟩:=c4 z
  grind
 rw [if_neg hr]
 rcases Fa (l:=l) h ae h0 h1 Zk hr with ⟨e,s2,a1,a2,a3,a4⟩ | ⟨e,a1,a2,a3⟩
 .
  left
  have hc:=QE hf hr (by rw [a1])
  rw [a1] at hc;dsimp only at hc
  exact ⟨e,s2,u+l.length+1,hc.trans au,a2.up ae,by rw [a3];rfl,a4,ae⟩
 right
 have hc:=QF hf hr au
 rw [a1] at hc;dsimp only at hc
 have hO:=wH (lg:=st.L) (c:=l) h.rest.ok
 rw [a1] at hO
 refine ⟨e,_,hc,a2,hO.up ae,fun z=>?_⟩
 obtain ⟨st',u',b1,b2⟩:=a3 z
 exact ⟨st',u',b1.up ae,b2⟩
theorem vN:∀ (k i:Nat) (d:bZ),d.Down=false->d.Fuse = -1->d.Now=List.replicate n (wG 48)->i+k<=n -> ∃T,jT k i (d,0)=(⟨d.Kept,d.Now,T,-1,false⟩,0)
 | 0,i,d,h1,h2,h3,h4=>⟨d.Wait,by rw [jT];obtain ⟨a,b,c,g,q⟩:=d;grind⟩
 | k+1,i,d,h1,h2,h3,h4=>by
  have hw:=iJ (d:=d) (i:=(i:Int)) (x:=⟨#[]⟩) h1 h2 ae au aD
  rw [Int.toNat_natCast,Et] at hw
  have hset:d.Now.set i (wG 48)=d.Now:=sH
  rw [hset] at hw
  rw [jT,if_pos rfl,hw]
  exact vN k (i+1) ⟨d.Kept,d.Now,d.Wait++[⟨(i:Int),wG 48⟩],-1,false⟩ rfl rfl h3 ae
theorem Bd {m:Nat}:∀ (k i:Nat) (s:bZ×Int) (m:Nat),fx n m s.1->fx n (m+k) (jT k i s).1
 | 0,i,s,m,h=>h
 | k+1,i,s,m,h=>by
  rw [jT];split
  .exact (Bd (m:=m) k (i+1) _ (m+1) (h.write _ _)).up ae
  exact h.up ae
def st0 (n:Nat):oW:=⟨1,0,0,1,⟨102,(n:Int)-102,1,0⟩,[]⟩
theorem O5 (h1:166<=n)(h2:n<=200):∃e,dM (dNew n)=(e,0)/\SV n e (st0 n) 0 0/\e.Fuse = -1:=by
 have hl:(dNew n).Now.length=n:=by simp [dNew]
 have w0:=iJ (d:=dNew n) (i:=0) (x:=⟨#[]⟩) rfl rfl aD ae aD
 have hN:(dNew n).Now=List.replicate n (wG 48):=rfl
 rw [show Int.toNat 0=0 from rfl,Et,hN,List.set_replicate_self] at w0
 obtain ⟨T,hT⟩:=vN (n:=n) (n-102) 102 ⟨(dNew n).Kept,List.replicate n (wG 48),(dNew n).Wait++[⟨0,wG 48⟩],-1,false⟩ rfl rfl rfl ae
 have f1:zG (dNew n)=(⟨(dNew n).Kept,List.replicate n (wG 48),T,-1,false⟩,0):=by
  grind [zG]
 have f2:=kV (d:=⟨(dNew n).Kept,List.replicate n (wG 48),T,-1,false⟩) rfl rfl
 have f3:=iJ (d:=⟨List.replicate n (wG 48),List.replicate n (wG 48),[],-1,false⟩) (i:=1) (x:=cK ⟨1,0,0,1⟩) rfl rfl aD au (by grind [yX])
 rw [show Int.toNat 1=1 from rfl] at f3
 dsimp only at f2 f3
 have f4:=kV (d:=⟨List.replicate n (wG 48),(List.replicate n (wG 48)).set 1 (full (cK ⟨1,0,0,1⟩)),[]++[⟨1,full (cK ⟨1,0,0,1⟩)⟩],-1,false⟩) rfl rfl
 dsimp only at f4
 have hok:fx n 2000 (⟨(List.replicate n (wG 48)).set 1 (full (cK ⟨1,0,0,1⟩)),(List.replicate n (wG 48)).set 1 (full (cK ⟨1,0,0,1⟩)),[],-1,false⟩:bZ):=by
  have k1:=Bd (m:=0) (n-102) 102 (aP (dNew n) 0 ⟨#[]⟩) 1 ((BZ n).write 0 ⟨#[]⟩)
  have k2:fx n (1+(n-102)) (zG (dNew n)).1:=au
  rw [f1] at k2
  have k3:=k2.flush;rw [f2] at k3
  have k4:=k3.write 1 (cK ⟨1,0,0,1⟩);dsimp only at k4;rw [f3] at k4
  have k5:=k4.flush;dsimp only at k5;rw [f4] at k5
  exact k5.up ae
 refine ⟨_,(SE ae f1 rfl eF au).trans au,⟨rest_of hok rfl rfl rfl,?_⟩,rfl⟩
 refine ⟨bC,⟨h1,h2⟩,⟨by show (1:Int)<=1;decide,by show (1:Int)<=1+((0:Nat):Int);decide⟩,⟨by show (1:Int)<=1;decide,by show (1:Int)<=1+100*((0:Nat):Int);decide⟩,.inl rfl,?_,fun s hs=>?_,rfl,ng.nil,[],[],ng.nil,rfl,fun k hk=>?_,gK.blank 1 fun s hs=>?_,rfl⟩
 .
  show ((List.replicate n (wG 48)).set 1 (full (cK ⟨1,0,0,1⟩)))[1]? = some (full (cK ⟨1,0,0,1⟩))
  grind
 .
  have hs':((List.replicate n (wG 48)).set 1 (full (cK ⟨1,0,0,1⟩)))[0]? = some s:=hs
  rw [List.getElem?_set_ne aD,List.getElem?_replicate] at hs'
  rw [if_pos ae] at hs'
  rw [<- Option.some.inj hs',JO];show (0:Int)<1;decide
 .
  have:(bB []).size=0:=rfl
  omega
 grind [List.drop_set_of_lt,Es]
end
end
section
open Go Go.RowKit
attribute [local irreducible] Run Rg Rq Qt Qa Stp Dg Do Dm bN
structure jv where
  Rows:List Change
  Used:Int
  Many:Int
def JV (m:jv)(l:List Change):Int:=if 62<l.length then 2 else if ¬ gI l=0 then gI l else if 60<(dw m.Rows l).length∨m.Many<(l.length:Int)+1 then 9 else 0
def lH (m:jv)(l:List Change):jv×Int :=
  if ¬ JV m l=0 then (m,JV m l) else (⟨dw m.Rows l,(if m.Many-m.Used<(l.length:Int)+1 then 0 else m.Used)+(l.length:Int)+1,m.Many⟩,0)
section
variable {m:jv} {l:List Change}
theorem Xh (h:62<l.length):lH m l=(m,2):=by
 have hf:JV m l=2:=if_pos h
 unfold lH;rw [hf,if_pos aD]
theorem Xi {e:Int}(h0:¬ 62<l.length)(he:gI l=e)(h:¬ e=0):lH m l=(m,e):=by
 have hf:JV m l=e:=by unfold JV;rw [if_neg h0,if_pos (by rw [he];exact h),he]
 unfold lH;rw [hf,if_pos h]
theorem VJ (h0:¬ 62<l.length)(h1:gI l=0)(h:60<(dw m.Rows l).length∨m.Many<(l.length:Int)+1):lH m l=(m,9):=by
 have hf:JV m l=9:=by unfold JV;rw [if_neg h0,if_neg (by rw [h1];decide),if_pos h]
 unfold lH;rw [hf,if_pos aD]
theorem VK {q:Int}(h0:¬ 62<l.length)(h1:gI l=0)(h:¬ (60<(dw m.Rows l).length∨m.Many<(l.length:Int)+1))(hq:q=(if m.Many-m.Used<(l.length:Int)+1 then 0 else m.Used)+(l.length:Int)+1):lH m l=(⟨dw m.Rows l,q,m.Many⟩,0):=by
 have hf:JV m l=0:=by unfold JV;rw [if_neg h0,if_neg (by rw [h1];decide),if_neg h]
 unfold lH;rw [hf,if_neg aD,hq]
end
theorem vO (JW:Nat)(lI:Value)(m:jv)(bA:Value)(l:List Change)(w:World)(own:List Nat)(H:HN w own [ah.box JW [lI,iV m.Used,iV m.Many] 41] [ah.ls lI m.Rows,ah.ls bA l])(hb:0<=m.Many/\m.Many<=1000/\0<=m.Used/\m.Used<=1000/\m.Rows.length<=1000/\l.length<=10000):RS Tryz.prog 26 #[pV JW,bA] H (lH m l) (fun s (_:Value)=>iV s.2) (fun s z=>[ah.box JW [z,iV s.1.Used,iV s.1.Many] 41]) (fun s z=>[ah.ls z s.1.Rows]):=by
 have VL:=H.aZ 0 rfl
 have zy:=H.aZ 1 rfl
 refine R.eN H ?_
 refine C (62<l.length) ?_ ?_ <;> intro h1
 .
  rw [show lH m l=_ from Xh af]
  exact R.x1 lI [0,1] [0]
 refine R.loop (fun i:Nat=>[(0,pV JW),(1,bA),(5,iV (i:Int))]) (fun i:Nat=>[ah.box JW [lI,iV m.Used,iV m.Many] 41,ah.held w own]) (fun i:Nat=>[ah.ls lI m.Rows,ah.ls bA l]) (fun i:Nat=>i<=l.length/\gI (l.drop i)=gI l) (fun i:Nat=>l.length-i) 0 O (by exact ⟨ae,rfl⟩) (sF O) (dE [0,1] [0,1] O) ?_
 rintro i ⟨hi,HL⟩
 refine U ?_
 refine C (i<l.length) ?_ ?_ <;> intro h2
 .
  obtain ⟨x1,hx1⟩:=gE l i
  have OJ:=i7 x1
  refine U ?_
  refine R.kc O O (fun w hw=>vZ x1 w)<|U ?_
  refine C (0<gu x1) ?_ ?_ <;> intro h3
  .
   rw [show lH m l=_ from Xi ae (Ci HL hx1 ae) ae]
   exact R.x1 lI [0,1] [0]
  refine R.back (i+1) O (by exact ⟨ae,LM HL hx1 ae⟩) ae (sF O) (ck [0,1] [0,1] O)
 have g0:gI l=0:=Gi HL ae;have ha2:=oK l m.Rows
 refine U ?_
 refine R.s O (s.aJ [0,1] [0,1] _ _ _ O O O UZ O O (fun w own hw H=>EO lI m.Rows bA l w own H ae) O) fun z1=>U ?_
 refine C (60<(dw m.Rows l).length) ?_ ?_ <;> intro h4
 .
  rw [show lH m l=_ from VJ ae g0 (by exact .inl af)]
  exact R.x1 lI [1,2] [0]
 refine C (m.Many<((l.length+1):Int)) ?_ ?_ <;> intro h5
 .
  rw [show lH m l=_ from VJ ae g0 (by exact .inr ae)]
  exact R.x1 lI [1,2] [0]
 refine C ((m.Many-m.Used)<((l.length+1):Int)) ?_ ?_ <;> intro h6
 .
  refine R.cG O mixed ao<|U ?_
  refine Q.q (q.jY (r:=m.Many-m.Used) O O) O<|U ?_
  refine R.mp (fun _ hw=>hw.aR 0 _ O O) ?_
  have hz:lH m l=((⟨dw m.Rows l,(((0+l.length)+1):Int),m.Many⟩:jv),0):=by (exact VK ae g0 (by intro hh;rcases hh with hh|hh <;> (exact absurd hh af)) (by split <;> omega))
  rw [hz]
  exact R.x1 z1 [0,1] [0]
 refine R.cG O mixed ao<|U ?_
 refine Q.q (q.jY (r:=m.Many-m.Used) O O) O<|U ?_
 refine R.mp (fun _ hw=>hw.aR 0 _ O O) ?_
 have hz:lH m l=((⟨dw m.Rows l,(m.Used+(l.length:Int))+1,m.Many⟩:jv),0):=by (exact VK ae g0 (by intro hh;rcases hh with hh|hh <;> (exact absurd hh af)) (by split <;> omega))
 rw [hz]
 exact R.x1 z1 [0,1] [0]
end
section
open Go Go.RowKit
section
variable {n u t:Nat} {sc:gZ} {lg:Lg} {d:bZ} {l:List Change} {m:jv}
theorem CH (s:oW):mkS s.c s.L=s:=rfl
theorem SV.ok (h:SV n d (mkS sc lg) u t):fx d.Now.length 60000 d/\d.Now.length<=200/\166<=d.Now.length:=by
 have h1:=h.sn.len;have h2:=h.sn.nb
 exact ⟨h1.symm▸h.rest.ok.up ae,ae,ae⟩
theorem SV.bnd (h:SV n d (mkS sc lg) u t)(ht:t<=10000):0<=sc.Epoch/\sc.Epoch<=1000000000/\0<=sc.Side/\sc.Side<=1/\0<=lg.Many/\lg.Many<=1000/\1<=lg.First/\lg.First<=1000000000/\0<=lg.From/\lg.From<=1000/\0<=lg.Next/\lg.Next<=1000:=by
 have e1:1<=sc.Epoch/\sc.Epoch<=1+(t:Int):=h.sn.eb
 have e2:1<=sc.First/\sc.First<=1+100*(t:Int):=h.sn.fb
 have e3:sc.Side=0∨sc.Side=1:=h.sn.sd
 have e4:lg=⟨102,(n:Int)-102,sc.First,(u:Int)⟩:=h.sn.lg
 have e5:=h.sn.nb;have e6:=h.sn.len
 obtain ⟨b,W,_,_,_,hl,_⟩:=h.sn.base
 have e7:=hl.ule
 rw [List.length_drop] at e7
 rw [e4];dsimp only
 refine ⟨?_,?_,?_,?_,?_,?_,?_,?_,?_,?_,?_,?_⟩ <;> omega
theorem SV.good (h:SV n d (mkS sc lg) u t):sc.Rows.length<=60/\(∀c∈sc.Rows,gu c=0)/\cX sc.Rows:=⟨h.sn.rows.len,h.sn.rows.ok,h.sn.rows.rise⟩
theorem SV.room (h:SV n d (mkS sc lg) u t):lg.Many=(n:Int)-102/\lg.Next=(u:Int)/\d.Down=false/\d.Now.length=n/\166<=n/\n<=200:=by
 have e4:lg=⟨102,(n:Int)-102,sc.First,(u:Int)⟩:=h.sn.lg
 exact ⟨by rw [e4],by rw [e4],h.rest.down,h.sn.len,h.sn.nb.1,h.sn.nb.2⟩
theorem SV.opened (h:SV n d (mkS sc lg) u t)(ht:t<=10000):jE d=0/\(bg d).c=sc/\(bg d).L=lg:=by
 obtain ⟨h1,h2⟩:=za h.rest.ok h.rest.down h.sn ht
 exact ⟨h1,by rw [h2];rfl,by rw [h2];rfl⟩
theorem SR (h:SV n d (mkS sc lg) u t)(h1:m.Rows=sc.Rows)(h3:m.Many=(n:Int)-102):JV m l=mh (mkS sc lg) d.Now.length l:=by
 have e:dw m.Rows l=bI sc.Rows l:=by rw [h1];exact (tE l h.good.2.2).symm
 unfold JV mh;rw [e,h3,h.sn.len];rfl
theorem Fb (h:SV n d (mkS sc lg) u t)(ht:t<=9999)(hf:d.Fuse = -1)(h1:m.Rows=sc.Rows)(h2:m.Used=(u:Int))(h3:m.Many=(n:Int)-102) :
 (bF (mkS sc lg) d l).2.2=(lH m l).2/\(lH m l).1.Many=(n:Int)-102/\(lH m l).1.Rows=(bF (mkS sc lg) d l).1.c.Rows/\(bF (mkS sc lg) d l).2.1.Fuse = -1 /\
 ∃u',SV n (bF (mkS sc lg) d l).2.1 (mkS (bF (mkS sc lg) d l).1.c (bF (mkS sc lg) d l).1.L) u' (t+1)/\(lH m l).1.Used=(u':Int):=by
 have hF:=SR (l:=l) h h1 h3
 have e:dw m.Rows l=bI sc.Rows l:=by rw [h1];exact (tE l h.good.2.2).symm
 have hr:=h.room
 by_cases hc:mh (mkS sc lg) d.Now.length l=0
 .
  have hm:lH m l=(⟨dw m.Rows l,(if m.Many-m.Used<(l.length:Int)+1 then 0 else m.Used)+(l.length:Int)+1,m.Many⟩,0):=by
   unfold lH;rw [hF,hc,if_neg aD]
  rcases sC h ht hc with ⟨e1,s1,u1,a1,a2,a3,a4,a5⟩ | ⟨e1,s1,a1,a2,_⟩
  .
   rw [a1,hm]
   dsimp only
   rw [CH]
   refine ⟨rfl,h3,?_,a4 hf,u1,a2,?_⟩
   .rw [e];exact a3.symm
   rw [a5,h3,h2]
   have:(mkS sc lg).L.Many-(mkS sc lg).L.Next=(n:Int)-102-(u:Int):=by
    show lg.Many-lg.Next=_
    rw [hr.1,hr.2.1]
   rw [this]
  exact absurd hf a2
 have hm:lH m l=(m,mh (mkS sc lg) d.Now.length l):=by
  unfold lH;rw [hF,if_pos hc]
 have hs:bF (mkS sc lg) d l=(mkS sc lg,d,mh (mkS sc lg) d.Now.length l):=by
  unfold bF;rw [if_pos hc]
 rw [hs,hm]
 exact ⟨rfl,h3,h1,hf,u,h.up (Nat.le_succ t),h2⟩
theorem O6 (h:SV n d (mkS sc lg) u t)(ht:t<=9999)(hf:d.Fuse = -1) :
 (cj (mkS sc lg) d).2.2=0/\(cj (mkS sc lg) d).1.c.Rows=sc.Rows/\(cj (mkS sc lg) d).2.1.Fuse = -1/\SV n (cj (mkS sc lg) d).2.1 (mkS (cj (mkS sc lg) d).1.c (cj (mkS sc lg) d).1.L) 0 (t+1):=by
 rcases E9 h ht with ⟨e1,s1,a1,a2,a3,a4⟩ | ⟨e1,a1,a2,_⟩
 .rw [a1];exact ⟨rfl,a3,a4 hf,a2⟩
 exact absurd hf a2
theorem M4 {k:Nat}(h1:166<=k)(h2:k<=200):(dM (dNew k)).2=0/\(dM (dNew k)).1.Fuse = -1/\jE (dM (dNew k)).1=0/\SV k (dM (dNew k)).1 (mkS (bg (dM (dNew k)).1).c (bg (dM (dNew k)).1).L) 0 0/\(bg (dM (dNew k)).1).c.Rows=[]:=by
 obtain ⟨e,q1,q2,q3⟩:=O5 h1 h2
 have q4:=za q2.rest.ok q2.rest.down q2.sn ae
 rw [q1];dsimp only
 rw [q4.2,CH]
 exact ⟨rfl,q3,q4.1,q2,rfl⟩
end
end
section
open Go Go.RowKit
section
variable {n u t:Nat} {st:oW} {sc:gZ} {lg:Lg} {d:bZ} {l:List Change}
theorem SV.reopen (h:SV n d st u t)(ht:t<=10000):jE d=0/\SV n d (mkS (bg d).c (bg d).L) u t/\(bg d).c.Rows=st.Rows:=by
 obtain ⟨h1,h2⟩:=za h.rest.ok h.rest.down h.sn ht
 rw [h2,CH];exact ⟨h1,h,rfl⟩
end
end
end Go.Proofs.YtnmpibjlnninjaaGreatDoor
