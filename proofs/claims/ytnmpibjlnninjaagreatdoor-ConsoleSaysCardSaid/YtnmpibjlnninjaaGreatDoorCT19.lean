import Derived.Test.YtnmpibjlnninjaaGreatDoorCT18
namespace Go.Proofs.YtnmpibjlnninjaaGreatDoor
set_option linter.unusedVariables false
set_option linter.unusedSimpArgs false
set_option maxRecDepth 100000
set_option maxHeartbeats 90000000
section
open Go Go.RowKit
theorem WO (s:ByteArray):jY s=(((bl s)[0]?).getD 0).toNat+(((bl s)[1]?).getD 0).toNat*256+(((bl s)[2]?).getD 0).toNat*65536+(((bl s)[3]?).getD 0).toNat*16777216:=by
 grind [jY,k9]
theorem wi {n:Int}(h0:0<=n)(h1:n<4294967296):((jY (cB n):Nat):Int)=n:=by
 grind [WO,vV,Av,List.getElem?_cons_zero,List.getElem?_cons_succ]
theorem Bo (h:BW):(c8 h).size=17:=by
 rfl
theorem head_piece (h:BW):(full (c8 h)).extract 1 5=cB h.Epoch/\(full (c8 h)).extract 5 9=cB h.Side/\(full (c8 h)).extract 9 13=cB h.Size/\(full (c8 h)).extract 13 17=cB h.First/\bC (full (c8 h)) 0=72:=by
 have e:bl (full (c8 h))=[72]++bl (cB h.Epoch)++bl (cB h.Side)++bl (cB h.Size)++bl (cB h.First)++List.replicate 31 0:=eH
 simp only [vV] at e
 refine ⟨?_,?_,?_,?_,?_⟩
 .rfl
 .rfl
 .rfl
 .rfl
 rfl
def PS (h:BW):Prop:=0<=h.Epoch/\h.Epoch<4294967296/\0<=h.Side/\h.Side<=1/\0<=h.Size/\h.Size<=2400/\1<=h.First/\h.First<4294967296
theorem Bp {h:BW}(k:PS h):dJ (full (c8 h))=h:=by
 obtain ⟨k1,k2,k3,k4,k5,k6,k7,k8⟩:=k
 obtain ⟨p1,p2,p3,p4,p5⟩:=head_piece h
 have e1:=wi k1 k2;have e2:=wi k3 (by omega:h.Side<4294967296);have e3:=wi k5 (by omega:h.Size<4294967296);have e4:=wi (by omega:0<=h.First) k8
 rw [oq (by grind [fU])]
 simp_all [KR]
theorem Mn:dJ (yS 48)=⟨0,0,0,0⟩:=dM (.inl (by grind [GD]))
structure pj (l:List Change):Prop where
  rise:dC l
  ok:∀c∈l,iT c=0
  live:∀c∈l,c.Gone=false
  len:l.length<=60
theorem Bq (c:Change)(l:List Change)(b:ByteArray):(c::l).foldl (fun b c=>b++jZ c) b=l.foldl (fun b c=>b++jZ c) (b++jZ c):=rfl
theorem xp:∀ (l:List Change) (b:ByteArray),l.foldl (fun b c=>b++jZ c) b=b++bM l
 | [],b=>fY (by unfold bM;simp)
 | c::l,b=>by
  have h1:=xp l (b++jZ c)
  have h2:=xp l (⟨#[]⟩++jZ c)
  rw [Bq,h1]
  unfold bM at h2 ⊢
  rw [Bq,h2]
  exact fY bA
theorem Mp (c:Change)(l:List Change):bM (c::l)=jZ c++bM l:=by
 have:=xp l (⟨#[]⟩++jZ c)
 assumption
theorem SE {c:Change}(h:iT c=0):bl (jZ c)=UInt8.ofNat c.Key.size::UInt8.ofNat c.Val.size::0::(bl c.Key++bl c.Val):=by
 obtain ⟨_,_,h3,h4⟩:=iM h
 unfold jZ;rw [kF,kF,show c.Val.size / 256=0 by omega];rfl
theorem SF {c:Change}(h:iT c=0)(hg:c.Gone=false)(t:ByteArray):sH (jZ c++t)=(jZ c).size/\A9 (jZ c++t)=c/\(jZ c++t).extract (jZ c).size (jZ c++t).size=t:=by
 obtain ⟨_,_,h3,h4⟩:=iM h
 have eb:bl (jZ c++t)=UInt8.ofNat c.Key.size::UInt8.ofNat c.Val.size::0::(bl c.Key++bl c.Val++bl t):=by grind [kF,SE]
 have b0:bC (jZ c++t) 0=c.Key.size:=by grind [k9,sj]
 have b1:bC (jZ c++t) 1=c.Val.size:=by grind [k9,sj]
 have b2:bC (jZ c++t) 2=0:=by rw [k9,eb];rfl
 have hn:sH (jZ c++t)=(jZ c).size:=by grind [sH,tv]
 have kl:=iZ c.Key;have vl:=iZ c.Val
 refine ⟨hn,?_,?_⟩
 .
  unfold A9
  rw [hn,b0,tv]
  have e1:(jZ c++t).extract 3 (3+c.Key.size)=c.Key:=fY ((qz _ _ _).trans (by
   grind))
  have e2:(jZ c++t).extract (3+c.Key.size) (3+c.Key.size+c.Val.size)=c.Val:=fY ((qz _ _ _).trans (by
   grind))
  rw [e1,e2]
  obtain ⟨a,b,g⟩:=c
  grind
 grind [fY,qz,iZ,List.take_length,kF,List.drop_left]
theorem Jv {l:List Change}{c:Change}(h:dC (l++[c]))(hg:c.Gone=false):bX l [c]=l++[c]:=by
 have h1:=(List.pairwise_append.1 h).2.2
 have e:=Ag (A:=l) (B:=[]) (c:=c) (fun y hy=>h1 y hy c (List.mem_singleton.2 rfl)) (fun y hy=>by grind)
 show BU l c=_
 simp_all [mid,List.append_nil,if_neg]
theorem Hr:∀ (l:List Change) (k:Nat) (acc:List Change),dC (acc++l)->(∀c∈l,iT c=0/\c.Gone=false)->(bM l).size<k->rF k (bM l) acc=(acc++l,true)
 | [],k,acc,_,_,hk=>by
  cases k with
  | zero=>omega
  | succ k=>rw [rF,if_pos (show bM []=⟨#[]⟩ from rfl),List.append_nil]
 | c::l,k,acc,hr,hc,hk=>by
  obtain ⟨h1,h2⟩:=hc c (List.mem_cons_self ..)
  have hz:=tv c
  rw [Mp] at hk ⊢
  obtain ⟨p1,p2,p3⟩:=SF h1 h2 (bM l)
  have hsz:(jZ c++bM l).size=(jZ c).size+(bM l).size:=ByteArray.size_append
  cases k with
  | zero=>omega
  | succ k =>
   have hne:¬ jZ c++bM l=⟨#[]⟩:=fun h=>by
    have:=congrArg ByteArray.size h
    rw [hsz,hz] at this
    have h0:(⟨#[]⟩:ByteArray).size=0:=rfl
    omega
   rw [rF,if_neg hne,if_neg ae,p2,if_pos h1,p1,p3]
   rw [show acc++c::l=(acc++[c])++l by simp] at hr ⊢
   rw [Jv (List.pairwise_append.1 hr).1 h2]
   exact Hr l k (acc++[c]) hr (fun x hx=>hc x (List.mem_cons_of_mem _ hx)) ae
theorem Mq {l:List Change}(h:pj l):fH (bM l)=(l,true):=by
 have:=Hr l ((bM l).size+1) [] h.rise (fun c hc=>⟨h.ok c hc,h.live c hc⟩) ae
 assumption
theorem pj.size {l:List Change}(h:pj l):(bM l).size<=2100:=by
 have:=yX h.ok;have:=h.len;omega
theorem Hs:∀ (c:List Change) {rows:List Change},dC rows->(∀x∈rows,iT x=0/\x.Gone=false)->(∀x∈c,iT x=0) -> ∀x∈bX rows c,iT x=0/\x.Gone=false
 | [],rows,_,h,_=>h
 | x::c,rows,hr,h,hc=>by
  show ∀y∈bX (BU rows x) c,_
  refine Hs c (vM hr x) (fun y hy=>?_) (fun y hy=>hc y (List.mem_cons_of_mem _ hy))
  rcases (Kr hr).1 hy with ⟨h1,_⟩ | ⟨h1,rfl⟩
  .exact h y h1
  exact ⟨hc y (List.mem_cons_self ..),h1⟩
theorem pj.apply {rows c:List Change}(h:pj rows)(hc:jh c=0)(hl:(bX rows c).length<=60):pj (bX rows c):=by
 have ha:=Hs c h.rise (fun x hx=>⟨h.ok x hx,h.live x hx⟩) (tj hc)
 exact ⟨uK c h.rise,fun x hx=>(ha x hx).1,fun x hx=>(ha x hx).2,hl⟩
theorem pj.nil:pj []:=⟨List.Pairwise.nil,fun c hc=>by grind,fun c hc=>by grind,bA⟩
def xq (l:List ByteArray)(p:Nat)(t:ByteArray):Prop:= ∀k:Nat,k*48<t.size->l[p+k]? = some (full (t.extract (k*48) (k*48+min 48 (t.size-k*48))))
theorem KU {d:cq}{p:Nat}{t:ByteArray}(hd:d.Down=false)(hn:∀s∈d.Now,s.size=48)(hl:p+50<=d.Now.length)(h:xq d.Now p t):∀k:Nat,k<=50->(bl (cu d (p:Int) k)).length=48*k/\(bl (cu d (p:Int) k)).take t.size=(bl t).take (48*k)
 | 0,_=>by
  unfold cu
  refine ⟨rfl,?_⟩
  rw [show bl ⟨#[]⟩=[] from rfl];simp
 | k+1,hk=>by
  obtain ⟨h1,h2⟩:=KU hd hn hl h k ae
  obtain ⟨x,hx⟩:∃x,d.Now[p+k]? = some x:=⟨_,List.getElem?_eq_getElem ae⟩
  have hr:cW d ((p:Int)+(k:Int))=(x,0):=sr hd ae (by rw [show ((p:Int)+(k:Int)).toNat=p+k by omega];exact hx)
  have hxs:=hn x (List.mem_of_getElem? hx)
  have hxl:(bl x).length=48:=by rw [iZ];exact hxs
  have htl:=iZ t
  unfold cu
  rw [hr,kF]
  refine ⟨by rw [List.length_append,h1,hxl];omega,?_⟩
  by_cases hkt:k*48<t.size
  .
   have hxe:=h k hkt
   rw [hx] at hxe
   injection hxe with hxe
   have hbx:bl x=((bl t).take (k*48+min 48 (t.size-k*48))).drop (k*48)++List.replicate (48-(t.extract (k*48) (k*48+min 48 (t.size-k*48))).size) 0:=by
    rw [hxe,Kx,qz]
   have hA:bl (cu d (p:Int) k)=(bl t).take (48*k):=by
    have:(bl (cu d (p:Int) k)).take t.size=bl (cu d (p:Int) k):=List.take_of_length_le (by rw [h1];omega)
    rw [<- this];exact h2
   rw [hA,hbx]
   by_cases hm:48<=t.size-k*48
   .
    rw [show min 48 (t.size-k*48)=48 by omega]
    have hes:(t.extract (k*48) (k*48+48)).size=48:=by rw [ByteArray.size_extract];omega
    rw [hes,Nat.sub_self,List.replicate_zero,List.append_nil]
    have e1:(bl t).take (48*k)++((bl t).take (k*48+48)).drop (k*48)=(bl t).take (48*(k+1)):=by
     rw [show 48*(k+1)=48*k+48 by omega,show k*48=48*k by omega,<- List.take_drop,<- List.take_add]
    rw [e1,List.take_of_length_le (by rw [List.length_take];omega)]
   rw [show k*48+min 48 (t.size-k*48)=t.size by omega,show (bl t).take t.size=bl t from List.take_of_length_le ae]
   have e1:(bl t).take (48*k)++((bl t).drop (k*48)++List.replicate (48-(t.extract (k*48) t.size).size) 0)=bl t++List.replicate (48-(t.extract (k*48) t.size).size) 0:=by
    rw [<- List.append_assoc,show k*48=48*k by omega,List.take_append_drop]
   rw [e1,List.take_append_of_le_length ae,List.take_of_length_le ae,List.take_of_length_le ae]
  rw [List.take_append_of_le_length (by rw [h1];omega),h2,List.take_of_length_le ae,List.take_of_length_le ae]
theorem Mr {d:cq}{p:Nat}{t:ByteArray}(hd:d.Down=false)(hn:∀s∈d.Now,s.size=48)(hl:p+50<=d.Now.length)(ht:t.size<=2400)(h:xq d.Now p t):(cu d (p:Int) 50).extract 0 t.size=t:=by
 obtain ⟨h1,h2⟩:=KU hd hn hl h 50 (Nat.le_refl _)
 refine fY ((qz _ _ _).trans ?_)
 rw [List.drop_zero,h2,List.take_of_length_le (by rw [iZ];omega)]
end
section
open Go Go.RowKit
structure SN (n:Nat)(l:List ByteArray)(st:qN)(u t:Nat):Prop where
  len:l.length=n
  nb:166<=n/\n<=200
  eb:1<=st.Epoch/\st.Epoch<=1+(t:Int)
  fb:1<=st.First/\st.First<=1+100*(t:Int)
  sd:st.Side=0∨st.Side=1
  hd:l[(st.Epoch % 2).toNat]? = some (full (c8 ⟨st.Epoch,st.Side,st.Size,st.First⟩))
  oh:∀s,l[((st.Epoch+1) % 2).toNat]? = some s->(dJ s).Epoch<st.Epoch
  lg:st.L=⟨102,(n:Int)-102,st.First,(u:Int)⟩
  rows:pj st.Rows
  base:∃b W,pj b/\st.Size=((bM b).size:Int)/\xq l (2+(st.Side*50).toNat) (bM b)/\jk (l.drop 102) st.First W u/\st.Rows=lC b W
def Ht (st:qN):BW:=⟨st.Epoch,st.Side,st.Size,st.First⟩
section
variable {n u t:Nat} {l l':List ByteArray} {st:qN} {d e:cq}
theorem SN.hed (h:SN n l st u t)(ht:t<=10000):PS (Ht st):=by
 obtain ⟨b,W,hb,hz,_⟩:=h.base
 have h1:=h.eb;have h2:=h.fb;have h3:=h.sd;have h4:=hb.size
 grind [PS,Ht]
theorem SN.up (h:SN n l st u t){t':Nat}(ht:t<=t'):SN n l st u t' :=
 ⟨h.len,h.nb,⟨h.eb.1,by have:=h.eb.2;omega⟩,⟨h.fb.1,by have:=h.fb.2;omega⟩,h.sd,h.hd,h.oh,h.lg,h.rows,h.base⟩
theorem SN.same (h:SN n l st u t)(hl:l'.length=l.length)(hs:∀j:Nat,j<2∨102<=j∨(2+(st.Side*50).toNat<=j/\j<52+(st.Side*50).toNat)->l'[j]? = l[j]?):SN n l' st u t:=by
 obtain ⟨b,W,hb,hz,hh,Uy,hr⟩:=h.base
 have h3:=h.sd;have h4:=hb.size;have h1:=h.eb
 refine ⟨hl.trans h.len,h.nb,h.eb,h.fb,h.sd,by rw [hs _ (.inl ae)];exact h.hd,fun s hx=>h.oh s az,h.lg,h.rows,b,W,hb,hz,fun k hk=>?_,?_,hr⟩
 .rw [hs _ (.inr (.inr ⟨ae,ae⟩))];exact hh k hk
 have e:l'.drop 102=l.drop 102:=List.ext_getElem? fun j=>by grind
 grind
theorem SN.flip (h:SN n l st u t)(ht:t<=9999)(hh:xq l (2+((1-st.Side)*50).toNat) (bM st.Rows))(hl:l'=l.set ((st.Epoch+1) % 2).toNat (full (c8 (ya st))))(L:Lg)(hL:L=⟨102,(n:Int)-102,st.First+((n:Int)-102),0⟩) :
 SN n l' ⟨st.Epoch+1,1-st.Side,((bM st.Rows).size:Int),st.First+((n:Int)-102),L,st.Rows⟩ 0 (t+1):=by
 obtain ⟨b,W,hb,hz,hh0,Uy,hr⟩:=h.base
 have h1:=h.eb;have h2:=h.fb;have h3:=h.sd;have h4:=h.rows.size;have h5:=h.nb;have h6:=h.len;have hM:st.L.Many=(n:Int)-102:=by rw [h.lg]
 have hdl:(l.drop 102).length=n-102:=az
 have hF:st.L.First=st.First:=by rw [h.lg]
 subst hl
 refine ⟨az,h5,⟨az,az⟩,⟨az,az⟩,az,?_,fun s hs=>?_,ae,h.rows,st.Rows,[],h.rows,rfl,fun k hk=>?_,?_,rfl⟩
 .grind [ya,List.getElem?_set_self]
 .
  dsimp only at hs ⊢
  rw [List.getElem?_set_ne ae] at hs
  rw [show (st.Epoch+1+1) % 2=st.Epoch % 2 by omega,h.hd] at hs
  injection hs with hs
  have:=Bp (h.hed ae)
  grind [Ht]
 .
  dsimp only at hk ⊢
  rw [List.getElem?_set_ne ae]
  exact hh k hk
 dsimp only
 have e:(l.set ((st.Epoch+1) % 2).toNat (full (c8 (ya st)))).drop 102=l.drop 102:=by grind [List.drop_set_of_lt]
 have hx:=Uy.next ae ae
 grind
theorem Bs {a b:BW}(h:1<=a.Epoch)(hb:b.Epoch<a.Epoch):pY (pY ⟨0,0,0,0⟩ a) b=a/\(0<=b.Epoch->pY (pY ⟨0,0,0,0⟩ b) a=a):=by
 unfold pY
 grind
theorem Bt {m:Nat}(hO:gw n m d)(hd:d.Down=false)(h:SN n d.Now st u t)(ht:t<=10000):jE d=0/\bf d=st:=by
 obtain ⟨b,W,hb,hz,hh,Uy,hr⟩:=h.base
 have h1:=h.eb;have h2:=h.fb;have h3:=h.sd;have h4:=hb.size;have h5:=h.nb;have h6:=h.len
 have hH:=Bp (h.hed ht)
 have hrd:∀ (j:Nat) s,d.Now[j]? = some s->(cW d (j:Int)).1=s:=fun j s hs=>by rw [Au hd hs]
 obtain ⟨x0,hx0⟩:∃x,d.Now[0]? = some x:=⟨_,List.getElem?_eq_getElem ae⟩
 obtain ⟨x1,hx1⟩:∃x,d.Now[1]? = some x:=⟨_,List.getElem?_eq_getElem ae⟩
 have r0:(cW d 0).1=x0:=hrd 0 x0 hx0
 have r1:(cW d 1).1=x1:=hrd 1 x1 hx1
 have hhead:headD d=Ht st:=by
  unfold headD;rw [r0,r1]
  rcases (by omega:st.Epoch % 2=0∨st.Epoch % 2=1) with he|he
  .
   have a:=h.hd;rw [he,show Int.toNat 0=0 from rfl,hx0] at a;replace a:=Option.some.inj a
   have o:=h.oh x1 az
   grind [dJ,Ht,Bs]
  have a:=h.hd;rw [he,show Int.toNat 1=1 from rfl,hx1] at a;replace a:=Option.some.inj a
  have o:=h.oh x0 az
  grind [dJ,Ht,A8,Bs]
 have UA:ug d=bM b:=by
  unfold ug;rw [hhead];unfold Ht;dsimp only
  rw [hz,Int.toNat_natCast,show (2:Int)+st.Side*50=((2+(st.Side*50).toNat:Nat):Int) by omega]
  exact Mr hd hO.ns ae ae hh
 have hp:=Mq hb
 have Pw:sA d 102 ((d.Now.length:Int)-102).toNat=d.Now.drop 102:=by
  have:=pZ (d:=d) (f:=102) (k:=d.Now.length-102) hd ae
  rw [show ((102:Nat):Int)=102 from rfl] at this
  rw [show ((d.Now.length:Int)-102).toNat=d.Now.length-102 by omega,this,List.take_of_length_le az]
 refine ⟨?_,?_⟩
 .
  unfold jE
  rw [if_neg ae,hhead,if_neg (by show ¬ st.Epoch=0;omega),UA,hp,if_pos rfl]
 unfold bf
 rw [hhead,UA,hp]
 unfold Ht fT mI;dsimp only
 rw [Pw,Uy.sc,h6]
 dsimp only
 rw [<- hr,<- h.lg]
structure aa5 (d e:cq)(p:Nat):Prop where
  kept:e.Kept=d.Kept
  wait:∃T,e.Wait=d.Wait++T /\ ∀x∈T,(p:Int)<=x.At/\x.At<(p:Int)+50
theorem KV (z:Int)(p q:Nat):∀ (w:List Turn) (i:Nat) (l:List ByteArray) (j:Nat),(∀x∈w,(p:Int)<=x.At/\x.At<(q:Int))->j<p∨q<=j->((w.zipIdx i).foldl (pP z) l)[j]? = l[j]?
 | [],i,l,j,_,_=>rfl
 | x::w,i,l,j,h,hj=>by
  rw [List.zipIdx_cons,List.foldl_cons,KV z p q w (i+1) _ j (fun y hy=>h y (List.mem_cons_of_mem _ hy)) hj]
  have hx:=h x (List.mem_cons_self ..)
  unfold pP;dsimp only
  split
  .rw [List.getElem?_set_ne ae]
  rfl
theorem yc {i:Int}{x:ByteArray}(hd:d.Down=false)(hf : -1<=d.Fuse)(h0:0<=i)(h1:i<(d.Now.length:Int))(h2:x.size<=48) :
 (∃g,-1<=g/\(d.Fuse = -1->g = -1)/\aU d i x=(⟨d.Kept,d.Now.set i.toNat (full x),d.Wait++[⟨i,full x⟩],g,false⟩,0))∨(¬ d.Fuse = -1/\aU d i x=(⟨d.Kept,d.Now,d.Wait,-1,true⟩,10)):=by
 grind [GA,qO]
theorem yd (hd:d.Down=false)(hf : -1<=d.Fuse):(∃g,-1<=g/\(d.Fuse = -1->g = -1)/\aQ d=(⟨d.Now,d.Now,[],g,false⟩,0))∨(¬ d.Fuse = -1/\aQ d=(⟨d.Kept,d.Now,d.Wait,-1,true⟩,10)):=by
 have hl:=fun hq=>mG (d:=d) hd hq
 rcases uQ hd hf with ⟨g,hg,h⟩ | h
 .grind
 grind
theorem Dx {f:Nat}{x:ByteArray}(hx:x.size<=2400):∀ (k i:Nat) (d:cq),d.Down=false -> -1<=d.Fuse->f+50<=d.Now.length->x.size<48*(i+k) ->
 (∃g N T,-1<=g/\(d.Fuse = -1->g = -1)/\jz (f:Int) x k i d=(⟨d.Kept,N,d.Wait++T,g,false⟩,0)/\(∀y∈T,(f:Int)<=y.At/\y.At<(f:Int)+50)/\N.length=d.Now.length/\(∀j:Nat,j<f+i∨f+50<=j->N[j]? = d.Now[j]?) /\
  ∀j:Nat,i<=j->j*48<x.size->N[f+j]? = some (full (x.extract (j*48) (j*48+min 48 (x.size-j*48))))) ∨
 (∃e,¬ d.Fuse = -1/\jz (f:Int) x k i d=(e,10)/\aa5 d e f)
 | 0,i,d,hd,hf,hl,hk=>by
  left
  refine ⟨d.Fuse,d.Now,[],hf,id,?_,(fun y hy=>by grind),rfl,fun _ _=>rfl,fun j h1 h2=>by omega⟩
  rw [jz,List.append_nil];obtain ⟨a,b,c,g,q⟩:=d;grind
 | k+1,i,d,hd,hf,hl,hk=>by
  rw [jz]
  by_cases hi:i*48<x.size
  .
   rw [if_pos hi]
   generalize hc:x.extract (i*48) (i*48+min 48 (x.size-i*48))=c
   have hcs:c.size<=48:=by grind [ByteArray.size_extract]
   rcases yc (d:=d) (i:=(f:Int)+(i:Int)) (x:=c) hd hf ae ae hcs with ⟨g,hg,hgf,hw⟩ | ⟨hgf,hw⟩
   .
    rw [hw,if_pos rfl]
    have ei:((f:Int)+(i:Int)).toNat=f+i:=ae
    rw [ei]
    dsimp only
    rcases Dx (f:=f) hx k (i+1) ⟨d.Kept,d.Now.set (f+i) (full c),d.Wait++[⟨(f:Int)+(i:Int),full c⟩],g,false⟩ rfl hg az ae with ⟨g',N,T,q1,q0,q2,q3,q4,q5,q6⟩ | ⟨e,q0,q1,q2,T,q3,q4⟩
    .grind [List.length_set,List.append_assoc,List.mem_singleton,List.getElem?_set_ne,List.getElem?_set_self]
    right
    dsimp only at q2 q3
    refine ⟨e,fun hq=>q0 (hgf hq),q1,q2,[⟨(f:Int)+(i:Int),full c⟩]++T,az,fun y hy=>?_⟩
    grind
   right
   rw [hw,if_neg xn]
   exact ⟨_,hgf,rfl,rfl,[],bA,fun y hy=>by grind⟩
  rw [if_neg hi]
  left
  refine ⟨d.Fuse,d.Now,[],hf,id,?_,(fun y hy=>by grind),rfl,fun _ _=>rfl,fun j h1 h2=>by omega⟩
  rw [List.append_nil];obtain ⟨a,b,c,g,q⟩:=d;grind
structure SV (n:Nat)(d:cq)(st:qN)(u t:Nat):Prop where
  rest:Rest n d
  sn:SN n d.Now st u t
theorem ow {m:Nat}(h:gw n m e)(z:Int):Rest n (eo e z):=⟨h.restart z,rfl,by show (-1:Int) <= -1;decide,rfl,rfl⟩
theorem SV.fell (h:SV n d st u t)(hO:gw n 3000 e)(hk:e.Kept=d.Now)(p:Nat)(hp:p=2+((1-st.Side)*50).toNat)(hw:∀x∈e.Wait,(p:Int)<=x.At/\x.At<(p:Int)+50)(z:Int):SV n (eo e z) st u t:=by
 refine ⟨ow hO z,?_⟩
 have h3:=h.sn.sd
 refine h.sn.same (by show (mF z e.Wait e.Kept).length=_;rw [Ar,hk]) fun j hj=>?_
 show (mF z e.Wait e.Kept)[j]? = _
 rw [<- hk]
 exact KV z p (p+50) e.Wait 0 e.Kept j (fun x hx=>⟨(hw x hx).1,az⟩) ae
end
end
section
open Go Go.RowKit
section
variable {n u t:Nat} {st:qN} {d e:cq}
theorem rest_of {m:Nat}(h:gw n m e)(hd:e.Down=false)(hk:e.Kept=e.Now)(hw:e.Wait=[]):Rest n e :=
 ⟨⟨h.kl,h.nl,h.ks,h.ns,az,h.Ka,h.f0,h.f1⟩,hd,h.f0,hk,hw⟩
theorem PT (z:Int)(l:List ByteArray):mF z [] l=l:=rfl
theorem PU (z:Int)(x:Turn)(l:List ByteArray):mF z [x] l=l∨mF z [x] l=l.set x.At.toNat x.Data:=by
 show pP z l (x,0)=l∨pP z l (x,0)=_
 unfold pP;grind
theorem PW {m:Nat}(hO:gw n m e)(hd:e.Down=false){first:Int}(h:jk (e.Now.drop 102) first [] 0)(hn:166<=n):fT e 102 ((e.Now.length:Int)-102).toNat first=0:=by
 have hl:=hO.nl
 have Pw:sA e 102 ((e.Now.length:Int)-102).toNat=e.Now.drop 102:=by
  grind [pZ,List.take_of_length_le,List.length_drop]
 unfold fT;rw [Pw,h.sc]
theorem Hu (h:SV n d st u t)(ht:t<=9999) :
 (∃e st',cC st d=(st',e,0)/\SV n e st' 0 (t+1)/\st'.Rows=st.Rows/\(d.Fuse = -1->e.Fuse = -1)) ∨
 (∃e,cC st d=(st,e,10)/\¬ d.Fuse = -1/\gw n 3000 e /\ ∀z,∃st' u',SV n (eo e z) st' u' (t+1)/\st'.Rows=st.Rows):=by
 have hR:=h.rest;have hS:=h.sn
 have h3:=hS.sd;have h4:=hS.rows.size;have h5:=hS.nb;have h6:=hS.len;have h1:=hS.eb;have h2:=hS.fb
 have hck:=Ps (s:=st) hR.ok ae
 have hkn:=hR.kn;have hwt:=hR.wait
 have hM:st.L.Many=(n:Int)-102:=by rw [hS.lg]
 have hFi:st.L.First=st.First:=by rw [hS.lg]
 obtain ⟨f,hf⟩:∃f:Nat,f=2+((1-st.Side)*50).toNat:=⟨_,rfl⟩
 have hfi:(2:Int)+(1-st.Side)*50=(f:Int):=ae
 have hb:ck1 st d=jz (f:Int) (bM st.Rows) ((bM st.Rows).size+1) 0 d:=by grind [ck1]
 have old:∀e:cq,gw n 3000 e->e.Kept=d.Now->(∀x∈e.Wait,(f:Int)<=x.At/\x.At<(f:Int)+50) -> ∀z,∃st' u',SV n (eo e z) st' u' (t+1)/\st'.Rows=st.Rows:=fun e hO hk hw z =>
  ⟨st,u,⟨(h.fell hO hk f hf hw z).rest,(h.fell hO hk f hf hw z).sn.up (Nat.le_succ t)⟩,rfl⟩
 rcases Dx (f:=f) (x:=bM st.Rows) ae ((bM st.Rows).size+1) 0 d hR.down hR.fuse ae ae with ⟨g,N,T,q1,q0,q2,q3,q4,q5,q6⟩ | ⟨e,q0,q1,q2,T,q3,q4⟩
 rotate_left
 .
  right
  have hc:=Zm (s:=st) (d:=d) (m:=e) (e:=10) (hb.trans q1) aC
  rw [hc] at hck
  exact ⟨e,hc,q0,hck.up ae,old e (hck.up ae) (q2.trans hkn) az⟩
 have hm:=hb.trans q2
 rw [hwt,List.nil_append] at hm
 rcases yd (d:=⟨d.Kept,N,T,g,false⟩) rfl q1 with ⟨g2,q7,q8,q9⟩ | ⟨q8,q9⟩
 rotate_left
 .
  right
  have hc:=Zn hm rfl az
  rw [q9] at hc
  rw [hc] at hck
  exact ⟨_,hc,fun hq=>q8 (q0 hq),hck.up ae,old _ (hck.up ae) hkn q3⟩
 have hN:SN n N st u t:=hS.same q4 fun j hj=>q5 j ae
 have hH:xq N f (bM st.Rows):=fun k hk=>q6 k (Nat.zero_le _) hk
 have hm2:gw n 2450 (⟨N,N,[],g2,false⟩:cq):=by
  have:=(xj (f:=(f:Int)) (t:=bM st.Rows) ((bM st.Rows).size+1) 0 d 0 hR.ok).flush
  rw [q2,hwt,List.nil_append,q9] at this
  exact this.up ae
 have ab1:SV n (⟨N,N,[],g2,false⟩:cq) st u t:=⟨rest_of hm2 rfl rfl rfl,hN⟩
 have ZG:0<=(st.Epoch+1) % 2/\(st.Epoch+1) % 2<2:=⟨ae,ae⟩
 have hcs:(c8 (ya st)).size<=48:=by grind [Bo]
 rcases yc (d:=⟨N,N,[],g2,false⟩) (i:=(st.Epoch+1) % 2) (x:=c8 (ya st)) rfl q7 ZG.1 az hcs with ⟨g3,q10,q11,XL⟩ | ⟨q11,XL⟩
 rotate_left
 .
  right
  have hc:=Zo hm rfl (by rw [q9]) az
  rw [q9] at hc;dsimp only at hc;rw [XL] at hc
  rw [hc] at hck
  refine ⟨_,hc,fun hq=>q11 (q8 (q0 hq)),hck.up ae,fun z=>⟨st,u,⟨ow hck z,?_⟩,rfl⟩⟩
  exact hN.up (Nat.le_succ t)
 have ZH:∀L,L=(⟨102,(n:Int)-102,st.First+((n:Int)-102),0⟩:Lg)->SN n (N.set ((st.Epoch+1) % 2).toNat (full (c8 (ya st)))) ⟨st.Epoch+1,1-st.Side,((bM st.Rows).size:Int),st.First+((n:Int)-102),L,st.Rows⟩ 0 (t+1):=fun L hL =>
  hN.flip ht (hf▸hH) rfl L hL
 dsimp only at XL
 rw [List.nil_append] at XL
 rcases yd (d:=⟨N,N.set ((st.Epoch+1) % 2).toNat (full (c8 (ya st))),[⟨(st.Epoch+1) % 2,full (c8 (ya st))⟩],g3,false⟩) rfl q10 with ⟨g4,q13,q14,q15⟩ | ⟨q14,q15⟩
 .
  left
  have hc:=Zq hm rfl (by rw [q9]) az az
  rw [q9] at hc;dsimp only at hc;rw [XL] at hc;dsimp only at hc;rw [q15] at hc;dsimp only at hc
  rw [hc] at hck
  have Kt:gw n 2500 (⟨N.set ((st.Epoch+1) % 2).toNat (full (c8 (ya st))),N.set ((st.Epoch+1) % 2).toNat (full (c8 (ya st))),[],g4,false⟩:cq):=hck.up ae
  have hx:=ZH _ rfl
  obtain ⟨b,W,hb1,hb2,hb3,hb4,hb5⟩:=hx.base
  have aa6:jk ((N.set ((st.Epoch+1) % 2).toNat (full (c8 (ya st)))).drop 102) (st.First+((n:Int)-102)) [] 0:=by
   obtain ⟨b',W',_,_,_,hl',_⟩:=hN.base
   have hdl:(N.drop 102).length=n-102:=az
   have hx:=hl'.next ae ae
   grind [List.drop_set_of_lt]
  have hu:=PW Kt rfl aa6 h5.1
  have hlen:((N.set ((st.Epoch+1) % 2).toNat (full (c8 (ya st)))).length:Int)=(n:Int):=az
  refine ⟨_,_,hc,⟨rest_of Kt rfl rfl rfl,?_⟩,rfl,fun hq=>q14 (q11 (q8 (q0 hq)))⟩
  grind [Zj]
 right
 have hc:=Zp hm rfl (by rw [q9]) az az
 rw [q9] at hc;dsimp only at hc;rw [XL] at hc;dsimp only at hc;rw [q15] at hc
 rw [hc] at hck
 refine ⟨_,hc,fun hq=>q14 (q11 (q8 (q0 hq))),hck.up ae,fun z=>?_⟩
 rcases PU z (⟨(st.Epoch+1) % 2,full (c8 (ya st))⟩:Turn) N with hz|hz
 .
  refine ⟨st,u,⟨ow hck z,?_⟩,rfl⟩
  show SN n (mF z _ N) st u (t+1)
  rw [hz];exact hN.up (Nat.le_succ t)
 refine ⟨(⟨st.Epoch+1,1-st.Side,((bM st.Rows).size:Int),st.First+((n:Int)-102),⟨102,(n:Int)-102,st.First+((n:Int)-102),0⟩,st.Rows⟩:qN),0,⟨ow hck z,?_⟩,rfl⟩
 show SN n (mF z _ N) _ 0 (t+1)
 grind
end
end
section
open Go Go.RowKit
section
variable {n u t:Nat} {st:qN} {d e:cq} {l:List Change}
theorem SN.WQ {l0 l':List ByteArray}(h:SN n l0 st u t)(hl:l'.length=l0.length)(ht:l'.take 102=l0.take 102){b:List Change}{W':List (List Change)}{u':Nat}{rows:List Change}(hb:pj b)(hz:st.Size=((bM b).size:Int))(hh:xq l0 (2+(st.Side*50).toNat) (bM b))
 (Uy:jk (l'.drop 102) st.First W' u') (hr:rows=lC b W') (hg:pj rows):SN n l' (wb st ⟨102,(n:Int)-102,st.First,(u':Int)⟩ rows) u' t:=by
 have h3:=h.sd;have h4:=hb.size;have h1:=h.eb
 have hs:∀j:Nat,j<102->l'[j]? = l0[j]?:=fun j hj=>by rw [<- List.getElem?_take_of_lt hj,ht,List.getElem?_take_of_lt hj]
 refine ⟨hl.trans h.len,h.nb,h.eb,h.fb,h.sd,?_,fun s hx=>?_,rfl,hg,b,W',hb,hz,fun k hk=>?_,Uy,hr⟩
 .
  show l'[(st.Epoch % 2).toNat]? = _
  rw [hs _ ae];exact h.hd
 .
  refine h.oh s ?_
  rw [<- hs _ ae];exact hx
 show l'[2+(st.Side*50).toNat+k]? = _
 rw [hs _ ae];exact hh k hk
theorem Jw {b:List Change}{W:List (List Change)}{c:List Change}:lC b (W++[c])=bX (lC b W) c:=by
 grind [lC]
theorem Hw (h:SV n d st u t)(ht:t<=10000)(h0:¬ 62<l.length)(h1:jh l=0)(h2:¬ 60<(bX st.Rows l).length)(hr:¬ st.L.Many-st.L.Next<(l.length:Int)+1) :
 (∃e st',cQ st.L d l=(st'.L,e,0)/\SV n e st' (u+l.length+1) t/\st'=wb st st'.L (bX st.Rows l)/\(d.Fuse = -1->e.Fuse = -1)) ∨
 (∃e,cQ st.L d l=(st.L,e,10)/\¬ d.Fuse = -1 /\ ∀z,∃st' u',SV n (eo e z) st' u' t/\(st'.Rows=st.Rows∨st'.Rows=bX st.Rows l)):=by
 obtain ⟨b,W,hb,hz,hh,Uy,hrw⟩:=h.sn.base
 have h3:=h.sn.nb;have h4:=h.sn.fb;have h6:=h.sn.len
 have hL:st.L=⟨((102:Nat):Int),((n-102:Nat):Int),st.First,(u:Int)⟩:=by rw [h.sn.lg,show ((n-102:Nat):Int)=(n:Int)-102 by omega];rfl
 have ha:mJ ⟨((102:Nat):Int),((n-102:Nat):Int),st.First,(u:Int)⟩ l=0:=KE h0 az h1
 have hgood:=h.sn.rows.apply h1 ae
 have hnew:bX st.Rows l=lC b (W++[l]):=by grind [Jw]
 rcases SD (f:=102) (k:=n-102) h.rest ae ae ae Uy ha with ⟨e,q1,q2,q3,q4,q5⟩ | ⟨e,q1,q2,q3⟩
 .
  left
  have hlen:e.Now.length=d.Now.length:=by rw [q2.ok.nl,h6]
  refine ⟨e,wb st ⟨102,(n:Int)-102,st.First,((u+l.length+1:Nat):Int)⟩ (bX st.Rows l),?_,⟨q2,h.sn.WQ hlen q3 hb hz hh q4 hnew hgood⟩,rfl,q5⟩
  rw [hL,q1]
  show (_,_,_)=((⟨102,(n:Int)-102,st.First,((u+l.length+1:Nat):Int)⟩:Lg),e,(0:Int))
  grind
 right
 refine ⟨e,az,q2,fun z=>?_⟩
 obtain ⟨a1,a2,W',u',a3,a4⟩:=q3 z
 have hrs:Rest n (eo e z):=⟨a1,rfl,by show (-1:Int) <= -1;decide,rfl,rfl⟩
 have hlen:(mF z e.Wait e.Kept).length=d.Now.length:=by have:=a1.nl;rw [h6];exact this
 rcases a4 with a4|a4
 .exact ⟨_,u',⟨hrs,h.sn.WQ (l':=mF z e.Wait e.Kept) hlen a2 hb hz hh a3 (rows:=st.Rows) az h.sn.rows⟩,.inl rfl⟩
 exact ⟨_,u',⟨hrs,h.sn.WQ (l':=mF z e.Wait e.Kept) hlen a2 hb hz hh a3 (rows:=bX st.Rows l) az hgood⟩,.inr rfl⟩
theorem SV.up (h:SV n d st u t){t':Nat}(ht:t<=t'):SV n d st u t':=⟨h.rest,h.sn.up ht⟩
theorem uS (h:SV n d st u t)(ht:t<=9999)(hf:ou st d.Now.length l=0) :
 (∃e st' u',bL st d l=(st',e,0)/\SV n e st' u' (t+1)/\st'.Rows=bX st.Rows l/\(d.Fuse = -1->e.Fuse = -1)/\(u':Int)=(if st.L.Many-st.L.Next<(l.length:Int)+1 then 0 else (u:Int))+(l.length:Int)+1) ∨
 (∃e st1,bL st d l=(st1,e,10)/\¬ d.Fuse = -1/\gw n 4000 e /\ ∀z,∃st' u',SV n (eo e z) st' u' (t+1)/\(st'.Rows=st.Rows∨st'.Rows=bX st.Rows l)):=by
 have hf2:=hf
 have h6:=h.sn.len;have h3:=h.sn.nb
 unfold ou at hf2
 split at hf2
 .omega
 rename_i h0
 split at hf2
 .omega
 rename_i h1
 have h1:jh l=0:=ae
 split at hf2
 .omega
 rename_i h2
 have h2a:¬ 60<(bX st.Rows l).length:=fun hh=>h2 (.inl hh)
 have h2b:¬ (d.Now.length:Int)-102<(l.length:Int)+1:=fun hh=>h2 (.inr hh)
 by_cases hr:st.L.Many-st.L.Next<(l.length:Int)+1
 .
  rw [if_pos hr]
  rcases Hu h ht with ⟨e1,s1,c1,c2,c3,c4⟩ | ⟨e1,c1,c2,c3,c4⟩
  .
   have hM:s1.L.Many=(n:Int)-102/\s1.L.Next=0:=by rw [c2.sn.lg];grind
   have hz:(cC st d).2.2=0:=by rw [c1]
   rcases Hw (l:=l) c2 ae h0 h1 az ae with ⟨e,s2,a1,a2,a3,a4⟩ | ⟨e,a1,a2,a3⟩
   .
    left
    have hc:=Uo hf hr hz az
    rw [c1] at hc;dsimp only at hc;rw [a1] at hc;dsimp only at hc
    rw [c3] at a3
    refine ⟨e,s2,0+l.length+1,hc.trans az,a2,by rw [a3];rfl,fun hq=>a4 (c4 hq),ae⟩
   right
   have hc:=Up hf hr hz az
   rw [c1] at hc;dsimp only at hc;rw [a1] at hc;dsimp only at hc
   have hO:=yU (lg:=s1.L) (c:=l) c2.rest.ok
   rw [a1] at hO
   refine ⟨e,_,hc,fun hq=>a2 (c4 hq),hO.up ae,fun z=>?_⟩
   simp_all
  right
  have hc:=Un hf hr az
  rw [c1] at hc
  refine ⟨e1,st,hc,c2,c3.up ae,fun z=>?_⟩
  obtain ⟨st',u',b1,b2⟩:=c4 z
  grind
 rw [if_neg hr]
 rcases Hw (l:=l) h ae h0 h1 h2a hr with ⟨e,s2,a1,a2,a3,a4⟩ | ⟨e,a1,a2,a3⟩
 .
  left
  have hc:=Ur hf hr (by rw [a1])
  rw [a1] at hc;dsimp only at hc
  exact ⟨e,s2,u+l.length+1,hc.trans az,a2.up ae,by rw [a3];rfl,a4,ae⟩
 right
 have hc:=Ut hf hr az
 rw [a1] at hc;dsimp only at hc
 have hO:=yU (lg:=st.L) (c:=l) h.rest.ok
 rw [a1] at hO
 refine ⟨e,_,hc,a2,hO.up ae,fun z=>?_⟩
 obtain ⟨st',u',b1,b2⟩:=a3 z
 exact ⟨st',u',b1.up ae,b2⟩
theorem ye:∀ (k i:Nat) (d:cq),d.Down=false->d.Fuse = -1->d.Now=List.replicate n (yS 48)->i+k<=n -> ∃T,lB k i (d,0)=(⟨d.Kept,d.Now,T,-1,false⟩,0)
 | 0,i,d,h1,h2,h3,h4=>⟨d.Wait,by rw [lB];obtain ⟨a,b,c,g,q⟩:=d;grind⟩
 | k+1,i,d,h1,h2,h3,h4=>by
  have hw:=j0 (d:=d) (i:=(i:Int)) (x:=⟨#[]⟩) h1 h2 ae az aC
  rw [Int.toNat_natCast,GF] at hw
  have hset:d.Now.set i (yS 48)=d.Now:=uY
  rw [hset] at hw
  rw [lB,if_pos rfl,hw]
  exact ye k (i+1) ⟨d.Kept,d.Now,d.Wait++[⟨(i:Int),yS 48⟩],-1,false⟩ rfl rfl h3 ae
theorem Dy {m:Nat}:∀ (k i:Nat) (s:cq×Int) (m:Nat),gw n m s.1->gw n (m+k) (lB k i s).1
 | 0,i,s,m,h=>h
 | k+1,i,s,m,h=>by
  rw [lB];split
  .exact (Dy (m:=m) k (i+1) _ (m+1) (h.write _ _)).up ae
  exact h.up ae
def st0 (n:Nat):qN:=⟨1,0,0,1,⟨102,(n:Int)-102,1,0⟩,[]⟩
theorem SG (h1:166<=n)(h2:n<=200):∃e,eA (dNew n)=(e,0)/\SV n e (st0 n) 0 0/\e.Fuse = -1:=by
 have hl:(dNew n).Now.length=n:=by simp [dNew]
 have w0:=j0 (d:=dNew n) (i:=0) (x:=⟨#[]⟩) rfl rfl aC ae aC
 have hN:(dNew n).Now=List.replicate n (yS 48):=rfl
 rw [show Int.toNat 0=0 from rfl,GF,hN,List.set_replicate_self] at w0
 obtain ⟨T,hT⟩:=ye (n:=n) (n-102) 102 ⟨(dNew n).Kept,List.replicate n (yS 48),(dNew n).Wait++[⟨0,yS 48⟩],-1,false⟩ rfl rfl rfl ae
 have f1:B6 (dNew n)=(⟨(dNew n).Kept,List.replicate n (yS 48),T,-1,false⟩,0):=by
  grind [B6]
 have f2:=mG (d:=⟨(dNew n).Kept,List.replicate n (yS 48),T,-1,false⟩) rfl rfl
 have f3:=j0 (d:=⟨List.replicate n (yS 48),List.replicate n (yS 48),[],-1,false⟩) (i:=1) (x:=c8 ⟨1,0,0,1⟩) rfl rfl aC az (by grind [Bo])
 rw [show Int.toNat 1=1 from rfl] at f3
 dsimp only at f2 f3
 have f4:=mG (d:=⟨List.replicate n (yS 48),(List.replicate n (yS 48)).set 1 (full (c8 ⟨1,0,0,1⟩)),[]++[⟨1,full (c8 ⟨1,0,0,1⟩)⟩],-1,false⟩) rfl rfl
 dsimp only at f4
 have hok:gw n 2000 (⟨(List.replicate n (yS 48)).set 1 (full (c8 ⟨1,0,0,1⟩)),(List.replicate n (yS 48)).set 1 (full (c8 ⟨1,0,0,1⟩)),[],-1,false⟩:cq):=by
  have k1:=Dy (m:=0) (n-102) 102 (aU (dNew n) 0 ⟨#[]⟩) 1 ((EB n).write 0 ⟨#[]⟩)
  have k2:gw n (1+(n-102)) (B6 (dNew n)).1:=az
  rw [f1] at k2
  have k3:=k2.flush;rw [f2] at k3
  have k4:=k3.write 1 (c8 ⟨1,0,0,1⟩);dsimp only at k4;rw [f3] at k4
  have k5:=k4.flush;dsimp only at k5;rw [f4] at k5
  exact k5.up ae
 refine ⟨_,(WH ae f1 rfl eH az).trans az,⟨rest_of hok rfl rfl rfl,?_⟩,rfl⟩
 refine ⟨bA,⟨h1,h2⟩,⟨by show (1:Int)<=1;decide,by show (1:Int)<=1+((0:Nat):Int);decide⟩,⟨by show (1:Int)<=1;decide,by show (1:Int)<=1+100*((0:Nat):Int);decide⟩,.inl rfl,?_,fun s hs=>?_,rfl,pj.nil,[],[],pj.nil,rfl,fun k hk=>?_,jk.blank 1 fun s hs=>?_,rfl⟩
 .
  show ((List.replicate n (yS 48)).set 1 (full (c8 ⟨1,0,0,1⟩)))[1]? = some (full (c8 ⟨1,0,0,1⟩))
  grind
 .
  have hs':((List.replicate n (yS 48)).set 1 (full (c8 ⟨1,0,0,1⟩)))[0]? = some s:=hs
  rw [List.getElem?_set_ne aC,List.getElem?_replicate] at hs'
  rw [if_pos ae] at hs'
  rw [<- Option.some.inj hs',Mn];show (0:Int)<1;decide
 .
  have:(bM []).size=0:=rfl
  omega
 grind [List.drop_set_of_lt,GD]
end
end
section
open Go Go.RowKit
attribute [local irreducible] Run Rg Rq Qt Qa Stp Dg Do Dm bQ
structure iO where
  Rows:List Change
  Used:Int
  Many:Int
def Ms (m:iO)(l:List Change):Int:=if 62<l.length then 2 else if ¬ jh l=0 then jh l else if 60<(ej m.Rows l).length∨m.Many<(l.length:Int)+1 then 9 else 0
def mM (m:iO)(l:List Change):iO×Int :=
  if ¬ Ms m l=0 then (m,Ms m l) else (⟨ej m.Rows l,(if m.Many-m.Used<(l.length:Int)+1 then 0 else m.Used)+(l.length:Int)+1,m.Many⟩,0)
section
variable {m:iO} {l:List Change}
theorem aa7 (h:62<l.length):mM m l=(m,2):=by
 have hf:Ms m l=2:=if_pos h
 unfold mM;rw [hf,if_pos aC]
theorem aa8 {e:Int}(h0:¬ 62<l.length)(he:jh l=e)(h:¬ e=0):mM m l=(m,e):=by
 have hf:Ms m l=e:=by unfold Ms;rw [if_neg h0,if_pos (by rw [he];exact h),he]
 unfold mM;rw [hf,if_pos h]
theorem ZI (h0:¬ 62<l.length)(h1:jh l=0)(h:60<(ej m.Rows l).length∨m.Many<(l.length:Int)+1):mM m l=(m,9):=by
 have hf:Ms m l=9:=by unfold Ms;rw [if_neg h0,if_neg (by rw [h1];decide),if_pos h]
 unfold mM;rw [hf,if_pos aC]
theorem ZJ {q:Int}(h0:¬ 62<l.length)(h1:jh l=0)(h:¬ (60<(ej m.Rows l).length∨m.Many<(l.length:Int)+1))(hq:q=(if m.Many-m.Used<(l.length:Int)+1 then 0 else m.Used)+(l.length:Int)+1):mM m l=(⟨ej m.Rows l,q,m.Many⟩,0):=by
 have hf:Ms m l=0:=by unfold Ms;rw [if_neg h0,if_neg (by rw [h1];decide),if_neg h]
 unfold mM;rw [hf,if_neg aC,hq]
end
theorem yg (mh:Nat)(nh:Value)(m:iO)(bR:Value)(l:List Change)(w:World)(own:List Nat)(H:HN w own [ag.box mh [nh,iV m.Used,iV m.Many] 41] [ag.ls nh m.Rows,ag.ls bR l])(hb:0<=m.Many/\m.Many<=1000/\0<=m.Used/\m.Used<=1000/\m.Rows.length<=1000/\l.length<=10000):RS Tryz.prog 26 #[pV mh,bR] H (mM m l) (fun s (_:Value)=>iV s.2) (fun s z=>[ag.box mh [z,iV s.1.Used,iV s.1.Many] 41]) (fun s z=>[ag.ls z s.1.Rows]):=by
 have ZK:=H.aL 0 rfl
 have BV:=H.aL 1 rfl
 refine R.eN H ?_
 refine C (62<l.length) ?_ ?_ <;> intro h1
 .
  rw [show mM m l=_ from aa7 af]
  exact R.x1 nh [0,1] [0]
 refine R.loop (fun i:Nat=>[(0,pV mh),(1,bR),(5,iV (i:Int))]) (fun i:Nat=>[ag.box mh [nh,iV m.Used,iV m.Many] 41,ag.held w own]) (fun i:Nat=>[ag.ls nh m.Rows,ag.ls bR l]) (fun i:Nat=>i<=l.length/\jh (l.drop i)=jh l) (fun i:Nat=>l.length-i) 0 O (by exact ⟨ae,rfl⟩) (sF O) (dX [0,1] [0,1] O) ?_
 rintro i ⟨hi,HL⟩
 refine U ?_
 refine C (i<l.length) ?_ ?_ <;> intro h2
 .
  obtain ⟨x1,hx1⟩:=gE l i
  have Sk:=ku x1
  refine U ?_
  refine R.kc O O (fun w hw=>yC x1 w)<|U ?_
  refine C (0<iT x1) ?_ ?_ <;> intro h3
  .
   rw [show mM m l=_ from aa8 ae (EJ HL hx1 ae) ae]
   exact R.x1 nh [0,1] [0]
  refine R.back (i+1) O (by exact ⟨ae,Ou HL hx1 ae⟩) ae (sF O) (cw [0,1] [0,1] O)
 have g0:jh l=0:=I3 HL ae;have ha2:=qC l m.Rows
 refine U ?_
 refine R.s O (s.aH [0,1] [0,1] _ _ _ O O O Y3 O O (fun w own hw H=>G6 nh m.Rows bR l w own H ae) O) fun z1=>U ?_
 refine C (60<(ej m.Rows l).length) ?_ ?_ <;> intro h4
 .
  rw [show mM m l=_ from ZI ae g0 (by exact .inl af)]
  exact R.x1 nh [1,2] [0]
 refine C (m.Many<((l.length+1):Int)) ?_ ?_ <;> intro h5
 .
  rw [show mM m l=_ from ZI ae g0 (by exact .inr ae)]
  exact R.x1 nh [1,2] [0]
 refine C ((m.Many-m.Used)<((l.length+1):Int)) ?_ ?_ <;> intro h6
 .
  refine R.c6 O mixed ay<|U ?_
  refine Q.q (q.lG (r:=m.Many-m.Used) O O) O<|U ?_
  refine R.mp (fun _ hw=>hw.aO 0 _ O O) ?_
  have hz:mM m l=((⟨ej m.Rows l,(((0+l.length)+1):Int),m.Many⟩:iO),0):=by (exact ZJ ae g0 (by intro hh;rcases hh with hh|hh <;> (exact absurd hh af)) (by split <;> omega))
  rw [hz]
  exact R.x1 z1 [0,1] [0]
 refine R.c6 O mixed ay<|U ?_
 refine Q.q (q.lG (r:=m.Many-m.Used) O O) O<|U ?_
 refine R.mp (fun _ hw=>hw.aO 0 _ O O) ?_
 have hz:mM m l=((⟨ej m.Rows l,(m.Used+(l.length:Int))+1,m.Many⟩:iO),0):=by (exact ZJ ae g0 (by intro hh;rcases hh with hh|hh <;> (exact absurd hh af)) (by split <;> omega))
 rw [hz]
 exact R.x1 z1 [0,1] [0]
end
section
open Go Go.RowKit
section
variable {n u t:Nat} {sc:fu} {lg:Lg} {d:cq} {l:List Change} {m:iO}
theorem E7 (s:qN):mkS s.c s.L=s:=rfl
theorem SV.ok (h:SV n d (mkS sc lg) u t):gw d.Now.length 60000 d/\d.Now.length<=200/\166<=d.Now.length:=by
 have h1:=h.sn.len;have h2:=h.sn.nb
 exact ⟨h1.symm▸h.rest.ok.up ae,ae,ae⟩
theorem SV.bnd (h:SV n d (mkS sc lg) u t)(ht:t<=10000):0<=sc.Epoch/\sc.Epoch<=1000000000/\0<=sc.Side/\sc.Side<=1/\0<=lg.Many/\lg.Many<=1000/\1<=lg.First/\lg.First<=1000000000/\0<=lg.From/\lg.From<=1000/\0<=lg.Next/\lg.Next<=1000:=by
 have e1:1<=sc.Epoch/\sc.Epoch<=1+(t:Int):=h.sn.eb
 have e2:1<=sc.First/\sc.First<=1+100*(t:Int):=h.sn.fb
 have e3:sc.Side=0∨sc.Side=1:=h.sn.sd
 have e4:lg=⟨102,(n:Int)-102,sc.First,(u:Int)⟩:=h.sn.lg
 have e5:=h.sn.nb;have e6:=h.sn.len
 obtain ⟨b,W,_,_,_,hl,_⟩:=h.sn.base
 have e7:=hl.ule
 rw [List.length_drop] at e7
 rw [e4];dsimp only
 refine ⟨?_,?_,?_,?_,?_,?_,?_,?_,?_,?_,?_,?_⟩ <;> omega
theorem SV.good (h:SV n d (mkS sc lg) u t):sc.Rows.length<=60/\(∀c∈sc.Rows,iT c=0)/\dC sc.Rows:=⟨h.sn.rows.len,h.sn.rows.ok,h.sn.rows.rise⟩
theorem SV.room (h:SV n d (mkS sc lg) u t):lg.Many=(n:Int)-102/\lg.Next=(u:Int)/\d.Down=false/\d.Now.length=n/\166<=n/\n<=200:=by
 have e4:lg=⟨102,(n:Int)-102,sc.First,(u:Int)⟩:=h.sn.lg
 exact ⟨by rw [e4],by rw [e4],h.rest.down,h.sn.len,h.sn.nb.1,h.sn.nb.2⟩
theorem SV.opened (h:SV n d (mkS sc lg) u t)(ht:t<=10000):jE d=0/\(bf d).c=sc/\(bf d).L=lg:=by
 obtain ⟨h1,h2⟩:=Bt h.rest.ok h.rest.down h.sn ht
 exact ⟨h1,by rw [h2];rfl,by rw [h2];rfl⟩
theorem WR (h:SV n d (mkS sc lg) u t)(h1:m.Rows=sc.Rows)(h3:m.Many=(n:Int)-102):Ms m l=ou (mkS sc lg) d.Now.length l:=by
 have e:ej m.Rows l=bX sc.Rows l:=by rw [h1];exact (vN l h.good.2.2).symm
 unfold Ms ou;rw [e,h3,h.sn.len];rfl
theorem Hy (h:SV n d (mkS sc lg) u t)(ht:t<=9999)(hf:d.Fuse = -1)(h1:m.Rows=sc.Rows)(h2:m.Used=(u:Int))(h3:m.Many=(n:Int)-102) :
 (bL (mkS sc lg) d l).2.2=(mM m l).2/\(mM m l).1.Many=(n:Int)-102/\(mM m l).1.Rows=(bL (mkS sc lg) d l).1.c.Rows/\(bL (mkS sc lg) d l).2.1.Fuse = -1 /\
 ∃u',SV n (bL (mkS sc lg) d l).2.1 (mkS (bL (mkS sc lg) d l).1.c (bL (mkS sc lg) d l).1.L) u' (t+1)/\(mM m l).1.Used=(u':Int):=by
 have hF:=WR (l:=l) h h1 h3
 have e:ej m.Rows l=bX sc.Rows l:=by rw [h1];exact (vN l h.good.2.2).symm
 have hr:=h.room
 by_cases hc:ou (mkS sc lg) d.Now.length l=0
 .
  have hm:mM m l=(⟨ej m.Rows l,(if m.Many-m.Used<(l.length:Int)+1 then 0 else m.Used)+(l.length:Int)+1,m.Many⟩,0):=by
   unfold mM;rw [hF,hc,if_neg aC]
  rcases uS h ht hc with ⟨e1,s1,u1,a1,a2,a3,a4,a5⟩ | ⟨e1,s1,a1,a2,_⟩
  .
   rw [a1,hm]
   dsimp only
   rw [E7]
   refine ⟨rfl,h3,?_,a4 hf,u1,a2,?_⟩
   .rw [e];exact a3.symm
   rw [a5,h3,h2]
   have:(mkS sc lg).L.Many-(mkS sc lg).L.Next=(n:Int)-102-(u:Int):=by
    show lg.Many-lg.Next=_
    rw [hr.1,hr.2.1]
   rw [this]
  exact absurd hf a2
 have hm:mM m l=(m,ou (mkS sc lg) d.Now.length l):=by
  unfold mM;rw [hF,if_pos hc]
 have hs:bL (mkS sc lg) d l=(mkS sc lg,d,ou (mkS sc lg) d.Now.length l):=by
  unfold bL;rw [if_pos hc]
 rw [hs,hm]
 exact ⟨rfl,h3,h1,hf,u,h.up (Nat.le_succ t),h2⟩
theorem SH (h:SV n d (mkS sc lg) u t)(ht:t<=9999)(hf:d.Fuse = -1) :
 (cC (mkS sc lg) d).2.2=0/\(cC (mkS sc lg) d).1.c.Rows=sc.Rows/\(cC (mkS sc lg) d).2.1.Fuse = -1/\SV n (cC (mkS sc lg) d).2.1 (mkS (cC (mkS sc lg) d).1.c (cC (mkS sc lg) d).1.L) 0 (t+1):=by
 rcases Hu h ht with ⟨e1,s1,a1,a2,a3,a4⟩ | ⟨e1,a1,a2,_⟩
 .rw [a1];exact ⟨rfl,a3,a4 hf,a2⟩
 exact absurd hf a2
theorem PX {k:Nat}(h1:166<=k)(h2:k<=200):(eA (dNew k)).2=0/\(eA (dNew k)).1.Fuse = -1/\jE (eA (dNew k)).1=0/\SV k (eA (dNew k)).1 (mkS (bf (eA (dNew k)).1).c (bf (eA (dNew k)).1).L) 0 0/\(bf (eA (dNew k)).1).c.Rows=[]:=by
 obtain ⟨e,q1,q2,q3⟩:=SG h1 h2
 have q4:=Bt q2.rest.ok q2.rest.down q2.sn ae
 rw [q1];dsimp only
 rw [q4.2,E7]
 exact ⟨rfl,q3,q4.1,q2,rfl⟩
end
end
section
open Go Go.RowKit
section
variable {n u t:Nat} {st:qN} {sc:fu} {lg:Lg} {d:cq} {l:List Change}
theorem SV.reopen (h:SV n d st u t)(ht:t<=10000):jE d=0/\SV n d (mkS (bf d).c (bf d).L) u t/\(bf d).c.Rows=st.Rows:=by
 obtain ⟨h1,h2⟩:=Bt h.rest.ok h.rest.down h.sn ht
 rw [h2,E7];exact ⟨h1,h,rfl⟩
theorem SV.again (h:SV n d st u t)(z:Int):SV n (eo d z) st u t:=by
 refine ⟨ow h.rest.ok z,?_⟩
 show SN n (mF z d.Wait d.Kept) st u t
 rw [h.rest.wait,PT,h.rest.kn];exact h.sn
end
end
section
open Go Go.RowKit
structure fI where
  R:aB
abbrev Kst:Type:=fI×fu×cq×Lg×Int
abbrev lJ (a b:aB):List Change:=lL (vT (aY a) (aY b))
def aa9 (k:fI)(r:aB)(c:qN×cq×Int):Kst:=if c.2.2=0 then (⟨r⟩,c.1.c,c.2.1,c.1.L,c.2.2) else (k,c.1.c,c.2.1,c.1.L,c.2.2)
def kb (k:fI)(sc:fu)(d:cq)(lg:Lg)(z:aB×Int):Kst :=
  if ¬ z.2=0 then (k,sc,d,lg,z.2) else if 0<(lJ k.R z.1).length then aa9 k z.1 (bL (mkS sc lg) d (lJ k.R z.1)) else (⟨z.1⟩,sc,d,lg,z.2)
section
variable {k:fI} {sc:fu} {d:cq} {lg:Lg} {z:aB×Int}
theorem UB (h:¬ z.2=0):kb k sc d lg z=(k,sc,d,lg,z.2):=if_pos h
theorem PY (h:z.2=0)(h1:¬ 0<(lJ k.R z.1).length):kb k sc d lg z=(⟨z.1⟩,sc,d,lg,z.2):=by unfold kb;rw [if_neg ae,if_neg h1]
theorem PZ (h:z.2=0)(h1:0<(lJ k.R z.1).length)(h2:(bL (mkS sc lg) d (lJ k.R z.1)).2.2=0):kb k sc d lg z=(⟨z.1⟩,(bL (mkS sc lg) d (lJ k.R z.1)).1.c,(bL (mkS sc lg) d (lJ k.R z.1)).2.1,(bL (mkS sc lg) d (lJ k.R z.1)).1.L,(bL (mkS sc lg) d (lJ k.R z.1)).2.2):=by unfold kb;rw [if_neg ae,if_pos h1];exact if_pos h2
theorem P0 (h:z.2=0)(h1:0<(lJ k.R z.1).length)(h2:¬ (bL (mkS sc lg) d (lJ k.R z.1)).2.2=0):kb k sc d lg z=(k,(bL (mkS sc lg) d (lJ k.R z.1)).1.c,(bL (mkS sc lg) d (lJ k.R z.1)).2.1,(bL (mkS sc lg) d (lJ k.R z.1)).1.L,(bL (mkS sc lg) d (lJ k.R z.1)).2.2):=by unfold kb;rw [if_neg ae,if_pos h1];exact if_neg h2
end
structure KI (d:cq)(sc:fu)(lg:Lg)(r:aB)(u t:Nat):Prop where
  sv:SV 200 d (mkS sc lg) u t
  rows:sc.Rows=aY r
  inv:Inv r
section
variable {d e:cq} {sc:fu} {lg:Lg} {r:aB} {u t k:Nat} {a:jy} {z:aB×Int}
theorem KI.up (h:KI d sc lg r u t){t':Nat}(ht:t<=t'):KI d sc lg r u t':=⟨h.sv.up ht,h.rows,h.inv⟩
theorem wj {a b:aB}(ha:Inv a)(hb:Inv b):lJ a b=bE (aY a) (aY b):=GQ (eZ ha) (eZ hb)
theorem KI.com (h:KI d sc lg r u t){q:aB}(hq:Inv q)(hl:(lJ r q).length<=59):ou (mkS sc lg) d.Now.length (lJ r q)=0:=by
 have e:=wj h.inv hq
 have h1:=h.sv.room
 have ha:bX (mkS sc lg).Rows (lJ r q)=aY q:=by
  show bX sc.Rows _=_
  rw [e,h.rows];exact EK h.inv hq
 unfold ou
 rw [if_neg ae,if_neg (by rw [e,Vt h.inv hq];decide),if_neg]
 rw [ha]
 have:=jt hq
 omega
theorem WS (h:Inv r){q:aB}(hq:Inv q)(hl:¬ 0<(lJ r q).length):aY q=aY r:=by
 have h1:bE (aY r) (aY q)=[]:=by rw [<- wj h hq];exact List.eq_nil_of_length_eq_zero ae
 have h2:=EK h hq
 rw [h1] at h2;exact h2.symm
theorem KI.do (h:KI d sc lg r u t)(ht:t<=9999)(hz:z.2=0->Inv z.1/\(lJ r z.1).length<=59) :
 (¬ z.2=0->kb ⟨r⟩ sc d lg z=(⟨r⟩,sc,d,lg,z.2)) /\
 (z.2=0->((kb ⟨r⟩ sc d lg z).2.2.2.2=0/\(kb ⟨r⟩ sc d lg z).1.R=z.1/\(d.Fuse = -1->(kb ⟨r⟩ sc d lg z).2.2.1.Fuse = -1) /\ ∃u2,KI (kb ⟨r⟩ sc d lg z).2.2.1 (kb ⟨r⟩ sc d lg z).2.1 (kb ⟨r⟩ sc d lg z).2.2.2.1 z.1 u2 (t+1)) ∨
  ((kb ⟨r⟩ sc d lg z).2.2.2.2=10/\(kb ⟨r⟩ sc d lg z).1.R=r/\¬ d.Fuse = -1/\gw 200 4000 (kb ⟨r⟩ sc d lg z).2.2.1 /\
   ∀q,∃sc' lg' u2,KI (eo (kb ⟨r⟩ sc d lg z).2.2.1 q) sc' lg' r u2 (t+1)∨KI (eo (kb ⟨r⟩ sc d lg z).2.2.1 q) sc' lg' z.1 u2 (t+1))):=by
 refine ⟨fun h0=>UB h0,fun h0=>?_⟩
 obtain ⟨hi,hl⟩:=hz h0
 by_cases h1:0<(lJ r z.1).length
 .
  have hc:=h.com hi hl
  have happ:bX (mkS sc lg).Rows (lJ r z.1)=aY z.1:=by
   show bX sc.Rows _=_
   rw [wj h.inv hi,h.rows];exact EK h.inv hi
  have hst:∀s:qN,s.c.Rows=s.Rows:=fun _=>rfl
  rcases uS h.sv ht hc with ⟨e1,s1,u1,a1,a2,a3,a4,_⟩ | ⟨e1,s1,a1,a2,a3,a4⟩
  .
   left
   rw [PZ (k:=⟨r⟩) h0 h1 (by rw [a1])]
   dsimp only
   rw [a1]
   exact ⟨rfl,rfl,a4,u1,a2,(hst s1).trans (a3.trans happ),hi⟩
  right
  rw [P0 (k:=⟨r⟩) h0 h1 (by rw [a1];show ¬ (10:Int)=0;decide)]
  dsimp only
  rw [a1]
  refine ⟨rfl,rfl,a2,a3,fun q=>?_⟩
  obtain ⟨s2,u2,b1,b2⟩:=a4 q
  refine ⟨s2.c,s2.L,u2,?_⟩
  rcases b2 with b2|b2
  .exact .inl ⟨b1,(hst s2).trans (b2.trans h.rows),h.inv⟩
  exact .inr ⟨b1,(hst s2).trans (b2.trans happ),hi⟩
 left
 rw [PY (k:=⟨r⟩) h0 h1]
 exact ⟨h0,rfl,id,u,h.sv.up (Nat.le_succ t),h.rows.trans (WS h.inv hi h1).symm,hi⟩
theorem KI.save (h:KI d sc lg r u t)(ht:t<=9999)(hf:d.Fuse = -1):(cC (mkS sc lg) d).2.2=0/\(cC (mkS sc lg) d).2.1.Fuse = -1/\KI (cC (mkS sc lg) d).2.1 (cC (mkS sc lg) d).1.c (cC (mkS sc lg) d).1.L r 0 (t+1):=by
 obtain ⟨a1,a2,a3,a4⟩:=SH h.sv ht hf
 exact ⟨a1,a3,a4,a2.trans h.rows,h.inv⟩
theorem KI.opened (h:KI d sc lg r u t)(ht:t<=9999):jE d=0/\(bf d).c=sc/\(bf d).L=lg/\bY sc.Rows=(aN r,0)/\KI d sc lg (aN r) u t:=by
 obtain ⟨a1,a2,a3⟩:=h.sv.opened ae
 exact ⟨a1,a2,a3,by rw [h.rows];exact xV h.inv,h.sv,h.rows.trans (AB h.inv).symm,(iL h.inv).1⟩
theorem KI.again (h:KI d sc lg r u t)(z:Int):KI (eo d z) sc lg r u t:=⟨h.sv.again z,h.rows,h.inv⟩
theorem yY (h:Inv r)(a:jy):(dU r a).2=0->Inv (dU r a).1/\(lJ r (dU r a).1).length<=59:=fun hm=>⟨h.do hm,by rw [wj h (h.do hm)];exact Vs h hm⟩
end
end
section
open Go Go.RowKit
attribute [local irreducible] dNew eA bf jE bL
theorem cb {α:Type}{c:Prop}[Decidable c]{x y:α×Int}(h:0<=x.2)(h':0<=y.2):0<=(if c then x else y).2:=by split <;> assumption
theorem p6 {r:aB}(a:jy):0<=(dU r a).2:=by
 have hd:=fun (w:ak) id rg b=>gq w id rg b
 have dn:∀ (w:ak) id rg b,0<=(derived w id rg b).2:=fun w id rg b=>by have:=hd w id rg b;omega
 have hT:0<=(bG r a.P).2.2.2:=by
  have:=gu r a.P 2 1;unfold bG;(repeat' split) <;> first|(dsimp only;omega)|omega
 unfold dU
 refine cb ?_ (cb ?_ (cb ?_ (cb ?_ (cb ?_ (cb ?_ (cb ?_ (cb hT (Int.le_refl 0))))))))
 .exact cb (cb (cb aC Fw) (fX r a.P)) aC
 .exact cb (cb (cb (cb aC (cb Fw (dn _ _ _ _))) aC) (fX r a.Q)) (ef r a.P)
 .exact cb (cb Fw (fX r _)) (ef r a.P)
 .exact cb Fw (ef r a.P)
 .exact cb Fw (ef r a.P)
 .exact cb (cb aC Fw) (gu r a.P 1 2)
 refine cb (cb aC (cb aC (cb Fw (cb ?_ aC)))) (gu r a.P 2 2)
 exact cb (cb aC (cb Fw (dn _ _ _ _))) (ef r _)
abbrev nR:aB:=⟨[],[],[],[],1,1⟩
theorem P1:Ok nR:=Sz.new.ok aC
theorem j2:Inv nR:=Inv.new
theorem Dz:aN nR=nR:=IY j2 rfl
theorem Hz:aY nR=[Gq nR]:=by unfold aY;rw [Dz];rfl
def tU (d:cq):qN×cq×Int:=bL (mkS (bf (eA d).1).c (bf (eA d).1).L) (eA d).1 (aY nR)
theorem HE {dk:cq}(h:dk=dNew 200):(eA dk).2=0/\(eA dk).1.Fuse = -1/\jE (eA dk).1=0/\SV 200 (eA dk).1 (mkS (bf (eA dk).1).c (bf (eA dk).1).L) 0 0/\(bf (eA dk).1).c.Rows=[]:=by
 subst h;exact PX ae ae
def uh:cq:=(tU (dNew 200)).2.1
def wk:fu:=(bf uh).c
def P2:Lg:=(bf uh).L
noncomputable def KW:fI:=⟨(bY wk.Rows).1⟩
theorem ZL:(tU (dNew 200)).2.2=0/\uh.Fuse = -1 /\ ∃s,SV 200 uh s 2 1/\s.Rows=aY nR:=by
 obtain ⟨f1,f2,f3,f4,f5⟩:=HE rfl
 have hl:(aY nR).length=1:=by rw [Hz];rfl
 have hap:bX [] (aY nR)=aY nR:=by
  have:=sq (a:=[]) (b:=aY nR) List.Pairwise.nil (eZ j2) (fun c hc=>(oZ j2 c hc).g)
  rwa [nG] at this
 have ZM:bX (mkS (bf (eA (dNew 200)).1).c (bf (eA (dNew 200)).1).L).Rows (aY nR)=aY nR:=by
  show bX (bf (eA (dNew 200)).1).c.Rows _=_
  rw [f5];exact hap
 have h6:=f4.room
 have hc:ou (mkS (bf (eA (dNew 200)).1).c (bf (eA (dNew 200)).1).L) (eA (dNew 200)).1.Now.length (aY nR)=0:=by
  unfold ou
  rw [if_neg ae,if_neg (by rw [vY _ (fun c hc=>(oZ j2 c hc).ok)];decide),if_neg]
  rw [ZM];omega
 rcases uS f4 ae hc with ⟨e1,s1,u1,a1,a2,a3,a4,a5⟩ | ⟨e1,s1,a1,a2,_⟩
 .
  have hu:u1=2:=by
   rw [hl] at a5
   split at a5 <;> omega
  subst hu
  unfold uh tU;rw [a1]
  exact ⟨rfl,a4 f2,s1,a2,a3.trans ZM⟩
 exact absurd f2 a2
theorem wm:(tU (dNew 200)).2.2=0/\uh.Fuse = -1/\jE uh=0/\(bY wk.Rows).2=0/\KW.R=nR/\KI uh wk P2 nR 2 1:=by
 obtain ⟨h1,h2,s,h3,h4⟩:=ZL
 obtain ⟨a1,a2,a3⟩:=h3.reopen ae
 have e:wk.Rows=aY nR:=a3.trans h4
 have hp:bY wk.Rows=(nR,0):=by rw [e,xV j2,Dz]
 exact ⟨h1,h2,a1,by rw [hp],by show (bY wk.Rows).1=_;rw [hp],a2,e,j2⟩
abbrev Kss:Type:=fI×fu×cq×Lg
theorem DC {r:aB}{k:Nat}(h:Sz k r)(a:jy)(hk:k<=990):(dU r a).2=0->Ok (dU r a).1:=fun _=>(TV h a).ok ae
def PI (s:Kss)(t:Nat):Prop:=(∃u,KI s.2.2.1 s.2.1 s.2.2.2 s.1.R u (t+1))/\s.2.2.1.Fuse = -1/\Sz t s.1.R
section
variable {d:cq} {sc:fu} {lg:Lg} {r:aB} {u t:Nat}
theorem KI.small (h:KI d sc lg r u t):sc.Rows.length<=60 /\ ∀c∈sc.Rows,c.Key.size<=1000/\c.Val.size<=1000:=by
 rw [h.rows];exact ⟨jt h.inv,I0 h.inv⟩
theorem KI.pre (h:KI d sc lg r u t)(ht:t<=9999):(gw d.Now.length 60000 d/\d.Now.length<=200/\166<=d.Now.length)/\(0<=sc.Epoch/\sc.Epoch<=1000000000/\0<=sc.Side/\sc.Side<=1/\0<=lg.Many/\lg.Many<=1000/\1<=lg.First/\lg.First<=1000000000/\0<=lg.From/\lg.From<=1000/\0<=lg.Next/\lg.Next<=1000)/\sc.Rows.length<=60/\(∀c∈sc.Rows,iT c=0):=by
 have g:=h.sv.good
 exact ⟨h.sv.ok,h.sv.bnd ae,g.1,g.2.1⟩
theorem KI.anew (h:KI d sc lg r u t)(ht:t<=9999):d.Down=false/\jE d=0/\(gw d.Now.length 90000 d/\d.Now.length<=200)/\(bY (bf d).c.Rows).2=0/\((bf d).c.Rows.length<=60 /\ ∀c∈(bf d).c.Rows,c.Key.size<=1000/\c.Val.size<=1000)/\(bY (bf d).c.Rows).1=aN r/\KI d (bf d).c (bf d).L (aN r) u t:=by
 obtain ⟨a1,a2,a3,a4,a5⟩:=h.opened ht
 have g:=h.sv.ok
 rw [a2,a3]
 exact ⟨h.sv.room.2.2.1,a1,⟨g.1.up ae,g.2.1⟩,by rw [a4],h.small,by rw [a4],a5⟩
end
end
section
open Go Go.RowKit
structure j3 where
  R:aB
def fB (m:j3)(ms:iO)(z:aB×Int):j3×iO×Int :=
  if 0<z.2 then (m,ms,z.2) else if 0<(bE (aY m.R) (aY z.1)).length then
    (if 0<(mM ms (bE (aY m.R) (aY z.1))).2 then (m,(mM ms (bE (aY m.R) (aY z.1))).1,(mM ms (bE (aY m.R) (aY z.1))).2) else (⟨z.1⟩,(mM ms (bE (aY m.R) (aY z.1))).1,0))
  else (⟨z.1⟩,ms,0)
section
variable {m:j3} {ms:iO} {z:aB×Int}
theorem UC (h:0<z.2):fB m ms z=(m,ms,z.2):=if_pos h
theorem UD (h:¬ 0<z.2)(h1:¬ 0<(bE (aY m.R) (aY z.1)).length):fB m ms z=(⟨z.1⟩,ms,0):=by unfold fB;rw [if_neg h,if_neg h1]
theorem ZN (h:¬ 0<z.2)(h1:0<(bE (aY m.R) (aY z.1)).length)(h2:0<(mM ms (bE (aY m.R) (aY z.1))).2):fB m ms z=(m,(mM ms (bE (aY m.R) (aY z.1))).1,(mM ms (bE (aY m.R) (aY z.1))).2):=by unfold fB;rw [if_neg h,if_pos h1,if_pos h2]
theorem UE (h:¬ 0<z.2)(h1:0<(bE (aY m.R) (aY z.1)).length)(h2:¬ 0<(mM ms (bE (aY m.R) (aY z.1))).2):fB m ms z=(⟨z.1⟩,(mM ms (bE (aY m.R) (aY z.1))).1,0):=by unfold fB;rw [if_neg h,if_pos h1,if_neg h2]
end
theorem Mt {a b:List Change}(ha:dC a)(hb:dC b):(bE a b).length<=a.length+b.length:=by
 have hn:((bE a b).map Change.Key).Nodup:=List.pairwise_map.2 ((qE (qD ha hb)).imp fun q=>q)
 have:=I5 _ (a.map Change.Key++b.map Change.Key) hn (fun k hk=>by
  obtain ⟨x,hx,rfl⟩:=List.mem_map.1 hk
  rcases (mem_merge ha hb).1 hx with ⟨c,hc,_,rfl⟩ | ⟨h,_⟩
  .exact List.mem_append_left _ (List.mem_map.2 ⟨c,hc,rfl⟩)
  exact List.mem_append_right _ (List.mem_map.2 ⟨x,h,rfl⟩))
 simpa using this
theorem P3 {a b:aB}(ha:Inv a)(hb:Inv b):(bE (aY a) (aY b)).length<=120:=by
 have:=Mt (eZ ha) (eZ hb);have:=jt ha;have:=jt hb;omega
section
variable {d:cq} {sc:fu} {lg:Lg} {r:aB} {u t:Nat} {ms:iO} {z:aB×Int}
structure KM (sc:fu)(u:Nat)(ms:iO):Prop where
  rows:ms.Rows=sc.Rows
  used:ms.Used=(u:Int)
  many:ms.Many=98
theorem KI.says (h:KI d sc lg r u t)(ht:t<=9999)(hf:d.Fuse = -1)(hm:KM sc u ms)(h0:0<=z.2)(hz:z.2=0->Inv z.1/\(lJ r z.1).length<=59) :
 (kb ⟨r⟩ sc d lg z).2.2.2.2=(fB ⟨r⟩ ms z).2.2/\(fB ⟨r⟩ ms z).1.R=(kb ⟨r⟩ sc d lg z).1.R/\(kb ⟨r⟩ sc d lg z).1.R=(if z.2=0 then z.1 else r)/\(kb ⟨r⟩ sc d lg z).2.2.1.Fuse = -1 /\
 ∃u2,KI (kb ⟨r⟩ sc d lg z).2.2.1 (kb ⟨r⟩ sc d lg z).2.1 (kb ⟨r⟩ sc d lg z).2.2.2.1 (kb ⟨r⟩ sc d lg z).1.R u2 (t+1)/\KM (kb ⟨r⟩ sc d lg z).2.1 u2 (fB ⟨r⟩ ms z).2.1:=by
 obtain ⟨b1,b2⟩:=h.do ht hz
 by_cases hq:z.2=0
 .
  obtain ⟨hi,hl⟩:=hz hq
  rcases b2 hq with ⟨c1,c2,c3,u2,c4⟩ | ⟨_,_,c3,_⟩
  .
   rw [if_pos hq,c2]
   have hch:=wj h.inv hi
   by_cases h1:0<(lJ r z.1).length
   .
    obtain ⟨e1,e2,e3,e4,u3,e5,e6⟩:=Hy (l:=lJ r z.1) h.sv ht hf hm.rows hm.used (by rw [hm.many];rfl)
    have hc:(bL (mkS sc lg) d (lJ r z.1)).2.2=0:=by
     refine Classical.byContradiction fun q=>?_
     rw [P0 (k:=⟨r⟩) hq h1 q] at c1;exact q c1
    have hr:(mM ms (bE (aY r) (aY z.1))).2=0:=by rw [<- hch,<- e1];exact hc
    rw [PZ (k:=⟨r⟩) hq h1 hc] at c3 c4 ⊢
    rw [UE (m:=⟨r⟩) ae (by rw [<- hch];exact h1) aJ]
    dsimp only at c3 c4 ⊢
    rw [<- hch]
    exact ⟨hc,rfl,rfl,c3 hf,u3,⟨e5,c4.rows,hi⟩,e3,e6,e2.trans rfl⟩
   rw [PY (k:=⟨r⟩) hq h1] at c3 c4 ⊢
   rw [UD (m:=⟨r⟩) ae (by rw [<- hch];exact h1)]
   exact ⟨hq,rfl,rfl,hf,u,⟨(h.sv.up (Nat.le_succ t)),c4.rows,hi⟩,hm⟩
  exact absurd hf c3
 rw [b1 hq,if_neg hq,UC (m:=⟨r⟩) ae]
 exact ⟨rfl,rfl,rfl,hf,u,h.up (Nat.le_succ t),hm⟩
end
def P4:iO:=(mM ⟨[],0,98⟩ (aY nR)).1
theorem WT:KM wk 2 P4:=by
 obtain ⟨_,_,_,_,_,hK⟩:=wm
 have hl:(aY nR).length=1:=by rw [Hz];rfl
 have hap:ej [] (aY nR)=aY nR:=by
  have:=sq (a:=[]) (b:=aY nR) List.Pairwise.nil (eZ j2) (fun c hc=>(oZ j2 c hc).g)
  rw [nG] at this
  rw [<- vN _ List.Pairwise.nil];exact this
 have hF:Ms ⟨[],0,98⟩ (aY nR)=0:=by
  unfold Ms
  rw [if_neg ae,if_neg (by rw [vY _ (fun c hc=>(oZ j2 c hc).ok)];decide),if_neg]
  dsimp only;rw [hap,hl];omega
 have e:mM ⟨[],0,98⟩ (aY nR)=(⟨aY nR,2,98⟩,0):=by
  unfold mM;rw [hF,if_neg aC]
  dsimp only;rw [hap,hl];rfl
 unfold P4;rw [e]
 exact ⟨hK.rows.symm,rfl,rfl⟩
theorem KM.small {d:cq}{sc:fu}{lg:Lg}{r:aB}{u t:Nat}{ms:iO}(hM:KM sc u ms)(h:KI d sc lg r u t)(ht:t<=9999):0<=ms.Many/\ms.Many<=1000/\0<=ms.Used/\ms.Used<=1000/\ms.Rows.length<=1000:=by
 have h1:=h.sv.bnd ae;have h2:=h.sv.room;have h3:=hM.used;have h4:=hM.many;have h5:=h.small.1;have h6:=hM.rows
 rw [h6];omega
end
end Go.Proofs.YtnmpibjlnninjaaGreatDoor
