import Derived.Test.YtnmpibjlnninjaaGreatDoorKS20
namespace Go.Proofs.YtnmpibjlnninjaaGreatDoor
set_option linter.unusedVariables false
set_option linter.unusedSimpArgs false
set_option maxRecDepth 100000
set_option maxHeartbeats 90000000
section
open Go Go.RowKit
theorem U1 (s:ByteArray):eM s=(((bl s)[0]?).getD 0).toNat+(((bl s)[1]?).getD 0).toNat*256+(((bl s)[2]?).getD 0).toNat*65536+(((bl s)[3]?).getD 0).toNat*16777216:=by
 grind [eM,ka]
theorem uX {n:Int}(h0:0<=n)(h1:n<4294967296):((eM (cz n):Nat):Int)=n:=by
 grind [U1,uL,zp,List.getElem?_cons_zero,List.getElem?_cons_succ]
theorem Ai (h:dP):(aS h).size=17:=by
 rfl
theorem head_piece (h:dP):(full (aS h)).extract 1 5=cz h.Epoch/\(full (aS h)).extract 5 9=cz h.Side/\(full (aS h)).extract 9 13=cz h.Size/\(full (aS h)).extract 13 17=cz h.First/\bO (full (aS h)) 0=72:=by
 have e:bl (full (aS h))=[72]++bl (cz h.Epoch)++bl (cz h.Side)++bl (cz h.Size)++bl (cz h.First)++List.replicate 31 0:=ck
 simp only [uL] at e
 refine ⟨?_,?_,?_,?_,?_⟩
 .rfl
 .rfl
 .rfl
 .rfl
 rfl
def OT (h:dP):Prop:=0<=h.Epoch/\h.Epoch<4294967296/\0<=h.Side/\h.Side<=1/\0<=h.Size/\h.Size<=2400/\1<=h.First/\h.First<4294967296
theorem Aj {h:dP}(k:OT h):cG (full (aS h))=h:=by
 obtain ⟨k1,k2,k3,k4,k5,k6,k7,k8⟩:=k
 obtain ⟨p1,p2,p3,p4,p5⟩:=head_piece h
 have e1:=uX k1 k2;have e2:=uX k3 (by omega:h.Side<4294967296);have e3:=uX k5 (by omega:h.Size<4294967296);have e4:=uX (by omega:0<=h.First) k8
 rw [ng (by grind [fX])]
 simp_all [Ka]
theorem Ly:cG (xS 48)=⟨0,0,0,0⟩:=dR (.inl (by grind [FK]))
structure oy (l:List Change):Prop where
  rise:dN l
  ok:∀c∈l,gY c=0
  live:∀c∈l,c.Gone=false
  len:l.length<=60
theorem Ak (c:Change)(l:List Change)(b:ByteArray):(c::l).foldl (fun b c=>b++jy c) b=l.foldl (fun b c=>b++jy c) (b++jy c):=rfl
theorem wC:∀ (l:List Change) (b:ByteArray),l.foldl (fun b c=>b++jy c) b=b++aK l
 | [],b=>iW (by unfold aK;simp)
 | c::l,b=>by
  have h1:=wC l (b++jy c)
  have h2:=wC l (⟨#[]⟩++jy c)
  rw [Ak,h1]
  unfold aK at h2 ⊢
  rw [Ak,h2]
  exact iW bW
theorem Lz (c:Change)(l:List Change):aK (c::l)=jy c++aK l:=by
 have:=wC l (⟨#[]⟩++jy c)
 assumption
theorem Q7 {c:Change}(h:gY c=0):bl (jy c)=UInt8.ofNat c.Key.size::UInt8.ofNat c.Val.size::0::(bl c.Key++bl c.Val):=by
 obtain ⟨_,_,h3,h4⟩:=ig h
 unfold jy;rw [jW,jW,show c.Val.size / 256=0 by omega];rfl
theorem Q8 {c:Change}(h:gY c=0)(hg:c.Gone=false)(t:ByteArray):rz (jy c++t)=(jy c).size/\zW (jy c++t)=c/\(jy c++t).extract (jy c).size (jy c++t).size=t:=by
 obtain ⟨_,_,h3,h4⟩:=ig h
 have eb:bl (jy c++t)=UInt8.ofNat c.Key.size::UInt8.ofNat c.Val.size::0::(bl c.Key++bl c.Val++bl t):=by grind [jW,Q7]
 have b0:bO (jy c++t) 0=c.Key.size:=by grind [ka,qW]
 have b1:bO (jy c++t) 1=c.Val.size:=by grind [ka,qW]
 have b2:bO (jy c++t) 2=0:=by rw [ka,eb];rfl
 have hn:rz (jy c++t)=(jy c).size:=by grind [rz,sg]
 have kl:=iz c.Key;have vl:=iz c.Val
 refine ⟨hn,?_,?_⟩
 .
  unfold zW
  rw [hn,b0,sg]
  have e1:(jy c++t).extract 3 (3+c.Key.size)=c.Key:=iW ((pJ _ _ _).trans (by
   grind))
  have e2:(jy c++t).extract (3+c.Key.size) (3+c.Key.size+c.Val.size)=c.Val:=iW ((pJ _ _ _).trans (by
   grind))
  rw [e1,e2]
  obtain ⟨a,b,g⟩:=c
  grind
 grind [iW,pJ,iz,List.take_length,jW,List.drop_left]
theorem IX {l:List Change}{c:Change}(h:dN (l++[c]))(hg:c.Gone=false):cm l [c]=l++[c]:=by
 have h1:=(List.pairwise_append.1 h).2.2
 have e:=za (A:=l) (B:=[]) (c:=c) (fun y hy=>h1 y hy c (List.mem_singleton.2 rfl)) (fun y hy=>by grind)
 show AO l c=_
 simp_all [mid,List.append_nil,if_neg]
theorem Gx:∀ (l:List Change) (k:Nat) (acc:List Change),dN (acc++l)->(∀c∈l,gY c=0/\c.Gone=false)->(aK l).size<k->qx k (aK l) acc=(acc++l,true)
 | [],k,acc,_,_,hk=>by
  cases k with
  | zero=>omega
  | succ k=>rw [qx,if_pos (show aK []=⟨#[]⟩ from rfl),List.append_nil]
 | c::l,k,acc,hr,hc,hk=>by
  obtain ⟨h1,h2⟩:=hc c (List.mem_cons_self ..)
  have hz:=sg c
  rw [Lz] at hk ⊢
  obtain ⟨p1,p2,p3⟩:=Q8 h1 h2 (aK l)
  have hsz:(jy c++aK l).size=(jy c).size+(aK l).size:=ByteArray.size_append
  cases k with
  | zero=>omega
  | succ k =>
   have hne:¬ jy c++aK l=⟨#[]⟩:=fun h=>by
    have:=congrArg ByteArray.size h
    rw [hsz,hz] at this
    have h0:(⟨#[]⟩:ByteArray).size=0:=rfl
    omega
   rw [qx,if_neg hne,if_neg ae,p2,if_pos h1,p1,p3]
   rw [show acc++c::l=(acc++[c])++l by simp] at hr ⊢
   rw [IX (List.pairwise_append.1 hr).1 h2]
   exact Gx l k (acc++[c]) hr (fun x hx=>hc x (List.mem_cons_of_mem _ hx)) ae
theorem LA {l:List Change}(h:oy l):fJ (aK l)=(l,true):=by
 have:=Gx l ((aK l).size+1) [] h.rise (fun c hc=>⟨h.ok c hc,h.live c hc⟩) ae
 assumption
theorem oy.size {l:List Change}(h:oy l):(aK l).size<=2100:=by
 have:=xY h.ok;have:=h.len;omega
theorem Gy:∀ (c:List Change) {rows:List Change},dN rows->(∀x∈rows,gY x=0/\x.Gone=false)->(∀x∈c,gY x=0) -> ∀x∈cm rows c,gY x=0/\x.Gone=false
 | [],rows,_,h,_=>h
 | x::c,rows,hr,h,hc=>by
  show ∀y∈cm (AO rows x) c,_
  refine Gy c (uE hr x) (fun y hy=>?_) (fun y hy=>hc y (List.mem_cons_of_mem _ hy))
  rcases (JE hr).1 hy with ⟨h1,_⟩ | ⟨h1,rfl⟩
  .exact h y h1
  exact ⟨hc y (List.mem_cons_self ..),h1⟩
theorem oy.apply {rows c:List Change}(h:oy rows)(hc:iF c=0)(hl:(cm rows c).length<=60):oy (cm rows c):=by
 have ha:=Gy c h.rise (fun x hx=>⟨h.ok x hx,h.live x hx⟩) (r5 hc)
 exact ⟨tC c h.rise,fun x hx=>(ha x hx).1,fun x hx=>(ha x hx).2,hl⟩
theorem oy.nil:oy []:=⟨List.Pairwise.nil,fun c hc=>by grind,fun c hc=>by grind,bW⟩
def wD (l:List ByteArray)(p:Nat)(t:ByteArray):Prop:= ∀k:Nat,k*48<t.size->l[p+k]? = some (full (t.extract (k*48) (k*48+min 48 (t.size-k*48))))
theorem Ke {d:cU}{p:Nat}{t:ByteArray}(hd:d.Down=false)(hn:∀s∈d.Now,s.size=48)(hl:p+50<=d.Now.length)(h:wD d.Now p t):∀k:Nat,k<=50->(bl (cJ d (p:Int) k)).length=48*k/\(bl (cJ d (p:Int) k)).take t.size=(bl t).take (48*k)
 | 0,_=>by
  unfold cJ
  refine ⟨rfl,?_⟩
  rw [show bl ⟨#[]⟩=[] from rfl];simp
 | k+1,hk=>by
  obtain ⟨h1,h2⟩:=Ke hd hn hl h k ae
  obtain ⟨x,hx⟩:∃x,d.Now[p+k]? = some x:=⟨_,List.getElem?_eq_getElem ae⟩
  have hr:cx d ((p:Int)+(k:Int))=(x,0):=qY hd ae (by rw [show ((p:Int)+(k:Int)).toNat=p+k by omega];exact hx)
  have hxs:=hn x (List.mem_of_getElem? hx)
  have hxl:(bl x).length=48:=by rw [iz];exact hxs
  have htl:=iz t
  unfold cJ
  rw [hr,jW]
  refine ⟨by rw [List.length_append,h1,hxl];omega,?_⟩
  by_cases hkt:k*48<t.size
  .
   have hxe:=h k hkt
   rw [hx] at hxe
   injection hxe with hxe
   have hbx:bl x=((bl t).take (k*48+min 48 (t.size-k*48))).drop (k*48)++List.replicate (48-(t.extract (k*48) (k*48+min 48 (t.size-k*48))).size) 0:=by
    rw [hxe,JK,pJ]
   have hA:bl (cJ d (p:Int) k)=(bl t).take (48*k):=by
    have:(bl (cJ d (p:Int) k)).take t.size=bl (cJ d (p:Int) k):=List.take_of_length_le (by rw [h1];omega)
    rw [<- this];exact h2
   rw [hA,hbx]
   by_cases hm:48<=t.size-k*48
   .
    rw [show min 48 (t.size-k*48)=48 by omega]
    have hes:(t.extract (k*48) (k*48+48)).size=48:=by rw [ByteArray.size_extract];omega
    rw [hes,Nat.sub_self,List.replicate_zero,List.append_nil]
    have e1:(bl t).take (48*k)++((bl t).take (k*48+48)).drop (k*48)=(bl t).take (48*(k+1)):=by
     rw [show 48*(k+1)=48*k+48 by omega,show k*48=48*k by omega,<- List.take_drop,<- List.take_add]
    rw [e1,List.take_of_length_le (by rw [List.length_take];omega)]
   rw [show k*48+min 48 (t.size-k*48)=t.size by omega,show (bl t).take t.size=bl t from List.take_of_length_le ae]
   have e1:(bl t).take (48*k)++((bl t).drop (k*48)++List.replicate (48-(t.extract (k*48) t.size).size) 0)=bl t++List.replicate (48-(t.extract (k*48) t.size).size) 0:=by
    rw [<- List.append_assoc,show k*48=48*k by omega,List.take_append_drop]
   rw [e1,List.take_append_of_le_length ae,List.take_of_length_le ae,List.take_of_length_le ae]
  rw [List.take_append_of_le_length (by rw [h1];omega),h2,List.take_of_length_le ae,List.take_of_length_le ae]
theorem LB {d:cU}{p:Nat}{t:ByteArray}(hd:d.Down=false)(hn:∀s∈d.Now,s.size=48)(hl:p+50<=d.Now.length)(ht:t.size<=2400)(h:wD d.Now p t):(cJ d (p:Int) 50).extract 0 t.size=t:=by
 obtain ⟨h1,h2⟩:=Ke hd hn hl h 50 (Nat.le_refl _)
 refine iW ((pJ _ _ _).trans ?_)
 rw [List.drop_zero,h2,List.take_of_length_le (by rw [iz];omega)]
end
section
open Go Go.RowKit
structure SN (n:Nat)(l:List ByteArray)(st:p6)(u t:Nat):Prop where
  len:l.length=n
  nb:166<=n/\n<=200
  eb:1<=st.Epoch/\st.Epoch<=1+(t:Int)
  fb:1<=st.First/\st.First<=1+100*(t:Int)
  sd:st.Side=0∨st.Side=1
  hd:l[(st.Epoch % 2).toNat]? = some (full (aS ⟨st.Epoch,st.Side,st.Size,st.First⟩))
  oh:∀s,l[((st.Epoch+1) % 2).toNat]? = some s->(cG s).Epoch<st.Epoch
  lg:st.L=⟨102,(n:Int)-102,st.First,(u:Int)⟩
  rows:oy st.Rows
  base:∃b W,oy b/\st.Size=((aK b).size:Int)/\wD l (2+(st.Side*50).toNat) (aK b)/\iG (l.drop 102) st.First W u/\st.Rows=kG b W
def Gz (st:p6):dP:=⟨st.Epoch,st.Side,st.Size,st.First⟩
section
variable {n u t:Nat} {l l':List ByteArray} {st:p6} {d e:cU}
theorem SN.hed (h:SN n l st u t)(ht:t<=10000):OT (Gz st):=by
 obtain ⟨b,W,hb,hz,_⟩:=h.base
 have h1:=h.eb;have h2:=h.fb;have h3:=h.sd;have h4:=hb.size
 grind [OT,Gz]
theorem SN.up (h:SN n l st u t){t':Nat}(ht:t<=t'):SN n l st u t' :=
 ⟨h.len,h.nb,⟨h.eb.1,by have:=h.eb.2;omega⟩,⟨h.fb.1,by have:=h.fb.2;omega⟩,h.sd,h.hd,h.oh,h.lg,h.rows,h.base⟩
theorem SN.same (h:SN n l st u t)(hl:l'.length=l.length)(hs:∀j:Nat,j<2∨102<=j∨(2+(st.Side*50).toNat<=j/\j<52+(st.Side*50).toNat)->l'[j]? = l[j]?):SN n l' st u t:=by
 obtain ⟨b,W,hb,hz,hh,SU,hr⟩:=h.base
 have h3:=h.sd;have h4:=hb.size;have h1:=h.eb
 refine ⟨hl.trans h.len,h.nb,h.eb,h.fb,h.sd,by rw [hs _ (.inl ae)];exact h.hd,fun s hx=>h.oh s aB,h.lg,h.rows,b,W,hb,hz,fun k hk=>?_,?_,hr⟩
 .rw [hs _ (.inr (.inr ⟨ae,ae⟩))];exact hh k hk
 have e:l'.drop 102=l.drop 102:=List.ext_getElem? fun j=>by grind
 grind
theorem SN.flip (h:SN n l st u t)(ht:t<=9999)(hh:wD l (2+((1-st.Side)*50).toNat) (aK st.Rows))(hl:l'=l.set ((st.Epoch+1) % 2).toNat (full (aS (xj st))))(L:Lg)(hL:L=⟨102,(n:Int)-102,st.First+((n:Int)-102),0⟩) :
 SN n l' ⟨st.Epoch+1,1-st.Side,((aK st.Rows).size:Int),st.First+((n:Int)-102),L,st.Rows⟩ 0 (t+1):=by
 obtain ⟨b,W,hb,hz,hh0,SU,hr⟩:=h.base
 have h1:=h.eb;have h2:=h.fb;have h3:=h.sd;have h4:=h.rows.size;have h5:=h.nb;have h6:=h.len;have hM:st.L.Many=(n:Int)-102:=by rw [h.lg]
 have hdl:(l.drop 102).length=n-102:=aB
 have hF:st.L.First=st.First:=by rw [h.lg]
 subst hl
 refine ⟨aB,h5,⟨aB,aB⟩,⟨aB,aB⟩,aB,?_,fun s hs=>?_,ae,h.rows,st.Rows,[],h.rows,rfl,fun k hk=>?_,?_,rfl⟩
 .grind [xj,List.getElem?_set_self]
 .
  dsimp only at hs ⊢
  rw [List.getElem?_set_ne ae] at hs
  rw [show (st.Epoch+1+1) % 2=st.Epoch % 2 by omega,h.hd] at hs
  injection hs with hs
  have:=Aj (h.hed ae)
  grind [Gz]
 .
  dsimp only at hk ⊢
  rw [List.getElem?_set_ne ae]
  exact hh k hk
 dsimp only
 have e:(l.set ((st.Epoch+1) % 2).toNat (full (aS (xj st)))).drop 102=l.drop 102:=by grind [List.drop_set_of_lt]
 have hx:=SU.next ae ae
 grind
theorem Al {a b:dP}(h:1<=a.Epoch)(hb:b.Epoch<a.Epoch):o8 (o8 ⟨0,0,0,0⟩ a) b=a/\(0<=b.Epoch->o8 (o8 ⟨0,0,0,0⟩ b) a=a):=by
 unfold o8
 grind
theorem Am {m:Nat}(hO:gy n m d)(hd:d.Down=false)(h:SN n d.Now st u t)(ht:t<=10000):ki d=0/\bM d=st:=by
 obtain ⟨b,W,hb,hz,hh,SU,hr⟩:=h.base
 have h1:=h.eb;have h2:=h.fb;have h3:=h.sd;have h4:=hb.size;have h5:=h.nb;have h6:=h.len
 have hH:=Aj (h.hed ht)
 have hrd:∀ (j:Nat) s,d.Now[j]? = some s->(cx d (j:Int)).1=s:=fun j s hs=>by rw [zo hd hs]
 obtain ⟨x0,hx0⟩:∃x,d.Now[0]? = some x:=⟨_,List.getElem?_eq_getElem ae⟩
 obtain ⟨x1,hx1⟩:∃x,d.Now[1]? = some x:=⟨_,List.getElem?_eq_getElem ae⟩
 have r0:(cx d 0).1=x0:=hrd 0 x0 hx0
 have r1:(cx d 1).1=x1:=hrd 1 x1 hx1
 have hhead:headD d=Gz st:=by
  unfold headD;rw [r0,r1]
  rcases (by omega:st.Epoch % 2=0∨st.Epoch % 2=1) with he|he
  .
   have a:=h.hd;rw [he,show Int.toNat 0=0 from rfl,hx0] at a;replace a:=Option.some.inj a
   have o:=h.oh x1 aB
   grind [cG,Gz,Al]
  have a:=h.hd;rw [he,show Int.toNat 1=1 from rfl,hx1] at a;replace a:=Option.some.inj a
  have o:=h.oh x0 aB
  grind [cG,Gz,zV,Al]
 have SX:sT d=aK b:=by
  unfold sT;rw [hhead];unfold Gz;dsimp only
  rw [hz,Int.toNat_natCast,show (2:Int)+st.Side*50=((2+(st.Side*50).toNat:Nat):Int) by omega]
  exact LB hd hO.ns ae ae hh
 have hp:=LA hb
 have OA:ra d 102 ((d.Now.length:Int)-102).toNat=d.Now.drop 102:=by
  have:=o9 (d:=d) (f:=102) (k:=d.Now.length-102) hd ae
  rw [show ((102:Nat):Int)=102 from rfl] at this
  rw [show ((d.Now.length:Int)-102).toNat=d.Now.length-102 by omega,this,List.take_of_length_le aB]
 refine ⟨?_,?_⟩
 .
  unfold ki
  rw [if_neg ae,hhead,if_neg (by show ¬ st.Epoch=0;omega),SX,hp,if_pos rfl]
 unfold bM
 rw [hhead,SX,hp]
 unfold Gz fT lW;dsimp only
 rw [OA,SU.sc,h6]
 dsimp only
 rw [<- hr,<- h.lg]
structure Zk (d e:cU)(p:Nat):Prop where
  kept:e.Kept=d.Kept
  wait:∃T,e.Wait=d.Wait++T /\ ∀x∈T,(p:Int)<=x.At/\x.At<(p:Int)+50
theorem Kf (z:Int)(p q:Nat):∀ (w:List Turn) (i:Nat) (l:List ByteArray) (j:Nat),(∀x∈w,(p:Int)<=x.At/\x.At<(q:Int))->j<p∨q<=j->((w.zipIdx i).foldl (pP z) l)[j]? = l[j]?
 | [],i,l,j,_,_=>rfl
 | x::w,i,l,j,h,hj=>by
  rw [List.zipIdx_cons,List.foldl_cons,Kf z p q w (i+1) _ j (fun y hy=>h y (List.mem_cons_of_mem _ hy)) hj]
  have hx:=h x (List.mem_cons_self ..)
  unfold pP;dsimp only
  split
  .rw [List.getElem?_set_ne ae]
  rfl
theorem xl {i:Int}{x:ByteArray}(hd:d.Down=false)(hf : -1<=d.Fuse)(h0:0<=i)(h1:i<(d.Now.length:Int))(h2:x.size<=48) :
 (∃g,-1<=g/\(d.Fuse = -1->g = -1)/\aC d i x=(⟨d.Kept,d.Now.set i.toNat (full x),d.Wait++[⟨i,full x⟩],g,false⟩,0))∨(¬ d.Fuse = -1/\aC d i x=(⟨d.Kept,d.Now,d.Wait,-1,true⟩,10)):=by
 grind [FH,p7]
theorem xm (hd:d.Down=false)(hf : -1<=d.Fuse):(∃g,-1<=g/\(d.Fuse = -1->g = -1)/\au d=(⟨d.Now,d.Now,[],g,false⟩,0))∨(¬ d.Fuse = -1/\au d=(⟨d.Kept,d.Now,d.Wait,-1,true⟩,10)):=by
 have hl:=fun hq=>lU (d:=d) hd hq
 rcases tL hd hf with ⟨g,hg,h⟩ | h
 .grind
 grind
theorem CJ {f:Nat}{x:ByteArray}(hx:x.size<=2400):∀ (k i:Nat) (d:cU),d.Down=false -> -1<=d.Fuse->f+50<=d.Now.length->x.size<48*(i+k) ->
 (∃g N T,-1<=g/\(d.Fuse = -1->g = -1)/\iX (f:Int) x k i d=(⟨d.Kept,N,d.Wait++T,g,false⟩,0)/\(∀y∈T,(f:Int)<=y.At/\y.At<(f:Int)+50)/\N.length=d.Now.length/\(∀j:Nat,j<f+i∨f+50<=j->N[j]? = d.Now[j]?) /\
  ∀j:Nat,i<=j->j*48<x.size->N[f+j]? = some (full (x.extract (j*48) (j*48+min 48 (x.size-j*48))))) ∨
 (∃e,¬ d.Fuse = -1/\iX (f:Int) x k i d=(e,10)/\Zk d e f)
 | 0,i,d,hd,hf,hl,hk=>by
  left
  refine ⟨d.Fuse,d.Now,[],hf,id,?_,(fun y hy=>by grind),rfl,fun _ _=>rfl,fun j h1 h2=>by omega⟩
  rw [iX,List.append_nil];obtain ⟨a,b,c,g,q⟩:=d;grind
 | k+1,i,d,hd,hf,hl,hk=>by
  rw [iX]
  by_cases hi:i*48<x.size
  .
   rw [if_pos hi]
   generalize hc:x.extract (i*48) (i*48+min 48 (x.size-i*48))=c
   have hcs:c.size<=48:=by grind [ByteArray.size_extract]
   rcases xl (d:=d) (i:=(f:Int)+(i:Int)) (x:=c) hd hf ae ae hcs with ⟨g,hg,hgf,hw⟩ | ⟨hgf,hw⟩
   .
    rw [hw,if_pos rfl]
    have ei:((f:Int)+(i:Int)).toNat=f+i:=ae
    rw [ei]
    dsimp only
    rcases CJ (f:=f) hx k (i+1) ⟨d.Kept,d.Now.set (f+i) (full c),d.Wait++[⟨(f:Int)+(i:Int),full c⟩],g,false⟩ rfl hg aB ae with ⟨g',N,T,q1,q0,q2,q3,q4,q5,q6⟩ | ⟨e,q0,q1,q2,T,q3,q4⟩
    .grind [List.length_set,List.append_assoc,List.mem_singleton,List.getElem?_set_ne,List.getElem?_set_self]
    right
    dsimp only at q2 q3
    refine ⟨e,fun hq=>q0 (hgf hq),q1,q2,[⟨(f:Int)+(i:Int),full c⟩]++T,aB,fun y hy=>?_⟩
    grind
   right
   rw [hw,if_neg wA]
   exact ⟨_,hgf,rfl,rfl,[],bW,fun y hy=>by grind⟩
  rw [if_neg hi]
  left
  refine ⟨d.Fuse,d.Now,[],hf,id,?_,(fun y hy=>by grind),rfl,fun _ _=>rfl,fun j h1 h2=>by omega⟩
  rw [List.append_nil];obtain ⟨a,b,c,g,q⟩:=d;grind
structure SV (n:Nat)(d:cU)(st:p6)(u t:Nat):Prop where
  rest:Rest n d
  sn:SN n d.Now st u t
theorem p9 {m:Nat}(h:gy n m e)(z:Int):Rest n (iE e z):=⟨h.restart z,rfl,by show (-1:Int) <= -1;decide,rfl,rfl⟩
theorem SV.fell (h:SV n d st u t)(hO:gy n 3000 e)(hk:e.Kept=d.Now)(p:Nat)(hp:p=2+((1-st.Side)*50).toNat)(hw:∀x∈e.Wait,(p:Int)<=x.At/\x.At<(p:Int)+50)(z:Int):SV n (iE e z) st u t:=by
 refine ⟨p9 hO z,?_⟩
 have h3:=h.sn.sd
 refine h.sn.same (by show (oU z e.Wait e.Kept).length=_;rw [FE,hk]) fun j hj=>?_
 show (oU z e.Wait e.Kept)[j]? = _
 rw [<- hk]
 exact Kf z p (p+50) e.Wait 0 e.Kept j (fun x hx=>⟨(hw x hx).1,aB⟩) ae
end
end
section
open Go Go.RowKit
section
variable {n u t:Nat} {st:p6} {d e:cU}
theorem rest_of {m:Nat}(h:gy n m e)(hd:e.Down=false)(hk:e.Kept=e.Now)(hw:e.Wait=[]):Rest n e :=
 ⟨⟨h.kl,h.nl,h.ks,h.ns,aB,h.KE,h.f0,h.f1⟩,hd,h.f0,hk,hw⟩
theorem OU (z:Int)(x:Turn)(l:List ByteArray):oU z [x] l=l∨oU z [x] l=l.set x.At.toNat x.Data:=by
 show pP z l (x,0)=l∨pP z l (x,0)=_
 unfold pP;grind
theorem OV {m:Nat}(hO:gy n m e)(hd:e.Down=false){first:Int}(h:iG (e.Now.drop 102) first [] 0)(hn:166<=n):fT e 102 ((e.Now.length:Int)-102).toNat first=0:=by
 have hl:=hO.nl
 have OA:ra e 102 ((e.Now.length:Int)-102).toNat=e.Now.drop 102:=by
  grind [o9,List.take_of_length_le,List.length_drop]
 unfold fT;rw [OA,h.sc]
theorem GA (h:SV n d st u t)(ht:t<=9999) :
 (∃e st',cX st d=(st',e,0)/\SV n e st' 0 (t+1)/\st'.Rows=st.Rows/\(d.Fuse = -1->e.Fuse = -1)) ∨
 (∃e,cX st d=(st,e,10)/\¬ d.Fuse = -1/\gy n 3000 e /\ ∀z,∃st' u',SV n (iE e z) st' u' (t+1)/\st'.Rows=st.Rows):=by
 have hR:=h.rest;have hS:=h.sn
 have h3:=hS.sd;have h4:=hS.rows.size;have h5:=hS.nb;have h6:=hS.len;have h1:=hS.eb;have h2:=hS.fb
 have hck:=Ow (s:=st) hR.ok ae
 have hkn:=hR.kn;have hwt:=hR.wait
 have hM:st.L.Many=(n:Int)-102:=by rw [hS.lg]
 have hFi:st.L.First=st.First:=by rw [hS.lg]
 obtain ⟨f,hf⟩:∃f:Nat,f=2+((1-st.Side)*50).toNat:=⟨_,rfl⟩
 have hfi:(2:Int)+(1-st.Side)*50=(f:Int):=ae
 have hb:ck1 st d=iX (f:Int) (aK st.Rows) ((aK st.Rows).size+1) 0 d:=by grind [ck1]
 have old:∀e:cU,gy n 3000 e->e.Kept=d.Now->(∀x∈e.Wait,(f:Int)<=x.At/\x.At<(f:Int)+50) -> ∀z,∃st' u',SV n (iE e z) st' u' (t+1)/\st'.Rows=st.Rows:=fun e hO hk hw z =>
  ⟨st,u,⟨(h.fell hO hk f hf hw z).rest,(h.fell hO hk f hf hw z).sn.up (Nat.le_succ t)⟩,rfl⟩
 rcases CJ (f:=f) (x:=aK st.Rows) ae ((aK st.Rows).size+1) 0 d hR.down hR.fuse ae ae with ⟨g,N,T,q1,q0,q2,q3,q4,q5,q6⟩ | ⟨e,q0,q1,q2,T,q3,q4⟩
 rotate_left
 .
  right
  have hc:=Xx (s:=st) (d:=d) (m:=e) (e:=10) (hb.trans q1) aD
  rw [hc] at hck
  exact ⟨e,hc,q0,hck.up ae,old e (hck.up ae) (q2.trans hkn) aB⟩
 have hm:=hb.trans q2
 rw [hwt,List.nil_append] at hm
 rcases xm (d:=⟨d.Kept,N,T,g,false⟩) rfl q1 with ⟨g2,q7,q8,q9⟩ | ⟨q8,q9⟩
 rotate_left
 .
  right
  have hc:=Xy hm rfl aB
  rw [q9] at hc
  rw [hc] at hck
  exact ⟨_,hc,fun hq=>q8 (q0 hq),hck.up ae,old _ (hck.up ae) hkn q3⟩
 have hN:SN n N st u t:=hS.same q4 fun j hj=>q5 j ae
 have hH:wD N f (aK st.Rows):=fun k hk=>q6 k (Nat.zero_le _) hk
 have hm2:gy n 2450 (⟨N,N,[],g2,false⟩:cU):=by
  have:=(wt (f:=(f:Int)) (t:=aK st.Rows) ((aK st.Rows).size+1) 0 d 0 hR.ok).flush
  rw [q2,hwt,List.nil_append,q9] at this
  exact this.up ae
 have aan:SV n (⟨N,N,[],g2,false⟩:cU) st u t:=⟨rest_of hm2 rfl rfl rfl,hN⟩
 have XR:0<=(st.Epoch+1) % 2/\(st.Epoch+1) % 2<2:=⟨ae,ae⟩
 have hcs:(aS (xj st)).size<=48:=by grind [Ai]
 rcases xl (d:=⟨N,N,[],g2,false⟩) (i:=(st.Epoch+1) % 2) (x:=aS (xj st)) rfl q7 XR.1 aB hcs with ⟨g3,q10,Yx,VH⟩ | ⟨Yx,VH⟩
 rotate_left
 .
  right
  have hc:=Xz hm rfl (by rw [q9]) aB
  rw [q9] at hc;dsimp only at hc;rw [VH] at hc
  rw [hc] at hck
  refine ⟨_,hc,fun hq=>Yx (q8 (q0 hq)),hck.up ae,fun z=>⟨st,u,⟨p9 hck z,?_⟩,rfl⟩⟩
  exact hN.up (Nat.le_succ t)
 have XS:∀L,L=(⟨102,(n:Int)-102,st.First+((n:Int)-102),0⟩:Lg)->SN n (N.set ((st.Epoch+1) % 2).toNat (full (aS (xj st)))) ⟨st.Epoch+1,1-st.Side,((aK st.Rows).size:Int),st.First+((n:Int)-102),L,st.Rows⟩ 0 (t+1):=fun L hL =>
  hN.flip ht (hf▸hH) rfl L hL
 dsimp only at VH
 rw [List.nil_append] at VH
 rcases xm (d:=⟨N,N.set ((st.Epoch+1) % 2).toNat (full (aS (xj st))),[⟨(st.Epoch+1) % 2,full (aS (xj st))⟩],g3,false⟩) rfl q10 with ⟨g4,q13,Zl,Zm⟩ | ⟨Zl,Zm⟩
 .
  left
  have hc:=XB hm rfl (by rw [q9]) aB aB
  rw [q9] at hc;dsimp only at hc;rw [VH] at hc;dsimp only at hc;rw [Zm] at hc;dsimp only at hc
  rw [hc] at hck
  have JG:gy n 2500 (⟨N.set ((st.Epoch+1) % 2).toNat (full (aS (xj st))),N.set ((st.Epoch+1) % 2).toNat (full (aS (xj st))),[],g4,false⟩:cU):=hck.up ae
  have hx:=XS _ rfl
  obtain ⟨b,W,hb1,hb2,hb3,hb4,hb5⟩:=hx.base
  have Zn:iG ((N.set ((st.Epoch+1) % 2).toNat (full (aS (xj st)))).drop 102) (st.First+((n:Int)-102)) [] 0:=by
   obtain ⟨b',W',_,_,_,hl',_⟩:=hN.base
   have hdl:(N.drop 102).length=n-102:=aB
   have hx:=hl'.next ae ae
   grind [List.drop_set_of_lt]
  have hu:=OV JG rfl Zn h5.1
  have hlen:((N.set ((st.Epoch+1) % 2).toNat (full (aS (xj st)))).length:Int)=(n:Int):=aB
  refine ⟨_,_,hc,⟨rest_of JG rfl rfl rfl,?_⟩,rfl,fun hq=>Zl (Yx (q8 (q0 hq)))⟩
  grind [Xu]
 right
 have hc:=XA hm rfl (by rw [q9]) aB aB
 rw [q9] at hc;dsimp only at hc;rw [VH] at hc;dsimp only at hc;rw [Zm] at hc
 rw [hc] at hck
 refine ⟨_,hc,fun hq=>Zl (Yx (q8 (q0 hq))),hck.up ae,fun z=>?_⟩
 rcases OU z (⟨(st.Epoch+1) % 2,full (aS (xj st))⟩:Turn) N with hz|hz
 .
  refine ⟨st,u,⟨p9 hck z,?_⟩,rfl⟩
  show SN n (oU z _ N) st u (t+1)
  rw [hz];exact hN.up (Nat.le_succ t)
 refine ⟨(⟨st.Epoch+1,1-st.Side,((aK st.Rows).size:Int),st.First+((n:Int)-102),⟨102,(n:Int)-102,st.First+((n:Int)-102),0⟩,st.Rows⟩:p6),0,⟨p9 hck z,?_⟩,rfl⟩
 show SN n (oU z _ N) _ 0 (t+1)
 grind
end
end
section
open Go Go.RowKit
section
variable {n u t:Nat} {st:p6} {d e:cU} {l:List Change}
theorem SN.U2 {l0 l':List ByteArray}(h:SN n l0 st u t)(hl:l'.length=l0.length)(ht:l'.take 102=l0.take 102){b:List Change}{W':List (List Change)}{u':Nat}{rows:List Change}(hb:oy b)(hz:st.Size=((aK b).size:Int))(hh:wD l0 (2+(st.Side*50).toNat) (aK b))
 (SU:iG (l'.drop 102) st.First W' u') (hr:rows=kG b W') (hg:oy rows):SN n l' (uU st ⟨102,(n:Int)-102,st.First,(u':Int)⟩ rows) u' t:=by
 have h3:=h.sd;have h4:=hb.size;have h1:=h.eb
 have hs:∀j:Nat,j<102->l'[j]? = l0[j]?:=fun j hj=>by rw [<- List.getElem?_take_of_lt hj,ht,List.getElem?_take_of_lt hj]
 refine ⟨hl.trans h.len,h.nb,h.eb,h.fb,h.sd,?_,fun s hx=>?_,rfl,hg,b,W',hb,hz,fun k hk=>?_,SU,hr⟩
 .
  show l'[(st.Epoch % 2).toNat]? = _
  rw [hs _ ae];exact h.hd
 .
  refine h.oh s ?_
  rw [<- hs _ ae];exact hx
 show l'[2+(st.Side*50).toNat+k]? = _
 rw [hs _ ae];exact hh k hk
theorem IY {b:List Change}{W:List (List Change)}{c:List Change}:kG b (W++[c])=cm (kG b W) c:=by
 grind [kG]
theorem GB (h:SV n d st u t)(ht:t<=10000)(h0:¬ 62<l.length)(h1:iF l=0)(h2:¬ 60<(cm st.Rows l).length)(hr:¬ st.L.Many-st.L.Next<(l.length:Int)+1) :
 (∃e st',cW st.L d l=(st'.L,e,0)/\SV n e st' (u+l.length+1) t/\st'=uU st st'.L (cm st.Rows l)/\(d.Fuse = -1->e.Fuse = -1)) ∨
 (∃e,cW st.L d l=(st.L,e,10)/\¬ d.Fuse = -1 /\ ∀z,∃st' u',SV n (iE e z) st' u' t/\(st'.Rows=st.Rows∨st'.Rows=cm st.Rows l)):=by
 obtain ⟨b,W,hb,hz,hh,SU,hrw⟩:=h.sn.base
 have h3:=h.sn.nb;have h4:=h.sn.fb;have h6:=h.sn.len
 have hL:st.L=⟨((102:Nat):Int),((n-102:Nat):Int),st.First,(u:Int)⟩:=by rw [h.sn.lg,show ((n-102:Nat):Int)=(n:Int)-102 by omega];rfl
 have ha:lX ⟨((102:Nat):Int),((n-102:Nat):Int),st.First,(u:Int)⟩ l=0:=JV h0 aB h1
 have hgood:=h.sn.rows.apply h1 ae
 have hnew:cm st.Rows l=kG b (W++[l]):=by grind [IY]
 rcases Q6 (f:=102) (k:=n-102) h.rest ae ae ae SU ha with ⟨e,q1,q2,q3,q4,q5⟩ | ⟨e,q1,q2,q3⟩
 .
  left
  have hlen:e.Now.length=d.Now.length:=by rw [q2.ok.nl,h6]
  refine ⟨e,uU st ⟨102,(n:Int)-102,st.First,((u+l.length+1:Nat):Int)⟩ (cm st.Rows l),?_,⟨q2,h.sn.U2 hlen q3 hb hz hh q4 hnew hgood⟩,rfl,q5⟩
  rw [hL,q1]
  show (_,_,_)=((⟨102,(n:Int)-102,st.First,((u+l.length+1:Nat):Int)⟩:Lg),e,(0:Int))
  grind
 right
 refine ⟨e,aB,q2,fun z=>?_⟩
 obtain ⟨a1,a2,W',u',a3,a4⟩:=q3 z
 have hrs:Rest n (iE e z):=⟨a1,rfl,by show (-1:Int) <= -1;decide,rfl,rfl⟩
 have hlen:(oU z e.Wait e.Kept).length=d.Now.length:=by have:=a1.nl;rw [h6];exact this
 rcases a4 with a4|a4
 .exact ⟨_,u',⟨hrs,h.sn.U2 (l':=oU z e.Wait e.Kept) hlen a2 hb hz hh a3 (rows:=st.Rows) aB h.sn.rows⟩,.inl rfl⟩
 exact ⟨_,u',⟨hrs,h.sn.U2 (l':=oU z e.Wait e.Kept) hlen a2 hb hz hh a3 (rows:=cm st.Rows l) aB hgood⟩,.inr rfl⟩
theorem SV.up (h:SV n d st u t){t':Nat}(ht:t<=t'):SV n d st u t':=⟨h.rest,h.sn.up ht⟩
theorem tN (h:SV n d st u t)(ht:t<=9999)(hf:ni st d.Now.length l=0) :
 (∃e st' u',bT st d l=(st',e,0)/\SV n e st' u' (t+1)/\st'.Rows=cm st.Rows l/\(d.Fuse = -1->e.Fuse = -1)/\(u':Int)=(if st.L.Many-st.L.Next<(l.length:Int)+1 then 0 else (u:Int))+(l.length:Int)+1) ∨
 (∃e st1,bT st d l=(st1,e,10)/\¬ d.Fuse = -1/\gy n 4000 e /\ ∀z,∃st' u',SV n (iE e z) st' u' (t+1)/\(st'.Rows=st.Rows∨st'.Rows=cm st.Rows l)):=by
 have hf2:=hf
 have h6:=h.sn.len;have h3:=h.sn.nb
 unfold ni at hf2
 split at hf2
 .omega
 rename_i h0
 split at hf2
 .omega
 rename_i h1
 have h1:iF l=0:=ae
 split at hf2
 .omega
 rename_i h2
 have h2a:¬ 60<(cm st.Rows l).length:=fun hh=>h2 (.inl hh)
 have h2b:¬ (d.Now.length:Int)-102<(l.length:Int)+1:=fun hh=>h2 (.inr hh)
 by_cases hr:st.L.Many-st.L.Next<(l.length:Int)+1
 .
  rw [if_pos hr]
  rcases GA h ht with ⟨e1,s1,c1,c2,c3,c4⟩ | ⟨e1,c1,c2,c3,c4⟩
  .
   have hM:s1.L.Many=(n:Int)-102/\s1.L.Next=0:=by rw [c2.sn.lg];grind
   have hz:(cX st d).2.2=0:=by rw [c1]
   rcases GB (l:=l) c2 ae h0 h1 aB ae with ⟨e,s2,a1,a2,a3,a4⟩ | ⟨e,a1,a2,a3⟩
   .
    left
    have hc:=SH hf hr hz aB
    rw [c1] at hc;dsimp only at hc;rw [a1] at hc;dsimp only at hc
    rw [c3] at a3
    refine ⟨e,s2,0+l.length+1,hc.trans aB,a2,by rw [a3];rfl,fun hq=>a4 (c4 hq),ae⟩
   right
   have hc:=SI hf hr hz aB
   rw [c1] at hc;dsimp only at hc;rw [a1] at hc;dsimp only at hc
   have hO:=xU (lg:=s1.L) (c:=l) c2.rest.ok
   rw [a1] at hO
   refine ⟨e,_,hc,fun hq=>a2 (c4 hq),hO.up ae,fun z=>?_⟩
   simp_all
  right
  have hc:=SG hf hr aB
  rw [c1] at hc
  refine ⟨e1,st,hc,c2,c3.up ae,fun z=>?_⟩
  obtain ⟨st',u',b1,b2⟩:=c4 z
  grind
 rw [if_neg hr]
 rcases GB (l:=l) h ae h0 h1 h2a hr with ⟨e,s2,a1,a2,a3,a4⟩ | ⟨e,a1,a2,a3⟩
 .
  left
  have hc:=SJ hf hr (by rw [a1])
  rw [a1] at hc;dsimp only at hc
  exact ⟨e,s2,u+l.length+1,hc.trans aB,a2.up ae,by rw [a3];rfl,a4,ae⟩
 right
 have hc:=SK hf hr aB
 rw [a1] at hc;dsimp only at hc
 have hO:=xU (lg:=st.L) (c:=l) h.rest.ok
 rw [a1] at hO
 refine ⟨e,_,hc,a2,hO.up ae,fun z=>?_⟩
 obtain ⟨st',u',b1,b2⟩:=a3 z
 exact ⟨st',u',b1.up ae,b2⟩
theorem xn:∀ (k i:Nat) (d:cU),d.Down=false->d.Fuse = -1->d.Now=List.replicate n (xS 48)->i+k<=n -> ∃T,kF k i (d,0)=(⟨d.Kept,d.Now,T,-1,false⟩,0)
 | 0,i,d,h1,h2,h3,h4=>⟨d.Wait,by rw [kF];obtain ⟨a,b,c,g,q⟩:=d;grind⟩
 | k+1,i,d,h1,h2,h3,h4=>by
  have hw:=jz (d:=d) (i:=(i:Int)) (x:=⟨#[]⟩) h1 h2 ae aB aD
  rw [Int.toNat_natCast,FL] at hw
  have hset:d.Now.set i (xS 48)=d.Now:=tT
  rw [hset] at hw
  rw [kF,if_pos rfl,hw]
  exact xn k (i+1) ⟨d.Kept,d.Now,d.Wait++[⟨(i:Int),xS 48⟩],-1,false⟩ rfl rfl h3 ae
theorem CK {m:Nat}:∀ (k i:Nat) (s:cU×Int) (m:Nat),gy n m s.1->gy n (m+k) (kF k i s).1
 | 0,i,s,m,h=>h
 | k+1,i,s,m,h=>by
  rw [kF];split
  .exact (CK (m:=m) k (i+1) _ (m+1) (h.write _ _)).up ae
  exact h.up ae
def st0 (n:Nat):p6:=⟨1,0,0,1,⟨102,(n:Int)-102,1,0⟩,[]⟩
theorem Q9 (h1:166<=n)(h2:n<=200):∃e,ey (dNew n)=(e,0)/\SV n e (st0 n) 0 0/\e.Fuse = -1:=by
 have hl:(dNew n).Now.length=n:=by simp [dNew]
 have w0:=jz (d:=dNew n) (i:=0) (x:=⟨#[]⟩) rfl rfl aD ae aD
 have hN:(dNew n).Now=List.replicate n (xS 48):=rfl
 rw [show Int.toNat 0=0 from rfl,FL,hN,List.set_replicate_self] at w0
 obtain ⟨T,hT⟩:=xn (n:=n) (n-102) 102 ⟨(dNew n).Kept,List.replicate n (xS 48),(dNew n).Wait++[⟨0,xS 48⟩],-1,false⟩ rfl rfl rfl ae
 have f1:AW (dNew n)=(⟨(dNew n).Kept,List.replicate n (xS 48),T,-1,false⟩,0):=by
  grind [AW]
 have f2:=lU (d:=⟨(dNew n).Kept,List.replicate n (xS 48),T,-1,false⟩) rfl rfl
 have f3:=jz (d:=⟨List.replicate n (xS 48),List.replicate n (xS 48),[],-1,false⟩) (i:=1) (x:=aS ⟨1,0,0,1⟩) rfl rfl aD aB (by grind [Ai])
 rw [show Int.toNat 1=1 from rfl] at f3
 dsimp only at f2 f3
 have f4:=lU (d:=⟨List.replicate n (xS 48),(List.replicate n (xS 48)).set 1 (full (aS ⟨1,0,0,1⟩)),[]++[⟨1,full (aS ⟨1,0,0,1⟩)⟩],-1,false⟩) rfl rfl
 dsimp only at f4
 have hok:gy n 2000 (⟨(List.replicate n (xS 48)).set 1 (full (aS ⟨1,0,0,1⟩)),(List.replicate n (xS 48)).set 1 (full (aS ⟨1,0,0,1⟩)),[],-1,false⟩:cU):=by
  have k1:=CK (m:=0) (n-102) 102 (aC (dNew n) 0 ⟨#[]⟩) 1 ((Dj n).write 0 ⟨#[]⟩)
  have k2:gy n (1+(n-102)) (AW (dNew n)).1:=aB
  rw [f1] at k2
  have k3:=k2.flush;rw [f2] at k3
  have k4:=k3.write 1 (aS ⟨1,0,0,1⟩);dsimp only at k4;rw [f3] at k4
  have k5:=k4.flush;dsimp only at k5;rw [f4] at k5
  exact k5.up ae
 refine ⟨_,(UT ae f1 rfl ck aB).trans aB,⟨rest_of hok rfl rfl rfl,?_⟩,rfl⟩
 refine ⟨bW,⟨h1,h2⟩,⟨by show (1:Int)<=1;decide,by show (1:Int)<=1+((0:Nat):Int);decide⟩,⟨by show (1:Int)<=1;decide,by show (1:Int)<=1+100*((0:Nat):Int);decide⟩,.inl rfl,?_,fun s hs=>?_,rfl,oy.nil,[],[],oy.nil,rfl,fun k hk=>?_,iG.blank 1 fun s hs=>?_,rfl⟩
 .
  show ((List.replicate n (xS 48)).set 1 (full (aS ⟨1,0,0,1⟩)))[1]? = some (full (aS ⟨1,0,0,1⟩))
  grind
 .
  have hs':((List.replicate n (xS 48)).set 1 (full (aS ⟨1,0,0,1⟩)))[0]? = some s:=hs
  rw [List.getElem?_set_ne aD,List.getElem?_replicate] at hs'
  rw [if_pos ae] at hs'
  rw [<- Option.some.inj hs',Ly];show (0:Int)<1;decide
 .
  have:(aK []).size=0:=rfl
  omega
 grind [List.drop_set_of_lt,FK]
end
end
section
open Go Go.RowKit
structure j3 where
  Rows:List Change
  Used:Int
  Many:Int
def LC (m:j3)(l:List Change):Int:=if 62<l.length then 2 else if ¬ iF l=0 then iF l else if 60<(ej m.Rows l).length∨m.Many<(l.length:Int)+1 then 9 else 0
def lA (m:j3)(l:List Change):j3×Int :=
  if ¬ LC m l=0 then (m,LC m l) else (⟨ej m.Rows l,(if m.Many-m.Used<(l.length:Int)+1 then 0 else m.Used)+(l.length:Int)+1,m.Many⟩,0)
section
variable {m:j3} {l:List Change}
theorem Zo (h:62<l.length):lA m l=(m,2):=by
 have hf:LC m l=2:=if_pos h
 unfold lA;rw [hf,if_pos aD]
theorem Zp {e:Int}(h0:¬ 62<l.length)(he:iF l=e)(h:¬ e=0):lA m l=(m,e):=by
 have hf:LC m l=e:=by unfold LC;rw [if_neg h0,if_pos (by rw [he];exact h),he]
 unfold lA;rw [hf,if_pos h]
theorem XT (h0:¬ 62<l.length)(h1:iF l=0)(h:60<(ej m.Rows l).length∨m.Many<(l.length:Int)+1):lA m l=(m,9):=by
 have hf:LC m l=9:=by unfold LC;rw [if_neg h0,if_neg (by rw [h1];decide),if_pos h]
 unfold lA;rw [hf,if_pos aD]
theorem XU {q:Int}(h0:¬ 62<l.length)(h1:iF l=0)(h:¬ (60<(ej m.Rows l).length∨m.Many<(l.length:Int)+1))(hq:q=(if m.Many-m.Used<(l.length:Int)+1 then 0 else m.Used)+(l.length:Int)+1):lA m l=(⟨ej m.Rows l,q,m.Many⟩,0):=by
 have hf:LC m l=0:=by unfold LC;rw [if_neg h0,if_neg (by rw [h1];decide),if_neg h]
 unfold lA;rw [hf,if_neg aD,hq]
end
theorem xo (Hc:Nat)(mD:Value)(m:j3)(bL:Value)(l:List Change)(w:World)(own:List Nat)(H:HN w own [aj.box Hc [mD,iV m.Used,iV m.Many] 41] [aj.ls mD m.Rows,aj.ls bL l])(hb:0<=m.Many/\m.Many<=1000/\0<=m.Used/\m.Used<=1000/\m.Rows.length<=1000/\l.length<=10000):RC Tryz.prog 26 #[.pointer (some ⟨Hc,0,none⟩),bL] H (fun _:Value=>iV (lA m l).2) (fun z=>[aj.box Hc [z,iV (lA m l).1.Used,iV (lA m l).1.Many] 41]) (fun z=>[aj.ls z (lA m l).1.Rows]):=by
 have XV:=H.bD 0 rfl
 have AP:=H.bD 1 rfl
 refine R.bE [(0,.pointer (some ⟨Hc,0,none⟩)),(1,bL)] Tryz.func26 O O O O H<|R.reg O<|R.ur 1 O O<|R.u 1 O<|R.q (q.len' (cb 1 O) O Tryz.underlying34) O<|?_
 by_cases h1:62<l.length
 .
  refine R.q (q.sV O O) O<|R.nA O O O<|R.un 1 O ?_
  have hz:lA m l=(m,2):=by (exact Zo af)
  rw [hz]
  exact R.w1 mD [0,1] [0] O Tryz.results26 (RV.tmp O) O O O O
 refine R.q (q.sW O O) O<|R.nB O O O<|R.un 1 O<|R.loop (fun i:Nat=>[(0,.pointer (some ⟨Hc,0,none⟩)),(1,bL),(5,iV (i:Int))]) (fun i:Nat=>[aj.box Hc [mD,iV m.Used,iV m.Many] 41,aj.held w own]) (fun i:Nat=>[aj.ls mD m.Rows,aj.ls bL l]) (fun i:Nat=>i<=l.length/\iF (l.drop i)=iF l) (fun i:Nat=>l.length-i) 0 O (by exact ⟨ae,rfl⟩) (sF O) (eI [0,1] [0,1] O) ?_
 rintro i ⟨hi,HL⟩
 refine R.reg O<|R.u 2 O<|R.q (q.len' (cb 1 O) O Tryz.underlying34) O<|?_
 by_cases h2:i<l.length
 .
  refine R.q (q.Ks O O) O<|R.nA O O O<|R.u 2 O<|?_
  obtain ⟨x1,hx1⟩:=gE l i
  have QN:=jP x1
  refine R.q (q.idx (i:=i) (cb 1 O) O O bj O hx1) O<|R.q (q.dj (ds:=dS x1) (cb 1 O) hx1 O bK O) O<|R.c (q.call Xd O O (fun w hw=>(xB x1 w ))) O<|R.un 1 O ?_
  refine R.reg O<|R.u 1 O<|?_
  by_cases h3:0<gY x1
  .
   refine R.q (q.sV O O) O<|R.nA O O O<|R.un 2 O ?_
   have hz:lA m l=(m,gY x1):=by (exact Zp ae (Dz HL hx1 ae) ae)
   rw [hz]
   exact R.w1 mD [0,1] [0] O Tryz.results26 (RV.tmp O) O O O O
  refine R.q (q.sW O O) O<|R.nB O O O<|R.u 1 O<|R.q (q.aL (r:=((i+1:Nat):Int)) O O) O<|R.un 1 O<|R.back (i+1) O (by (exact ⟨ae,Ns HL hx1 ae⟩)) ae (sF O) (aN [0,1] [0,1] O)
 refine R.q (q.Hg O O) O<|R.nF O O ?_
 have g0:iF l=0:=H0 HL ae;have ha2:=pL l m.Rows
 refine R.reg O<|R.u 1 O<|R.q (q.fD O) O<|R.q (q.jA O vN O) O<|R.q (q.ld 0 O O jv O) O<|R.u 1 O<|R.s O (s.aT [0,1] [0,1] _ _ _ O O O Xe O O (fun w own hw H=>Gf mD m.Rows bL l w own H ae) O) fun z1=>?_
 refine R.ur 1 O O<|R.u 1 O<|R.q (q.len' (bH 0 O) O Tryz.underlying34) O<|?_
 by_cases h4:60<(ej m.Rows l).length
 .
  refine R.q (q.sV O O) O<|R.u 10 O<|R.nA O O O<|R.un 1 O ?_
  have hz:lA m l=(m,9):=by (exact XT ae g0 (by exact .inl af))
  rw [hz]
  exact R.w1 mD [1,2] [0] O Tryz.results26 (RV.tmp O) O O O O
 refine R.q (q.sW O O) O<|R.u 2 O<|R.qg O (q.len' (cb 1 O) O Tryz.underlying34) O<|R.qg O (q.aL (r:=((l.length+1:Nat):Int)) O O) O<|R.u 1 O<|R.qg O (q.fD O) O<|R.qg O (q.jA O vO O) O<|R.qg O (q.ld 1 O O bg O) O<|?_
 by_cases h5:m.Many<((l.length+1):Int)
 .
  refine R.qg O (q.sV O O) O<|R.u 1 O<|R.nA O O O<|R.un 1 O ?_
  have hz:lA m l=(m,9):=by (exact XT ae g0 (by exact .inr ae))
  rw [hz]
  exact R.w1 mD [1,2] [0] O Tryz.results26 (RV.tmp O) O O O O
 refine R.qg O (q.sW O O) O<|R.u 1 O<|R.nF O O ?_
 by_cases h6:(m.Many-m.Used)<((l.length+1):Int)
 .
  refine R.dA O mixed ai<|Q.u 1 O<|Q.q (q.len' (cb 1 O) O Tryz.underlying34) O<|Q.q (q.aL (r:=((l.length+1:Nat):Int)) O O) O<|Q.u 1 O<|Q.q (q.fD O) O<|Q.q (q.jA O vO O) O<|Q.q (q.ld 1 O O bg O) O<|Q.u 1 O<|Q.q (q.fD O) O<|Q.q (q.jA O kg O) O<|Q.q (q.ld 1 O O bg O) O<|Q.q (q.kL (r:=m.Many-m.Used) O O) O<|Q.q (q.sV O O) O<|Q.nil<|R.nV O O<|R.reg O<|R.u 1 O<|R.q (q.fD O) O<|R.q (q.jA O kg O) O<|R.s O (s.st 1 _ O O O O (.inr ⟨bg,rfl⟩) O O O O) fun _=>?_
  refine R.nr O<|R.u 2 O<|R.q (q.fD O) O<|R.q (q.jA O kg O) O<|R.q (q.ld 1 O O bg O) O<|R.u 1 O<|R.q (q.len' (cb 1 O) O Tryz.underlying34) O<|R.q (q.aL (r:=((0+l.length:Nat):Int)) O O) O<|R.q (q.aL (r:=(((0+l.length)+1:Nat):Int)) O O) O<|R.q (q.fD O) O<|R.q (q.jA O kg O) O<|R.s O (s.st 1 _ O O O O (.inr ⟨bg,rfl⟩) O O O O) fun _=>?_
  refine R.nr O<|R.u 2 O<|R.q (q.fD O) O<|R.q (q.jA O vN O) O<|R.s O (s.dE 1 _ O O O (fun w hw=>Sl.bF (hw.row 0 O)) (.inr ⟨jv,rfl⟩) (fun w hw=>(aJ (Sl.one (hw.row 0 O)) bq)) O O O) fun _=>?_
  refine R.nr O<|R.un 1 O<|R.mp (fun _ hw=>hw.bu 0 _ O O) ?_
  have hz:lA m l=((⟨ej m.Rows l,(((0+l.length)+1):Int),m.Many⟩:j3),0):=by (exact XU ae g0 (by intro hh;rcases hh with hh|hh <;> (exact absurd hh af)) (by split <;> omega))
  rw [hz]
  exact R.w1 z1 [0,1] [0] O Tryz.results26 (RV.tmp O) O O O O
 refine R.dA O mixed ai<|Q.u 1 O<|Q.q (q.len' (cb 1 O) O Tryz.underlying34) O<|Q.q (q.aL (r:=((l.length+1:Nat):Int)) O O) O<|Q.u 1 O<|Q.q (q.fD O) O<|Q.q (q.jA O vO O) O<|Q.q (q.ld 1 O O bg O) O<|Q.u 1 O<|Q.q (q.fD O) O<|Q.q (q.jA O kg O) O<|Q.q (q.ld 1 O O bg O) O<|Q.q (q.kL (r:=m.Many-m.Used) O O) O<|Q.q (q.sW O O) O<|Q.nil<|R.mg O O<|R.reg O<|R.u 2 O<|R.q (q.fD O) O<|R.q (q.jA O kg O) O<|R.q (q.ld 1 O O bg O) O<|R.u 1 O<|R.q (q.len' (cb 1 O) O Tryz.underlying34) O<|R.q (q.aL (r:=m.Used+(l.length:Int)) O O) O<|R.q (q.aL (r:=(m.Used+(l.length:Int))+1) O O) O<|R.q (q.fD O) O<|R.q (q.jA O kg O) O<|R.s O (s.st 1 _ O O O O (.inr ⟨bg,rfl⟩) O O O O) fun _=>?_
 refine R.nr O<|R.u 2 O<|R.q (q.fD O) O<|R.q (q.jA O vN O) O<|R.s O (s.dE 1 _ O O O (fun w hw=>Sl.bF (hw.row 0 O)) (.inr ⟨jv,rfl⟩) (fun w hw=>(aJ (Sl.one (hw.row 0 O)) bq)) O O O) fun _=>?_
 refine R.nr O<|R.un 1 O<|R.mp (fun _ hw=>hw.bu 0 _ O O) ?_
 have hz:lA m l=((⟨ej m.Rows l,(m.Used+(l.length:Int))+1,m.Many⟩:j3),0):=by (exact XU ae g0 (by intro hh;rcases hh with hh|hh <;> (exact absurd hh af)) (by split <;> omega))
 rw [hz]
 exact R.w1 z1 [0,1] [0] O Tryz.results26 (RV.tmp O) O O O O
end
section
open Go Go.RowKit
section
variable {n u t:Nat} {sc:jK} {lg:Lg} {d:cU} {l:List Change} {m:j3}
theorem Ef (s:p6):mkS s.c s.L=s:=rfl
theorem SV.ok (h:SV n d (mkS sc lg) u t):gy d.Now.length 60000 d/\d.Now.length<=200/\166<=d.Now.length:=by
 have h1:=h.sn.len;have h2:=h.sn.nb
 exact ⟨h1.symm▸h.rest.ok.up ae,ae,ae⟩
theorem SV.bnd (h:SV n d (mkS sc lg) u t)(ht:t<=10000):0<=sc.Epoch/\sc.Epoch<=1000000000/\0<=sc.Side/\sc.Side<=1/\0<=lg.Many/\lg.Many<=1000/\1<=lg.First/\lg.First<=1000000000/\0<=lg.From/\lg.From<=1000/\0<=lg.Next/\lg.Next<=1000:=by
 have e1:1<=sc.Epoch/\sc.Epoch<=1+(t:Int):=h.sn.eb
 have e2:1<=sc.First/\sc.First<=1+100*(t:Int):=h.sn.fb
 have e3:sc.Side=0∨sc.Side=1:=h.sn.sd
 have e4:lg=⟨102,(n:Int)-102,sc.First,(u:Int)⟩:=h.sn.lg
 have e5:=h.sn.nb;have e6:=h.sn.len
 obtain ⟨b,W,_,_,_,hl,_⟩:=h.sn.base
 have e7:=hl.ule
 rw [List.length_drop] at e7
 rw [e4];dsimp only
 refine ⟨?_,?_,?_,?_,?_,?_,?_,?_,?_,?_,?_,?_⟩ <;> omega
theorem SV.good (h:SV n d (mkS sc lg) u t):sc.Rows.length<=60/\(∀c∈sc.Rows,gY c=0)/\dN sc.Rows:=⟨h.sn.rows.len,h.sn.rows.ok,h.sn.rows.rise⟩
theorem SV.room (h:SV n d (mkS sc lg) u t):lg.Many=(n:Int)-102/\lg.Next=(u:Int)/\d.Down=false/\d.Now.length=n/\166<=n/\n<=200:=by
 have e4:lg=⟨102,(n:Int)-102,sc.First,(u:Int)⟩:=h.sn.lg
 exact ⟨by rw [e4],by rw [e4],h.rest.down,h.sn.len,h.sn.nb.1,h.sn.nb.2⟩
theorem SV.opened (h:SV n d (mkS sc lg) u t)(ht:t<=10000):ki d=0/\(bM d).c=sc/\(bM d).L=lg:=by
 obtain ⟨h1,h2⟩:=Am h.rest.ok h.rest.down h.sn ht
 exact ⟨h1,by rw [h2];rfl,by rw [h2];rfl⟩
theorem U3 (h:SV n d (mkS sc lg) u t)(h1:m.Rows=sc.Rows)(h3:m.Many=(n:Int)-102):LC m l=ni (mkS sc lg) d.Now.length l:=by
 have e:ej m.Rows l=cm sc.Rows l:=by rw [h1];exact (uF l h.good.2.2).symm
 unfold LC ni;rw [e,h3,h.sn.len];rfl
theorem GD (h:SV n d (mkS sc lg) u t)(ht:t<=9999)(hf:d.Fuse = -1)(h1:m.Rows=sc.Rows)(h2:m.Used=(u:Int))(h3:m.Many=(n:Int)-102) :
 (bT (mkS sc lg) d l).2.2=(lA m l).2/\(lA m l).1.Many=(n:Int)-102/\(lA m l).1.Rows=(bT (mkS sc lg) d l).1.c.Rows/\(bT (mkS sc lg) d l).2.1.Fuse = -1 /\
 ∃u',SV n (bT (mkS sc lg) d l).2.1 (mkS (bT (mkS sc lg) d l).1.c (bT (mkS sc lg) d l).1.L) u' (t+1)/\(lA m l).1.Used=(u':Int):=by
 have hF:=U3 (l:=l) h h1 h3
 have e:ej m.Rows l=cm sc.Rows l:=by rw [h1];exact (uF l h.good.2.2).symm
 have hr:=h.room
 by_cases hc:ni (mkS sc lg) d.Now.length l=0
 .
  have hm:lA m l=(⟨ej m.Rows l,(if m.Many-m.Used<(l.length:Int)+1 then 0 else m.Used)+(l.length:Int)+1,m.Many⟩,0):=by
   unfold lA;rw [hF,hc,if_neg aD]
  rcases tN h ht hc with ⟨e1,s1,u1,a1,a2,a3,a4,a5⟩ | ⟨e1,s1,a1,a2,_⟩
  .
   rw [a1,hm]
   dsimp only
   rw [Ef]
   refine ⟨rfl,h3,?_,a4 hf,u1,a2,?_⟩
   .rw [e];exact a3.symm
   rw [a5,h3,h2]
   have:(mkS sc lg).L.Many-(mkS sc lg).L.Next=(n:Int)-102-(u:Int):=by
    show lg.Many-lg.Next=_
    rw [hr.1,hr.2.1]
   rw [this]
  exact absurd hf a2
 have hm:lA m l=(m,ni (mkS sc lg) d.Now.length l):=by
  unfold lA;rw [hF,if_pos hc]
 have hs:bT (mkS sc lg) d l=(mkS sc lg,d,ni (mkS sc lg) d.Now.length l):=by
  unfold bT;rw [if_pos hc]
 rw [hs,hm]
 exact ⟨rfl,h3,h1,hf,u,h.up (Nat.le_succ t),h2⟩
theorem Ra (h:SV n d (mkS sc lg) u t)(ht:t<=9999)(hf:d.Fuse = -1) :
 (cX (mkS sc lg) d).2.2=0/\(cX (mkS sc lg) d).1.c.Rows=sc.Rows/\(cX (mkS sc lg) d).2.1.Fuse = -1/\SV n (cX (mkS sc lg) d).2.1 (mkS (cX (mkS sc lg) d).1.c (cX (mkS sc lg) d).1.L) 0 (t+1):=by
 rcases GA h ht with ⟨e1,s1,a1,a2,a3,a4⟩ | ⟨e1,a1,a2,_⟩
 .rw [a1];exact ⟨rfl,a3,a4 hf,a2⟩
 exact absurd hf a2
theorem OW {k:Nat}(h1:166<=k)(h2:k<=200):(ey (dNew k)).2=0/\(ey (dNew k)).1.Fuse = -1/\ki (ey (dNew k)).1=0/\SV k (ey (dNew k)).1 (mkS (bM (ey (dNew k)).1).c (bM (ey (dNew k)).1).L) 0 0/\(bM (ey (dNew k)).1).c.Rows=[]:=by
 obtain ⟨e,q1,q2,q3⟩:=Q9 h1 h2
 have q4:=Am q2.rest.ok q2.rest.down q2.sn ae
 rw [q1];dsimp only
 rw [q4.2,Ef]
 exact ⟨rfl,q3,q4.1,q2,rfl⟩
end
end
section
open Go Go.RowKit
section
variable {n u t:Nat} {st:p6} {sc:jK} {lg:Lg} {d:cU} {l:List Change}
theorem SV.reopen (h:SV n d st u t)(ht:t<=10000):ki d=0/\SV n d (mkS (bM d).c (bM d).L) u t/\(bM d).c.Rows=st.Rows:=by
 obtain ⟨h1,h2⟩:=Am h.rest.ok h.rest.down h.sn ht
 rw [h2,Ef];exact ⟨h1,h,rfl⟩
end
end
section
open Go Go.RowKit
structure kN where
  R:av
abbrev Z8:Type:=kN×jK×cU×Lg×Int
abbrev kO (a b:av):List Change:=im (nI (aY a) (aY b))
def Zq (k:kN)(r:av)(c:p6×cU×Int):Z8:=if c.2.2=0 then (⟨r⟩,c.1.c,c.2.1,c.1.L,c.2.2) else (k,c.1.c,c.2.1,c.1.L,c.2.2)
def fw (k:kN)(sc:jK)(d:cU)(lg:Lg)(z:av×Int):Z8 :=
  if ¬ z.2=0 then (k,sc,d,lg,z.2) else if 0<(kO k.R z.1).length then Zq k z.1 (bT (mkS sc lg) d (kO k.R z.1)) else (⟨z.1⟩,sc,d,lg,z.2)
section
variable {k:kN} {sc:jK} {d:cU} {lg:Lg} {z:av×Int}
theorem SY (h:¬ z.2=0):fw k sc d lg z=(k,sc,d,lg,z.2):=if_pos h
theorem OX (h:z.2=0)(h1:¬ 0<(kO k.R z.1).length):fw k sc d lg z=(⟨z.1⟩,sc,d,lg,z.2):=by unfold fw;rw [if_neg ae,if_neg h1]
theorem OY (h:z.2=0)(h1:0<(kO k.R z.1).length)(h2:(bT (mkS sc lg) d (kO k.R z.1)).2.2=0):fw k sc d lg z=(⟨z.1⟩,(bT (mkS sc lg) d (kO k.R z.1)).1.c,(bT (mkS sc lg) d (kO k.R z.1)).2.1,(bT (mkS sc lg) d (kO k.R z.1)).1.L,(bT (mkS sc lg) d (kO k.R z.1)).2.2):=by unfold fw;rw [if_neg ae,if_pos h1];exact if_pos h2
theorem OZ (h:z.2=0)(h1:0<(kO k.R z.1).length)(h2:¬ (bT (mkS sc lg) d (kO k.R z.1)).2.2=0):fw k sc d lg z=(k,(bT (mkS sc lg) d (kO k.R z.1)).1.c,(bT (mkS sc lg) d (kO k.R z.1)).2.1,(bT (mkS sc lg) d (kO k.R z.1)).1.L,(bT (mkS sc lg) d (kO k.R z.1)).2.2):=by unfold fw;rw [if_neg ae,if_pos h1];exact if_neg h2
end
structure KI (d:cU)(sc:jK)(lg:Lg)(r:av)(u t:Nat):Prop where
  sv:SV 170 d (mkS sc lg) u t
  rows:sc.Rows=aY r
  inv:Inv r
section
variable {d e:cU} {sc:jK} {lg:Lg} {r:av} {u t k:Nat} {a:fL} {z:av×Int}
theorem KI.up (h:KI d sc lg r u t){t':Nat}(ht:t<=t'):KI d sc lg r u t':=⟨h.sv.up ht,h.rows,h.inv⟩
theorem uY {a b:av}(ha:Inv a)(hb:Inv b):kO a b=bI (aY a) (aY b):=FX (eY ha) (eY hb)
theorem KI.com (h:KI d sc lg r u t){q:av}(hq:Inv q)(hl:(kO r q).length<=59):ni (mkS sc lg) d.Now.length (kO r q)=0:=by
 have e:=uY h.inv hq
 have h1:=h.sv.room
 have ha:cm (mkS sc lg).Rows (kO r q)=aY q:=by
  show cm sc.Rows _=_
  rw [e,h.rows];exact DC h.inv hq
 unfold ni
 rw [if_neg ae,if_neg (by rw [e,TK h.inv hq];decide),if_neg]
 rw [ha]
 have:=iN hq
 omega
theorem U4 (h:Inv r){q:av}(hq:Inv q)(hl:¬ 0<(kO r q).length):aY q=aY r:=by
 have h1:bI (aY r) (aY q)=[]:=by rw [<- uY h hq];exact List.eq_nil_of_length_eq_zero ae
 have h2:=DC h hq
 rw [h1] at h2;exact h2.symm
theorem KI.do (h:KI d sc lg r u t)(ht:t<=9999)(hz:z.2=0->Inv z.1/\(kO r z.1).length<=59) :
 (¬ z.2=0->fw ⟨r⟩ sc d lg z=(⟨r⟩,sc,d,lg,z.2)) /\
 (z.2=0->((fw ⟨r⟩ sc d lg z).2.2.2.2=0/\(fw ⟨r⟩ sc d lg z).1.R=z.1/\(d.Fuse = -1->(fw ⟨r⟩ sc d lg z).2.2.1.Fuse = -1) /\ ∃u2,KI (fw ⟨r⟩ sc d lg z).2.2.1 (fw ⟨r⟩ sc d lg z).2.1 (fw ⟨r⟩ sc d lg z).2.2.2.1 z.1 u2 (t+1)) ∨
  ((fw ⟨r⟩ sc d lg z).2.2.2.2=10/\(fw ⟨r⟩ sc d lg z).1.R=r/\¬ d.Fuse = -1/\gy 170 4000 (fw ⟨r⟩ sc d lg z).2.2.1 /\
   ∀q,∃sc' Z9 u2,KI (iE (fw ⟨r⟩ sc d lg z).2.2.1 q) sc' Z9 r u2 (t+1)∨KI (iE (fw ⟨r⟩ sc d lg z).2.2.1 q) sc' Z9 z.1 u2 (t+1))):=by
 refine ⟨fun h0=>SY h0,fun h0=>?_⟩
 obtain ⟨hi,hl⟩:=hz h0
 by_cases h1:0<(kO r z.1).length
 .
  have hc:=h.com hi hl
  have happ:cm (mkS sc lg).Rows (kO r z.1)=aY z.1:=by
   show cm sc.Rows _=_
   rw [uY h.inv hi,h.rows];exact DC h.inv hi
  have hst:∀s:p6,s.c.Rows=s.Rows:=fun _=>rfl
  rcases tN h.sv ht hc with ⟨e1,s1,u1,a1,a2,a3,a4,_⟩ | ⟨e1,s1,a1,a2,a3,a4⟩
  .
   left
   rw [OY (k:=⟨r⟩) h0 h1 (by rw [a1])]
   dsimp only
   rw [a1]
   exact ⟨rfl,rfl,a4,u1,a2,(hst s1).trans (a3.trans happ),hi⟩
  right
  rw [OZ (k:=⟨r⟩) h0 h1 (by rw [a1];show ¬ (10:Int)=0;decide)]
  dsimp only
  rw [a1]
  refine ⟨rfl,rfl,a2,a3,fun q=>?_⟩
  obtain ⟨s2,u2,b1,b2⟩:=a4 q
  refine ⟨s2.c,s2.L,u2,?_⟩
  rcases b2 with b2|b2
  .exact .inl ⟨b1,(hst s2).trans (b2.trans h.rows),h.inv⟩
  exact .inr ⟨b1,(hst s2).trans (b2.trans happ),hi⟩
 left
 rw [OX (k:=⟨r⟩) h0 h1]
 exact ⟨h0,rfl,id,u,h.sv.up (Nat.le_succ t),h.rows.trans (U4 h.inv hi h1).symm,hi⟩
theorem KI.save (h:KI d sc lg r u t)(ht:t<=9999)(hf:d.Fuse = -1):(cX (mkS sc lg) d).2.2=0/\(cX (mkS sc lg) d).2.1.Fuse = -1/\KI (cX (mkS sc lg) d).2.1 (cX (mkS sc lg) d).1.c (cX (mkS sc lg) d).1.L r 0 (t+1):=by
 obtain ⟨a1,a2,a3,a4⟩:=Ra h.sv ht hf
 exact ⟨a1,a3,a4,a2.trans h.rows,h.inv⟩
theorem KI.opened (h:KI d sc lg r u t)(ht:t<=9999):ki d=0/\(bM d).c=sc/\(bM d).L=lg/\cr sc.Rows=(aP r,0)/\KI d sc lg (aP r) u t:=by
 obtain ⟨a1,a2,a3⟩:=h.sv.opened ae
 exact ⟨a1,a2,a3,by rw [h.rows];exact xb h.inv,h.sv,h.rows.trans (zx h.inv).symm,(ic h.inv).1⟩
theorem xZ (h:Inv r)(a:fL):(cp r a).2=0->Inv (cp r a).1/\(kO r (cp r a).1).length<=59:=fun hm=>⟨h.do hm,by rw [uY h (h.do hm)];exact TJ h hm⟩
end
end
section
open Go Go.RowKit
attribute [local irreducible] dNew ey bM ki bT
theorem ct {α:Type}{c:Prop}[Decidable c]{x y:α×Int}(h:0<=x.2)(h':0<=y.2):0<=(if c then x else y).2:=by split <;> assumption
theorem sq {r:av}(a:fL):0<=(cp r a).2:=by
 have hd:=fun (w:ap) id rg b=>iL w id rg b
 have dn:∀ (w:ap) id rg b,0<=(derived w id rg b).2:=fun w id rg b=>by have:=hd w id rg b;omega
 have hT:0<=(cM r a.P).2.2.2:=by
  have:=jj r a.P 2 1;unfold cM;(repeat' split) <;> first|(dsimp only;omega)|omega
 unfold cp
 refine ct ?_ (ct ?_ (ct ?_ (ct ?_ (ct ?_ (ct ?_ (ct ?_ (ct hT (Int.le_refl 0))))))))
 .exact ct (ct (ct aD Ex) (gj r a.P)) aD
 .exact ct (ct (ct (ct aD (ct Ex (dn _ _ _ _))) aD) (gj r a.Q)) (ft r a.P)
 .exact ct (ct Ex (gj r _)) (ft r a.P)
 .exact ct Ex (ft r a.P)
 .exact ct Ex (ft r a.P)
 .exact ct (ct aD Ex) (jj r a.P 1 2)
 refine ct (ct aD (ct aD (ct Ex (ct ?_ aD)))) (jj r a.P 2 2)
 exact ct (ct aD (ct Ex (dn _ _ _ _))) (ft r _)
abbrev nR:av:=⟨[],[],[],[],1,1⟩
theorem IZ:Ok nR:=Sz.new.ok aD
theorem jc:Inv nR:=Inv.new
theorem CL:aP nR=nR:=zf jc rfl
theorem GF:aY nR=[Fu nR]:=by unfold aY;rw [CL];rfl
def sI (d:cU):p6×cU×Int:=bT (mkS (bM (ey d).1).c (bM (ey d).1).L) (ey d).1 (aY nR)
theorem GG {dk:cU}(h:dk=dNew 170):(ey dk).2=0/\(ey dk).1.Fuse = -1/\ki (ey dk).1=0/\SV 170 (ey dk).1 (mkS (bM (ey dk).1).c (bM (ey dk).1).L) 0 0/\(bM (ey dk).1).c.Rows=[]:=by
 subst h;exact OW ae ae
def iH:cU:=(sI (dNew 170)).2.1
def iq:jK:=(bM iH).c
def nk:Lg:=(bM iH).L
noncomputable def gv:kN:=⟨(cr iq.Rows).1⟩
theorem XW:(sI (dNew 170)).2.2=0/\iH.Fuse = -1 /\ ∃s,SV 170 iH s 2 1/\s.Rows=aY nR:=by
 obtain ⟨f1,f2,f3,f4,f5⟩:=GG rfl
 have hl:(aY nR).length=1:=by rw [GF];rfl
 have hap:cm [] (aY nR)=aY nR:=by
  have:=qX (a:=[]) (b:=aY nR) List.Pairwise.nil (eY jc) (fun c hc=>(oo jc c hc).g)
  rwa [mL] at this
 have XX:cm (mkS (bM (ey (dNew 170)).1).c (bM (ey (dNew 170)).1).L).Rows (aY nR)=aY nR:=by
  show cm (bM (ey (dNew 170)).1).c.Rows _=_
  rw [f5];exact hap
 have h6:=f4.room
 have hc:ni (mkS (bM (ey (dNew 170)).1).c (bM (ey (dNew 170)).1).L) (ey (dNew 170)).1.Now.length (aY nR)=0:=by
  unfold ni
  rw [if_neg ae,if_neg (by rw [uP _ (fun c hc=>(oo jc c hc).ok)];decide),if_neg]
  rw [XX];omega
 rcases tN f4 ae hc with ⟨e1,s1,u1,a1,a2,a3,a4,a5⟩ | ⟨e1,s1,a1,a2,_⟩
 .
  have hu:u1=2:=by
   rw [hl] at a5
   split at a5 <;> omega
  subst hu
  unfold iH sI;rw [a1]
  exact ⟨rfl,a4 f2,s1,a2,a3.trans XX⟩
 exact absurd f2 a2
theorem l4:(sI (dNew 170)).2.2=0/\iH.Fuse = -1/\ki iH=0/\(cr iq.Rows).2=0/\gv.R=nR/\KI iH iq nk nR 2 1:=by
 obtain ⟨h1,h2,s,h3,h4⟩:=XW
 obtain ⟨a1,a2,a3⟩:=h3.reopen ae
 have e:iq.Rows=aY nR:=a3.trans h4
 have hp:cr iq.Rows=(nR,0):=by rw [e,xb jc,CL]
 exact ⟨h1,h2,a1,by rw [hp],by show (cr iq.Rows).1=_;rw [hp],a2,e,jc⟩
theorem Eg:(sI (dNew 170)).2.2=0/\iH.Fuse = -1/\ki iH=0/\(cr iq.Rows).2=0/\gv.R=nR /\ ∃u,KI iH iq nk nR u 1 :=
 ⟨l4.1,l4.2.1,l4.2.2.1,l4.2.2.2.1,l4.2.2.2.2.1,2,l4.2.2.2.2.2⟩
abbrev Kss:Type:=kN×jK×cU×Lg
theorem SZ {r:av}{k:Nat}(h:Sz k r)(a:fL)(hk:k<=990):(cp r a).2=0->Ok (cp r a).1:=fun _=>(MP h a).ok ae
def PI (s:Kss)(t:Nat):Prop:=(∃u,KI s.2.2.1 s.2.1 s.2.2.2 s.1.R u (t+1))/\s.2.2.1.Fuse = -1/\Sz t s.1.R
section
variable {d:cU} {sc:jK} {lg:Lg} {r:av} {u t:Nat}
theorem KI.small (h:KI d sc lg r u t):sc.Rows.length<=60 /\ ∀c∈sc.Rows,c.Key.size<=1000/\c.Val.size<=1000:=by
 rw [h.rows];exact ⟨iN h.inv,HV h.inv⟩
theorem KI.pre (h:KI d sc lg r u t)(ht:t<=9999):(gy d.Now.length 60000 d/\d.Now.length<=200/\166<=d.Now.length)/\(0<=sc.Epoch/\sc.Epoch<=1000000000/\0<=sc.Side/\sc.Side<=1/\0<=lg.Many/\lg.Many<=1000/\1<=lg.First/\lg.First<=1000000000/\0<=lg.From/\lg.From<=1000/\0<=lg.Next/\lg.Next<=1000)/\sc.Rows.length<=60/\(∀c∈sc.Rows,gY c=0):=by
 have g:=h.sv.good
 exact ⟨h.sv.ok,h.sv.bnd ae,g.1,g.2.1⟩
theorem KI.anew (h:KI d sc lg r u t)(ht:t<=9999):d.Down=false/\ki d=0/\(gy d.Now.length 90000 d/\d.Now.length<=200)/\(cr (bM d).c.Rows).2=0/\((bM d).c.Rows.length<=60 /\ ∀c∈(bM d).c.Rows,c.Key.size<=1000/\c.Val.size<=1000)/\(cr (bM d).c.Rows).1=aP r/\KI d (bM d).c (bM d).L (aP r) u t:=by
 obtain ⟨a1,a2,a3,a4,a5⟩:=h.opened ht
 have g:=h.sv.ok
 rw [a2,a3]
 exact ⟨h.sv.room.2.2.1,a1,⟨g.1.up ae,g.2.1⟩,by rw [a4],h.small,by rw [a4],a5⟩
end
end
section
open Go Go.RowKit
structure iI where
  R:av
def gW (m:iI)(ms:j3)(z:av×Int):iI×j3×Int :=
  if 0<z.2 then (m,ms,z.2) else if 0<(bI (aY m.R) (aY z.1)).length then
    (if 0<(lA ms (bI (aY m.R) (aY z.1))).2 then (m,(lA ms (bI (aY m.R) (aY z.1))).1,(lA ms (bI (aY m.R) (aY z.1))).2) else (⟨z.1⟩,(lA ms (bI (aY m.R) (aY z.1))).1,0))
  else (⟨z.1⟩,ms,0)
section
variable {m:iI} {ms:j3} {z:av×Int}
theorem S0 (h:0<z.2):gW m ms z=(m,ms,z.2):=if_pos h
theorem S1 (h:¬ 0<z.2)(h1:¬ 0<(bI (aY m.R) (aY z.1)).length):gW m ms z=(⟨z.1⟩,ms,0):=by unfold gW;rw [if_neg h,if_neg h1]
theorem XY (h:¬ 0<z.2)(h1:0<(bI (aY m.R) (aY z.1)).length)(h2:0<(lA ms (bI (aY m.R) (aY z.1))).2):gW m ms z=(m,(lA ms (bI (aY m.R) (aY z.1))).1,(lA ms (bI (aY m.R) (aY z.1))).2):=by unfold gW;rw [if_neg h,if_pos h1,if_pos h2]
theorem S2 (h:¬ 0<z.2)(h1:0<(bI (aY m.R) (aY z.1)).length)(h2:¬ 0<(lA ms (bI (aY m.R) (aY z.1))).2):gW m ms z=(⟨z.1⟩,(lA ms (bI (aY m.R) (aY z.1))).1,0):=by unfold gW;rw [if_neg h,if_pos h1,if_neg h2]
end
theorem I0 {m:iI}{ms:j3}{z:av×Int}:0<=(gW m ms z).2.2:=by
 unfold gW
 (repeat' split) <;> first|(dsimp only;omega)|(dsimp only;decide)
theorem LD {a b:List Change}(ha:dN a)(hb:dN b):(bI a b).length<=a.length+b.length:=by
 have hn:((bI a b).map Change.Key).Nodup:=List.pairwise_map.2 ((pO (pN ha hb)).imp fun q=>q)
 have:=H3 _ (a.map Change.Key++b.map Change.Key) hn (fun k hk=>by
  obtain ⟨x,hx,rfl⟩:=List.mem_map.1 hk
  rcases (mem_merge ha hb).1 hx with ⟨c,hc,_,rfl⟩ | ⟨h,_⟩
  .exact List.mem_append_left _ (List.mem_map.2 ⟨c,hc,rfl⟩)
  exact List.mem_append_right _ (List.mem_map.2 ⟨x,h,rfl⟩))
 simpa using this
theorem O0 {a b:av}(ha:Inv a)(hb:Inv b):(bI (aY a) (aY b)).length<=120:=by
 have:=LD (eY ha) (eY hb);have:=iN ha;have:=iN hb;omega
section
variable {d:cU} {sc:jK} {lg:Lg} {r:av} {u t:Nat} {ms:j3} {z:av×Int}
structure KM (sc:jK)(u:Nat)(ms:j3):Prop where
  rows:ms.Rows=sc.Rows
  used:ms.Used=(u:Int)
  many:ms.Many=68
theorem KI.says (h:KI d sc lg r u t)(ht:t<=9999)(hf:d.Fuse = -1)(hm:KM sc u ms)(h0:0<=z.2)(hz:z.2=0->Inv z.1/\(kO r z.1).length<=59) :
 (fw ⟨r⟩ sc d lg z).2.2.2.2=(gW ⟨r⟩ ms z).2.2/\(gW ⟨r⟩ ms z).1.R=(fw ⟨r⟩ sc d lg z).1.R/\(fw ⟨r⟩ sc d lg z).1.R=(if z.2=0 then z.1 else r)/\(fw ⟨r⟩ sc d lg z).2.2.1.Fuse = -1 /\
 ∃u2,KI (fw ⟨r⟩ sc d lg z).2.2.1 (fw ⟨r⟩ sc d lg z).2.1 (fw ⟨r⟩ sc d lg z).2.2.2.1 (fw ⟨r⟩ sc d lg z).1.R u2 (t+1)/\KM (fw ⟨r⟩ sc d lg z).2.1 u2 (gW ⟨r⟩ ms z).2.1:=by
 obtain ⟨b1,b2⟩:=h.do ht hz
 by_cases hq:z.2=0
 .
  obtain ⟨hi,hl⟩:=hz hq
  rcases b2 hq with ⟨c1,c2,c3,u2,c4⟩ | ⟨_,_,c3,_⟩
  .
   rw [if_pos hq,c2]
   have hch:=uY h.inv hi
   by_cases h1:0<(kO r z.1).length
   .
    obtain ⟨e1,e2,e3,e4,u3,e5,e6⟩:=GD (l:=kO r z.1) h.sv ht hf hm.rows hm.used (by rw [hm.many];rfl)
    have hc:(bT (mkS sc lg) d (kO r z.1)).2.2=0:=by
     refine Classical.byContradiction fun q=>?_
     rw [OZ (k:=⟨r⟩) hq h1 q] at c1;exact q c1
    have hr:(lA ms (bI (aY r) (aY z.1))).2=0:=by rw [<- hch,<- e1];exact hc
    rw [OY (k:=⟨r⟩) hq h1 hc] at c3 c4 ⊢
    rw [S2 (m:=⟨r⟩) ae (by rw [<- hch];exact h1) aO]
    dsimp only at c3 c4 ⊢
    rw [<- hch]
    exact ⟨hc,rfl,rfl,c3 hf,u3,⟨e5,c4.rows,hi⟩,e3,e6,e2.trans rfl⟩
   rw [OX (k:=⟨r⟩) hq h1] at c3 c4 ⊢
   rw [S1 (m:=⟨r⟩) ae (by rw [<- hch];exact h1)]
   exact ⟨hq,rfl,rfl,hf,u,⟨(h.sv.up (Nat.le_succ t)),c4.rows,hi⟩,hm⟩
  exact absurd hf c3
 rw [b1 hq,if_neg hq,S0 (m:=⟨r⟩) ae]
 exact ⟨rfl,rfl,rfl,hf,u,h.up (Nat.le_succ t),hm⟩
end
def O1:j3:=(lA ⟨[],0,68⟩ (aY nR)).1
theorem U5:KM iq 2 O1:=by
 obtain ⟨_,_,_,_,_,hK⟩:=l4
 have hl:(aY nR).length=1:=by rw [GF];rfl
 have hap:ej [] (aY nR)=aY nR:=by
  have:=qX (a:=[]) (b:=aY nR) List.Pairwise.nil (eY jc) (fun c hc=>(oo jc c hc).g)
  rw [mL] at this
  rw [<- uF _ List.Pairwise.nil];exact this
 have hF:LC ⟨[],0,68⟩ (aY nR)=0:=by
  unfold LC
  rw [if_neg ae,if_neg (by rw [uP _ (fun c hc=>(oo jc c hc).ok)];decide),if_neg]
  dsimp only;rw [hap,hl];omega
 have e:lA ⟨[],0,68⟩ (aY nR)=(⟨aY nR,2,68⟩,0):=by
  unfold lA;rw [hF,if_neg aD]
  dsimp only;rw [hap,hl];rfl
 unfold O1;rw [e]
 exact ⟨hK.rows.symm,rfl,rfl⟩
theorem KM.small {d:cU}{sc:jK}{lg:Lg}{r:av}{u t:Nat}{ms:j3}(hM:KM sc u ms)(h:KI d sc lg r u t)(ht:t<=9999):0<=ms.Many/\ms.Many<=1000/\0<=ms.Used/\ms.Used<=1000/\ms.Rows.length<=1000:=by
 have h1:=h.sv.bnd ae;have h2:=h.sv.room;have h3:=hM.used;have h4:=hM.many;have h5:=h.small.1;have h6:=hM.rows
 rw [h6];omega
theorem LF {d:cU}{sc:jK}{lg:Lg}{kc:kN}{m:iI}{ms:j3}{u t i:Nat}(h:KI d sc lg kc.R u t)(ht:t<=9999)(hf:d.Fuse = -1)(hM:KM sc u ms)(hm:m.R=kc.R)(hS:Sz i kc.R)(a:fL) :
 (fw kc sc d lg (cp kc.R a)).2.2.2.2=(gW m ms ((cp m.R a).1,(cp m.R a).2)).2.2/\(gW m ms ((cp m.R a).1,(cp m.R a).2)).1.R=(fw kc sc d lg (cp kc.R a)).1.R/\(fw kc sc d lg (cp kc.R a)).2.2.1.Fuse = -1 /\
 ∃u2,KI (fw kc sc d lg (cp kc.R a)).2.2.1 (fw kc sc d lg (cp kc.R a)).2.1 (fw kc sc d lg (cp kc.R a)).2.2.2.1 (fw kc sc d lg (cp kc.R a)).1.R u2 (t+1)/\KM (fw kc sc d lg (cp kc.R a)).2.1 u2 (gW m ms ((cp m.R a).1,(cp m.R a).2)).2.1/\Sz (i+1) (fw kc sc d lg (cp kc.R a)).1.R:=by
 obtain ⟨a1,a2,a3,a4,u2,a5,a6⟩:=h.says (z:=cp kc.R a) ht hf hM (sq a) (xZ h.inv a)
 obtain ⟨mr⟩:=m
 dsimp only at hm;subst hm
 refine ⟨a1,a2,a4,u2,a5,a6,?_⟩
 have a3:(fw kc sc d lg (cp kc.R a)).1.R=_:=a3
 rw [a3];split
 .exact MP hS a
 exact hS.up (Nat.le_succ i)
end
end Go.Proofs.YtnmpibjlnninjaaGreatDoor
