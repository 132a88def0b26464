import Derived.Test.YtkbhcbipadkcaaaGreatDoorTS13
namespace Go.Proofs.YtkbhcbipadkcaaaGreatDoor
set_option linter.unusedVariables false
set_option linter.unusedSimpArgs false
set_option maxRecDepth 100000
set_option maxHeartbeats 90000000
section
open Go Go.RowKit
theorem jv {d:cw}{i:Int}{x:ByteArray}(hd:d.Down=false)(hf:d.Fuse = -1)(h0:0<=i)(h1:i<(d.Now.length:Int))(h2:x.size<=48) :
 au d i x=(⟨d.Kept,d.Now.set i.toNat (full x),d.Wait++[⟨i,full x⟩],-1,false⟩,0):=by
 rw [iH h0 h1 h2 (by rw [kP hd hf]),kP hd hf]
def j0 (p n:Int):List Change->List Turn
  | []=>[]
  | c::l=>⟨p,full (dD 111 n (kb c).1)⟩::j0 (p+1) (n+1) l
theorem kZ:∀ (l:List Change) (p n:Int),(j0 p n l).length=l.length
 | [],_,_=>rfl
 | c::l,p,n=>by simp [j0,kZ l]
theorem zw (lg:Lg):∀ (c:List Change) (d:cw) (i q:Nat),d.Down=false->d.Fuse = -1->lg.From+lg.Next+(i:Int)=(q:Int)->q+c.length<=d.Now.length->(∀x∈c,iL x=0) ->
 kV lg d c i=(⟨d.Kept,d.Now.take q++eY (lg.First+lg.Next+(i:Int)) c++d.Now.drop (q+c.length),d.Wait++j0 (q:Int) (lg.First+lg.Next+(i:Int)) c,-1,false⟩,0)
 | [],d,i,q,hd,hf,hq,hl,hc=>by
  unfold kV;obtain ⟨a,b,e,f,g⟩:=d;simp_all [eY,j0]
 | x::r,d,i,q,hd,hf,hq,hl,hc=>by
  have hx:=Bh (hc x (List.mem_cons_self ..))
  rw [List.length_cons] at hl
  have hw:=jv (d:=d) (i:=lg.From+lg.Next+(i:Int)) (x:=dD 111 (lg.First+lg.Next+(i:Int)) (kb x).1) hd hf (by omega) (by omega) (by rw [nM];omega)
  have Mt:(lg.From+lg.Next+(i:Int)).toNat=q:=by omega
  rw [Mt,hq] at hw
  unfold kV
  rw [hq,hw,if_pos rfl,zw lg r _ (i+1) (q+1) rfl rfl (by omega) (by dsimp only;rw [List.length_set];omega) (fun y hy=>hc y (List.mem_cons_of_mem _ hy))]
  have e1:(d.Now.set q (full (dD 111 (lg.First+lg.Next+(i:Int)) (kb x).1))).take (q+1)=d.Now.take q++[full (dD 111 (lg.First+lg.Next+(i:Int)) (kb x).1)]:=by
   rw [List.take_add_one,List.take_set_of_le (Nat.le_refl _),List.getElem?_set_self (by omega)];rfl
  have e2:(d.Now.set q (full (dD 111 (lg.First+lg.Next+(i:Int)) (kb x).1))).drop (q+1+r.length)=d.Now.drop (q+(r.length+1)):=by
   rw [List.drop_set_of_lt (by omega),show q+1+r.length=q+(r.length+1) by omega]
  have e3:lg.First+lg.Next+((i+1:Nat):Int)=lg.First+lg.Next+(i:Int)+1:=by omega
  have e4:((q+1:Nat):Int)=(q:Int)+1:=by omega
  dsimp only
  rw [e1,e2,e3,e4,List.length_cons]
  simp only [eY,j0,List.append_assoc,List.singleton_append]
def jH (n:Int)(c:List Change):List ByteArray:=eY n c++[full (dD 99 (n+(c.length:Int)) (bY (c.length:Int)))]
theorem qG (n:Int)(c:List Change):(jH n c).length=c.length+1:=by simp [jH,gp]
structure P5 (n m:Nat)(lg:Lg)(d:cw):Prop where
  ok:fM n m d
  f0:0<=lg.From
  m0:0<=lg.Many
  fm:lg.From+lg.Many<=(n:Int)
  x0:0<=lg.Next
section
variable {n m:Nat} {lg:Lg} {d:cw} {c:List Change}
theorem l6 (h:jG lg c=0):c.length<=62/\(c.length:Int)+1<=lg.Many-lg.Next /\ ∀x∈c,iL x=0:=by
 unfold jG at h
 split at h
 .cases h
 .
  split at h
  .cases h
  .exact ⟨by omega,by omega,qD h⟩
theorem HU (h:P5 n m lg d)(hd:d.Down=false)(hf:d.Fuse = -1)(ha:jG lg c=0) :
 ∃ (A B:List ByteArray) (b0:ByteArray) (T:List Turn),A=d.Now.take (lg.From+lg.Next).toNat/\d.Now.drop ((lg.From+lg.Next).toNat+c.length)=b0::B /\
  T=j0 (lg.From+lg.Next) (lg.First+lg.Next) c++(if lg.Next+(c.length:Int)+1<lg.Many then [⟨lg.From+(lg.Next+(c.length:Int)+1),full ⟨#[]⟩⟩] else []) /\
  dw lg d c=(⟨d.Kept,A++eY (lg.First+lg.Next) c++b0::(if lg.Next+(c.length:Int)+1<lg.Many then B.set 0 (full ⟨#[]⟩) else B),d.Wait++T,-1,false⟩,0):=by
 obtain ⟨a1,a2,a3⟩:=l6 ha
 have h1:=h.f0;have h2:=h.m0;have h3:=h.fm;have h4:=h.x0;have h5:=h.ok.nl
 obtain ⟨q,hq⟩:∃q:Nat,lg.From+lg.Next=(q:Int):=⟨(lg.From+lg.Next).toNat,by omega⟩
 have Mt:(lg.From+lg.Next).toNat=q:=by omega
 have hl:=zw lg c d 0 q hd hf (by omega) (by omega) a3
 rw [show lg.First+lg.Next+((0:Nat):Int)=lg.First+lg.Next by omega] at hl
 have hdl:(d.Now.drop (q+c.length)).length=d.Now.length-(q+c.length):=List.length_drop
 obtain ⟨b0,B,hB⟩:∃b0 B,d.Now.drop (q+c.length)=b0::B:=by
  cases hh:d.Now.drop (q+c.length) with
  | nil=>rw [hh] at hdl;simp at hdl;omega
  | cons b0 B=>exact ⟨b0,B,rfl⟩
 refine ⟨_,B,b0,_,rfl,by rw [Mt];exact hB,rfl,?_⟩
 rw [Mt]
 have hA:(d.Now.take q++eY (lg.First+lg.Next) c).length=q+c.length:=by rw [List.length_append,List.length_take,gp];omega
 rw [hB] at hl
 unfold dw
 rw [hl,if_pos rfl,hq]
 by_cases hr:lg.Next+(c.length:Int)+1<lg.Many
 .
  rw [if_pos hr,if_pos hr,if_pos hr]
  have hn:(d.Now.take q++eY (lg.First+lg.Next) c++b0::B).length=d.Now.length:=by
   rw [List.length_append,hA,<- hB,hdl];omega
  rw [jv rfl rfl (by omega) (by dsimp only;omega) (by decide)]
  dsimp only
  have e:(lg.From+(lg.Next+(c.length:Int)+1)).toNat=q+c.length+1:=by omega
  rw [e,List.set_append_right _ _ (by omega),hA,show q+c.length+1-(q+c.length)=0+1 by omega,List.set_cons_succ]
  simp only [List.append_assoc]
 .rw [if_neg hr,if_neg hr,if_neg hr,List.append_nil]
theorem zx (h:P5 n m lg d)(hd:d.Down=false)(hf:d.Fuse = -1)(ha:jG lg c=0) :
 ∃ (r:List ByteArray) (e:cw),cy lg d c=(⟨lg.From,lg.Many,lg.First,lg.Next+(c.length:Int)+1⟩,e,0)/\e.Down=false/\e.Fuse = -1/\e.Kept=e.Now/\e.Wait=[] /\
  e.Now=d.Now.take (lg.From+lg.Next).toNat++jH (lg.First+lg.Next) c++r/\(lg.Next+(c.length:Int)+1<lg.Many -> ∃r',r=full ⟨#[]⟩::r')/\(∀s∈r,s=full ⟨#[]⟩∨s∈d.Now.drop (lg.From+lg.Next).toNat):=by
 obtain ⟨a1,a2,a3⟩:=l6 ha
 have h1:=h.f0;have h2:=h.m0;have h3:=h.fm;have h4:=h.x0;have h5:=h.ok.nl
 obtain ⟨A,B,b0,T,hA,hB,hT,hL⟩:=HU h hd hf ha
 have VQ:A.length=(lg.From+lg.Next).toNat:=by rw [hA,List.length_take];omega
 have hdl:(b0::B).length=d.Now.length-((lg.From+lg.Next).toNat+c.length):=by rw [<- hB,List.length_drop]
 rw [List.length_cons] at hdl
 generalize hC:(if lg.Next+(c.length:Int)+1<lg.Many then B.set 0 (full ⟨#[]⟩) else B)=C at hL
 have U1:C.length=B.length:=by rw [<- hC];split <;> simp
 have SF:(A++eY (lg.First+lg.Next) c).length=(lg.From+lg.Next).toNat+c.length:=by rw [List.length_append,VQ,gp]
 have hb:rR lg d c=(⟨A++eY (lg.First+lg.Next) c++b0::C,A++eY (lg.First+lg.Next) c++b0::C,[],-1,false⟩,0):=by
  unfold rR;rw [hL];exact lB rfl rfl
 have hc:sR lg d c=(⟨A++eY (lg.First+lg.Next) c++b0::C,A++jH (lg.First+lg.Next) c++C,[⟨lg.From+(lg.Next+(c.length:Int)),full (dD 99 (lg.First+(lg.Next+(c.length:Int))) (bY (c.length:Int)))⟩],-1,false⟩,0):=by
  unfold sR
  rw [hb,jv rfl rfl (by omega) (by dsimp only;rw [List.length_append,SF,List.length_cons];omega) (by rw [nM,aG];omega)]
  dsimp only
  have e:(lg.From+(lg.Next+(c.length:Int))).toNat=(lg.From+lg.Next).toNat+c.length:=by omega
  rw [e,List.set_append_right _ _ (by omega),SF,Nat.sub_self,List.set_cons_zero]
  unfold jH
  rw [show lg.First+(lg.Next+(c.length:Int))=lg.First+lg.Next+(c.length:Int) by omega]
  simp only [List.append_assoc,List.singleton_append,List.nil_append]
 have hD:vf lg d c=(⟨A++jH (lg.First+lg.Next) c++C,A++jH (lg.First+lg.Next) c++C,[],-1,false⟩,0):=by
  unfold vf;rw [hc];exact lB rfl rfl
 refine ⟨C,_,EU ha (by rw [hL]) (by rw [hb]) (by rw [hc]) (by rw [hD]),by rw [hD],by rw [hD],by rw [hD],by rw [hD],by rw [hD,hA],fun hr=>?_,fun s hs=>?_⟩
 .
  rw [if_pos hr] at hC
  cases B with
  | nil=>simp at hdl;omega
  | cons b1 B=>exact ⟨B,hC.symm⟩
 .
  have hsB:∀s∈B,s∈d.Now.drop (lg.From+lg.Next).toNat:=fun s hs=>by
   have:s∈d.Now.drop ((lg.From+lg.Next).toNat+c.length):=by rw [hB];exact List.mem_cons_of_mem _ hs
   rw [<- List.drop_drop] at this
   exact List.mem_of_mem_drop this
  rw [<- hC] at hs
  split at hs
  .
   rcases List.mem_or_eq_of_mem_set hs with hs|hs
   .exact .inr (hsB s hs)
   .exact .inl hs
  .exact .inr (hsB s hs)
theorem nT {d:cw}{f k:Nat}(hd:d.Down=false)(hl:f+k<=d.Now.length):p6 d (f:Int) k=(d.Now.drop f).take k:=by
 refine List.ext_getElem? fun j=>?_
 by_cases hj:j<k
 .
  rw [qC hj,List.getElem?_take_of_lt hj,List.getElem?_drop]
  obtain ⟨x,hx⟩:∃x,d.Now[f+j]? = some x:=⟨_,List.getElem?_eq_getElem (by omega)⟩
  rw [show (f:Int)+(j:Int)=((f+j:Nat):Int) by omega,wI hd hx,hx]
 .rw [List.getElem?_eq_none (by rw [p7];omega),List.getElem?_eq_none (by rw [List.length_take];omega)]
theorem Kh {W:List (List Change)}{u:Nat}(h:P5 n m lg d)(hd:d.Down=false)(hf:d.Fuse = -1)(ha:jG lg c=0)(hx:lg.Next=(u:Int))(hs:scan (p6 d lg.From lg.Many.toNat) lg.First=(W,u)) :
 scan (p6 (cy lg d c).2.1 lg.From lg.Many.toNat) lg.First=(W++[c],u+c.length+1):=by
 obtain ⟨a1,a2,a3⟩:=l6 ha
 have h1:=h.f0;have h2:=h.m0;have h3:=h.fm;have h5:=h.ok.nl
 obtain ⟨r,e,he,e1,e2,e3,e4,e5,e6,e7⟩:=zx h hd hf ha
 obtain ⟨f,hF⟩:∃f:Nat,lg.From=(f:Int):=⟨lg.From.toNat,by omega⟩
 obtain ⟨k,hK⟩:∃k:Nat,lg.Many=(k:Int):=⟨lg.Many.toNat,by omega⟩
 have hq:(lg.From+lg.Next).toNat=f+u:=by omega
 rw [hq] at e5
 have hkt:lg.Many.toNat=k:=by omega
 have htl:(d.Now.take (f+u)).length=f+u:=by rw [List.length_take];omega
 have hok:=vB (lg:=lg) (c:=c) h.ok
 rw [he] at hok
 have hel:e.Now.length=n:=hok.nl
 have hrl:f+u+(c.length+1)+r.length=n:=by
  rw [e5,List.length_append,List.length_append,htl,qG] at hel;exact hel
 rw [he]
 dsimp only
 rw [hkt,hF] at hs ⊢
 rw [nT hd (by omega)] at hs
 rw [nT e1 (by omega)]
 have hd1:e.Now.drop f=(d.Now.drop f).take u++(jH (lg.First+lg.Next) c++r):=by
  rw [e5,List.append_assoc,List.drop_append_of_le_length (by omega),List.drop_take,show f+u-f=u by omega]
 have Uh:((d.Now.drop f).take u).length=u:=by rw [List.length_take,List.length_drop];omega
 have HV:(e.Now.drop f).take k=(d.Now.drop f).take u++(jH (lg.First+lg.Next) c++r.take (k-u-(c.length+1))):=by
  rw [hd1,List.take_append,Uh,List.take_of_length_le (l:=(d.Now.drop f).take u) (by omega),List.take_append,qG,List.take_of_length_le (l:=jH (lg.First+lg.Next) c) (by rw [qG];omega)]
 have hcut:=wS (l:=(d.Now.drop f).take k) (l':=(e.Now.drop f).take k) (first:=lg.First) (by
  rw [hs,HV,List.take_append_of_le_length (by omega),List.take_take,List.take_take];congr 1;omega)
 rw [hcut,hs,HV]
 dsimp only
 rw [List.drop_append_of_le_length (by omega),List.drop_of_length_le (by omega),List.nil_append,hx]
 unfold jH
 rw [List.append_assoc,List.singleton_append]
 refine Gi a3 ?_
 by_cases hb:lg.Next+(c.length:Int)+1<lg.Many
 .
  obtain ⟨r',hr'⟩:=e6 hb
  right
  obtain ⟨j,hj⟩:∃j,k-u-(c.length+1)=j+1:=⟨k-u-(c.length+1)-1,by omega⟩
  exact ⟨full ⟨#[]⟩,r'.take j,by rw [hr',hj,List.take_succ_cons],oB⟩
 .
  left
  rw [show k-u-(c.length+1)=0 by omega,List.take_zero]
theorem HX (ha:¬ jG lg c=0):cy lg d c=(lg,d,jG lg c):=by unfold cy;rw [if_pos ha]
theorem HY {l:List ByteArray}{first:Int}{W:List (List Change)}{u:Nat}(h:scan l first=(W,u)):u<=l.length:=by
 have:=Gh l first;rw [h] at this;exact this
theorem Mu {gq many first:Int}{u:Nat}{W:List (List Change)}(hO:fM n m d)(hd:d.Down=false)(hf:d.Fuse = -1)(hg:lg=⟨gq,many,first,(u:Int)⟩)(b1:0<=gq)(b2:1<=many)(b3:gq+many<=(n:Int))(hs:scan (p6 d gq many.toNat) first=(W,u)) :
 (cy lg d c).2.2=jG lg c/\(cy lg d c).2.1.Down=false/\(cy lg d c).2.1.Fuse = -1 /\
 (jG lg c=0->(cy lg d c).1=⟨gq,many,first,((u+c.length+1:Nat):Int)⟩/\scan (p6 (cy lg d c).2.1 gq many.toNat) first=(W++[c],u+c.length+1)/\u+c.length+1<=many.toNat) /\
 (¬ jG lg c=0->(cy lg d c).1=lg/\(cy lg d c).2.1=d):=by
 have hL:P5 n m lg d:=by rw [hg];exact ⟨hO,b1,by dsimp only;omega,b3,by dsimp only;omega⟩
 have e1:lg.From=gq:=by rw [hg]
 have e2:lg.Many=many:=by rw [hg]
 have e3:lg.First=first:=by rw [hg]
 have e4:lg.Next=(u:Int):=by rw [hg]
 by_cases ha:jG lg c=0
 .
  obtain ⟨a1,a2,a3⟩:=l6 ha
  have hsc:=Kh (c:=c) (W:=W) (u:=u) hL hd hf ha e4 (by rw [e1,e2,e3];exact hs)
  obtain ⟨r,e,he,q1,q2,_⟩:=zx hL hd hf ha
  rw [e1,e2,e3] at hsc
  rw [he] at hsc ⊢
  refine ⟨ha.symm,q1,q2,fun _=>⟨?_,hsc,by omega⟩,fun h=>absurd ha h⟩
  show (⟨lg.From,lg.Many,lg.First,lg.Next+(c.length:Int)+1⟩:Lg)=_
  rw [e1,e2,e3,e4];congr 1
 .
  rw [HX ha]
  exact ⟨rfl,hd,hf,fun h=>absurd h ha,fun _=>⟨rfl,rfl⟩⟩
def Ki (lg:Lg)(c:List Change)(k:Nat)(f:Int):Prop :=
  k<=c.length/\((f=jG lg c/\¬ f=0)∨(f=0/\¬ 62<c.length/\¬ lg.Many-lg.Next<(c.length:Int)+1/\jF (c.drop k)=jF c))
theorem Ki.next {k:Nat}{f:Int}{x:Change}(h:Ki lg c k f)(hf:f=0)(hx:c[k]? = some x):Ki lg c (k+1) (iL x):=by
 have hk:=(List.getElem?_eq_some_iff.1 hx).1
 obtain ⟨_,h1|⟨_,h2,h3,h4⟩⟩:=h
 .exact absurd hf h1.2
 .
  refine ⟨hk,?_⟩
  by_cases h0:iL x=0
  .exact .inr ⟨h0,h2,h3,JX h4 hx h0⟩
  .
   refine .inl ⟨?_,h0⟩
   unfold jG;rw [if_neg h2,if_neg h3,<- h4]
   exact (Bj rfl hx h0).symm
theorem Ki.is {k:Nat}{f:Int}(h:Ki lg c k f)(hk:¬ k<c.length∨¬ f=0):f=jG lg c:=by
 obtain ⟨h0,h1|⟨h2,h3,h4,h5⟩⟩:=h
 .exact h1.1
 .
  have hk:¬ k<c.length:=hk.resolve_right fun q=>q h2
  rw [List.drop_of_length_le (by omega)] at h5
  rw [h2,Bm h3 h4 h5.symm]
theorem xj:∀ (l:List ByteArray) (n:Int) (out:List (List Change)) (deed:List Change) (used pos:Nat),(iI l n out deed used pos).1.length<=out.length+l.length
 | [],n,out,deed,used,pos=>by unfold iI;simp
 | s::r,n,out,deed,used,pos=>by
  unfold iI
  split
  .
   have:=xj r (n+1) (out++[deed]) [] (pos+1) (pos+1)
   simp only [List.length_append,List.length_cons,List.length_nil] at this ⊢;omega
  .
   split
   .
    have:=xj r (n+1) out (deed++[(rO (rh s)).1]) used (pos+1)
    rw [List.length_cons];omega
   .dsimp only;omega
end
end
section
open Go Go.RowKit
section
variable {n m:Nat} {lg:Lg} {d:cw} {c:List Change}
theorem j1 {a:cw}:¬ ((a,(10:Int)):cw×Int).2=0:=by show ¬ (10:Int)=0;decide
theorem zy (hd:d.Down=false)(hf : -1<=d.Fuse):(∃g,-1<=g/\bu d=(⟨d.Kept,d.Now,d.Wait,g,false⟩,0))∨bu d=(⟨d.Kept,d.Now,d.Wait,-1,true⟩,10):=by
 by_cases h:d.Fuse=0
 .exact .inr (rM hd h)
 .exact .inl ⟨_,by omega,sO hd h⟩
theorem oF {i:Int}{x:ByteArray}(hd:d.Down=false)(hf : -1<=d.Fuse)(h0:0<=i)(h1:i<(d.Now.length:Int))(h2:x.size<=48) :
 (∃g,-1<=g/\au d i x=(⟨d.Kept,d.Now.set i.toNat (full x),d.Wait++[⟨i,full x⟩],g,false⟩,0))∨au d i x=(⟨d.Kept,d.Now,d.Wait,-1,true⟩,10):=by
 rcases zy hd hf with ⟨g,hg,h⟩ | h
 .left;exact ⟨g,hg,by rw [iH h0 h1 h2 (by rw [h]),h]⟩
 .right;rw [wG h0 h1 h2 (by rw [h];exact j1),h]
theorem rT (hd:d.Down=false)(hf : -1<=d.Fuse):(∃g,-1<=g/\ai d=(⟨d.Now,d.Now,[],g,false⟩,0))∨ai d=(⟨d.Kept,d.Now,d.Wait,-1,true⟩,10):=by
 unfold ai
 rcases zy hd hf with ⟨g,hg,h⟩ | h
 .left;exact ⟨g,hg,by rw [h,if_pos rfl]⟩
 .right;rw [h,if_neg j1]
theorem Dc (lg:Lg):∀ (c:List Change) (d:cw) (i q:Nat),d.Down=false -> -1<=d.Fuse->lg.From+lg.Next+(i:Int)=(q:Int)->q+c.length<=d.Now.length->(∀x∈c,iL x=0) ->
 (∃g,-1<=g/\kV lg d c i=(⟨d.Kept,d.Now.take q++eY (lg.First+lg.Next+(i:Int)) c++d.Now.drop (q+c.length),d.Wait++j0 (q:Int) (lg.First+lg.Next+(i:Int)) c,g,false⟩,0)) ∨
 (∃e,kV lg d c i=(e,10)/\e.Down=true/\e.Kept=d.Kept /\ ∃j,e.Wait=d.Wait++(j0 (q:Int) (lg.First+lg.Next+(i:Int)) c).take j)
 | [],d,i,q,hd,hf,hq,hl,hc=>by
  left;refine ⟨d.Fuse,hf,?_⟩
  unfold kV;obtain ⟨a,b,e,f,g⟩:=d;simp_all [eY,j0]
 | x::r,d,i,q,hd,hf,hq,hl,hc=>by
  have hx:=Bh (hc x (List.mem_cons_self ..))
  rw [List.length_cons] at hl
  have hw:=oF (d:=d) (i:=lg.From+lg.Next+(i:Int)) (x:=dD 111 (lg.First+lg.Next+(i:Int)) (kb x).1) hd hf (by omega) (by omega) (by rw [nM];omega)
  have Mt:(lg.From+lg.Next+(i:Int)).toNat=q:=by omega
  rw [Mt,hq] at hw
  unfold kV
  rw [hq]
  rcases hw with ⟨g,hg,hw⟩ | hw
  .
   rw [hw,if_pos rfl]
   have e3:lg.First+lg.Next+((i+1:Nat):Int)=lg.First+lg.Next+(i:Int)+1:=by omega
   have e4:((q+1:Nat):Int)=(q:Int)+1:=by omega
   rcases Dc lg r ⟨d.Kept,d.Now.set q (full (dD 111 (lg.First+lg.Next+(i:Int)) (kb x).1)),d.Wait++[⟨(q:Int),full (dD 111 (lg.First+lg.Next+(i:Int)) (kb x).1)⟩],g,false⟩ (i+1) (q+1) rfl hg (by omega) (by dsimp only;rw [List.length_set];omega) (fun y hy=>hc y (List.mem_cons_of_mem _ hy)) with ⟨g',hg',h⟩ | ⟨e,he,h1,h2,j,h3⟩
   .
    left;refine ⟨g',hg',?_⟩
    rw [h]
    have e1:(d.Now.set q (full (dD 111 (lg.First+lg.Next+(i:Int)) (kb x).1))).take (q+1)=d.Now.take q++[full (dD 111 (lg.First+lg.Next+(i:Int)) (kb x).1)]:=by
     rw [List.take_add_one,List.take_set_of_le (Nat.le_refl _),List.getElem?_set_self (by omega)];rfl
    have e2:(d.Now.set q (full (dD 111 (lg.First+lg.Next+(i:Int)) (kb x).1))).drop (q+1+r.length)=d.Now.drop (q+(r.length+1)):=by
     rw [List.drop_set_of_lt (by omega),show q+1+r.length=q+(r.length+1) by omega]
    dsimp only
    rw [e1,e2,e3,e4,List.length_cons]
    simp only [eY,j0,List.append_assoc,List.singleton_append]
   .
    right;refine ⟨e,he,h1,h2,j+1,?_⟩
    rw [h3,e3,e4]
    simp only [j0,List.take_succ_cons,List.append_assoc,List.singleton_append]
  .
   right
   rw [hw,if_neg j1]
   exact ⟨_,rfl,rfl,rfl,0,by simp⟩
def rU (lg:Lg)(c:List Change):List Turn:=j0 (lg.From+lg.Next) (lg.First+lg.Next) c++(if lg.Next+(c.length:Int)+1<lg.Many then [⟨lg.From+(lg.Next+(c.length:Int)+1),full ⟨#[]⟩⟩] else [])
theorem Kj (h:P5 n m lg d)(hd:d.Down=false)(hf : -1<=d.Fuse)(ha:jG lg c=0) :
 ∃ (B:List ByteArray) (b0:ByteArray),d.Now.drop ((lg.From+lg.Next).toNat+c.length)=b0::B /\
  ((∃g,-1<=g/\dw lg d c=(⟨d.Kept,d.Now.take (lg.From+lg.Next).toNat++eY (lg.First+lg.Next) c++b0::(if lg.Next+(c.length:Int)+1<lg.Many then B.set 0 (full ⟨#[]⟩) else B),d.Wait++rU lg c,g,false⟩,0)) ∨
   (∃e,dw lg d c=(e,10)/\e.Down=true/\e.Kept=d.Kept /\ ∃j,e.Wait=d.Wait++(rU lg c).take j)):=by
 obtain ⟨a1,a2,a3⟩:=l6 ha
 have h1:=h.f0;have h2:=h.m0;have h3:=h.fm;have h4:=h.x0;have h5:=h.ok.nl
 obtain ⟨q,hq⟩:∃q:Nat,lg.From+lg.Next=(q:Int):=⟨(lg.From+lg.Next).toNat,by omega⟩
 have hle:q+c.length<=d.Now.length:=by omega
 have Mt:(lg.From+lg.Next).toNat=q:=by omega
 have hl:=Dc lg c d 0 q hd hf (by omega) (by omega) a3
 rw [show lg.First+lg.Next+((0:Nat):Int)=lg.First+lg.Next by omega] at hl
 have hdl:(d.Now.drop (q+c.length)).length=d.Now.length-(q+c.length):=List.length_drop
 obtain ⟨b0,B,hB⟩:∃b0 B,d.Now.drop (q+c.length)=b0::B:=by
  cases hh:d.Now.drop (q+c.length) with
  | nil=>rw [hh] at hdl;simp at hdl;omega
  | cons b0 B=>exact ⟨b0,B,rfl⟩
 refine ⟨B,b0,by rw [Mt];exact hB,?_⟩
 rw [Mt]
 have hA:(d.Now.take q++eY (lg.First+lg.Next) c).length=q+c.length:=by rw [List.length_append,List.length_take,gp];omega
 rw [hB] at hl
 have hn:(d.Now.take q++eY (lg.First+lg.Next) c++b0::B).length=d.Now.length:=by
  rw [List.length_append,hA,<- hB,hdl];exact Nat.add_sub_cancel' hle
 unfold dw rU
 rw [hq]
 rcases hl with ⟨g,hg,hl⟩ | ⟨e,he,e1,e2,j,e3⟩
 .
  rw [hl,if_pos rfl]
  by_cases hr:lg.Next+(c.length:Int)+1<lg.Many
  .
   rw [if_pos hr,if_pos hr,if_pos hr]
   rcases oF (d:=⟨d.Kept,d.Now.take q++eY (lg.First+lg.Next) c++b0::B,d.Wait++j0 (q:Int) (lg.First+lg.Next) c,g,false⟩) (i:=lg.From+(lg.Next+(c.length:Int)+1)) (x:=⟨#[]⟩) rfl hg (by omega) (by dsimp only;omega) (by decide) with ⟨g',hg',hw⟩ | hw
   .
    left;refine ⟨g',hg',?_⟩
    rw [hw]
    dsimp only
    have e:(lg.From+(lg.Next+(c.length:Int)+1)).toNat=q+c.length+1:=by
     have:lg.From+(lg.Next+(c.length:Int)+1)=((q+c.length+1:Nat):Int):=by omega
     rw [this,Int.toNat_natCast]
    rw [e,List.set_append_right _ _ (by omega),hA,show q+c.length+1-(q+c.length)=0+1 by omega,List.set_cons_succ]
    simp only [List.append_assoc]
   .
    right
    rw [hw]
    exact ⟨_,rfl,rfl,rfl,c.length,by dsimp only;rw [List.take_append_of_le_length (by rw [kZ];omega),List.take_of_length_le (by rw [kZ];omega)]⟩
  .
   rw [if_neg hr,if_neg hr,if_neg hr,List.append_nil]
   exact .inl ⟨g,hg,rfl⟩
 .
  right
  rw [he,if_neg j1]
  refine ⟨e,rfl,e1,e2,min j c.length,?_⟩
  rw [e3,List.take_append_of_le_length (by rw [kZ];exact Nat.min_le_right _ _)]
  congr 1
  by_cases hj:j<=c.length
  .rw [Nat.min_eq_left hj]
  .rw [Nat.min_eq_right (by omega),List.take_of_length_le (by rw [kZ];omega),List.take_of_length_le (by rw [kZ];omega)]
structure TL (n:Nat)(lg:Lg)(d:cw)(W:List (List Change))(u:Nat):Prop where
  ok:P5 n 0 lg d
  down:d.Down=false
  fuse : -1<=d.Fuse
  kn:d.Kept=d.Now
  wait:d.Wait=[]
  nx:lg.Next=(u:Int)
  sc:scan ((d.Now.drop lg.From.toNat).take lg.Many.toNat) lg.First=(W,u)
  tail:∀s∈d.Now.drop (lg.From.toNat+u),¬ bj s 0=99
theorem Mv (d:cw)(f:Int)(k:Nat)(first:Int):fE d f k first<=k:=by
 have:=Gh (p6 d f k) first
 rw [p7] at this;exact this
theorem Mw {d:cw}{f:Int}{k:Nat}{first:Int}:(lE d f k first).length<=k:=by
 have:=xj (p6 d f k) first [] [] 0 0
 rw [p7] at this
 simpa [lE,scan] using this
theorem Mx {l:List kr}{d:cw}{f:Int}{k:Nat}{first:Int}(h:l.map kr.L=lE d f k first):l.length<=k:=by
 have:=Mw (d:=d) (f:=f) (k:=k) (first:=first)
 rw [<- h,List.length_map] at this;exact this
end
end
section
open Go Go.RowKit
theorem HZ (cG:Nat)(aM:Value)(Kk:Nat)(Kl:Nat)(st:kY)(w:World)(SG:(ag.box cG [.pointer (some ⟨Kk,0,none⟩),iV st.Epoch,iV st.Side,iV st.Size,iV st.First,.pointer (some ⟨Kl,0,none⟩),aM] 133).ok w)(EZ:Sl w aM (st.Rows:List Change))(hl:st.Rows.length<=100000):Calls Tryz.prog 38 #[.pointer (some ⟨cG,0,none⟩)] w fun e w' => ∃u,e = .returned u/\Own w.heap.size 117 w' u st.Rows/\Ext w w':=by
 refine R.enter [] [(0,.pointer (some ⟨cG,0,none⟩))] Tryz.func38 O O O O<|R.pK EZ<|R.nC (r:=ag.box cG [.pointer (some ⟨Kk,0,none⟩),iV st.Epoch,iV st.Side,iV st.Size,iV st.First,.pointer (some ⟨Kl,0,none⟩),aM] 133) SG (jQ SG)<|R.reg O<|R.u 1 O<|R.nil<|R.reg O<|R.u 1 O<|R.q (q.bR O) O<|R.q (q.aP O iY O) O<|R.q (q.yu 0 O O gx O) O<|R.s O (s.aT [] [1] _ _ _ O O O NZ O O (fun w own hw H=>o0 aM st.Rows w own H (by omega)) O) fun z1=>?_
 exact R.u 1 O<|R.nil<|R.ro 0 O Tryz.results38 O O (by rfl)
def lQ (d:cw):Nat->cY
  | 0=>⟨0,0,0,0⟩
  | k+1=>nQ (lQ d k) (cm (cj d (k:Int)).1)
theorem Dd (d:cw):∀k,0<=(lQ d k).Epoch/\(lQ d k).Epoch<4294967296/\0<=(lQ d k).Side/\(lQ d k).Side<=1/\0<=(lQ d k).Size/\(lQ d k).Size<=2400/\0<=(lQ d k).First/\(lQ d k).First<4294967296/\(¬ (lQ d k).Epoch=0->1<=(lQ d k).First)
 | 0=>by simp [lQ]
 | k+1=>by
  unfold lQ nQ;split
  .exact wZ _
  .exact Dd d k
theorem SH {d:cw}(h:kx d=0):¬ d.Now.length<166/\¬ (headD d).Epoch=0/\(eX (rA d)).2=true:=by
 unfold kx at h
 split at h
 .cases h
 .
  split at h
  .cases h
  .
   split at h
   .exact ⟨by assumption,by assumption,by assumption⟩
   .cases h
theorem De:∀ (k:Nat) (t:ByteArray) (l:List Change),(pd k t l).1.length<=l.length+t.size
 | 0,t,l=>by rw [pd];show l.length<=_;omega
 | k+1,t,l=>by
  rw [pd]
  split
  .dsimp only;omega
  .
   split
   .simp
   .
    rename_i h1 h2
    split
    .
     have:=De k (t.extract (p8 t) t.size) (cb l [xa t])
     have ha:=kU [xa t] l
     rw [List.length_singleton] at ha
     rw [ByteArray.size_extract] at this
     have:3<=p8 t:=by unfold p8;omega
     omega
    .simp
theorem E0 (t:ByteArray):(eX t).1.length<=t.size:=by
 have:=De (t.size+1) t []
 simpa [eX] using this
theorem xk {M:Nat}:∀ (l:List ByteArray) (n:Int) (out:List (List Change)) (deed:List Change) (used pos:Nat),(∀c∈out,c.length<=M)->deed.length+l.length<=M -> ∀c∈(iI l n out deed used pos).1,c.length<=M
 | [],n,out,deed,used,pos,h,hd=>h
 | s::r,n,out,deed,used,pos,h,hd=>by
  rw [List.length_cons] at hd
  rw [iI]
  split
  .
   refine xk r _ _ _ _ _ (fun c hc=>?_) (by simp;omega)
   rcases List.mem_append.1 hc with hc|hc
   .exact h c hc
   .rw [List.mem_singleton.1 hc];omega
  .
   split
   .exact xk r _ _ _ _ _ h (by simp;omega)
   .exact h
theorem E1 {d:cw}{f:Int}{k:Nat}{first:Int}:∀c∈lE d f k first,c.length<=k:=by
 unfold lE scan
 exact xk _ _ _ _ _ _ (by simp) (by rw [p7];simp)
theorem xl {M:Nat}:∀ (W:List (List Change)) (rows:List Change),(∀c∈W,c.length<=M)->(ky rows W).length<=rows.length+M*W.length
 | [],rows,h=>by simp [ky]
 | c::W,rows,h=>by
  have h1:=xl W (cb rows c) (fun x hx=>h x (List.mem_cons_of_mem _ hx))
  have h2:=kU c rows
  have h3:=h c (List.mem_cons_self ..)
  show (ky (cb rows c) W).length<=_
  rw [List.length_cons,Nat.mul_add,Nat.mul_one]
  omega
attribute [local irreducible] fE lE eX
theorem zA (aH:Nat)(ay aF av:Value)(dk:cw)(w:World)(own:List Nat)(H:HN w own [ag.box aH [ay,aF,av,iV dk.Fuse,.bool dk.Down] 112,ag.row 9 ay dk.Kept,ag.row 9 aF dk.Now,ag.row 114 av dk.Wait] [])(hd:dk.Down=false)(ho:kx dk=0)(hD:fM dk.Now.length 90000 dk/\dk.Now.length<=200):RC Tryz.prog 36 #[.pointer (some ⟨aH,0,none⟩)] H (fun z:Value×Value×Value×Nat×Value×Nat => .tuple #[.pointer (some ⟨z.2.2.2.1,0,none⟩),.nilIface]) (fun z=>[ag.box aH [z.1,z.2.1,z.2.2.1,iV dk.Fuse,.bool dk.Down] 112,ag.row 9 z.1 dk.Kept,ag.row 9 z.2.1 dk.Now,ag.row 114 z.2.2.1 dk.Wait,ag.box z.2.2.2.1 [.pointer (some ⟨aH,0,none⟩),iV (aY dk).c.Epoch,iV (aY dk).c.Side,iV (aY dk).c.Size,iV (aY dk).c.First,.pointer (some ⟨z.2.2.2.2.2,0,none⟩),z.2.2.2.2.1] 133,ag.box z.2.2.2.2.2 [.pointer (some ⟨aH,0,none⟩),iV (aY dk).L.From,iV (aY dk).L.Many,iV (aY dk).L.First,iV (aY dk).L.Next] 198]) (fun z=>[ag.ls z.2.2.2.2.1 (aY dk).c.Rows]):=by
 have dZ:=H.cap 1 rfl;have d9:=H.cE 1 rfl
 have fh:=H.cap 2 rfl;have fj:=H.cE 2 rfl
 have ea:=H.cap 3 rfl;have ec:=H.cE 3 rfl
 obtain ⟨o1,o2,o3⟩:=SH ho
 refine R.bF (n:=144) (vs:=[.pointer (some ⟨aH,0,none⟩)]) (B:=[ag.box aH [ay,aF,av,iV dk.Fuse,.bool dk.Down] 112,ag.row 9 ay dk.Kept,ag.row 9 aF dk.Now,ag.row 114 av dk.Wait,ag.held w own]) [(0,.pointer (some ⟨aH,0,none⟩))] Tryz.func36 O O O O H ?_
 refine R.reg O<|R.u 2 O<|R.nil ?_
 refine R.reg O<|R.u 1 O<|R.c (q.call NY O O (fun w hw=>(cv (congrArg Value.bool hd) (zh aH ay aF av dk w (hw.b 0 O) (hw.row 1 O) (hw.row 2 O) (hw.row 3 O) )))) O<|R.nil ?_
 refine R.aD O O ?_
 refine R.reg O<|R.u 1 O<|R.c (q.call uB O O (fun w hw=>(gB aH ay aF av dk w (hw.b 0 O) (hw.row 1 O) (hw.row 2 O) (hw.row 3 O) ))) O<|R.q (q.lss O O (decide_eq_false (by omega))) O<|R.nil ?_
 refine R.aD O O ?_
 refine R.reg O<|R.u 1 O<|R.q (q.build (cs:=[.pointer (some ⟨aH,0,none⟩),iV 0,iV 0,iV 0,iV 0,.pointer none,nS]) OU O O) O<|?_
 refine R.s O (s.box (cs:=[.pointer (some ⟨aH,0,none⟩),iV 0,iV 0,iV 0,iV 0,.pointer none,nS]) O O O) fun b1=>?_
 refine R.u 1 O<|R.nil ?_
 refine R.reg O<|R.u 1 O<|R.nil ?_
 refine R.loop (fun g_:Nat×cY=>[(0,.pointer (some ⟨aH,0,none⟩)),(4,.pointer (some ⟨b1,0,none⟩)),(30,iV (g_.1:Int))]) (fun g_=>[ag.box b1 [.pointer (some ⟨aH,0,none⟩),iV g_.2.Epoch,iV g_.2.Side,iV g_.2.Size,iV g_.2.First,.pointer none,nS] 133,ag.box aH [ay,aF,av,iV dk.Fuse,.bool dk.Down] 112,ag.row 9 ay dk.Kept,ag.row 9 aF dk.Now,ag.row 114 av dk.Wait,ag.held w own]) (fun g_=>[]) (fun g_=>g_.1<=2/\g_.2=lQ dk g_.1) (fun g_=>2-g_.1) (0,(⟨0,0,0,0⟩:cY)) O (by exact ⟨by omega,rfl⟩) ⟨rfl,rfl,rfl,trivial⟩ (fun _=>Wd.pick qY [] O O O) ?_
 rintro ⟨i,hh⟩ ⟨hi,HK⟩
 dsimp only at *
 have hin:=Dd dk i;rw [<- HK] at hin
 refine R.reg O<|?_
 by_cases h1:i<2
 .
  refine R.q (q.lss O O (decide_eq_true (by omega))) O<|R.nil ?_
  refine R.az O O ?_
  refine R.reg O<|R.u 2 O<|R.nil ?_
  have hrd:=wW hD.1 hd (i:=(i:Int)) (by omega) (by omega);obtain ⟨hrd,hsz⟩:=hrd;have hin2:=wZ (cj dk (i:Int)).1
  refine R.reg O<|R.u 2 O<|R.c (q.call Jh O O (fun w hw=>(tL aH ay aF av dk (i:Int) w (hw.b 1 O) (hw.row 2 O) (hw.row 3 O) (hw.row 4 O) ))) O<|R.u 5 O<|R.nil ?_
  refine R.reg O<|R.u 1 O<|R.q (q.dx O O Tryz.underlying38 (by omega)) O<|R.nil ?_
  refine R.aD O O ?_
  refine R.reg O<|R.u 1 O<|?_
  refine R.s (B':=(fun _u:Unit=>[ag.box b1 [.pointer (some ⟨aH,0,none⟩),iV hh.Epoch,iV hh.Side,iV hh.Size,iV hh.First,.pointer none,nS] 133,ag.box aH [ay,aF,av,iV dk.Fuse,.bool dk.Down] 112,ag.row 9 ay dk.Kept,ag.row 9 aF dk.Now,ag.row 114 av dk.Wait,ag.held w own])) (F':=(fun _u:Unit=>[])) O (s.aT (B0:=[]) (Br:=[ag.box b1 [.pointer (some ⟨aH,0,none⟩),iV hh.Epoch,iV hh.Side,iV hh.Size,iV hh.First,.pointer none,nS] 133,ag.box aH [ay,aF,av,iV dk.Fuse,.bool dk.Down] 112,ag.row 9 ay dk.Kept,ag.row 9 aF dk.Now,ag.row 114 av dk.Wait,ag.held w own]) (F0:=[]) qY [] (fun _u:Unit => .agg #[iV (cm (cj dk (i:Int)).1).Epoch,iV (cm (cj dk (i:Int)).1).Side,iV (cm (cj dk (i:Int)).1).Size,iV (cm (cj dk (i:Int)).1).First]) (fun _u:Unit=>[]) (fun _u:Unit=>[]) O O O Sd O O (fun w own hw H=>EX (cj dk (i:Int)).1 w own H (by omega)) O) fun _=>?_
  refine R.s O (s.alloc (cs:=[iV 0,iV 0,iV 0,iV 0]) jr O O) fun b2=>?_
  refine R.s O (s.st (us:=[iV (cm (cj dk (i:Int)).1).Epoch,iV (cm (cj dk (i:Int)).1).Side,iV (cm (cj dk (i:Int)).1).Size,iV (cm (cj dk (i:Int)).1).First]) (cs':=[iV (cm (cj dk (i:Int)).1).Epoch,iV (cm (cj dk (i:Int)).1).Side,iV (cm (cj dk (i:Int)).1).Size,iV (cm (cj dk (i:Int)).1).First]) 0 _ O O O O (.inl aU) O O O O) fun _=>?_
  refine R.nil ?_
  by_cases h2:hh.Epoch<(cm (cj dk (i:Int)).1).Epoch
  .
   refine R.eZ O mixed (by kernel_rfl)<|Q.q (q.aP (off':=0) O iW O) O<|Q.q (q.ld 0 O O ap O) O<|Q.u 1 O<|Q.q (q.bR O) O<|Q.q (q.aP (off':=1) O gL O) O<|Q.q (q.aP (off':=1) O iW O) O<|Q.q (q.ld 1 O O ap O) O<|Q.q (q.gtr O O (decide_eq_true (by omega))) O<|Q.nil ?_
   refine R.az O O ?_
   refine R.reg O<|R.u 1 O<|R.q (q.cT 0 O O aU) O<|R.q (q.bR O) O<|R.q (q.aP (off':=1) O gL O) O<|?_
   refine R.s O (s.st (us:=[iV (cm (cj dk (i:Int)).1).Epoch,iV (cm (cj dk (i:Int)).1).Side,iV (cm (cj dk (i:Int)).1).Size,iV (cm (cj dk (i:Int)).1).First]) (cs':=[.pointer (some ⟨aH,0,none⟩),iV (cm (cj dk (i:Int)).1).Epoch,iV (cm (cj dk (i:Int)).1).Side,iV (cm (cj dk (i:Int)).1).Size,iV (cm (cj dk (i:Int)).1).First,.pointer none,nS]) 1 _ O O O O (.inl aU) O O O O) fun _=>?_
   refine R.nil ?_
   refine R.reg O<|R.q (q.add (r:=((i+1:Nat):Int)) O O (wr (by omega))) O<|R.u 1 O<|R.nil ?_
   refine R.back (i+1,cm (cj dk (i:Int)).1) O (by (exact ⟨by omega,by show _=nQ (lQ dk i) (cm (cj dk (i:Int)).1);rw [<- HK];unfold nQ;rw [if_pos ‹_›]⟩)) (by dsimp only;omega) ⟨rfl,rfl,rfl,trivial⟩ (kF [1,2,3,4,5,6] [] O O O)
  refine R.eZ O mixed (by kernel_rfl)<|Q.q (q.aP (off':=0) O iW O) O<|Q.q (q.ld 0 O O ap O) O<|Q.u 1 O<|Q.q (q.bR O) O<|Q.q (q.aP (off':=1) O gL O) O<|Q.q (q.aP (off':=1) O iW O) O<|Q.q (q.ld 1 O O ap O) O<|Q.q (q.gtr O O (decide_eq_false (by omega))) O<|Q.nil ?_
  refine R.aD O O ?_
  refine R.reg O<|R.q (q.add (r:=((i+1:Nat):Int)) O O (wr (by omega))) O<|R.u 1 O<|R.nil ?_
  refine R.back (i+1,hh) O (by (exact ⟨by omega,by show _=nQ (lQ dk i) (cm (cj dk (i:Int)).1);rw [<- HK];unfold nQ;rw [if_neg ‹_›]⟩)) (by dsimp only;omega) ⟨rfl,rfl,rfl,trivial⟩ (kF [1,2,3,4,5,6] [] O O O)
 refine R.q (q.lss O O (decide_eq_false (by omega))) O<|R.nil ?_
 refine R.aD O O ?_
 have Ui:hh=headD dk:=by rw [HK,show i=2 by omega];rfl
 have Wv:¬ hh.Epoch=0:=by rw [Ui];exact o2
 refine R.reg O<|R.u 1 O<|R.q (q.bR O) O<|R.q (q.aP (off':=1) O gL O) O<|R.q (q.aP (off':=1) O iW O) O<|R.q (q.ld 0 O O ap O) O<|R.q (q.eql O O (beq_eq_false_iff_ne.2 (by omega))) O<|R.nil ?_
 refine R.aD O O ?_
 refine R.reg O<|R.u 1 O<|R.nil ?_
 refine R.reg O<|R.u 1 O<|R.nil ?_
 refine R.loop (fun g_:Nat×ByteArray=>[(0,.pointer (some ⟨aH,0,none⟩)),(4,.pointer (some ⟨b1,0,none⟩)),(9,.string g_.2),(64,iV (g_.1:Int))]) (fun g_=>[ag.box b1 [.pointer (some ⟨aH,0,none⟩),iV hh.Epoch,iV hh.Side,iV hh.Size,iV hh.First,.pointer none,nS] 133,ag.box aH [ay,aF,av,iV dk.Fuse,.bool dk.Down] 112,ag.row 9 ay dk.Kept,ag.row 9 aF dk.Now,ag.row 114 av dk.Wait,ag.held w own]) (fun g_=>[]) (fun g_=>g_.1<=50/\g_.2=vg dk (2+hh.Side*50) g_.1/\g_.2.size=48*g_.1) (fun g_=>50-g_.1) (0,(⟨#[]⟩:ByteArray)) O (by exact ⟨by omega,rfl,rfl⟩) ⟨rfl,rfl,rfl,rfl,trivial⟩ (fun _=>Wd.pick qY [] O O O) ?_
 rintro ⟨j,tx⟩ ⟨hj,HT,hts⟩
 dsimp only at *
 refine R.reg O<|?_
 by_cases h3:j<50
 .
  refine R.q (q.lss O O (decide_eq_true (by omega))) O<|R.nil ?_
  refine R.az O O ?_
  refine R.reg O<|R.u 2 O<|R.nil ?_
  have hrd:=wW hD.1 hd (i:=2+hh.Side*50+(j:Int)) (by omega) (by omega);obtain ⟨hrd,hsz⟩:=hrd
  refine R.reg O<|R.u 2 O<|R.q (q.bR O) O<|R.q (q.aP (off':=1) O gL O) O<|R.q (q.aP (off':=2) O iq O) O<|R.q (q.ld 0 O O ap O) O<|R.q (q.mul (r:=hh.Side*50) O O (wr (by omega))) O<|R.q (q.add (r:=2+(hh.Side*50)) O O (wr (by omega))) O<|R.u 1 O<|R.q (q.add (r:=(2+(hh.Side*50))+(j:Int)) O O (wr (by omega))) O<|R.c (q.call Jh O O (fun w hw=>(tL aH ay aF av dk ((2+(hh.Side*50))+(j:Int)) w (hw.b 1 O) (hw.row 2 O) (hw.row 3 O) (hw.row 4 O) ))) O<|R.u 5 O<|R.nil ?_
  refine R.reg O<|R.u 1 O<|R.q (q.dx O O Tryz.underlying38 (by omega)) O<|R.nil ?_
  refine R.aD O O ?_
  refine R.reg O<|R.u 2 O<|R.q (q.cat O O (by omega)) O<|R.u 1 O<|R.nil ?_
  refine R.reg O<|R.q (q.add (r:=((j+1:Nat):Int)) O O (wr (by omega))) O<|R.u 1 O<|R.nil ?_
  refine R.back (j+1,(tx++(cj dk ((2+(hh.Side*50))+(j:Int))).1)) O (by (exact ⟨by omega,by show _=vg dk (2+hh.Side*50) j++_;rw [<- HT],by rw [ByteArray.size_append];omega⟩)) (by dsimp only;omega) ⟨rfl,rfl,rfl,rfl,trivial⟩ (kF qY [] O O O)
 refine R.q (q.lss O O (decide_eq_false (by omega))) O<|R.nil ?_
 refine R.aD O O ?_
 have hth:tx.extract 0 hh.Size.toNat=rA dk:=by rw [HT,Ui,show j=50 by omega];rfl
 have hpb:(eX (tx.extract 0 hh.Size.toNat)).2=true:=by rw [hth];exact o3
 refine R.reg O<|R.u 2 O<|R.q (q.bR O) O<|R.q (q.aP (off':=1) O gL O) O<|R.q (q.aP (off':=3) O jU O) O<|R.q (q.ld 0 O O ap O) O<|R.q (q.VA (i:=hh.Size.toNat) O O Tryz.underlying9 (by omega) (by omega)) O<|?_
 refine R.s (B':=(fun kQ:Value=>[ag.row 117 kQ (eX (tx.extract 0 hh.Size.toNat)).1,ag.box b1 [.pointer (some ⟨aH,0,none⟩),iV hh.Epoch,iV hh.Side,iV hh.Size,iV hh.First,.pointer none,nS] 133,ag.box aH [ay,aF,av,iV dk.Fuse,.bool dk.Down] 112,ag.row 9 ay dk.Kept,ag.row 9 aF dk.Now,ag.row 114 av dk.Wait,ag.held w own])) (F':=(fun kQ:Value=>[])) O (s.aT (B0:=[]) (Br:=[ag.box b1 [.pointer (some ⟨aH,0,none⟩),iV hh.Epoch,iV hh.Side,iV hh.Size,iV hh.First,.pointer none,nS] 133,ag.box aH [ay,aF,av,iV dk.Fuse,.bool dk.Down] 112,ag.row 9 ay dk.Kept,ag.row 9 aF dk.Now,ag.row 114 av dk.Wait,ag.held w own]) (F0:=[]) qY [] (fun kQ:Value => .tuple #[kQ,.bool (eX (tx.extract 0 hh.Size.toNat)).2]) (fun kQ:Value=>[ag.row 117 kQ (eX (tx.extract 0 hh.Size.toNat)).1]) (fun kQ:Value=>[]) O O O Se O O (fun w own hw H=>HQ (tx.extract 0 hh.Size.toNat) w own H (by (rw [ByteArray.size_extract];omega))) O) fun z1=>?_
 refine R.u 5 O<|R.nil ?_
 refine R.reg O<|R.u 1 O<|R.q (q.not O) O<|R.nil ?_
 refine R.cond O O (fun h4=>?_) (fun h4=>?_)
 .exact absurd h4 (by rw [hpb];decide)
 refine R.fJ (fuel:=17) [0,1,6] O O mixed O ?_
 refine D.q (i:=0) O (kF [0,1,6] [] O O O) O (q.mv O) O<|D.q (i:=1) O (kF [0,1,6] [] O O O) O (q.mv O) O<|D.q (i:=4) O (kF [0,1,6] [] O O O) O (q.mv O) O<|D.q (i:=5) O (kF [0,1,6] [] O O O) O (q.bR O) O<|D.q (i:=6) O (kF [0,1,6] [] O O O) O (q.aP (off':=1) O gL O) O<|D.q (i:=7) O (kF [0,1,6] [] O O O) O (q.aP (off':=4) O iX O) O<|D.q (i:=8) O (kF [0,1,6] [] O O O) O (q.ld 1 O O ap O) O<|?_
 refine D.one (i:=2) O ?_
 refine Do.s (s.c (q.call uB O O (fun w hw=>(gB aH ay aF av dk w (hw.b 2 O) (hw.row 3 O) (hw.row 4 O) (hw.row 5 O) ))) O) (fun _=>(kF [0,1,6] [] O O O)) O fun _=>?_
 refine D.q (i:=3) O (kF [0,1,6] [] O O O) O (q.sub (r:=((dk.Now.length-102:Nat):Int)) O O (wr (by omega))) O<|?_
 refine D.one (i:=9) O ?_
 refine Do.s (B':=(fun g_:Value×Value×Value×Nat×Value×List kr=>[ag.box aH [g_.1,g_.2.1,g_.2.2.1,iV dk.Fuse,.bool dk.Down] 112,ag.row 9 g_.1 dk.Kept,ag.row 9 g_.2.1 dk.Now,ag.row 114 g_.2.2.1 dk.Wait,ag.box g_.2.2.2.1 [.pointer (some ⟨aH,0,none⟩),iV (⟨102,(((dk.Now.length-102):Nat):Int),hh.First,(fE dk 102 (Int.toNat (((dk.Now.length-102):Nat):Int)) hh.First:Int)⟩:Lg).From,iV (⟨102,(((dk.Now.length-102):Nat):Int),hh.First,(fE dk 102 (Int.toNat (((dk.Now.length-102):Nat):Int)) hh.First:Int)⟩:Lg).Many,iV (⟨102,(((dk.Now.length-102):Nat):Int),hh.First,(fE dk 102 (Int.toNat (((dk.Now.length-102):Nat):Int)) hh.First:Int)⟩:Lg).First,iV (⟨102,(((dk.Now.length-102):Nat):Int),hh.First,(fE dk 102 (Int.toNat (((dk.Now.length-102):Nat):Int)) hh.First:Int)⟩:Lg).Next] 198,ag.row 117 z1 (eX (tx.extract 0 hh.Size.toNat)).1,ag.box b1 [.pointer (some ⟨aH,0,none⟩),iV hh.Epoch,iV hh.Side,iV hh.Size,iV hh.First,.pointer none,nS] 133,ag.held w own])) (F':=(fun g_=>[ag.ls g_.2.2.2.2.1 g_.2.2.2.2.2,ag.pZ (g_.2.2.2.2.2:List kr) (lE dk 102 (Int.toNat (((dk.Now.length-102):Nat):Int)) hh.First)])) (s.aT (B0:=[ag.box aH [ay,aF,av,iV dk.Fuse,.bool dk.Down] 112,ag.row 9 ay dk.Kept,ag.row 9 aF dk.Now,ag.row 114 av dk.Wait]) (Br:=[ag.row 117 z1 (eX (tx.extract 0 hh.Size.toNat)).1,ag.box b1 [.pointer (some ⟨aH,0,none⟩),iV hh.Epoch,iV hh.Side,iV hh.Size,iV hh.First,.pointer none,nS] 133,ag.held w own]) (F0:=[]) [2,3,4,5,0,1,6] [] (fun g_:Value×Value×Value×Nat×Value×List kr => .tuple #[.pointer (some ⟨g_.2.2.2.1,0,none⟩),g_.2.2.2.2.1,.nilIface]) (fun g_=>[ag.box aH [g_.1,g_.2.1,g_.2.2.1,iV dk.Fuse,.bool dk.Down] 112,ag.row 9 g_.1 dk.Kept,ag.row 9 g_.2.1 dk.Now,ag.row 114 g_.2.2.1 dk.Wait,ag.box g_.2.2.2.1 [.pointer (some ⟨aH,0,none⟩),iV (⟨102,(((dk.Now.length-102):Nat):Int),hh.First,(fE dk 102 (Int.toNat (((dk.Now.length-102):Nat):Int)) hh.First:Int)⟩:Lg).From,iV (⟨102,(((dk.Now.length-102):Nat):Int),hh.First,(fE dk 102 (Int.toNat (((dk.Now.length-102):Nat):Int)) hh.First:Int)⟩:Lg).Many,iV (⟨102,(((dk.Now.length-102):Nat):Int),hh.First,(fE dk 102 (Int.toNat (((dk.Now.length-102):Nat):Int)) hh.First:Int)⟩:Lg).First,iV (⟨102,(((dk.Now.length-102):Nat):Int),hh.First,(fE dk 102 (Int.toNat (((dk.Now.length-102):Nat):Int)) hh.First:Int)⟩:Lg).Next] 198]) (fun g_=>[ag.ls g_.2.2.2.2.1 g_.2.2.2.2.2,ag.pZ (g_.2.2.2.2.2:List kr) (lE dk 102 (Int.toNat (((dk.Now.length-102):Nat):Int)) hh.First)]) O O O NW O O (fun w own hw H=>C8 aH ay aF av dk 102 (((dk.Now.length-102):Nat):Int) hh.First w own H (by refine ⟨by decide,?_,?_,?_,?_⟩ <;> omega) hd (⟨hD.1,by omega⟩)) O) (fun _=>(kF [5,6,7] [] O O O)) O ?_
 rintro ⟨z8,z9,mG,l5,z12,py⟩
 dsimp only
 refine D.q (i:=10) O (kF [5,6,7] [] O O O) O (q.mv O) O<|D.q (i:=11) O (kF [5,6,7] [] O O O) O (q.ext O O) O<|D.q (i:=12) O (kF [5,6,7] [] O O O) O (q.ext O O) O<|D.q (i:=13) O (kF [5,6,7] [] O O O) O (q.ext O O) O<|D.q (i:=14) O (kF [5,6,7] [] O O O) O (q.as O) O<|D.q (i:=15) O (kF [5,6,7] [] O O O) O (q.as O) O<|D.q (i:=16) O (kF [5,6,7] [] O O O) O (q.as O) O<|D.done<|?_
 refine R.reg O<|R.u 1 O<|R.q (q.ux O O Tryz.underlying38) O<|R.nil ?_
 refine R.aD O O ?_
 refine R.reg O<|R.u 4 O<|R.q (q.bR O) O<|R.q (q.aP (off':=5) O kN O) O<|?_
 refine R.s O (s.st (us:=[.pointer (some ⟨l5,0,none⟩)]) (cs':=[.pointer (some ⟨aH,0,none⟩),iV hh.Epoch,iV hh.Side,iV hh.Size,iV hh.First,.pointer (some ⟨l5,0,none⟩),nS]) 6 _ O O O O (.inr ⟨fD,rfl⟩) O O O O) fun _=>?_
 refine Rg.PN (F':=[ag.lL (py:List kr),ag.ls z12 py]) 1 O O fun hE1=>?_
 refine R.q (q.bR O) O<|R.q (q.aP (off':=6) O iY O) O<|?_
 refine R.s O (s.fP (us:=[z1]) (cs':=[.pointer (some ⟨aH,0,none⟩),iV hh.Epoch,iV hh.Side,iV hh.Size,iV hh.First,.pointer (some ⟨l5,0,none⟩),z1]) 6 _ O O O (fun w hw=>Sl.cr (hw.row 5 O)) (.inr ⟨gx,rfl⟩) (fun w hw=>(ae (Sl.one (hw.row 5 O)) aO)) O O O) fun _=>?_
 refine R.nil ?_
 refine R.reg O<|R.u 1 O<|R.q (q.len' (dh 1 O) O Tryz.underlying141) O<|R.u 1 O<|R.nil ?_
 refine R.mp (B':=[ag.box aH [z8,z9,mG,iV dk.Fuse,.bool dk.Down] 112,ag.row 9 z8 dk.Kept,ag.row 9 z9 dk.Now,ag.row 114 mG dk.Wait,ag.box l5 [.pointer (some ⟨aH,0,none⟩),iV 102,iV (((dk.Now.length-102):Nat):Int),iV hh.First,iV (fE dk 102 (Int.toNat (((dk.Now.length-102):Nat):Int)) hh.First:Int)] 198,ag.box b1 [.pointer (some ⟨aH,0,none⟩),iV hh.Epoch,iV hh.Side,iV hh.Size,iV hh.First,.pointer (some ⟨l5,0,none⟩),z1] 133,ag.held w own]) (fun _ hw=>hw.cW 5 _ O O) ?_
 refine R.loop (fun g_:Nat×Value×(List Change)=>[(4,.pointer (some ⟨b1,0,none⟩)),(127,z12),(128,iV (py.length:Int)),(129,iV (g_.1:Int))]) (fun g_=>[ag.box aH [z8,z9,mG,iV dk.Fuse,.bool dk.Down] 112,ag.row 9 z8 dk.Kept,ag.row 9 z9 dk.Now,ag.row 114 mG dk.Wait,ag.box l5 [.pointer (some ⟨aH,0,none⟩),iV 102,iV (((dk.Now.length-102):Nat):Int),iV hh.First,iV (fE dk 102 (Int.toNat (((dk.Now.length-102):Nat):Int)) hh.First:Int)] 198,ag.box b1 [.pointer (some ⟨aH,0,none⟩),iV hh.Epoch,iV hh.Side,iV hh.Size,iV hh.First,.pointer (some ⟨l5,0,none⟩),g_.2.1] 133,ag.held w own]) (fun g_=>[ag.ls g_.2.1 g_.2.2,ag.ls z1 (eX (tx.extract 0 hh.Size.toNat)).1,ag.lL (py:List kr),ag.ls z12 py]) (fun g_=>g_.1<=py.length/\g_.2.2=ky (eX (rA dk)).1 ((py.map kr.L).take g_.1)) (fun g_=>py.length-g_.1) (0,z1,(eX (tx.extract 0 hh.Size.toNat)).1) O (by exact ⟨by omega,by rw [hth];rfl⟩) ⟨rfl,rfl,rfl,rfl,trivial⟩ (fun _=>Wd.pick l9 [0,0,1,2] O O O) ?_
 rintro ⟨k,vr,rr⟩ ⟨hk,HR⟩
 dsimp only at *
 have Ww:=Mx hE1;have hWs:∀c∈py.map kr.L,c.length<=98:=fun c hc=>by rw [hE1] at hc;have:=E1 c hc;omega
 have hrl:rr.length<=12004:=by have h1:=xl (M:=98) ((py.map kr.L).take k) (eX (rA dk)).1 (fun c hc=>hWs c (List.mem_of_mem_take hc));have h2:=E0 (rA dk);have h3:(rA dk).size<=2400:=(by rw [<- hth,ByteArray.size_extract];omega);rw [List.length_take,List.length_map] at h1;rw [HR];omega
 refine R.reg O<|?_
 by_cases h5:k<py.length
 .
  refine R.q (q.lss O O (decide_eq_true (by omega))) O<|R.nil ?_
  refine R.az O O ?_
  refine R.reg O<|?_
  obtain ⟨x1,hx1⟩:∃z,py[k]? = some z:=⟨_,List.getElem?_eq_getElem (by omega)⟩
  refine R.q (q.idx (i:=k) (dh 3 O) O O F5 O hx1) O<|R.q (q.ln (dh 3 O) hx1 O gx O) O<|R.u 1 O<|R.nil ?_
  have hxl:=hWs x1.L (List.mem_map_of_mem (List.mem_of_getElem? hx1))
  refine R.reg O<|R.u 2 O<|R.q (q.bR O) O<|R.q (q.aP (off':=6) O iY O) O<|R.q (q.ld 5 O O gx O) O<|R.u 1 O<|?_
  refine R.s (B':=(fun kQ:Value=>[ag.row 117 kQ (cb rr x1.L),ag.box aH [z8,z9,mG,iV dk.Fuse,.bool dk.Down] 112,ag.row 9 z8 dk.Kept,ag.row 9 z9 dk.Now,ag.row 114 mG dk.Wait,ag.box l5 [.pointer (some ⟨aH,0,none⟩),iV 102,iV (((dk.Now.length-102):Nat):Int),iV hh.First,iV (fE dk 102 (Int.toNat (((dk.Now.length-102):Nat):Int)) hh.First:Int)] 198,ag.box b1 [.pointer (some ⟨aH,0,none⟩),iV hh.Epoch,iV hh.Side,iV hh.Size,iV hh.First,.pointer (some ⟨l5,0,none⟩),vr] 133,ag.held w own])) (F':=(fun kQ:Value=>[ag.ls x1.cv x1.L,ag.ls vr rr,ag.ls z1 (eX (tx.extract 0 hh.Size.toNat)).1,ag.lL (py:List kr),ag.ls z12 py])) O (s.pre (B2:=[ag.box aH [z8,z9,mG,iV dk.Fuse,.bool dk.Down] 112,ag.row 9 z8 dk.Kept,ag.row 9 z9 dk.Now,ag.row 114 mG dk.Wait,ag.box l5 [.pointer (some ⟨aH,0,none⟩),iV 102,iV (((dk.Now.length-102):Nat):Int),iV hh.First,iV (fE dk 102 (Int.toNat (((dk.Now.length-102):Nat):Int)) hh.First:Int)] 198,ag.box b1 [.pointer (some ⟨aH,0,none⟩),iV hh.Epoch,iV hh.Side,iV hh.Size,iV hh.First,.pointer (some ⟨l5,0,none⟩),vr] 133,ag.held w own]) (F2:=[ag.ls x1.cv x1.L,ag.ls vr rr,ag.ls z1 (eX (tx.extract 0 hh.Size.toNat)).1,ag.lL (py:List kr),ag.ls z12 py]) (fun _ hw=>hw.PL (x:=x1) 2 O (List.mem_of_getElem? hx1)) (s.aT (B0:=[]) (Br:=[ag.box aH [z8,z9,mG,iV dk.Fuse,.bool dk.Down] 112,ag.row 9 z8 dk.Kept,ag.row 9 z9 dk.Now,ag.row 114 mG dk.Wait,ag.box l5 [.pointer (some ⟨aH,0,none⟩),iV 102,iV (((dk.Now.length-102):Nat):Int),iV hh.First,iV (fE dk 102 (Int.toNat (((dk.Now.length-102):Nat):Int)) hh.First:Int)] 198,ag.box b1 [.pointer (some ⟨aH,0,none⟩),iV hh.Epoch,iV hh.Side,iV hh.Size,iV hh.First,.pointer (some ⟨l5,0,none⟩),vr] 133,ag.held w own]) (F0:=[ag.ls vr rr,ag.ls x1.cv x1.L]) l9 [1,0] (fun kQ:Value=>kQ) (fun kQ:Value=>[ag.row 117 kQ (cb rr x1.L)]) (fun kQ:Value=>[]) O O O Ji O O (fun w own hw H=>oA vr rr x1.cv x1.L w own H (by omega)) O)) fun yv=>?_
  refine R.q (q.bR O) O<|R.q (q.aP (off':=6) O iY O) O<|?_
  refine R.s O (s.fP (us:=[yv]) (cs':=[.pointer (some ⟨aH,0,none⟩),iV hh.Epoch,iV hh.Side,iV hh.Size,iV hh.First,.pointer (some ⟨l5,0,none⟩),yv]) 6 _ O O O (fun w hw=>Sl.cr (hw.row 0 O)) (.inr ⟨gx,rfl⟩) (fun w hw=>(ae (Sl.one (hw.row 0 O)) aO)) O O O) fun _=>?_
  refine R.nil ?_
  refine R.reg O<|R.q (q.add (r:=((k+1:Nat):Int)) O O (wr (by omega))) O<|R.u 1 O<|R.nil ?_
  refine R.mp (B':=[ag.box aH [z8,z9,mG,iV dk.Fuse,.bool dk.Down] 112,ag.row 9 z8 dk.Kept,ag.row 9 z9 dk.Now,ag.row 114 mG dk.Wait,ag.box l5 [.pointer (some ⟨aH,0,none⟩),iV 102,iV (((dk.Now.length-102):Nat):Int),iV hh.First,iV (fE dk 102 (Int.toNat (((dk.Now.length-102):Nat):Int)) hh.First:Int)] 198,ag.box b1 [.pointer (some ⟨aH,0,none⟩),iV hh.Epoch,iV hh.Side,iV hh.Size,iV hh.First,.pointer (some ⟨l5,0,none⟩),yv] 133,ag.held w own]) (fun _ hw=>hw.cW 0 _ O O) ?_
  refine R.back (k+1,yv,cb rr x1.L) O (by (exact ⟨by omega,by rw [C9 (c:=x1.L) (by rw [List.getElem?_map,hx1];rfl),<- HR]⟩)) (by dsimp only;omega) ⟨rfl,rfl,rfl,rfl,trivial⟩ (kF l9 oU O O O)
 refine R.q (q.lss O O (decide_eq_false (by omega))) O<|R.nil ?_
 refine R.aD O O ?_
 refine R.reg O<|R.u 3 O<|R.nil ?_
 have hz:(dk,(aY dk).c,(aY dk).L)=(dk,(⟨hh.Epoch,hh.Side,hh.Size,hh.First,rr⟩:kY),(⟨102,(((dk.Now.length-102):Nat):Int),hh.First,(fE dk 102 (Int.toNat (((dk.Now.length-102):Nat):Int)) hh.First:Int)⟩:Lg)):=by (rw [HR,List.take_of_length_le (by rw [List.length_map];omega),hE1,Ui,show ((dk.Now.length-102:Nat):Int)=(dk.Now.length:Int)-102 by omega];rfl)
 have hz0:(aY dk).c=(⟨hh.Epoch,hh.Side,hh.Size,hh.First,rr⟩:kY):=congrArg (fun t_=>t_.2.1) hz
 rw [hz0]
 have hz1:(aY dk).L=(⟨102,(((dk.Now.length-102):Nat):Int),hh.First,(fE dk 102 (Int.toNat (((dk.Now.length-102):Nat):Int)) hh.First:Int)⟩:Lg):=congrArg (fun t_=>t_.2.2) hz
 rw [hz1]
 exact R.w2 (z8,z9,mG,b1,vr,l5) [0,1,2,3,5,4,6] [0] O Tryz.results36 (RV.tmp O) (RV.tmp O) O O O (dy O O)
end
end Go.Proofs.YtkbhcbipadkcaaaGreatDoor
