import Derived.Test.YtkbhcbipadkcaaaGreatDoorTO19
namespace Go.Proofs.YtkbhcbipadkcaaaGreatDoor
set_option linter.unusedVariables false
set_option linter.unusedSimpArgs false
section
open Go Go.RowKit
theorem jy {d:cw}{i:Int}{x:ByteArray}(hd:d.Down=false)(hf:d.Fuse = -1)(h0:0<=i)(h1:i<(d.Now.length:Int))(h2:x.size<=48) :
 ap d i x=(⟨d.Kept,d.Now.set i.toNat (full x),d.Wait++[⟨i,full x⟩],-1,false⟩,0):=by
 rw [iH h0 h1 h2 (by rw [kP hd hf]),kP hd hf]
def j0 (p n:Int):List Change->List Turn
  | []=>[]
  | c::l=>⟨p,full (dF 111 n (ke c).1)⟩::j0 (p+1) (n+1) l
theorem kY:∀ (l:List Change) (p n:Int),(j0 p n l).length=l.length
 | [],_,_=>rfl
 | c::l,p,n=>by simp [j0,kY l]
theorem zB (lg:Lg):∀ (c:List Change) (d:cw) (i q:Nat),d.Down=false->d.Fuse = -1->lg.From+lg.Next+(i:Int)=(q:Int)->q+c.length<=d.Now.length->(∀x∈c,iI x=0) ->
 kV lg d c i=(⟨d.Kept,d.Now.take q++eZ (lg.First+lg.Next+(i:Int)) c++d.Now.drop (q+c.length),d.Wait++j0 (q:Int) (lg.First+lg.Next+(i:Int)) c,-1,false⟩,0)
 | [],d,i,q,hd,hf,hq,hl,hc=>by
  unfold kV;obtain ⟨a,b,e,f,g⟩:=d;simp_all [eZ,j0]
 | x::r,d,i,q,hd,hf,hq,hl,hc=>by
  have hx:=Bg (hc x (List.mem_cons_self ..))
  rw [List.length_cons] at hl
  have hw:=jy (d:=d) (i:=lg.From+lg.Next+(i:Int)) (x:=dF 111 (lg.First+lg.Next+(i:Int)) (ke x).1) hd hf (by omega) (by omega) (by rw [nV];omega)
  have Mx:(lg.From+lg.Next+(i:Int)).toNat=q:=by omega
  rw [Mx,hq] at hw
  unfold kV
  rw [hq,hw,if_pos rfl,zB lg r _ (i+1) (q+1) rfl rfl (by omega) (by dsimp only;rw [List.length_set];omega) (fun y hy=>hc y (List.mem_cons_of_mem _ hy))]
  have e1:(d.Now.set q (full (dF 111 (lg.First+lg.Next+(i:Int)) (ke x).1))).take (q+1)=d.Now.take q++[full (dF 111 (lg.First+lg.Next+(i:Int)) (ke x).1)]:=by
   rw [List.take_add_one,List.take_set_of_le (Nat.le_refl _),List.getElem?_set_self (by omega)];rfl
  have e2:(d.Now.set q (full (dF 111 (lg.First+lg.Next+(i:Int)) (ke x).1))).drop (q+1+r.length)=d.Now.drop (q+(r.length+1)):=by
   rw [List.drop_set_of_lt (by omega),show q+1+r.length=q+(r.length+1) by omega]
  have e3:lg.First+lg.Next+((i+1:Nat):Int)=lg.First+lg.Next+(i:Int)+1:=by omega
  have e4:((q+1:Nat):Int)=(q:Int)+1:=by omega
  dsimp only
  rw [e1,e2,e3,e4,List.length_cons]
  simp only [eZ,j0,List.append_assoc,List.singleton_append]
def jJ (n:Int)(c:List Change):List ByteArray:=eZ n c++[full (dF 99 (n+(c.length:Int)) (bV (c.length:Int)))]
theorem qN (n:Int)(c:List Change):(jJ n c).length=c.length+1:=by simp [jJ,gk]
structure P8 (n m:Nat)(lg:Lg)(d:cw):Prop where
  ok:fL n m d
  f0:0<=lg.From
  m0:0<=lg.Many
  fm:lg.From+lg.Many<=(n:Int)
  x0:0<=lg.Next
section
variable {n m:Nat} {lg:Lg} {d:cw} {c:List Change}
theorem ma (h:jI lg c=0):c.length<=62/\(c.length:Int)+1<=lg.Many-lg.Next /\ ∀x∈c,iI x=0:=by
 unfold jI at h
 split at h
 .cases h
 .
  split at h
  .cases h
  .exact ⟨by omega,by omega,qK h⟩
theorem HE (h:P8 n m lg d)(hd:d.Down=false)(hf:d.Fuse = -1)(ha:jI lg c=0) :
 ∃ (A B:List ByteArray) (b0:ByteArray) (T:List Turn),A=d.Now.take (lg.From+lg.Next).toNat/\d.Now.drop ((lg.From+lg.Next).toNat+c.length)=b0::B /\
  T=j0 (lg.From+lg.Next) (lg.First+lg.Next) c++(if lg.Next+(c.length:Int)+1<lg.Many then [⟨lg.From+(lg.Next+(c.length:Int)+1),full ⟨#[]⟩⟩] else []) /\
  dv lg d c=(⟨d.Kept,A++eZ (lg.First+lg.Next) c++b0::(if lg.Next+(c.length:Int)+1<lg.Many then B.set 0 (full ⟨#[]⟩) else B),d.Wait++T,-1,false⟩,0):=by
 obtain ⟨a1,a2,a3⟩:=ma ha
 have h1:=h.f0;have h2:=h.m0;have h3:=h.fm;have h4:=h.x0;have h5:=h.ok.nl
 obtain ⟨q,hq⟩:∃q:Nat,lg.From+lg.Next=(q:Int):=⟨(lg.From+lg.Next).toNat,by omega⟩
 have Mx:(lg.From+lg.Next).toNat=q:=by omega
 have hl:=zB lg c d 0 q hd hf (by omega) (by omega) a3
 rw [show lg.First+lg.Next+((0:Nat):Int)=lg.First+lg.Next by omega] at hl
 have hdl:(d.Now.drop (q+c.length)).length=d.Now.length-(q+c.length):=List.length_drop
 obtain ⟨b0,B,hB⟩:∃b0 B,d.Now.drop (q+c.length)=b0::B:=by
  cases hh:d.Now.drop (q+c.length) with
  | nil=>rw [hh] at hdl;simp at hdl;omega
  | cons b0 B=>exact ⟨b0,B,rfl⟩
 refine ⟨_,B,b0,_,rfl,by rw [Mx];exact hB,rfl,?_⟩
 rw [Mx]
 have hA:(d.Now.take q++eZ (lg.First+lg.Next) c).length=q+c.length:=by rw [List.length_append,List.length_take,gk];omega
 rw [hB] at hl
 unfold dv
 rw [hl,if_pos rfl,hq]
 by_cases hr:lg.Next+(c.length:Int)+1<lg.Many
 .
  rw [if_pos hr,if_pos hr,if_pos hr]
  have hn:(d.Now.take q++eZ (lg.First+lg.Next) c++b0::B).length=d.Now.length:=by
   rw [List.length_append,hA,<- hB,hdl];omega
  rw [jy rfl rfl (by omega) (by dsimp only;omega) (by decide)]
  dsimp only
  have e:(lg.From+(lg.Next+(c.length:Int)+1)).toNat=q+c.length+1:=by omega
  rw [e,List.set_append_right _ _ (by omega),hA,show q+c.length+1-(q+c.length)=0+1 by omega,List.set_cons_succ]
  simp only [List.append_assoc]
 .rw [if_neg hr,if_neg hr,if_neg hr,List.append_nil]
theorem zC (h:P8 n m lg d)(hd:d.Down=false)(hf:d.Fuse = -1)(ha:jI lg c=0) :
 ∃ (r:List ByteArray) (e:cw),cx lg d c=(⟨lg.From,lg.Many,lg.First,lg.Next+(c.length:Int)+1⟩,e,0)/\e.Down=false/\e.Fuse = -1/\e.Kept=e.Now/\e.Wait=[] /\
  e.Now=d.Now.take (lg.From+lg.Next).toNat++jJ (lg.First+lg.Next) c++r/\(lg.Next+(c.length:Int)+1<lg.Many -> ∃r',r=full ⟨#[]⟩::r')/\(∀s∈r,s=full ⟨#[]⟩∨s∈d.Now.drop (lg.From+lg.Next).toNat):=by
 obtain ⟨a1,a2,a3⟩:=ma ha
 have h1:=h.f0;have h2:=h.m0;have h3:=h.fm;have h4:=h.x0;have h5:=h.ok.nl
 obtain ⟨A,B,b0,T,hA,hB,hT,hL⟩:=HE h hd hf ha
 have VD:A.length=(lg.From+lg.Next).toNat:=by rw [hA,List.length_take];omega
 have hdl:(b0::B).length=d.Now.length-((lg.From+lg.Next).toNat+c.length):=by rw [<- hB,List.length_drop]
 rw [List.length_cons] at hdl
 generalize hC:(if lg.Next+(c.length:Int)+1<lg.Many then B.set 0 (full ⟨#[]⟩) else B)=C at hL
 have UN:C.length=B.length:=by rw [<- hC];split <;> simp
 have SC:(A++eZ (lg.First+lg.Next) c).length=(lg.From+lg.Next).toNat+c.length:=by rw [List.length_append,VD,gk]
 have hb:rX lg d c=(⟨A++eZ (lg.First+lg.Next) c++b0::C,A++eZ (lg.First+lg.Next) c++b0::C,[],-1,false⟩,0):=by
  unfold rX;rw [hL];exact lz rfl rfl
 have hc:sV lg d c=(⟨A++eZ (lg.First+lg.Next) c++b0::C,A++jJ (lg.First+lg.Next) c++C,[⟨lg.From+(lg.Next+(c.length:Int)),full (dF 99 (lg.First+(lg.Next+(c.length:Int))) (bV (c.length:Int)))⟩],-1,false⟩,0):=by
  unfold sV
  rw [hb,jy rfl rfl (by omega) (by dsimp only;rw [List.length_append,SC,List.length_cons];omega) (by rw [nV,aF];omega)]
  dsimp only
  have e:(lg.From+(lg.Next+(c.length:Int))).toNat=(lg.From+lg.Next).toNat+c.length:=by omega
  rw [e,List.set_append_right _ _ (by omega),SC,Nat.sub_self,List.set_cons_zero]
  unfold jJ
  rw [show lg.First+(lg.Next+(c.length:Int))=lg.First+lg.Next+(c.length:Int) by omega]
  simp only [List.append_assoc,List.singleton_append,List.nil_append]
 have hD:vf lg d c=(⟨A++jJ (lg.First+lg.Next) c++C,A++jJ (lg.First+lg.Next) c++C,[],-1,false⟩,0):=by
  unfold vf;rw [hc];exact lz rfl rfl
 refine ⟨C,_,EM ha (by rw [hL]) (by rw [hb]) (by rw [hc]) (by rw [hD]),by rw [hD],by rw [hD],by rw [hD],by rw [hD],by rw [hD,hA],fun hr=>?_,fun s hs=>?_⟩
 .
  rw [if_pos hr] at hC
  cases B with
  | nil=>simp at hdl;omega
  | cons b1 B=>exact ⟨B,hC.symm⟩
 .
  have hsB:∀s∈B,s∈d.Now.drop (lg.From+lg.Next).toNat:=fun s hs=>by
   have:s∈d.Now.drop ((lg.From+lg.Next).toNat+c.length):=by rw [hB];exact List.mem_cons_of_mem _ hs
   rw [<- List.drop_drop] at this
   exact List.mem_of_mem_drop this
  rw [<- hC] at hs
  split at hs
  .
   rcases List.mem_or_eq_of_mem_set hs with hs|hs
   .exact .inr (hsB s hs)
   .exact .inl hs
  .exact .inr (hsB s hs)
theorem nZ {d:cw}{f k:Nat}(hd:d.Down=false)(hl:f+k<=d.Now.length):p9 d (f:Int) k=(d.Now.drop f).take k:=by
 refine List.ext_getElem? fun j=>?_
 by_cases hj:j<k
 .
  rw [qJ hj,List.getElem?_take_of_lt hj,List.getElem?_drop]
  obtain ⟨x,hx⟩:∃x,d.Now[f+j]? = some x:=⟨_,List.getElem?_eq_getElem (by omega)⟩
  rw [show (f:Int)+(j:Int)=((f+j:Nat):Int) by omega,wM hd hx,hx]
 .rw [List.getElem?_eq_none (by rw [qa];omega),List.getElem?_eq_none (by rw [List.length_take];omega)]
theorem Kh {W:List (List Change)}{u:Nat}(h:P8 n m lg d)(hd:d.Down=false)(hf:d.Fuse = -1)(ha:jI lg c=0)(hx:lg.Next=(u:Int))(hs:scan (p9 d lg.From lg.Many.toNat) lg.First=(W,u)) :
 scan (p9 (cx lg d c).2.1 lg.From lg.Many.toNat) lg.First=(W++[c],u+c.length+1):=by
 obtain ⟨a1,a2,a3⟩:=ma ha
 have h1:=h.f0;have h2:=h.m0;have h3:=h.fm;have h5:=h.ok.nl
 obtain ⟨r,e,he,e1,e2,e3,e4,e5,e6,e7⟩:=zC h hd hf ha
 obtain ⟨f,hF⟩:∃f:Nat,lg.From=(f:Int):=⟨lg.From.toNat,by omega⟩
 obtain ⟨k,hK⟩:∃k:Nat,lg.Many=(k:Int):=⟨lg.Many.toNat,by omega⟩
 have hq:(lg.From+lg.Next).toNat=f+u:=by omega
 rw [hq] at e5
 have hkt:lg.Many.toNat=k:=by omega
 have htl:(d.Now.take (f+u)).length=f+u:=by rw [List.length_take];omega
 have hok:=vz (lg:=lg) (c:=c) h.ok
 rw [he] at hok
 have hel:e.Now.length=n:=hok.nl
 have hrl:f+u+(c.length+1)+r.length=n:=by
  rw [e5,List.length_append,List.length_append,htl,qN] at hel;exact hel
 rw [he]
 dsimp only
 rw [hkt,hF] at hs ⊢
 rw [nZ hd (by omega)] at hs
 rw [nZ e1 (by omega)]
 have hd1:e.Now.drop f=(d.Now.drop f).take u++(jJ (lg.First+lg.Next) c++r):=by
  rw [e5,List.append_assoc,List.drop_append_of_le_length (by omega),List.drop_take,show f+u-f=u by omega]
 have T5:((d.Now.drop f).take u).length=u:=by rw [List.length_take,List.length_drop];omega
 have HG:(e.Now.drop f).take k=(d.Now.drop f).take u++(jJ (lg.First+lg.Next) c++r.take (k-u-(c.length+1))):=by
  rw [hd1,List.take_append,T5,List.take_of_length_le (l:=(d.Now.drop f).take u) (by omega),List.take_append,qN,List.take_of_length_le (l:=jJ (lg.First+lg.Next) c) (by rw [qN];omega)]
 have hcut:=wW (l:=(d.Now.drop f).take k) (l':=(e.Now.drop f).take k) (first:=lg.First) (by
  rw [hs,HG,List.take_append_of_le_length (by omega),List.take_take,List.take_take];congr 1;omega)
 rw [hcut,hs,HG]
 dsimp only
 rw [List.drop_append_of_le_length (by omega),List.drop_of_length_le (by omega),List.nil_append,hx]
 unfold jJ
 rw [List.append_assoc,List.singleton_append]
 refine Ge a3 ?_
 by_cases hb:lg.Next+(c.length:Int)+1<lg.Many
 .
  obtain ⟨r',hr'⟩:=e6 hb
  right
  obtain ⟨j,hj⟩:∃j,k-u-(c.length+1)=j+1:=⟨k-u-(c.length+1)-1,by omega⟩
  exact ⟨full ⟨#[]⟩,r'.take j,by rw [hr',hj,List.take_succ_cons],oJ⟩
 .
  left
  rw [show k-u-(c.length+1)=0 by omega,List.take_zero]
theorem HI (ha:¬ jI lg c=0):cx lg d c=(lg,d,jI lg c):=by unfold cx;rw [if_pos ha]
theorem HJ {l:List ByteArray}{first:Int}{W:List (List Change)}{u:Nat}(h:scan l first=(W,u)):u<=l.length:=by
 have:=Gd l first;rw [h] at this;exact this
theorem My {gp many first:Int}{u:Nat}{W:List (List Change)}(hO:fL n m d)(hd:d.Down=false)(hf:d.Fuse = -1)(hg:lg=⟨gp,many,first,(u:Int)⟩)(b1:0<=gp)(b2:1<=many)(b3:gp+many<=(n:Int))(hs:scan (p9 d gp many.toNat) first=(W,u)) :
 (cx lg d c).2.2=jI lg c/\(cx lg d c).2.1.Down=false/\(cx lg d c).2.1.Fuse = -1 /\
 (jI lg c=0->(cx lg d c).1=⟨gp,many,first,((u+c.length+1:Nat):Int)⟩/\scan (p9 (cx lg d c).2.1 gp many.toNat) first=(W++[c],u+c.length+1)/\u+c.length+1<=many.toNat) /\
 (¬ jI lg c=0->(cx lg d c).1=lg/\(cx lg d c).2.1=d):=by
 have hL:P8 n m lg d:=by rw [hg];exact ⟨hO,b1,by dsimp only;omega,b3,by dsimp only;omega⟩
 have e1:lg.From=gp:=by rw [hg]
 have e2:lg.Many=many:=by rw [hg]
 have e3:lg.First=first:=by rw [hg]
 have e4:lg.Next=(u:Int):=by rw [hg]
 by_cases ha:jI lg c=0
 .
  obtain ⟨a1,a2,a3⟩:=ma ha
  have hsc:=Kh (c:=c) (W:=W) (u:=u) hL hd hf ha e4 (by rw [e1,e2,e3];exact hs)
  obtain ⟨r,e,he,q1,q2,_⟩:=zC hL hd hf ha
  rw [e1,e2,e3] at hsc
  rw [he] at hsc ⊢
  refine ⟨ha.symm,q1,q2,fun _=>⟨?_,hsc,by omega⟩,fun h=>absurd ha h⟩
  show (⟨lg.From,lg.Many,lg.First,lg.Next+(c.length:Int)+1⟩:Lg)=_
  rw [e1,e2,e3,e4];congr 1
 .
  rw [HI ha]
  exact ⟨rfl,hd,hf,fun h=>absurd h ha,fun _=>⟨rfl,rfl⟩⟩
def Ki (lg:Lg)(c:List Change)(k:Nat)(f:Int):Prop :=
  k<=c.length/\((f=jI lg c/\¬ f=0)∨(f=0/\¬ 62<c.length/\¬ lg.Many-lg.Next<(c.length:Int)+1/\jH (c.drop k)=jH c))
theorem Ki.next {k:Nat}{f:Int}{x:Change}(h:Ki lg c k f)(hf:f=0)(hx:c[k]? = some x):Ki lg c (k+1) (iI x):=by
 have hk:=(List.getElem?_eq_some_iff.1 hx).1
 obtain ⟨_,h1|⟨_,h2,h3,h4⟩⟩:=h
 .exact absurd hf h1.2
 .
  refine ⟨hk,?_⟩
  by_cases h0:iI x=0
  .exact .inr ⟨h0,h2,h3,JX h4 hx h0⟩
  .
   refine .inl ⟨?_,h0⟩
   unfold jI;rw [if_neg h2,if_neg h3,<- h4]
   exact (Bi rfl hx h0).symm
theorem Ki.is {k:Nat}{f:Int}(h:Ki lg c k f)(hk:¬ k<c.length∨¬ f=0):f=jI lg c:=by
 obtain ⟨h0,h1|⟨h2,h3,h4,h5⟩⟩:=h
 .exact h1.1
 .
  have hk:¬ k<c.length:=hk.resolve_right fun q=>q h2
  rw [List.drop_of_length_le (by omega)] at h5
  rw [h2,Bj h3 h4 h5.symm]
theorem xo:∀ (l:List ByteArray) (n:Int) (out:List (List Change)) (deed:List Change) (used pos:Nat),(iJ l n out deed used pos).1.length<=out.length+l.length
 | [],n,out,deed,used,pos=>by unfold iJ;simp
 | s::r,n,out,deed,used,pos=>by
  unfold iJ
  split
  .
   have:=xo r (n+1) (out++[deed]) [] (pos+1) (pos+1)
   simp only [List.length_append,List.length_cons,List.length_nil] at this ⊢;omega
  .
   split
   .
    have:=xo r (n+1) out (deed++[(rU (ry s)).1]) used (pos+1)
    rw [List.length_cons];omega
   .dsimp only;omega
end
end
section
open Go Go.RowKit
section
variable {n m:Nat} {lg:Lg} {d:cw} {c:List Change}
theorem j1 {a:cw}:¬ ((a,(10:Int)):cw×Int).2=0:=by show ¬ (10:Int)=0;decide
theorem zD (hd:d.Down=false)(hf : -1<=d.Fuse):(∃g,-1<=g/\bq d=(⟨d.Kept,d.Now,d.Wait,g,false⟩,0))∨bq d=(⟨d.Kept,d.Now,d.Wait,-1,true⟩,10):=by
 by_cases h:d.Fuse=0
 .exact .inr (rR hd h)
 .exact .inl ⟨_,by omega,sS hd h⟩
theorem oN {i:Int}{x:ByteArray}(hd:d.Down=false)(hf : -1<=d.Fuse)(h0:0<=i)(h1:i<(d.Now.length:Int))(h2:x.size<=48) :
 (∃g,-1<=g/\ap d i x=(⟨d.Kept,d.Now.set i.toNat (full x),d.Wait++[⟨i,full x⟩],g,false⟩,0))∨ap d i x=(⟨d.Kept,d.Now,d.Wait,-1,true⟩,10):=by
 rcases zD hd hf with ⟨g,hg,h⟩ | h
 .left;exact ⟨g,hg,by rw [iH h0 h1 h2 (by rw [h]),h]⟩
 .right;rw [wL h0 h1 h2 (by rw [h];exact j1),h]
theorem rY (hd:d.Down=false)(hf : -1<=d.Fuse):(∃g,-1<=g/\ai d=(⟨d.Now,d.Now,[],g,false⟩,0))∨ai d=(⟨d.Kept,d.Now,d.Wait,-1,true⟩,10):=by
 unfold ai
 rcases zD hd hf with ⟨g,hg,h⟩ | h
 .left;exact ⟨g,hg,by rw [h,if_pos rfl]⟩
 .right;rw [h,if_neg j1]
theorem C0 (lg:Lg):∀ (c:List Change) (d:cw) (i q:Nat),d.Down=false -> -1<=d.Fuse->lg.From+lg.Next+(i:Int)=(q:Int)->q+c.length<=d.Now.length->(∀x∈c,iI x=0) ->
 (∃g,-1<=g/\kV lg d c i=(⟨d.Kept,d.Now.take q++eZ (lg.First+lg.Next+(i:Int)) c++d.Now.drop (q+c.length),d.Wait++j0 (q:Int) (lg.First+lg.Next+(i:Int)) c,g,false⟩,0)) ∨
 (∃e,kV lg d c i=(e,10)/\e.Down=true/\e.Kept=d.Kept /\ ∃j,e.Wait=d.Wait++(j0 (q:Int) (lg.First+lg.Next+(i:Int)) c).take j)
 | [],d,i,q,hd,hf,hq,hl,hc=>by
  left;refine ⟨d.Fuse,hf,?_⟩
  unfold kV;obtain ⟨a,b,e,f,g⟩:=d;simp_all [eZ,j0]
 | x::r,d,i,q,hd,hf,hq,hl,hc=>by
  have hx:=Bg (hc x (List.mem_cons_self ..))
  rw [List.length_cons] at hl
  have hw:=oN (d:=d) (i:=lg.From+lg.Next+(i:Int)) (x:=dF 111 (lg.First+lg.Next+(i:Int)) (ke x).1) hd hf (by omega) (by omega) (by rw [nV];omega)
  have Mx:(lg.From+lg.Next+(i:Int)).toNat=q:=by omega
  rw [Mx,hq] at hw
  unfold kV
  rw [hq]
  rcases hw with ⟨g,hg,hw⟩ | hw
  .
   rw [hw,if_pos rfl]
   have e3:lg.First+lg.Next+((i+1:Nat):Int)=lg.First+lg.Next+(i:Int)+1:=by omega
   have e4:((q+1:Nat):Int)=(q:Int)+1:=by omega
   rcases C0 lg r ⟨d.Kept,d.Now.set q (full (dF 111 (lg.First+lg.Next+(i:Int)) (ke x).1)),d.Wait++[⟨(q:Int),full (dF 111 (lg.First+lg.Next+(i:Int)) (ke x).1)⟩],g,false⟩ (i+1) (q+1) rfl hg (by omega) (by dsimp only;rw [List.length_set];omega) (fun y hy=>hc y (List.mem_cons_of_mem _ hy)) with ⟨g',hg',h⟩ | ⟨e,he,h1,h2,j,h3⟩
   .
    left;refine ⟨g',hg',?_⟩
    rw [h]
    have e1:(d.Now.set q (full (dF 111 (lg.First+lg.Next+(i:Int)) (ke x).1))).take (q+1)=d.Now.take q++[full (dF 111 (lg.First+lg.Next+(i:Int)) (ke x).1)]:=by
     rw [List.take_add_one,List.take_set_of_le (Nat.le_refl _),List.getElem?_set_self (by omega)];rfl
    have e2:(d.Now.set q (full (dF 111 (lg.First+lg.Next+(i:Int)) (ke x).1))).drop (q+1+r.length)=d.Now.drop (q+(r.length+1)):=by
     rw [List.drop_set_of_lt (by omega),show q+1+r.length=q+(r.length+1) by omega]
    dsimp only
    rw [e1,e2,e3,e4,List.length_cons]
    simp only [eZ,j0,List.append_assoc,List.singleton_append]
   .
    right;refine ⟨e,he,h1,h2,j+1,?_⟩
    rw [h3,e3,e4]
    simp only [j0,List.take_succ_cons,List.append_assoc,List.singleton_append]
  .
   right
   rw [hw,if_neg j1]
   exact ⟨_,rfl,rfl,rfl,0,by simp⟩
def rZ (lg:Lg)(c:List Change):List Turn:=j0 (lg.From+lg.Next) (lg.First+lg.Next) c++(if lg.Next+(c.length:Int)+1<lg.Many then [⟨lg.From+(lg.Next+(c.length:Int)+1),full ⟨#[]⟩⟩] else [])
theorem Kj (h:P8 n m lg d)(hd:d.Down=false)(hf : -1<=d.Fuse)(ha:jI lg c=0) :
 ∃ (B:List ByteArray) (b0:ByteArray),d.Now.drop ((lg.From+lg.Next).toNat+c.length)=b0::B /\
  ((∃g,-1<=g/\dv lg d c=(⟨d.Kept,d.Now.take (lg.From+lg.Next).toNat++eZ (lg.First+lg.Next) c++b0::(if lg.Next+(c.length:Int)+1<lg.Many then B.set 0 (full ⟨#[]⟩) else B),d.Wait++rZ lg c,g,false⟩,0)) ∨
   (∃e,dv lg d c=(e,10)/\e.Down=true/\e.Kept=d.Kept /\ ∃j,e.Wait=d.Wait++(rZ lg c).take j)):=by
 obtain ⟨a1,a2,a3⟩:=ma ha
 have h1:=h.f0;have h2:=h.m0;have h3:=h.fm;have h4:=h.x0;have h5:=h.ok.nl
 obtain ⟨q,hq⟩:∃q:Nat,lg.From+lg.Next=(q:Int):=⟨(lg.From+lg.Next).toNat,by omega⟩
 have hle:q+c.length<=d.Now.length:=by omega
 have Mx:(lg.From+lg.Next).toNat=q:=by omega
 have hl:=C0 lg c d 0 q hd hf (by omega) (by omega) a3
 rw [show lg.First+lg.Next+((0:Nat):Int)=lg.First+lg.Next by omega] at hl
 have hdl:(d.Now.drop (q+c.length)).length=d.Now.length-(q+c.length):=List.length_drop
 obtain ⟨b0,B,hB⟩:∃b0 B,d.Now.drop (q+c.length)=b0::B:=by
  cases hh:d.Now.drop (q+c.length) with
  | nil=>rw [hh] at hdl;simp at hdl;omega
  | cons b0 B=>exact ⟨b0,B,rfl⟩
 refine ⟨B,b0,by rw [Mx];exact hB,?_⟩
 rw [Mx]
 have hA:(d.Now.take q++eZ (lg.First+lg.Next) c).length=q+c.length:=by rw [List.length_append,List.length_take,gk];omega
 rw [hB] at hl
 have hn:(d.Now.take q++eZ (lg.First+lg.Next) c++b0::B).length=d.Now.length:=by
  rw [List.length_append,hA,<- hB,hdl];exact Nat.add_sub_cancel' hle
 unfold dv rZ
 rw [hq]
 rcases hl with ⟨g,hg,hl⟩ | ⟨e,he,e1,e2,j,e3⟩
 .
  rw [hl,if_pos rfl]
  by_cases hr:lg.Next+(c.length:Int)+1<lg.Many
  .
   rw [if_pos hr,if_pos hr,if_pos hr]
   rcases oN (d:=⟨d.Kept,d.Now.take q++eZ (lg.First+lg.Next) c++b0::B,d.Wait++j0 (q:Int) (lg.First+lg.Next) c,g,false⟩) (i:=lg.From+(lg.Next+(c.length:Int)+1)) (x:=⟨#[]⟩) rfl hg (by omega) (by dsimp only;omega) (by decide) with ⟨g',hg',hw⟩ | hw
   .
    left;refine ⟨g',hg',?_⟩
    rw [hw]
    dsimp only
    have e:(lg.From+(lg.Next+(c.length:Int)+1)).toNat=q+c.length+1:=by
     have:lg.From+(lg.Next+(c.length:Int)+1)=((q+c.length+1:Nat):Int):=by omega
     rw [this,Int.toNat_natCast]
    rw [e,List.set_append_right _ _ (by omega),hA,show q+c.length+1-(q+c.length)=0+1 by omega,List.set_cons_succ]
    simp only [List.append_assoc]
   .
    right
    rw [hw]
    exact ⟨_,rfl,rfl,rfl,c.length,by dsimp only;rw [List.take_append_of_le_length (by rw [kY];omega),List.take_of_length_le (by rw [kY];omega)]⟩
  .
   rw [if_neg hr,if_neg hr,if_neg hr,List.append_nil]
   exact .inl ⟨g,hg,rfl⟩
 .
  right
  rw [he,if_neg j1]
  refine ⟨e,rfl,e1,e2,min j c.length,?_⟩
  rw [e3,List.take_append_of_le_length (by rw [kY];exact Nat.min_le_right _ _)]
  congr 1
  by_cases hj:j<=c.length
  .rw [Nat.min_eq_left hj]
  .rw [Nat.min_eq_right (by omega),List.take_of_length_le (by rw [kY];omega),List.take_of_length_le (by rw [kY];omega)]
structure TL (n:Nat)(lg:Lg)(d:cw)(W:List (List Change))(u:Nat):Prop where
  ok:P8 n 0 lg d
  down:d.Down=false
  fuse : -1<=d.Fuse
  kn:d.Kept=d.Now
  wait:d.Wait=[]
  nx:lg.Next=(u:Int)
  sc:scan ((d.Now.drop lg.From.toNat).take lg.Many.toNat) lg.First=(W,u)
  tail:∀s∈d.Now.drop (lg.From.toNat+u),¬ bf s 0=99
theorem Mz (d:cw)(f:Int)(k:Nat)(first:Int):fE d f k first<=k:=by
 have:=Gd (p9 d f k) first
 rw [qa] at this;exact this
theorem MA {d:cw}{f:Int}{k:Nat}{first:Int}:(lC d f k first).length<=k:=by
 have:=xo (p9 d f k) first [] [] 0 0
 rw [qa] at this
 simpa [lC,scan] using this
theorem MB {l:List ku}{d:cw}{f:Int}{k:Nat}{first:Int}(h:l.map ku.L=lC d f k first):l.length<=k:=by
 have:=MA (d:=d) (f:=f) (k:=k) (first:=first)
 rw [<- h,List.length_map] at this;exact this
end
end
end Go.Proofs.YtkbhcbipadkcaaaGreatDoor
