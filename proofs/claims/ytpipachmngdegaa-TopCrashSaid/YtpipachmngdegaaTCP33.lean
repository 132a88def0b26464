import Derived.Test.YtpipachmngdegaaTCP26
section
namespace Go.Proofs.Ytpipachmngdegaa
open Go Go.RowKit
set_option linter.unusedVariables false
theorem d8 {d:bp}{i:Int}{x:ByteArray}(hd:d.Down=false)(hf:d.Fuse = -1)(h0:0≤i)(h1:i<(d.Now.length:Int))(h2:x.size≤48) :
    ar d i x=(⟨d.Kept,d.Now.set i.toNat (full x),d.Wait++[⟨i,full x⟩],-1,false⟩,0):=by
  rw [bG h0 h1 h2 (by rw [fc hd hf]),fc hd hf]
def eB (p n:Int):List Change→List Turn
  | []=>[]
  | c::l=>⟨p,full (a8 111 n (dO c).1)⟩::eB (p+1) (n+1) l
theorem fr:∀ (l:List Change) (p n:Int),(eB p n l).length=l.length
  | [],_,_=>rfl
  | c::l,p,n=>by simp [eB,fr l]
theorem nB (lg:Lg):∀ (c:List Change) (d:bp) (i q:Nat),d.Down=false→d.Fuse = -1→lg.From+lg.Next+(i:Int)=(q:Int)→q+c.length≤d.Now.length→(∀x∈c,ea x=0) →
    fq lg d c i=(⟨d.Kept,d.Now.take q++cu (lg.First+lg.Next+(i:Int)) c++d.Now.drop (q+c.length),d.Wait++eB (q:Int) (lg.First+lg.Next+(i:Int)) c,-1,false⟩,0)
  | [],d,i,q,hd,hf,hq,hl,hc=>by
    unfold fq;obtain ⟨a,b,e,f,g⟩:=d;simp_all [cu,eB]
  | x::r,d,i,q,hd,hf,hq,hl,hc=>by
    have hx:=og (hc x (List.mem_cons_self ..))
    rw [List.length_cons] at hl
    have hw:=d8 (d:=d) (i:=lg.From+lg.Next+(i:Int)) (x:=a8 111 (lg.First+lg.Next+(i:Int)) (dO x).1) hd hf (by omega) (by omega) (by rw [ic];omega)
    have uS:(lg.From+lg.Next+(i:Int)).toNat=q:=by omega
    rw [uS,hq] at hw
    unfold fq
    rw [hq,hw,if_pos rfl,nB lg r _ (i+1) (q+1) rfl rfl (by omega) (by dsimp only;rw [List.length_set];omega) (fun y hy=>hc y (List.mem_cons_of_mem _ hy))]
    have e1:(d.Now.set q (full (a8 111 (lg.First+lg.Next+(i:Int)) (dO x).1))).take (q+1)=d.Now.take q++[full (a8 111 (lg.First+lg.Next+(i:Int)) (dO x).1)]:=by
      rw [List.take_add_one,List.take_set_of_le (Nat.le_refl _),List.getElem?_set_self (by omega)];rfl
    have e2:(d.Now.set q (full (a8 111 (lg.First+lg.Next+(i:Int)) (dO x).1))).drop (q+1+r.length)=d.Now.drop (q+(r.length+1)):=by
      rw [List.drop_set_of_lt (by omega),show q+1+r.length=q+(r.length+1) by omega]
    have e3:lg.First+lg.Next+((i+1:Nat):Int)=lg.First+lg.Next+(i:Int)+1:=by omega
    have e4:((q+1:Nat):Int)=(q:Int)+1:=by omega
    dsimp only
    rw [e1,e2,e3,e4,List.length_cons]
    simp only [cu,eB,List.append_assoc,List.singleton_append]
def ef (n:Int)(c:List Change):List ByteArray:=cu n c++[full (a8 99 (n+(c.length:Int)) (aM (c.length:Int)))]
theorem jv (n:Int)(c:List Change):(ef n c).length=c.length+1:=by simp [ef,cY]
structure wA (n m:Nat)(lg:Lg)(d:bp):Prop where
  ok:cz n m d
  f0:0≤lg.From
  m0:0≤lg.Many
  fm:lg.From+lg.Many≤(n:Int)
  x0:0≤lg.Next
section
variable {n m:Nat} {lg:Lg} {d:bp} {c:List Change}
theorem gl (h:ec lg c=0):c.length≤62∧(c.length:Int)+1≤lg.Many-lg.Next ∧ ∀x∈c,ea x=0:=by
  unfold ec at h
  split at h
  · cases h
  ·
    split at h
    · cases h
    · exact ⟨by omega,by omega,jq h⟩
theorem rY (h:wA n m lg d)(hd:d.Down=false)(hf:d.Fuse = -1)(ha:ec lg c=0) :
    ∃ (A B:List ByteArray) (b0:ByteArray) (T:List Turn),A=d.Now.take (lg.From+lg.Next).toNat∧d.Now.drop ((lg.From+lg.Next).toNat+c.length)=b0::B ∧
      T=eB (lg.From+lg.Next) (lg.First+lg.Next) c++(if lg.Next+(c.length:Int)+1<lg.Many then [⟨lg.From+(lg.Next+(c.length:Int)+1),full ⟨#[]⟩⟩] else []) ∧
      aR lg d c=(⟨d.Kept,A++cu (lg.First+lg.Next) c++b0::(if lg.Next+(c.length:Int)+1<lg.Many then B.set 0 (full ⟨#[]⟩) else B),d.Wait++T,-1,false⟩,0):=by
  obtain ⟨a1,a2,a3⟩:=gl ha
  have h1:=h.f0;have h2:=h.m0;have h3:=h.fm;have h4:=h.x0;have h5:=h.ok.nl
  obtain ⟨q,hq⟩:∃q:Nat,lg.From+lg.Next=(q:Int):=⟨(lg.From+lg.Next).toNat,by omega⟩
  have uS:(lg.From+lg.Next).toNat=q:=by omega
  have hl:=nB lg c d 0 q hd hf (by omega) (by omega) a3
  rw [show lg.First+lg.Next+((0:Nat):Int)=lg.First+lg.Next by omega] at hl
  have hdl:(d.Now.drop (q+c.length)).length=d.Now.length-(q+c.length):=List.length_drop
  obtain ⟨b0,B,hB⟩:∃b0 B,d.Now.drop (q+c.length)=b0::B:=by
    cases hh:d.Now.drop (q+c.length) with
    | nil=>rw [hh] at hdl;simp at hdl;omega
    | cons b0 B=>exact ⟨b0,B,rfl⟩
  refine ⟨_,B,b0,_,rfl,by rw [uS];exact hB,rfl,?_⟩
  rw [uS]
  have hA:(d.Now.take q++cu (lg.First+lg.Next) c).length=q+c.length:=by rw [List.length_append,List.length_take,cY];omega
  rw [hB] at hl
  unfold aR
  rw [hl,if_pos rfl,hq]
  by_cases hr:lg.Next+(c.length:Int)+1<lg.Many
  ·
    rw [if_pos hr,if_pos hr,if_pos hr]
    have hn:(d.Now.take q++cu (lg.First+lg.Next) c++b0::B).length=d.Now.length:=by
      rw [List.length_append,hA,← hB,hdl];omega
    rw [d8 rfl rfl (by omega) (by dsimp only;omega) (by decide)]
    dsimp only
    have e:(lg.From+(lg.Next+(c.length:Int)+1)).toNat=q+c.length+1:=by omega
    rw [e,List.set_append_right _ _ (by omega),hA,show q+c.length+1-(q+c.length)=0+1 by omega,List.set_cons_succ]
    simp only [List.append_assoc]
  · rw [if_neg hr,if_neg hr,if_neg hr,List.append_nil]
theorem nC (h:wA n m lg d)(hd:d.Down=false)(hf:d.Fuse = -1)(ha:ec lg c=0) :
    ∃ (r:List ByteArray) (e:bp),aP lg d c=(⟨lg.From,lg.Many,lg.First,lg.Next+(c.length:Int)+1⟩,e,0)∧e.Down=false∧e.Fuse = -1∧e.Kept=e.Now∧e.Wait=[] ∧
      e.Now=d.Now.take (lg.From+lg.Next).toNat++ef (lg.First+lg.Next) c++r∧(lg.Next+(c.length:Int)+1<lg.Many → ∃r',r=full ⟨#[]⟩::r')∧(∀s∈r,s=full ⟨#[]⟩∨s∈d.Now.drop (lg.From+lg.Next).toNat):=by
  obtain ⟨a1,a2,a3⟩:=gl ha
  have h1:=h.f0;have h2:=h.m0;have h3:=h.fm;have h4:=h.x0;have h5:=h.ok.nl
  obtain ⟨A,B,b0,T,hA,hB,hT,hL⟩:=rY h hd hf ha
  have zT:A.length=(lg.From+lg.Next).toNat:=by rw [hA,List.length_take];omega
  have hdl:(b0::B).length=d.Now.length-((lg.From+lg.Next).toNat+c.length):=by rw [← hB,List.length_drop]
  rw [List.length_cons] at hdl
  generalize hC:(if lg.Next+(c.length:Int)+1<lg.Many then B.set 0 (full ⟨#[]⟩) else B)=C at hL
  have zh:C.length=B.length:=by rw [← hC];split <;> simp
  have ya:(A++cu (lg.First+lg.Next) c).length=(lg.From+lg.Next).toNat+c.length:=by rw [List.length_append,zT,cY]
  have hb:jH lg d c=(⟨A++cu (lg.First+lg.Next) c++b0::C,A++cu (lg.First+lg.Next) c++b0::C,[],-1,false⟩,0):=by
    unfold jH;rw [hL];exact fB rfl rfl
  have hc:kb lg d c=(⟨A++cu (lg.First+lg.Next) c++b0::C,A++ef (lg.First+lg.Next) c++C,[⟨lg.From+(lg.Next+(c.length:Int)),full (a8 99 (lg.First+(lg.Next+(c.length:Int))) (aM (c.length:Int)))⟩],-1,false⟩,0):=by
    unfold kb
    rw [hb,d8 rfl rfl (by omega) (by dsimp only;rw [List.length_append,ya,List.length_cons];omega) (by rw [ic,az];omega)]
    dsimp only
    have e:(lg.From+(lg.Next+(c.length:Int))).toNat=(lg.From+lg.Next).toNat+c.length:=by omega
    rw [e,List.set_append_right _ _ (by omega),ya,Nat.sub_self,List.set_cons_zero]
    unfold ef
    rw [show lg.First+(lg.Next+(c.length:Int))=lg.First+lg.Next+(c.length:Int) by omega]
    simp only [List.append_assoc,List.singleton_append,List.nil_append]
  have hD:kV lg d c=(⟨A++ef (lg.First+lg.Next) c++C,A++ef (lg.First+lg.Next) c++C,[],-1,false⟩,0):=by
    unfold kV;rw [hc];exact fB rfl rfl
  refine ⟨C,_,jI ha (by rw [hL]) (by rw [hb]) (by rw [hc]) (by rw [hD]),by rw [hD],by rw [hD],by rw [hD],by rw [hD],by rw [hD,hA],fun hr=>?_,fun s hs=>?_⟩
  ·
    rw [if_pos hr] at hC
    cases B with
    | nil=>simp at hdl;omega
    | cons b1 B=>exact ⟨B,hC.symm⟩
  ·
    have hsB:∀s∈B,s∈d.Now.drop (lg.From+lg.Next).toNat:=fun s hs=>by
      have:s∈d.Now.drop ((lg.From+lg.Next).toNat+c.length):=by rw [hB];exact List.mem_cons_of_mem _ hs
      rw [← List.drop_drop] at this
      exact List.mem_of_mem_drop this
    rw [← hC] at hs
    split at hs
    ·
      rcases List.mem_or_eq_of_mem_set hs with hs|hs
      · exact .inr (hsB s hs)
      · exact .inl hs
    · exact .inr (hsB s hs)
theorem ik {d:bp}{f k:Nat}(hd:d.Down=false)(hl:f+k≤d.Now.length):je d (f:Int) k=(d.Now.drop f).take k:=by
  refine List.ext_getElem? fun j=>?_
  by_cases hj:j<k
  ·
    rw [dy hj,List.getElem?_take_of_lt hj,List.getElem?_drop]
    obtain ⟨x,hx⟩:∃x,d.Now[f+j]? = some x:=⟨_,List.getElem?_eq_getElem (by omega)⟩
    rw [show (f:Int)+(j:Int)=((f+j:Nat):Int) by omega,lK hd hx,hx]
  · rw [List.getElem?_eq_none (by rw [fI];omega),List.getElem?_eq_none (by rw [List.length_take];omega)]
theorem tJ {W:List (List Change)}{u:Nat}(h:wA n m lg d)(hd:d.Down=false)(hf:d.Fuse = -1)(ha:ec lg c=0)(hx:lg.Next=(u:Int))(hs:scan (je d lg.From lg.Many.toNat) lg.First=(W,u)) :
    scan (je (aP lg d c).2.1 lg.From lg.Many.toNat) lg.First=(W++[c],u+c.length+1):=by
  obtain ⟨a1,a2,a3⟩:=gl ha
  have h1:=h.f0;have h2:=h.m0;have h3:=h.fm;have h5:=h.ok.nl
  obtain ⟨r,e,he,e1,e2,e3,e4,e5,e6,e7⟩:=nC h hd hf ha
  obtain ⟨f,hF⟩:∃f:Nat,lg.From=(f:Int):=⟨lg.From.toNat,by omega⟩
  obtain ⟨k,hK⟩:∃k:Nat,lg.Many=(k:Int):=⟨lg.Many.toNat,by omega⟩
  have hq:(lg.From+lg.Next).toNat=f+u:=by omega
  rw [hq] at e5
  have hkt:lg.Many.toNat=k:=by omega
  have htl:(d.Now.take (f+u)).length=f+u:=by rw [List.length_take];omega
  have hok:=k0 (lg:=lg) (c:=c) h.ok
  rw [he] at hok
  have hel:e.Now.length=n:=hok.nl
  have hrl:f+u+(c.length+1)+r.length=n:=by
    rw [e5,List.length_append,List.length_append,htl,jv] at hel;exact hel
  rw [he]
  dsimp only
  rw [hkt,hF] at hs ⊢
  rw [ik hd (by omega)] at hs
  rw [ik e1 (by omega)]
  have hd1:e.Now.drop f=(d.Now.drop f).take u++(ef (lg.First+lg.Next) c++r):=by
    rw [e5,List.append_assoc,List.drop_append_of_le_length (by omega),List.drop_take,show f+u-f=u by omega]
  have yS:((d.Now.drop f).take u).length=u:=by rw [List.length_take,List.length_drop];omega
  have rZ:(e.Now.drop f).take k=(d.Now.drop f).take u++(ef (lg.First+lg.Next) c++r.take (k-u-(c.length+1))):=by
    rw [hd1,List.take_append,yS,List.take_of_length_le (l:=(d.Now.drop f).take u) (by omega),List.take_append,jv,List.take_of_length_le (l:=ef (lg.First+lg.Next) c) (by rw [jv];omega)]
  have hcut:=lU (l:=(d.Now.drop f).take k) (l':=(e.Now.drop f).take k) (first:=lg.First) (by
    rw [hs,rZ,List.take_append_of_le_length (by omega),List.take_take,List.take_take];congr 1;omega)
  rw [hcut,hs,rZ]
  dsimp only
  rw [List.drop_append_of_le_length (by omega),List.drop_of_length_le (by omega),List.nil_append,hx]
  unfold ef
  rw [List.append_assoc,List.singleton_append]
  refine qS a3 ?_
  by_cases hb:lg.Next+(c.length:Int)+1<lg.Many
  ·
    obtain ⟨r',hr'⟩:=e6 hb
    right
    obtain ⟨j,hj⟩:∃j,k-u-(c.length+1)=j+1:=⟨k-u-(c.length+1)-1,by omega⟩
    exact ⟨full ⟨#[]⟩,r'.take j,by rw [hr',hj,List.take_succ_cons],iF⟩
  ·
    left
    rw [show k-u-(c.length+1)=0 by omega,List.take_zero]
theorem r5 (ha:¬ ec lg c=0):aP lg d c=(lg,d,ec lg c):=by unfold aP;rw [if_pos ha]
theorem r6 {l:List ByteArray}{first:Int}{W:List (List Change)}{u:Nat}(h:scan l first=(W,u)):u≤l.length:=by
  have:=qR l first;rw [h] at this;exact this
theorem uT {cR many first:Int}{u:Nat}{W:List (List Change)}(hO:cz n m d)(hd:d.Down=false)(hf:d.Fuse = -1)(hg:lg=⟨cR,many,first,(u:Int)⟩)(b1:0≤cR)(b2:1≤many)(b3:cR+many≤(n:Int))(hs:scan (je d cR many.toNat) first=(W,u)) :
    (aP lg d c).2.2=ec lg c∧(aP lg d c).2.1.Down=false∧(aP lg d c).2.1.Fuse = -1 ∧
    (ec lg c=0→(aP lg d c).1=⟨cR,many,first,((u+c.length+1:Nat):Int)⟩∧scan (je (aP lg d c).2.1 cR many.toNat) first=(W++[c],u+c.length+1)∧u+c.length+1≤many.toNat) ∧
    (¬ ec lg c=0→(aP lg d c).1=lg∧(aP lg d c).2.1=d):=by
  have hL:wA n m lg d:=by rw [hg];exact ⟨hO,b1,by dsimp only;omega,b3,by dsimp only;omega⟩
  have e1:lg.From=cR:=by rw [hg]
  have e2:lg.Many=many:=by rw [hg]
  have e3:lg.First=first:=by rw [hg]
  have e4:lg.Next=(u:Int):=by rw [hg]
  by_cases ha:ec lg c=0
  ·
    obtain ⟨a1,a2,a3⟩:=gl ha
    have hsc:=tJ (c:=c) (W:=W) (u:=u) hL hd hf ha e4 (by rw [e1,e2,e3];exact hs)
    obtain ⟨r,e,he,q1,q2,_⟩:=nC hL hd hf ha
    rw [e1,e2,e3] at hsc
    rw [he] at hsc ⊢
    refine ⟨ha.symm,q1,q2,fun _=>⟨?_,hsc,by omega⟩,fun h=>absurd ha h⟩
    show (⟨lg.From,lg.Many,lg.First,lg.Next+(c.length:Int)+1⟩:Lg)=_
    rw [e1,e2,e3,e4];congr 1
  ·
    rw [r5 ha]
    exact ⟨rfl,hd,hf,fun h=>absurd h ha,fun _=>⟨rfl,rfl⟩⟩
def tK (lg:Lg)(c:List Change)(k:Nat)(f:Int):Prop :=
  k≤c.length∧((f=ec lg c∧¬ f=0)∨(f=0∧¬ 62<c.length∧¬ lg.Many-lg.Next<(c.length:Int)+1∧dR (c.drop k)=dR c))
theorem tK.next {k:Nat}{f:Int}{x:Change}(h:tK lg c k f)(hf:f=0)(hx:c[k]? = some x):tK lg c (k+1) (ea x):=by
  have hk:=(List.getElem?_eq_some_iff.1 hx).1
  obtain ⟨_,h1|⟨_,h2,h3,h4⟩⟩:=h
  · exact absurd hf h1.2
  ·
    refine ⟨hk,?_⟩
    by_cases h0:ea x=0
    · exact .inr ⟨h0,h2,h3,td h4 hx h0⟩
    ·
      refine .inl ⟨?_,h0⟩
      unfold ec;rw [if_neg h2,if_neg h3,← h4]
      exact (om rfl hx h0).symm
theorem tK.is {k:Nat}{f:Int}(h:tK lg c k f)(hk:¬ k<c.length∨¬ f=0):f=ec lg c:=by
  obtain ⟨h0,h1|⟨h2,h3,h4,h5⟩⟩:=h
  · exact h1.1
  ·
    have hk:¬ k<c.length:=hk.resolve_right fun q=>q h2
    rw [List.drop_of_length_le (by omega)] at h5
    rw [h2,oo h3 h4 h5.symm]
theorem mb:∀ (l:List ByteArray) (n:Int) (out:List (List Change)) (deed:List Change) (used pos:Nat),(dF l n out deed used pos).1.length≤out.length+l.length
  | [],n,out,deed,used,pos=>by unfold dF;simp
  | s::r,n,out,deed,used,pos=>by
    unfold dF
    split
    ·
      have:=mb r (n+1) (out++[deed]) [] (pos+1) (pos+1)
      simp only [List.length_append,List.length_cons,List.length_nil] at this ⊢;omega
    ·
      split
      ·
        have:=mb r (n+1) out (deed++[(ib (fE s)).1]) used (pos+1)
        rw [List.length_cons];omega
      · dsimp only;omega
end
end Go.Proofs.Ytpipachmngdegaa
end
