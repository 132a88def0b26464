import Derived.Test.YtpipachmngdegaaSSP26
section
namespace Go.Proofs.Ytpipachmngdegaa
open Go Go.RowKit
set_option linter.unusedVariables false
theorem ez {d:bA}{i:Int}{x:ByteArray}(hd:d.Down=false)(hf:d.Fuse = -1)(h0:0≤i)(h1:i<(d.Now.length:Int))(h2:x.size≤48) :
    aj d i x=(⟨d.Kept,d.Now.set i.toNat (full x),d.Wait++[⟨i,full x⟩],-1,false⟩,0):=by
  rw [bE h0 h1 h2 (by rw [fC hd hf]),fC hd hf]
def eP (p n:Int):List Change→List Turn
  | []=>[]
  | c::l=>⟨p,full (bf 111 n (ef c).1)⟩::eP (p+1) (n+1) l
theorem fL:∀ (l:List Change) (p n:Int),(eP p n l).length=l.length
  | [],_,_=>rfl
  | c::l,p,n=>by simp [eP,fL l]
theorem nL (lg:Lg):∀ (c:List Change) (d:bA) (i q:Nat),d.Down=false→d.Fuse = -1→lg.From+lg.Next+(i:Int)=(q:Int)→q+c.length≤d.Now.length→(∀x∈c,dH x=0) →
    fI lg d c i=(⟨d.Kept,d.Now.take q++cy (lg.First+lg.Next+(i:Int)) c++d.Now.drop (q+c.length),d.Wait++eP (q:Int) (lg.First+lg.Next+(i:Int)) c,-1,false⟩,0)
  | [],d,i,q,hd,hf,hq,hl,hc=>by
    unfold fI;obtain ⟨a,b,e,f,g⟩:=d;simp_all [cy,eP]
  | x::r,d,i,q,hd,hf,hq,hl,hc=>by
    have hx:=oz (hc x (List.mem_cons_self ..))
    rw [List.length_cons] at hl
    have hw:=ez (d:=d) (i:=lg.From+lg.Next+(i:Int)) (x:=bf 111 (lg.First+lg.Next+(i:Int)) (ef x).1) hd hf (by omega) (by omega) (by rw [iz];omega)
    have vf:(lg.From+lg.Next+(i:Int)).toNat=q:=by omega
    rw [vf,hq] at hw
    unfold fI
    rw [hq,hw,if_pos rfl,nL lg r _ (i+1) (q+1) rfl rfl (by omega) (by dsimp only;rw [List.length_set];omega) (fun y hy=>hc y (List.mem_cons_of_mem _ hy))]
    have e1:(d.Now.set q (full (bf 111 (lg.First+lg.Next+(i:Int)) (ef x).1))).take (q+1)=d.Now.take q++[full (bf 111 (lg.First+lg.Next+(i:Int)) (ef x).1)]:=by
      rw [List.take_add_one,List.take_set_of_le (Nat.le_refl _),List.getElem?_set_self (by omega)];rfl
    have e2:(d.Now.set q (full (bf 111 (lg.First+lg.Next+(i:Int)) (ef x).1))).drop (q+1+r.length)=d.Now.drop (q+(r.length+1)):=by
      rw [List.drop_set_of_lt (by omega),show q+1+r.length=q+(r.length+1) by omega]
    have e3:lg.First+lg.Next+((i+1:Nat):Int)=lg.First+lg.Next+(i:Int)+1:=by omega
    have e4:((q+1:Nat):Int)=(q:Int)+1:=by omega
    dsimp only
    rw [e1,e2,e3,e4,List.length_cons]
    simp only [cy,eP,List.append_assoc,List.singleton_append]
def eF (n:Int)(c:List Change):List ByteArray:=cy n c++[full (bf 99 (n+(c.length:Int)) (aN (c.length:Int)))]
theorem jG (n:Int)(c:List Change):(eF n c).length=c.length+1:=by simp [eF,dh]
structure wQ (n m:Nat)(lg:Lg)(d:bA):Prop where
  ok:cI n m d
  f0:0≤lg.From
  m0:0≤lg.Many
  fm:lg.From+lg.Many≤(n:Int)
  x0:0≤lg.Next
section
variable {n m:Nat} {lg:Lg} {d:bA} {c:List Change}
theorem gC (h:eE lg c=0):c.length≤62∧(c.length:Int)+1≤lg.Many-lg.Next ∧ ∀x∈c,dH x=0:=by
  unfold eE at h
  split at h
  · cases h
  ·
    split at h
    · cases h
    · exact ⟨by omega,by omega,jC h⟩
theorem si (h:wQ n m lg d)(hd:d.Down=false)(hf:d.Fuse = -1)(ha:eE lg c=0) :
    ∃ (A B:List ByteArray) (b0:ByteArray) (T:List Turn),A=d.Now.take (lg.From+lg.Next).toNat∧d.Now.drop ((lg.From+lg.Next).toNat+c.length)=b0::B ∧
      T=eP (lg.From+lg.Next) (lg.First+lg.Next) c++(if lg.Next+(c.length:Int)+1<lg.Many then [⟨lg.From+(lg.Next+(c.length:Int)+1),full ⟨#[]⟩⟩] else []) ∧
      aV lg d c=(⟨d.Kept,A++cy (lg.First+lg.Next) c++b0::(if lg.Next+(c.length:Int)+1<lg.Many then B.set 0 (full ⟨#[]⟩) else B),d.Wait++T,-1,false⟩,0):=by
  obtain ⟨a1,a2,a3⟩:=gC ha
  have h1:=h.f0;have h2:=h.m0;have h3:=h.fm;have h4:=h.x0;have h5:=h.ok.nl
  obtain ⟨q,hq⟩:∃q:Nat,lg.From+lg.Next=(q:Int):=⟨(lg.From+lg.Next).toNat,by omega⟩
  have vf:(lg.From+lg.Next).toNat=q:=by omega
  have hl:=nL lg c d 0 q hd hf (by omega) (by omega) a3
  rw [show lg.First+lg.Next+((0:Nat):Int)=lg.First+lg.Next by omega] at hl
  have hdl:(d.Now.drop (q+c.length)).length=d.Now.length-(q+c.length):=List.length_drop
  obtain ⟨b0,B,hB⟩:∃b0 B,d.Now.drop (q+c.length)=b0::B:=by
    cases hh:d.Now.drop (q+c.length) with
    | nil=>rw [hh] at hdl;simp at hdl;omega
    | cons b0 B=>exact ⟨b0,B,rfl⟩
  refine ⟨_,B,b0,_,rfl,by rw [vf];exact hB,rfl,?_⟩
  rw [vf]
  have hA:(d.Now.take q++cy (lg.First+lg.Next) c).length=q+c.length:=by rw [List.length_append,List.length_take,dh];omega
  rw [hB] at hl
  unfold aV
  rw [hl,if_pos rfl,hq]
  by_cases hr:lg.Next+(c.length:Int)+1<lg.Many
  ·
    rw [if_pos hr,if_pos hr,if_pos hr]
    have hn:(d.Now.take q++cy (lg.First+lg.Next) c++b0::B).length=d.Now.length:=by
      rw [List.length_append,hA,← hB,hdl];omega
    rw [ez rfl rfl (by omega) (by dsimp only;omega) (by decide)]
    dsimp only
    have e:(lg.From+(lg.Next+(c.length:Int)+1)).toNat=q+c.length+1:=by omega
    rw [e,List.set_append_right _ _ (by omega),hA,show q+c.length+1-(q+c.length)=0+1 by omega,List.set_cons_succ]
    simp only [List.append_assoc]
  · rw [if_neg hr,if_neg hr,if_neg hr,List.append_nil]
theorem nM (h:wQ n m lg d)(hd:d.Down=false)(hf:d.Fuse = -1)(ha:eE lg c=0) :
    ∃ (r:List ByteArray) (e:bA),aR lg d c=(⟨lg.From,lg.Many,lg.First,lg.Next+(c.length:Int)+1⟩,e,0)∧e.Down=false∧e.Fuse = -1∧e.Kept=e.Now∧e.Wait=[] ∧
      e.Now=d.Now.take (lg.From+lg.Next).toNat++eF (lg.First+lg.Next) c++r∧(lg.Next+(c.length:Int)+1<lg.Many → ∃r',r=full ⟨#[]⟩::r')∧(∀s∈r,s=full ⟨#[]⟩∨s∈d.Now.drop (lg.From+lg.Next).toNat):=by
  obtain ⟨a1,a2,a3⟩:=gC ha
  have h1:=h.f0;have h2:=h.m0;have h3:=h.fm;have h4:=h.x0;have h5:=h.ok.nl
  obtain ⟨A,B,b0,T,hA,hB,hT,hL⟩:=si h hd hf ha
  have AE:A.length=(lg.From+lg.Next).toNat:=by rw [hA,List.length_take];omega
  have hdl:(b0::B).length=d.Now.length-((lg.From+lg.Next).toNat+c.length):=by rw [← hB,List.length_drop]
  rw [List.length_cons] at hdl
  generalize hC:(if lg.Next+(c.length:Int)+1<lg.Many then B.set 0 (full ⟨#[]⟩) else B)=C at hL
  have zR:C.length=B.length:=by rw [← hC];split <;> simp
  have yx:(A++cy (lg.First+lg.Next) c).length=(lg.From+lg.Next).toNat+c.length:=by rw [List.length_append,AE,dh]
  have hb:jU lg d c=(⟨A++cy (lg.First+lg.Next) c++b0::C,A++cy (lg.First+lg.Next) c++b0::C,[],-1,false⟩,0):=by
    unfold jU;rw [hL];exact fQ rfl rfl
  have hc:kr lg d c=(⟨A++cy (lg.First+lg.Next) c++b0::C,A++eF (lg.First+lg.Next) c++C,[⟨lg.From+(lg.Next+(c.length:Int)),full (bf 99 (lg.First+(lg.Next+(c.length:Int))) (aN (c.length:Int)))⟩],-1,false⟩,0):=by
    unfold kr
    rw [hb,ez rfl rfl (by omega) (by dsimp only;rw [List.length_append,yx,List.length_cons];omega) (by rw [iz,au];omega)]
    dsimp only
    have e:(lg.From+(lg.Next+(c.length:Int))).toNat=(lg.From+lg.Next).toNat+c.length:=by omega
    rw [e,List.set_append_right _ _ (by omega),yx,Nat.sub_self,List.set_cons_zero]
    unfold eF
    rw [show lg.First+(lg.Next+(c.length:Int))=lg.First+lg.Next+(c.length:Int) by omega]
    simp only [List.append_assoc,List.singleton_append,List.nil_append]
  have hD:lq lg d c=(⟨A++eF (lg.First+lg.Next) c++C,A++eF (lg.First+lg.Next) c++C,[],-1,false⟩,0):=by
    unfold lq;rw [hc];exact fQ rfl rfl
  refine ⟨C,_,jV ha (by rw [hL]) (by rw [hb]) (by rw [hc]) (by rw [hD]),by rw [hD],by rw [hD],by rw [hD],by rw [hD],by rw [hD,hA],fun hr=>?_,fun s hs=>?_⟩
  ·
    rw [if_pos hr] at hC
    cases B with
    | nil=>simp at hdl;omega
    | cons b1 B=>exact ⟨B,hC.symm⟩
  ·
    have hsB:∀s∈B,s∈d.Now.drop (lg.From+lg.Next).toNat:=fun s hs=>by
      have:s∈d.Now.drop ((lg.From+lg.Next).toNat+c.length):=by rw [hB];exact List.mem_cons_of_mem _ hs
      rw [← List.drop_drop] at this
      exact List.mem_of_mem_drop this
    rw [← hC] at hs
    split at hs
    ·
      rcases List.mem_or_eq_of_mem_set hs with hs|hs
      · exact .inr (hsB s hs)
      · exact .inl hs
    · exact .inr (hsB s hs)
theorem iB {d:bA}{f k:Nat}(hd:d.Down=false)(hl:f+k≤d.Now.length):jm d (f:Int) k=(d.Now.drop f).take k:=by
  refine List.ext_getElem? fun j=>?_
  by_cases hj:j<k
  ·
    rw [dE hj,List.getElem?_take_of_lt hj,List.getElem?_drop]
    obtain ⟨x,hx⟩:∃x,d.Now[f+j]? = some x:=⟨_,List.getElem?_eq_getElem (by omega)⟩
    rw [show (f:Int)+(j:Int)=((f+j:Nat):Int) by omega,iI hd hx,hx]
  · rw [List.getElem?_eq_none (by rw [fW];omega),List.getElem?_eq_none (by rw [List.length_take];omega)]
theorem tY {W:List (List Change)}{u:Nat}(h:wQ n m lg d)(hd:d.Down=false)(hf:d.Fuse = -1)(ha:eE lg c=0)(hx:lg.Next=(u:Int))(hs:scan (jm d lg.From lg.Many.toNat) lg.First=(W,u)) :
    scan (jm (aR lg d c).2.1 lg.From lg.Many.toNat) lg.First=(W++[c],u+c.length+1):=by
  obtain ⟨a1,a2,a3⟩:=gC ha
  have h1:=h.f0;have h2:=h.m0;have h3:=h.fm;have h5:=h.ok.nl
  obtain ⟨r,e,he,e1,e2,e3,e4,e5,e6,e7⟩:=nM h hd hf ha
  obtain ⟨f,hF⟩:∃f:Nat,lg.From=(f:Int):=⟨lg.From.toNat,by omega⟩
  obtain ⟨k,hK⟩:∃k:Nat,lg.Many=(k:Int):=⟨lg.Many.toNat,by omega⟩
  have hq:(lg.From+lg.Next).toNat=f+u:=by omega
  rw [hq] at e5
  have hkt:lg.Many.toNat=k:=by omega
  have htl:(d.Now.take (f+u)).length=f+u:=by rw [List.length_take];omega
  have hok:=ly (lg:=lg) (c:=c) h.ok
  rw [he] at hok
  have hel:e.Now.length=n:=hok.nl
  have hrl:f+u+(c.length+1)+r.length=n:=by
    rw [e5,List.length_append,List.length_append,htl,jG] at hel;exact hel
  rw [he]
  dsimp only
  rw [hkt,hF] at hs ⊢
  rw [iB hd (by omega)] at hs
  rw [iB e1 (by omega)]
  have hd1:e.Now.drop f=(d.Now.drop f).take u++(eF (lg.First+lg.Next) c++r):=by
    rw [e5,List.append_assoc,List.drop_append_of_le_length (by omega),List.drop_take,show f+u-f=u by omega]
  have zt:((d.Now.drop f).take u).length=u:=by rw [List.length_take,List.length_drop];omega
  have sj:(e.Now.drop f).take k=(d.Now.drop f).take u++(eF (lg.First+lg.Next) c++r.take (k-u-(c.length+1))):=by
    rw [hd1,List.take_append,zt,List.take_of_length_le (l:=(d.Now.drop f).take u) (by omega),List.take_append,jG,List.take_of_length_le (l:=eF (lg.First+lg.Next) c) (by rw [jG];omega)]
  have hcut:=ma (l:=(d.Now.drop f).take k) (l':=(e.Now.drop f).take k) (first:=lg.First) (by
    rw [hs,sj,List.take_append_of_le_length (by omega),List.take_take,List.take_take];congr 1;omega)
  rw [hcut,hs,sj]
  dsimp only
  rw [List.drop_append_of_le_length (by omega),List.drop_of_length_le (by omega),List.nil_append,hx]
  unfold eF
  rw [List.append_assoc,List.singleton_append]
  refine qZ a3 ?_
  by_cases hb:lg.Next+(c.length:Int)+1<lg.Many
  ·
    obtain ⟨r',hr'⟩:=e6 hb
    right
    obtain ⟨j,hj⟩:∃j,k-u-(c.length+1)=j+1:=⟨k-u-(c.length+1)-1,by omega⟩
    exact ⟨full ⟨#[]⟩,r'.take j,by rw [hr',hj,List.take_succ_cons],iN⟩
  ·
    left
    rw [show k-u-(c.length+1)=0 by omega,List.take_zero]
theorem sk (ha:¬ eE lg c=0):aR lg d c=(lg,d,eE lg c):=by unfold aR;rw [if_pos ha]
theorem sq {l:List ByteArray}{first:Int}{W:List (List Change)}{u:Nat}(h:scan l first=(W,u)):u≤l.length:=by
  have:=qY l first;rw [h] at this;exact this
theorem vg {cS many first:Int}{u:Nat}{W:List (List Change)}(hO:cI n m d)(hd:d.Down=false)(hf:d.Fuse = -1)(hg:lg=⟨cS,many,first,(u:Int)⟩)(b1:0≤cS)(b2:1≤many)(b3:cS+many≤(n:Int))(hs:scan (jm d cS many.toNat) first=(W,u)) :
    (aR lg d c).2.2=eE lg c∧(aR lg d c).2.1.Down=false∧(aR lg d c).2.1.Fuse = -1 ∧
    (eE lg c=0→(aR lg d c).1=⟨cS,many,first,((u+c.length+1:Nat):Int)⟩∧scan (jm (aR lg d c).2.1 cS many.toNat) first=(W++[c],u+c.length+1)∧u+c.length+1≤many.toNat) ∧
    (¬ eE lg c=0→(aR lg d c).1=lg∧(aR lg d c).2.1=d):=by
  have hL:wQ n m lg d:=by rw [hg];exact ⟨hO,b1,by dsimp only;omega,b3,by dsimp only;omega⟩
  have e1:lg.From=cS:=by rw [hg]
  have e2:lg.Many=many:=by rw [hg]
  have e3:lg.First=first:=by rw [hg]
  have e4:lg.Next=(u:Int):=by rw [hg]
  by_cases ha:eE lg c=0
  ·
    obtain ⟨a1,a2,a3⟩:=gC ha
    have hsc:=tY (c:=c) (W:=W) (u:=u) hL hd hf ha e4 (by rw [e1,e2,e3];exact hs)
    obtain ⟨r,e,he,q1,q2,_⟩:=nM hL hd hf ha
    rw [e1,e2,e3] at hsc
    rw [he] at hsc ⊢
    refine ⟨ha.symm,q1,q2,fun _=>⟨?_,hsc,by omega⟩,fun h=>absurd ha h⟩
    show (⟨lg.From,lg.Many,lg.First,lg.Next+(c.length:Int)+1⟩:Lg)=_
    rw [e1,e2,e3,e4];congr 1
  ·
    rw [sk ha]
    exact ⟨rfl,hd,hf,fun h=>absurd h ha,fun _=>⟨rfl,rfl⟩⟩
def tZ (lg:Lg)(c:List Change)(k:Nat)(f:Int):Prop :=
  k≤c.length∧((f=eE lg c∧¬ f=0)∨(f=0∧¬ 62<c.length∧¬ lg.Many-lg.Next<(c.length:Int)+1∧dF (c.drop k)=dF c))
theorem tZ.next {k:Nat}{f:Int}{x:Change}(h:tZ lg c k f)(hf:f=0)(hx:c[k]? = some x):tZ lg c (k+1) (dH x):=by
  have hk:=(List.getElem?_eq_some_iff.1 hx).1
  obtain ⟨_,h1|⟨_,h2,h3,h4⟩⟩:=h
  · exact absurd hf h1.2
  ·
    refine ⟨hk,?_⟩
    by_cases h0:dH x=0
    · exact .inr ⟨h0,h2,h3,rl h4 hx h0⟩
    ·
      refine .inl ⟨?_,h0⟩
      unfold eE;rw [if_neg h2,if_neg h3,← h4]
      exact (lz rfl hx h0).symm
theorem tZ.is {k:Nat}{f:Int}(h:tZ lg c k f)(hk:¬ k<c.length∨¬ f=0):f=eE lg c:=by
  obtain ⟨h0,h1|⟨h2,h3,h4,h5⟩⟩:=h
  · exact h1.1
  ·
    have hk:¬ k<c.length:=hk.resolve_right fun q=>q h2
    rw [List.drop_of_length_le (by omega)] at h5
    rw [h2,oB h3 h4 h5.symm]
theorem mC:∀ (l:List ByteArray) (n:Int) (out:List (List Change)) (deed:List Change) (used pos:Nat),(dQ l n out deed used pos).1.length≤out.length+l.length
  | [],n,out,deed,used,pos=>by unfold dQ;simp
  | s::r,n,out,deed,used,pos=>by
    unfold dQ
    split
    ·
      have:=mC r (n+1) (out++[deed]) [] (pos+1) (pos+1)
      simp only [List.length_append,List.length_cons,List.length_nil] at this ⊢;omega
    ·
      split
      ·
        have:=mC r (n+1) out (deed++[(iy (fH s)).1]) used (pos+1)
        rw [List.length_cons];omega
      · dsimp only;omega
end
end Go.Proofs.Ytpipachmngdegaa
end
