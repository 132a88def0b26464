import Derived.Test.YtkbhcbipadkcaaaGreatDoorTO43
namespace Go.Proofs.YtkbhcbipadkcaaaGreatDoor
set_option linter.unusedVariables false
set_option linter.unusedSimpArgs false
open Go Go.RowKit
structure iF (l:List ByteArray)(first:Int)(W:List (List Change))(u:Nat):Prop where
  sc:scan l first=(W,u)
  U3:∀ (j:Nat) s,u<=j->l[j]? = some s->bf s 0=99->¬ s.extract 1 5=bV (first+(j:Int))
  num:∀ (j:Nat) s,l[j]? = some s->(bf s 0=111∨bf s 0=99) -> ∃m:Int,0<=m/\m<=first+(j:Int)/\s.extract 1 5=bV m
theorem Ag {s:ByteArray}{n k:Int}(h:bf s 0=99->¬ s.extract 1 5=bV n):zw s n k=false:=by
 rw [Bool.eq_false_iff];intro hc
 unfold zw at hc;simp only [Bool.and_eq_true,decide_eq_true_eq] at hc
 exact h hc.1.2 hc.1.1.1
theorem Ea:∀ (l:List ByteArray) (n:Int) (out:List (List Change)) (deed:List Change) (used pos:Nat),(∀ (j:Nat) s,l[j]? = some s->bf s 0=99->¬ s.extract 1 5=bV (n+(j:Int)))->iJ l n out deed used pos=(out,used)
 | [],n,out,deed,used,pos,_=>rfl
 | s::r,n,out,deed,used,pos,h=>by
  rw [iJ,if_neg (by rw [Ag (by have:=h 0 s rfl;simpa using this)];decide)]
  split
  .
   refine Ea r _ _ _ _ _ fun j s' hs=>?_
   have:=h (j+1) s' (by simpa using hs)
   rwa [show n+((j+1:Nat):Int)=n+1+(j:Int) by omega] at this
  .rfl
section
variable {l l':List ByteArray} {first:Int} {W:List (List Change)} {u:Nat} {c:List Change}
theorem iF.ule (h:iF l first W u):u<=l.length:=HJ h.sc
theorem iF.next (h:iF l first W u)(h0:0<=first)(hb:first+2*(l.length:Int)<4294967296):iF l (first+(l.length:Int)) [] 0:=by
 have key:∀ (j:Nat) s,l[j]? = some s->(bf s 0=111∨bf s 0=99) -> ∀i:Nat,i<=l.length->¬ s.extract 1 5=bV (first+(l.length:Int)+(i:Int)):=fun j s hs hk i hi e=>by
  obtain ⟨m,h1,h2,h3⟩:=h.num j s hs hk
  have hj:=(List.getElem?_eq_some_iff.1 hs).1
  have:=Hn (a:=m) (b:=first+(l.length:Int)+(i:Int)) (by omega) (by omega) (h3.symm.trans e)
  omega
 refine ⟨?_,fun j s _ hs hk=>key j s hs (.inr hk) j (by have:=(List.getElem?_eq_some_iff.1 hs).1;omega),fun j s hs hk=>?_⟩
 .
  cases l with
  | nil=>rfl
  | cons s r =>
   unfold scan
   have hs:(s::r)[0]? = some s:=rfl
   rw [iJ,if_neg (by rw [Ag (fun hk=>by have:=key 0 s hs (.inr hk) 0 (Nat.zero_le _);simpa using this)];decide),if_neg ?_]
   intro ho
   unfold En at ho;simp only [Bool.and_eq_true,decide_eq_true_eq] at ho
   exact key 0 s hs (.inl ho.1.2) 0 (Nat.zero_le _) (by simpa using ho.1.1.1)
 .
  obtain ⟨m,h1,h2,h3⟩:=h.num j s hs hk
  exact ⟨m,h1,by omega,h3⟩
theorem iF.blank (first:Int)(h:∀s∈l,bf s 0=0):iF l first [] 0:=by
 refine ⟨?_,fun j s _ hs hk=>?_,fun j s hs hk=>?_⟩
 .
  cases l with
  | nil=>rfl
  | cons s r =>
   have:=h s (List.mem_cons_self ..)
   unfold scan
   rw [iJ,if_neg (by rw [sU (by omega)];decide),if_neg (by rw [A8 (by omega)];decide)]
 .have:=h s (List.mem_of_getElem? hs);omega
 .have:=h s (List.mem_of_getElem? hs);omega
theorem iF.keep (h:iF l first W u)(h0:0<=first)(ht:l'.take u=l.take u)(hp:∀ (j:Nat) s,l'[j]? = some s->l[j]? = some s∨bf s 0=0∨(bf s 0=111/\s.extract 1 5=bV (first+(j:Int)))):iF l' first W u:=by
 have hn:∀ (j:Nat) s,u<=j->l'[j]? = some s->bf s 0=99->¬ s.extract 1 5=bV (first+(j:Int)):=fun j s hj hs hk=>by
  rcases hp j s hs with h1|h1|h1
  .exact h.U3 j s hj h1 hk
  .omega
  .omega
 refine ⟨?_,hn,fun j s hs hk=>?_⟩
 .
  have hcut:=wW (l:=l) (l':=l') (first:=first) (by rw [h.sc];exact ht)
  rw [h.sc] at hcut
  rw [hcut]
  refine Ea _ _ _ _ _ _ fun j s hs hk=>?_
  rw [List.getElem?_drop] at hs
  have:=hn (u+j) s (Nat.le_add_right _ _) hs hk
  rwa [show first+((u+j:Nat):Int)=first+(u:Int)+(j:Int) by omega] at this
 .
  rcases hp j s hs with h1|h1|h1
  .exact h.num j s h1 hk
  .omega
  .exact ⟨first+(j:Int),by omega,by omega,h1.2⟩
theorem iF.after {r:List ByteArray}(h:iF l first W u)(h0:0<=first)(hb:first+(l.length:Int)<4294967296)(hc:∀x∈c,iI x=0)(hm:c.length<=62)(hlen:u+(c.length+1)+r.length=l.length)
 (hr:r=[] ∨ ∃r',r=full ⟨#[]⟩::r') (hrr:∀ (j:Nat) s,r[j]? = some s->l[u+(c.length+1)+j]? = some s∨bf s 0=0) :
 iF (l.take u++(jJ (first+(u:Int)) c++r)) first (W++[c]) (u+c.length+1):=by
 have htl:(l.take u).length=u:=by rw [List.length_take];omega
 have hds:=qN (first+(u:Int)) c
 have hcut:=wW (l:=l) (l':=l.take u++(jJ (first+(u:Int)) c++r)) (first:=first) (by rw [h.sc];dsimp only;rw [List.take_append_of_le_length (by omega),List.take_take,Nat.min_self])
 rw [h.sc] at hcut
 dsimp only at hcut
 rw [List.drop_append_of_le_length (by omega),List.drop_of_length_le (by omega),List.nil_append] at hcut
 have Tj:∀ (j:Nat) s,u+(c.length+1)<=j->(l.take u++(jJ (first+(u:Int)) c++r))[j]? = some s->l[j]? = some s∨bf s 0=0:=fun j s hj hs=>by
  rw [List.getElem?_append_right (by omega),htl,List.getElem?_append_right (by omega),hds] at hs
  have:=hrr (j-u-(c.length+1)) s hs
  rwa [show u+(c.length+1)+(j-u-(c.length+1))=j by omega] at this
 refine ⟨?_,fun j s hj hs hk=>?_,fun j s hs hk=>?_⟩
 .
  rw [hcut]
  unfold jJ
  rw [List.append_assoc,List.singleton_append]
  refine Ge hc ?_
  rcases hr with hr|⟨r',hr⟩
  .exact .inl hr
  .exact .inr ⟨_,r',hr,oJ⟩
 .
  rcases Tj j s (by omega) hs with h1|h1
  .exact h.U3 j s (by omega) h1 hk
  .omega
 .
  by_cases hj:j<u
  .
   rw [List.getElem?_append_left (by omega),List.getElem?_take_of_lt hj] at hs
   exact h.num j s hs hk
  .
   by_cases hj2:j<u+(c.length+1)
   .
    rw [List.getElem?_append_right (by omega),htl,List.getElem?_append_left (by omega)] at hs
    refine ⟨first+(j:Int),by omega,by omega,?_⟩
    unfold jJ at hs
    by_cases hj3:j-u<c.length
    .
     rw [List.getElem?_append_left (by rw [gk];exact hj3)] at hs
     obtain ⟨x,hx⟩:∃x,c[j-u]? = some x:=⟨_,List.getElem?_eq_getElem hj3⟩
     rw [tW c _ _ x hx] at hs
     injection hs with hs
     obtain ⟨_,_,h3,h4⟩:=g9 (hc x (List.mem_of_getElem? hx))
     rw [<- hs,nW (by rw [lA (hc x (List.mem_of_getElem? hx))];omega)]
     congr 1;omega
    .
     rw [List.getElem?_append_right (by rw [gk];omega),gk,show j-u-c.length=0 by omega] at hs
     simp only [List.getElem?_cons_zero,Option.some.injEq] at hs
     rw [<- hs,nW (by rw [aF];omega)]
     congr 1;omega
   .
    rcases Tj j s (by omega) hs with h1|h1
    .exact h.num j s h1 hk
    .omega
end
theorem LD (k:Int):∀ (w:List Turn) (i:Nat) (l:List ByteArray) (p:Nat) (s:ByteArray),((w.zipIdx i).foldl (oF k) l)[p]? = some s->l[p]? = some s ∨ ∃t∈w,t.At.toNat=p/\t.Data=s
 | [],i,l,p,s,h => .inl h
 | t::w,i,l,p,s,h=>by
  rw [List.zipIdx_cons,List.foldl_cons] at h
  rcases LD k w (i+1) _ p s h with h1|⟨t',ht,h1⟩
  .
   unfold oF at h1
   split at h1
   .
    by_cases hp:t.At.toNat=p
    .
     dsimp only at h1
     rw [hp] at h1
     have hlt:p<l.length:=by have:=(List.getElem?_eq_some_iff.1 h1).1;simpa using this
     rw [List.getElem?_set_self hlt] at h1
     injection h1 with h1
     exact .inr ⟨t,List.mem_cons_self ..,hp,h1⟩
    .rw [List.getElem?_set_ne hp] at h1;exact .inl h1
   .exact .inl h1
  .exact .inr ⟨t',List.mem_cons_of_mem _ ht,h1⟩
theorem Nq {k:Int}{w:List Turn}{l:List ByteArray}{p:Nat}{s:ByteArray}(h:(mL k w l)[p]? = some s):l[p]? = some s ∨ ∃t∈w,t.At.toNat=p/\t.Data=s:=LD k w 0 l p s h
theorem take_same {α:Type}{l l':List α}{q:Nat}(hl:l'.length=l.length)(h:∀p s,p<q->l'[p]? = some s->l[p]? = some s):l'.take q=l.take q:=by
 refine List.ext_getElem? fun p=>?_
 by_cases hp:p<q
 .
  rw [List.getElem?_take_of_lt hp,List.getElem?_take_of_lt hp]
  by_cases hlt:p<l'.length
  .
   have e:=List.getElem?_eq_getElem hlt
   rw [e];exact (h p _ hp e).symm
  .rw [List.getElem?_eq_none (by omega),List.getElem?_eq_none (by omega)]
 .rw [List.getElem?_eq_none (by rw [List.length_take];omega),List.getElem?_eq_none (by rw [List.length_take];omega)]
theorem yq:∀ (l:List Change) (p n:Int) (t:Turn),(∀x∈l,iI x=0)->t∈j0 p n l -> ∃i:Nat,i<l.length/\t.At=p+(i:Int)/\bf t.Data 0=111/\t.Data.extract 1 5=bV (n+(i:Int))
 | [],_,_,t,_,h=>by cases h
 | c::l,p,n,t,hc,h=>by
  rcases List.mem_cons.1 h with rfl|h
  .
   obtain ⟨_,_,h3,h4⟩:=g9 (hc c (List.mem_cons_self ..))
   have hs:(ke c).1.size<=41:=by rw [lA (hc c (List.mem_cons_self ..))];omega
   exact ⟨0,by simp,by simp,by dsimp only;rw [p7 hs];decide,by dsimp only;rw [nW hs];simp⟩
  .
   obtain ⟨i,h1,h2,h3,h4⟩:=yq l (p+1) (n+1) t (fun x hx=>hc x (List.mem_cons_of_mem _ hx)) h
   exact ⟨i+1,by simp;omega,by omega,h3,by rw [h4];congr 1;omega⟩
theorem Nr {f k u cl n dn B:Nat}(h1:f+k=n)(h2:dn=n)(h3:(cl:Int)+1<=(k:Int)-(u:Int))(h4:B+1=dn-(f+u+cl)):u+(cl+1)+B=k:=by omega
structure Rest (n:Nat)(d:cw):Prop where
  ok:fL n 0 d
  down:d.Down=false
  fuse : -1<=d.Fuse
  kn:d.Kept=d.Now
  wait:d.Wait=[]
theorem Ns {n f k u:Nat}{first:Int}{d:cw}{W:List (List Change)}{c:List Change}(hR:Rest n d)(V5:f+k=n)(h0:0<=first)(hb:first+(k:Int)<4294967296)(hL:iF (d.Now.drop f) first W u)(ha:jI ⟨f,k,first,u⟩ c=0) :
 (∃e,cx ⟨f,k,first,u⟩ d c=(⟨f,k,first,((u+c.length+1:Nat):Int)⟩,e,0)/\Rest n e/\e.Now.take f=d.Now.take f/\iF (e.Now.drop f) first (W++[c]) (u+c.length+1)/\(d.Fuse = -1->e.Fuse = -1)) ∨
 (∃e,cx ⟨f,k,first,u⟩ d c=(⟨f,k,first,u⟩,e,10)/\¬ d.Fuse = -1 /\ ∀z,fL n 0 (gD e z)/\(mL z e.Wait e.Kept).take f=d.Now.take f /\ ∃W' u',iF ((mL z e.Wait e.Kept).drop f) first W' u'/\(W'=W∨W'=W++[c])):=by
 have hok:=vz (lg:=⟨f,k,first,u⟩) (c:=c) hR.ok
 obtain ⟨a1,a2,a3⟩:=ma ha
 dsimp only at a2
 have hnl:=hR.ok.nl
 have V6:P8 n 0 ⟨f,k,first,u⟩ d:=⟨hR.ok,by show (0:Int)<=(f:Int);omega,by show (0:Int)<=(k:Int);omega,by show (f:Int)+(k:Int)<=(n:Int);omega,by show (0:Int)<=(u:Int);omega⟩
 have hkn:=hR.kn;have hwt:=hR.wait
 have hdl0:(d.Now.drop f).length=k:=by rw [List.length_drop];omega
 have live:=fun (h:d.Fuse = -1)=>My (lg:=⟨f,k,first,u⟩) (c:=c) (gp:=f) (many:=k) (first:=first) (u:=u) (W:=W) hR.ok hR.down h rfl (by omega) (by omega) (by omega) (by
  rw [show ((k:Nat):Int).toNat=k from rfl,nZ hR.down (by omega),List.take_of_length_le (by omega)];exact hL.sc)
 obtain ⟨B,b0,hB,hS⟩:=Kj (c:=c) V6 hR.down hR.fuse ha
 have hq:((f:Int)+(u:Int)).toNat=f+u:=by omega
 dsimp only at hB hS
 rw [hq] at hB hS
 have hBl:(b0::B).length=d.Now.length-(f+u+c.length):=by rw [<- hB,List.length_drop]
 rw [List.length_cons] at hBl
 have Tk:∀ (j:Nat) s,(b0::B)[j]? = some s->d.Now[f+u+c.length+j]? = some s:=fun j s hs=>by rw [<- hB,List.getElem?_drop] at hs;exact hs
 have htl:(d.Now.take (f+u)).length=f+u:=by rw [List.length_take];omega
 generalize hC:(if (u:Int)+(c.length:Int)+1<(k:Int) then B.set 0 (full ⟨#[]⟩) else B)=C at hS
 have UN:C.length=B.length:=by rw [<- hC];split <;> simp
 have Tl:∀ (j:Nat) s,C[j]? = some s->d.Now[f+u+(c.length+1)+j]? = some s∨bf s 0=0:=fun j s hs=>by
  have hold:∀s,B[j]? = some s->d.Now[f+u+(c.length+1)+j]? = some s:=fun s hs=>by
   have:=Tk (j+1) s (by simpa using hs)
   rwa [show f+u+c.length+(j+1)=f+u+(c.length+1)+j by omega] at this
  rw [<- hC] at hs
  split at hs
  .
   by_cases hj:j=0
   .
    subst hj
    have hlt:0<B.length:=by have:=(List.getElem?_eq_some_iff.1 hs).1;simpa using this
    rw [List.getElem?_set_self hlt] at hs
    injection hs with hs
    exact .inr (by rw [<- hs];exact oJ)
   .rw [List.getElem?_set_ne (by omega)] at hs;exact .inl (hold s hs)
  .exact .inl (hold s hs)
 have V7:C=[] ∨ ∃r',C=full ⟨#[]⟩::r':=by
  by_cases hr:(u:Int)+(c.length:Int)+1<(k:Int)
  .
   right
   rw [if_pos hr] at hC
   cases B with
   | nil=>simp at hBl;omega
   | cons b1 B=>exact ⟨B,hC.symm⟩
  .
   left
   exact List.eq_nil_of_length_eq_zero (by omega)
 have SC:(d.Now.take (f+u)++eZ (first+(u:Int)) c).length=f+u+c.length:=by rw [List.length_append,htl,gk]
 have Tm:(d.Now.take (f+u)++eZ (first+(u:Int)) c++b0::C).take f=d.Now.take f:=by
  rw [List.append_assoc,List.take_append_of_le_length (by omega),List.take_take,Nat.min_eq_left (by omega)]
 have hdr:∀X:List ByteArray,(d.Now.take (f+u)++X).drop f=(d.Now.drop f).take u++X:=fun X=>by
  rw [List.drop_append_of_le_length (by omega),List.drop_take,Nat.add_sub_cancel_left]
 have T5:((d.Now.drop f).take u).length=u:=by rw [List.length_take];omega
 have hN1:iF ((d.Now.take (f+u)++eZ (first+(u:Int)) c++b0::C).drop f) first W u:=by
  rw [List.append_assoc,hdr]
  refine hL.keep h0 (by rw [List.take_append_of_le_length (by omega),List.take_take,Nat.min_self]) fun j s hs=>?_
  by_cases hj:j<u
  .rw [List.getElem?_append_left (by omega),List.getElem?_take_of_lt hj] at hs;exact .inl hs
  .
   rw [List.getElem?_append_right (by omega),T5] at hs
   by_cases hj2:j-u<c.length
   .
    rw [List.getElem?_append_left (by rw [gk];exact hj2)] at hs
    obtain ⟨x,hx⟩:∃x,c[j-u]? = some x:=⟨_,List.getElem?_eq_getElem hj2⟩
    rw [tW c _ _ x hx] at hs
    injection hs with hs
    have hz:=a3 x (List.mem_of_getElem? hx)
    obtain ⟨_,_,h3,h4⟩:=g9 hz
    have hsz:(ke x).1.size<=41:=by rw [lA hz];omega
    refine .inr (.inr ⟨by rw [<- hs,p7 hsz];decide,by rw [<- hs,nW hsz];congr 1;omega⟩)
   .
    rw [List.getElem?_append_right (by rw [gk];omega),gk] at hs
    by_cases hj3:j-u-c.length=0
    .
     rw [hj3] at hs
     have:=Tk 0 s (by simpa using hs)
     left;rw [List.getElem?_drop];rwa [show f+j=f+u+c.length+0 by omega]
    .
     obtain ⟨i,hi⟩:∃i,j-u-c.length=i+1:=⟨j-u-c.length-1,by omega⟩
     rw [hi,List.getElem?_cons_succ] at hs
     rcases Tl i s hs with h1|h1
     .left;rw [List.getElem?_drop];rwa [show f+j=f+u+(c.length+1)+i by omega]
     .exact .inr (.inl h1)
 have Tn:(d.Now.take (f+u)++(jJ (first+(u:Int)) c++C)).take f=d.Now.take f:=by
  rw [List.take_append_of_le_length (by omega),List.take_take,Nat.min_eq_left (by omega)]
 have U4:iF ((d.Now.take (f+u)++(jJ (first+(u:Int)) c++C)).drop f) first (W++[c]) (u+c.length+1):=by
  rw [hdr]
  have q1:first+((d.Now.drop f).length:Int)<4294967296:=by rw [hdl0];exact hb
  have q2:u+(c.length+1)+C.length=(d.Now.drop f).length:=by rw [hdl0,UN];exact Nr V5 hnl a2 hBl
  refine hL.after h0 q1 a3 a1 q2 V7 fun j s hs=>?_
  rcases Tl j s hs with h1|h1
  .left;rw [List.getElem?_drop];rwa [show f+(u+(c.length+1)+j)=f+u+(c.length+1)+j by omega]
  .exact .inr h1
 have hold:∀ (T:List Turn) (z:Int),(∀t∈T,t∈rZ ⟨f,k,first,u⟩ c)->(mL z T d.Kept).take f=d.Now.take f/\iF ((mL z T d.Kept).drop f) first W u:=fun T z hT=>by
  have hlen:(mL z T d.Kept).length=d.Now.length:=by rw [Cr,hkn]
  have hp:∀ (p:Nat) s,(mL z T d.Kept)[p]? = some s->d.Now[p]? = some s∨(f+u<=p/\(bf s 0=0∨(bf s 0=111/\s.extract 1 5=bV (first+((p-f:Nat):Int))))):=fun p s hs=>by
   rcases Nq hs with h1|⟨t,ht,h1,h2⟩
   .left;rw [<- hkn];exact h1
   .
    right
    have ht:=hT t ht
    unfold rZ at ht
    rcases List.mem_append.1 ht with ht|ht
    .
     obtain ⟨i,g1,g2,g3,g4⟩:=yq _ _ _ _ a3 ht
     dsimp only at g2 g4
     refine ⟨by omega,.inr ⟨by rw [<- h2];exact g3,by rw [<- h2,g4];congr 1;omega⟩⟩
    .
     split at ht
     .
      rw [List.mem_singleton.1 ht] at h1 h2
      dsimp only at h1 h2
      exact ⟨by omega,.inl (by rw [<- h2];exact oJ)⟩
     .cases ht
  refine ⟨take_same hlen fun p s hp1 hs=>(hp p s hs).elim id fun h=>by omega,hL.keep h0 ?_ fun j s hs=>?_⟩
  .
   refine take_same (by rw [List.length_drop,List.length_drop,hlen]) fun p s hp1 hs=>?_
   rw [List.getElem?_drop] at hs ⊢
   exact (hp _ s hs).elim id fun h=>by omega
  .
   rw [List.getElem?_drop] at hs ⊢
   rcases hp _ s hs with h1|⟨h1,h2|h2⟩
   .exact .inl h1
   .exact .inr (.inl h2)
   .rw [Nat.add_sub_cancel_left] at h2;exact .inr (.inr h2)
 have fell:∀e:cw,cx ⟨f,k,first,u⟩ d c=(⟨f,k,first,u⟩,e,10)->¬ d.Fuse = -1:=fun e he hf=>by
  have:=(live hf).1
  rw [he,ha] at this;cases this
 have rest:∀ (e:cw),cx ⟨f,k,first,u⟩ d c=(⟨f,k,first,u⟩,e,10) -> ∀z,fL n 0 (gD e z):=fun e he z=>by
  rw [he] at hok;exact hok.restart z
 rcases hS with ⟨g,hg,hS⟩ | ⟨e,he,e1,e2,j,e3⟩
 rotate_left
 .
  right
  have e':=N5 (lg:=⟨f,k,first,u⟩) (d:=d) ha (by rw [he];exact j1)
  rw [he] at e'
  refine ⟨e,e',fell e e',fun z=>⟨rest e e' z,?_⟩⟩
  rw [e2,e3,hwt,List.nil_append]
  have:=hold (List.take j (rZ ⟨f,k,first,u⟩ c)) z (fun t ht=>List.mem_of_mem_take ht)
  exact ⟨this.1,W,u,this.2,.inl rfl⟩
 have g0:(dv ⟨f,k,first,u⟩ d c).2=0:=by rw [hS]
 have hb1:rX ⟨f,k,first,u⟩ d c=ai (dv ⟨f,k,first,u⟩ d c).1:=rfl
 rw [hS] at hb1
 rcases rY (d:=⟨d.Kept,d.Now.take (f+u)++eZ (first+(u:Int)) c++b0::C,d.Wait++rZ ⟨f,k,first,u⟩ c,g,false⟩) rfl hg with ⟨g2,hg2,hb'⟩ | hb'
 rotate_left
 .
  rw [hb'] at hb1
  right
  have e':=N6 (lg:=⟨f,k,first,u⟩) (d:=d) ha g0 (by rw [hb1];exact j1)
  rw [hb1] at e'
  refine ⟨_,e',fell _ e',fun z=>⟨rest _ e' z,?_⟩⟩
  dsimp only
  rw [hwt,List.nil_append]
  have:=hold _ z (fun t ht=>ht)
  exact ⟨this.1,W,u,this.2,.inl rfl⟩
 rw [hb'] at hb1
 have g1:(rX ⟨f,k,first,u⟩ d c).2=0:=by rw [hb1]
 have hc1:sV ⟨f,k,first,u⟩ d c=ap (rX ⟨f,k,first,u⟩ d c).1 ((f:Int)+((u:Int)+(c.length:Int))) (dF 99 (first+((u:Int)+(c.length:Int))) (bV (c.length:Int))):=rfl
 rw [hb1] at hc1
 rcases oN (d:=⟨d.Now.take (f+u)++eZ (first+(u:Int)) c++b0::C,d.Now.take (f+u)++eZ (first+(u:Int)) c++b0::C,[],g2,false⟩) (i:=(f:Int)+((u:Int)+(c.length:Int))) (x:=dF 99 (first+((u:Int)+(c.length:Int))) (bV (c.length:Int))) rfl hg2 (by omega) (by dsimp only;rw [List.length_append,SC,List.length_cons];omega) (by rw [nV,aF];omega) with ⟨g3,hg3,hc'⟩ | hc'
 rotate_left
 .
  dsimp only at hc1 hc'
  rw [hc'] at hc1
  right
  have e':=N7 (lg:=⟨f,k,first,u⟩) (d:=d) ha g0 g1 (by rw [hc1];exact j1)
  rw [hc1] at e'
  refine ⟨_,e',fell _ e',fun z=>⟨rest _ e' z,?_⟩⟩
  exact ⟨Tm,W,u,hN1,.inl rfl⟩
 have e:((f:Int)+((u:Int)+(c.length:Int))).toNat=f+u+c.length:=by omega
 have hset:(d.Now.take (f+u)++eZ (first+(u:Int)) c++b0::C).set (f+u+c.length) (full (dF 99 (first+((u:Int)+(c.length:Int))) (bV (c.length:Int))))=d.Now.take (f+u)++(jJ (first+(u:Int)) c++C):=by
  rw [List.set_append_right _ _ (by omega),SC,Nat.sub_self,List.set_cons_zero]
  unfold jJ
  rw [show first+((u:Int)+(c.length:Int))=first+(u:Int)+(c.length:Int) by omega]
  simp only [List.append_assoc,List.singleton_append,List.nil_append]
 dsimp only at hc1 hc'
 rw [hc',e,hset] at hc1
 have g2':(sV ⟨f,k,first,u⟩ d c).2=0:=by rw [hc1]
 have hdd:vf ⟨f,k,first,u⟩ d c=ai (sV ⟨f,k,first,u⟩ d c).1:=rfl
 rw [hc1] at hdd
 rcases rY (d:=(⟨d.Now.take (f+u)++eZ (first+(u:Int)) c++b0::C,d.Now.take (f+u)++(jJ (first+(u:Int)) c++C),[]++[⟨(f:Int)+((u:Int)+(c.length:Int)),full (dF 99 (first+((u:Int)+(c.length:Int))) (bV (c.length:Int)))⟩],g3,false⟩:cw)) rfl hg3 with ⟨g4,hg4,hd'⟩ | hd'
 rotate_left
 .
  dsimp only at hdd hd'
  rw [hd'] at hdd
  right
  have e':=N8 (lg:=⟨f,k,first,u⟩) (d:=d) ha g0 g1 g2' (by rw [hdd];exact j1)
  rw [hdd] at e'
  refine ⟨_,e',fell _ e',fun z=>⟨rest _ e' z,?_⟩⟩
  dsimp only
  show (oF z _ (_,0)).take f=_ /\ ∃W' u',iF ((oF z _ (_,0)).drop f) first W' u'/\_
  by_cases hbit:N3 z 0=true
  .
   unfold oF;dsimp only
   rw [if_pos hbit,e,hset];exact ⟨Tn,_,_,U4,.inr rfl⟩
  .
   unfold oF;dsimp only
   rw [if_neg hbit];exact ⟨Tm,_,_,hN1,.inl rfl⟩
 dsimp only at hdd hd'
 rw [hd'] at hdd
 left
 have e':=EM (lg:=⟨f,k,first,u⟩) (d:=d) ha g0 g1 g2' (by rw [hdd])
 rw [hdd] at e'
 refine ⟨_,by rw [e'];dsimp only;congr 1,⟨?_,rfl,hg4,rfl,rfl⟩,Tn,U4,fun hf=>?_⟩
 .
  rw [e'] at hok
  exact ⟨hok.kl,hok.nl,hok.ks,hok.ns,Nat.zero_le _,fun t ht=>(by cases ht),hok.f0,hok.f1⟩
 .
  have:=(live hf).2.2.1
  rw [e'] at this;exact this
end Go.Proofs.YtkbhcbipadkcaaaGreatDoor
