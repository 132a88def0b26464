import Derived.Test.YtkbhcbipadkcaaaGreatDoorTS27
namespace Go.Proofs.YtkbhcbipadkcaaaGreatDoor
set_option linter.unusedVariables false
set_option linter.unusedSimpArgs false
set_option maxRecDepth 100000
set_option maxHeartbeats 90000000
section
open Go Go.RowKit
structure iE (l:List ByteArray)(first:Int)(W:List (List Change))(u:Nat):Prop where
  sc:scan l first=(W,u)
  Vh:∀ (j:Nat) s,u<=j->l[j]? = some s->bj s 0=99->¬ s.extract 1 5=bY (first+(j:Int))
  num:∀ (j:Nat) s,l[j]? = some s->(bj s 0=111∨bj s 0=99) -> ∃m:Int,0<=m/\m<=first+(j:Int)/\s.extract 1 5=bY m
theorem Ac {s:ByteArray}{n k:Int}(h:bj s 0=99->¬ s.extract 1 5=bY n):zq s n k=false:=by
 rw [Bool.eq_false_iff];intro hc
 unfold zq at hc;simp only [Bool.and_eq_true,decide_eq_true_eq] at hc
 exact h hc.1.2 hc.1.1.1
theorem Ei:∀ (l:List ByteArray) (n:Int) (out:List (List Change)) (deed:List Change) (used pos:Nat),(∀ (j:Nat) s,l[j]? = some s->bj s 0=99->¬ s.extract 1 5=bY (n+(j:Int)))->iI l n out deed used pos=(out,used)
 | [],n,out,deed,used,pos,_=>rfl
 | s::r,n,out,deed,used,pos,h=>by
  rw [iI,if_neg (by rw [Ac (by have:=h 0 s rfl;simpa using this)];decide)]
  split
  .
   refine Ei r _ _ _ _ _ fun j s' hs=>?_
   have:=h (j+1) s' (by simpa using hs)
   rwa [show n+((j+1:Nat):Int)=n+1+(j:Int) by omega] at this
  .rfl
section
variable {l l':List ByteArray} {first:Int} {W:List (List Change)} {u:Nat} {c:List Change}
theorem iE.ule (h:iE l first W u):u<=l.length:=HY h.sc
theorem iE.next (h:iE l first W u)(h0:0<=first)(hb:first+2*(l.length:Int)<4294967296):iE l (first+(l.length:Int)) [] 0:=by
 have key:∀ (j:Nat) s,l[j]? = some s->(bj s 0=111∨bj s 0=99) -> ∀i:Nat,i<=l.length->¬ s.extract 1 5=bY (first+(l.length:Int)+(i:Int)):=fun j s hs hk i hi e=>by
  obtain ⟨m,h1,h2,h3⟩:=h.num j s hs hk
  have hj:=(List.getElem?_eq_some_iff.1 hs).1
  have:=Hy (a:=m) (b:=first+(l.length:Int)+(i:Int)) (by omega) (by omega) (h3.symm.trans e)
  omega
 refine ⟨?_,fun j s _ hs hk=>key j s hs (.inr hk) j (by have:=(List.getElem?_eq_some_iff.1 hs).1;omega),fun j s hs hk=>?_⟩
 .
  cases l with
  | nil=>rfl
  | cons s r =>
   unfold scan
   have hs:(s::r)[0]? = some s:=rfl
   rw [iI,if_neg (by rw [Ac (fun hk=>by have:=key 0 s hs (.inr hk) 0 (Nat.zero_le _);simpa using this)];decide),if_neg ?_]
   intro ho
   unfold Et at ho;simp only [Bool.and_eq_true,decide_eq_true_eq] at ho
   exact key 0 s hs (.inl ho.1.2) 0 (Nat.zero_le _) (by simpa using ho.1.1.1)
 .
  obtain ⟨m,h1,h2,h3⟩:=h.num j s hs hk
  exact ⟨m,h1,by omega,h3⟩
theorem iE.blank (first:Int)(h:∀s∈l,bj s 0=0):iE l first [] 0:=by
 refine ⟨?_,fun j s _ hs hk=>?_,fun j s hs hk=>?_⟩
 .
  cases l with
  | nil=>rfl
  | cons s r =>
   have:=h s (List.mem_cons_self ..)
   unfold scan
   rw [iI,if_neg (by rw [sQ (by omega)];decide),if_neg (by rw [A9 (by omega)];decide)]
 .have:=h s (List.mem_of_getElem? hs);omega
 .have:=h s (List.mem_of_getElem? hs);omega
theorem iE.keep (h:iE l first W u)(h0:0<=first)(ht:l'.take u=l.take u)(hp:∀ (j:Nat) s,l'[j]? = some s->l[j]? = some s∨bj s 0=0∨(bj s 0=111/\s.extract 1 5=bY (first+(j:Int)))):iE l' first W u:=by
 have hn:∀ (j:Nat) s,u<=j->l'[j]? = some s->bj s 0=99->¬ s.extract 1 5=bY (first+(j:Int)):=fun j s hj hs hk=>by
  rcases hp j s hs with h1|h1|h1
  .exact h.Vh j s hj h1 hk
  .omega
  .omega
 refine ⟨?_,hn,fun j s hs hk=>?_⟩
 .
  have hcut:=wS (l:=l) (l':=l') (first:=first) (by rw [h.sc];exact ht)
  rw [h.sc] at hcut
  rw [hcut]
  refine Ei _ _ _ _ _ _ fun j s hs hk=>?_
  rw [List.getElem?_drop] at hs
  have:=hn (u+j) s (Nat.le_add_right _ _) hs hk
  rwa [show first+((u+j:Nat):Int)=first+(u:Int)+(j:Int) by omega] at this
 .
  rcases hp j s hs with h1|h1|h1
  .exact h.num j s h1 hk
  .omega
  .exact ⟨first+(j:Int),by omega,by omega,h1.2⟩
theorem iE.after {r:List ByteArray}(h:iE l first W u)(h0:0<=first)(hb:first+(l.length:Int)<4294967296)(hc:∀x∈c,iL x=0)(hm:c.length<=62)(hlen:u+(c.length+1)+r.length=l.length)
 (hr:r=[] ∨ ∃r',r=full ⟨#[]⟩::r') (hrr:∀ (j:Nat) s,r[j]? = some s->l[u+(c.length+1)+j]? = some s∨bj s 0=0) :
 iE (l.take u++(jH (first+(u:Int)) c++r)) first (W++[c]) (u+c.length+1):=by
 have htl:(l.take u).length=u:=by rw [List.length_take];omega
 have hds:=qG (first+(u:Int)) c
 have hcut:=wS (l:=l) (l':=l.take u++(jH (first+(u:Int)) c++r)) (first:=first) (by rw [h.sc];dsimp only;rw [List.take_append_of_le_length (by omega),List.take_take,Nat.min_self])
 rw [h.sc] at hcut
 dsimp only at hcut
 rw [List.drop_append_of_le_length (by omega),List.drop_of_length_le (by omega),List.nil_append] at hcut
 have Tk:∀ (j:Nat) s,u+(c.length+1)<=j->(l.take u++(jH (first+(u:Int)) c++r))[j]? = some s->l[j]? = some s∨bj s 0=0:=fun j s hj hs=>by
  rw [List.getElem?_append_right (by omega),htl,List.getElem?_append_right (by omega),hds] at hs
  have:=hrr (j-u-(c.length+1)) s hs
  rwa [show u+(c.length+1)+(j-u-(c.length+1))=j by omega] at this
 refine ⟨?_,fun j s hj hs hk=>?_,fun j s hs hk=>?_⟩
 .
  rw [hcut]
  unfold jH
  rw [List.append_assoc,List.singleton_append]
  refine Gi hc ?_
  rcases hr with hr|⟨r',hr⟩
  .exact .inl hr
  .exact .inr ⟨_,r',hr,oB⟩
 .
  rcases Tk j s (by omega) hs with h1|h1
  .exact h.Vh j s (by omega) h1 hk
  .omega
 .
  by_cases hj:j<u
  .
   rw [List.getElem?_append_left (by omega),List.getElem?_take_of_lt hj] at hs
   exact h.num j s hs hk
  .
   by_cases hj2:j<u+(c.length+1)
   .
    rw [List.getElem?_append_right (by omega),htl,List.getElem?_append_left (by omega)] at hs
    refine ⟨first+(j:Int),by omega,by omega,?_⟩
    unfold jH at hs
    by_cases hj3:j-u<c.length
    .
     rw [List.getElem?_append_left (by rw [gp];exact hj3)] at hs
     obtain ⟨x,hx⟩:∃x,c[j-u]? = some x:=⟨_,List.getElem?_eq_getElem hj3⟩
     rw [tT c _ _ x hx] at hs
     injection hs with hs
     obtain ⟨_,_,h3,h4⟩:=gZ (hc x (List.mem_of_getElem? hx))
     rw [<- hs,nO (by rw [lC (hc x (List.mem_of_getElem? hx))];omega)]
     congr 1;omega
    .
     rw [List.getElem?_append_right (by rw [gp];omega),gp,show j-u-c.length=0 by omega] at hs
     simp only [List.getElem?_cons_zero,Option.some.injEq] at hs
     rw [<- hs,nO (by rw [aG];omega)]
     congr 1;omega
   .
    rcases Tk j s (by omega) hs with h1|h1
    .exact h.num j s h1 hk
    .omega
end
theorem Lv (k:Int):∀ (w:List Turn) (i:Nat) (l:List ByteArray) (p:Nat) (s:ByteArray),((w.zipIdx i).foldl (nI k) l)[p]? = some s->l[p]? = some s ∨ ∃t∈w,t.At.toNat=p/\t.Data=s
 | [],i,l,p,s,h => .inl h
 | t::w,i,l,p,s,h=>by
  rw [List.zipIdx_cons,List.foldl_cons] at h
  rcases Lv k w (i+1) _ p s h with h1|⟨t',ht,h1⟩
  .
   unfold nI at h1
   split at h1
   .
    by_cases hp:t.At.toNat=p
    .
     dsimp only at h1
     rw [hp] at h1
     have hlt:p<l.length:=by have:=(List.getElem?_eq_some_iff.1 h1).1;simpa using this
     rw [List.getElem?_set_self hlt] at h1
     injection h1 with h1
     exact .inr ⟨t,List.mem_cons_self ..,hp,h1⟩
    .rw [List.getElem?_set_ne hp] at h1;exact .inl h1
   .exact .inl h1
  .exact .inr ⟨t',List.mem_cons_of_mem _ ht,h1⟩
theorem Ni {k:Int}{w:List Turn}{l:List ByteArray}{p:Nat}{s:ByteArray}(h:(lA k w l)[p]? = some s):l[p]? = some s ∨ ∃t∈w,t.At.toNat=p/\t.Data=s:=Lv k w 0 l p s h
theorem take_same {α:Type}{l l':List α}{q:Nat}(hl:l'.length=l.length)(h:∀p s,p<q->l'[p]? = some s->l[p]? = some s):l'.take q=l.take q:=by
 refine List.ext_getElem? fun p=>?_
 by_cases hp:p<q
 .
  rw [List.getElem?_take_of_lt hp,List.getElem?_take_of_lt hp]
  by_cases hlt:p<l'.length
  .
   have e:=List.getElem?_eq_getElem hlt
   rw [e];exact (h p _ hp e).symm
  .rw [List.getElem?_eq_none (by omega),List.getElem?_eq_none (by omega)]
 .rw [List.getElem?_eq_none (by rw [List.length_take];omega),List.getElem?_eq_none (by rw [List.length_take];omega)]
theorem ym:∀ (l:List Change) (p n:Int) (t:Turn),(∀x∈l,iL x=0)->t∈j0 p n l -> ∃i:Nat,i<l.length/\t.At=p+(i:Int)/\bj t.Data 0=111/\t.Data.extract 1 5=bY (n+(i:Int))
 | [],_,_,t,_,h=>by cases h
 | c::l,p,n,t,hc,h=>by
  rcases List.mem_cons.1 h with rfl|h
  .
   obtain ⟨_,_,h3,h4⟩:=gZ (hc c (List.mem_cons_self ..))
   have hs:(kb c).1.size<=41:=by rw [lC (hc c (List.mem_cons_self ..))];omega
   exact ⟨0,by simp,by simp,by dsimp only;rw [pX hs];decide,by dsimp only;rw [nO hs];simp⟩
  .
   obtain ⟨i,h1,h2,h3,h4⟩:=ym l (p+1) (n+1) t (fun x hx=>hc x (List.mem_cons_of_mem _ hx)) h
   exact ⟨i+1,by simp;omega,by omega,h3,by rw [h4];congr 1;omega⟩
theorem Nj {f k u cl n dn B:Nat}(h1:f+k=n)(h2:dn=n)(h3:(cl:Int)+1<=(k:Int)-(u:Int))(h4:B+1=dn-(f+u+cl)):u+(cl+1)+B=k:=by omega
structure Rest (n:Nat)(d:cw):Prop where
  ok:fM n 0 d
  down:d.Down=false
  fuse : -1<=d.Fuse
  kn:d.Kept=d.Now
  wait:d.Wait=[]
theorem Nk {n f k u:Nat}{first:Int}{d:cw}{W:List (List Change)}{c:List Change}(hR:Rest n d)(Wk:f+k=n)(h0:0<=first)(hb:first+(k:Int)<4294967296)(hL:iE (d.Now.drop f) first W u)(ha:jG ⟨f,k,first,u⟩ c=0) :
 (∃e,cy ⟨f,k,first,u⟩ d c=(⟨f,k,first,((u+c.length+1:Nat):Int)⟩,e,0)/\Rest n e/\e.Now.take f=d.Now.take f/\iE (e.Now.drop f) first (W++[c]) (u+c.length+1)/\(d.Fuse = -1->e.Fuse = -1)) ∨
 (∃e,cy ⟨f,k,first,u⟩ d c=(⟨f,k,first,u⟩,e,10)/\¬ d.Fuse = -1 /\ ∀z,fM n 0 (a8 e z)/\(lA z e.Wait e.Kept).take f=d.Now.take f /\ ∃W' u',iE ((lA z e.Wait e.Kept).drop f) first W' u'/\(W'=W∨W'=W++[c])):=by
 have hok:=vB (lg:=⟨f,k,first,u⟩) (c:=c) hR.ok
 obtain ⟨a1,a2,a3⟩:=l6 ha
 dsimp only at a2
 have hnl:=hR.ok.nl
 have Wl:P5 n 0 ⟨f,k,first,u⟩ d:=⟨hR.ok,by show (0:Int)<=(f:Int);omega,by show (0:Int)<=(k:Int);omega,by show (f:Int)+(k:Int)<=(n:Int);omega,by show (0:Int)<=(u:Int);omega⟩
 have hkn:=hR.kn;have hwt:=hR.wait
 have hdl0:(d.Now.drop f).length=k:=by rw [List.length_drop];omega
 have live:=fun (h:d.Fuse = -1)=>Mu (lg:=⟨f,k,first,u⟩) (c:=c) (gq:=f) (many:=k) (first:=first) (u:=u) (W:=W) hR.ok hR.down h rfl (by omega) (by omega) (by omega) (by
  rw [show ((k:Nat):Int).toNat=k from rfl,nT hR.down (by omega),List.take_of_length_le (by omega)];exact hL.sc)
 obtain ⟨B,b0,hB,hS⟩:=Kj (c:=c) Wl hR.down hR.fuse ha
 have hq:((f:Int)+(u:Int)).toNat=f+u:=by omega
 dsimp only at hB hS
 rw [hq] at hB hS
 have hBl:(b0::B).length=d.Now.length-(f+u+c.length):=by rw [<- hB,List.length_drop]
 rw [List.length_cons] at hBl
 have Tl:∀ (j:Nat) s,(b0::B)[j]? = some s->d.Now[f+u+c.length+j]? = some s:=fun j s hs=>by rw [<- hB,List.getElem?_drop] at hs;exact hs
 have htl:(d.Now.take (f+u)).length=f+u:=by rw [List.length_take];omega
 generalize hC:(if (u:Int)+(c.length:Int)+1<(k:Int) then B.set 0 (full ⟨#[]⟩) else B)=C at hS
 have U1:C.length=B.length:=by rw [<- hC];split <;> simp
 have Tm:∀ (j:Nat) s,C[j]? = some s->d.Now[f+u+(c.length+1)+j]? = some s∨bj s 0=0:=fun j s hs=>by
  have hold:∀s,B[j]? = some s->d.Now[f+u+(c.length+1)+j]? = some s:=fun s hs=>by
   have:=Tl (j+1) s (by simpa using hs)
   rwa [show f+u+c.length+(j+1)=f+u+(c.length+1)+j by omega] at this
  rw [<- hC] at hs
  split at hs
  .
   by_cases hj:j=0
   .
    subst hj
    have hlt:0<B.length:=by have:=(List.getElem?_eq_some_iff.1 hs).1;simpa using this
    rw [List.getElem?_set_self hlt] at hs
    injection hs with hs
    exact .inr (by rw [<- hs];exact oB)
   .rw [List.getElem?_set_ne (by omega)] at hs;exact .inl (hold s hs)
  .exact .inl (hold s hs)
 have Wm:C=[] ∨ ∃r',C=full ⟨#[]⟩::r':=by
  by_cases hr:(u:Int)+(c.length:Int)+1<(k:Int)
  .
   right
   rw [if_pos hr] at hC
   cases B with
   | nil=>simp at hBl;omega
   | cons b1 B=>exact ⟨B,hC.symm⟩
  .
   left
   exact List.eq_nil_of_length_eq_zero (by omega)
 have SF:(d.Now.take (f+u)++eY (first+(u:Int)) c).length=f+u+c.length:=by rw [List.length_append,htl,gp]
 have Tn:(d.Now.take (f+u)++eY (first+(u:Int)) c++b0::C).take f=d.Now.take f:=by
  rw [List.append_assoc,List.take_append_of_le_length (by omega),List.take_take,Nat.min_eq_left (by omega)]
 have hdr:∀X:List ByteArray,(d.Now.take (f+u)++X).drop f=(d.Now.drop f).take u++X:=fun X=>by
  rw [List.drop_append_of_le_length (by omega),List.drop_take,Nat.add_sub_cancel_left]
 have Uh:((d.Now.drop f).take u).length=u:=by rw [List.length_take];omega
 have hN1:iE ((d.Now.take (f+u)++eY (first+(u:Int)) c++b0::C).drop f) first W u:=by
  rw [List.append_assoc,hdr]
  refine hL.keep h0 (by rw [List.take_append_of_le_length (by omega),List.take_take,Nat.min_self]) fun j s hs=>?_
  by_cases hj:j<u
  .rw [List.getElem?_append_left (by omega),List.getElem?_take_of_lt hj] at hs;exact .inl hs
  .
   rw [List.getElem?_append_right (by omega),Uh] at hs
   by_cases hj2:j-u<c.length
   .
    rw [List.getElem?_append_left (by rw [gp];exact hj2)] at hs
    obtain ⟨x,hx⟩:∃x,c[j-u]? = some x:=⟨_,List.getElem?_eq_getElem hj2⟩
    rw [tT c _ _ x hx] at hs
    injection hs with hs
    have hz:=a3 x (List.mem_of_getElem? hx)
    obtain ⟨_,_,h3,h4⟩:=gZ hz
    have hsz:(kb x).1.size<=41:=by rw [lC hz];omega
    refine .inr (.inr ⟨by rw [<- hs,pX hsz];decide,by rw [<- hs,nO hsz];congr 1;omega⟩)
   .
    rw [List.getElem?_append_right (by rw [gp];omega),gp] at hs
    by_cases hj3:j-u-c.length=0
    .
     rw [hj3] at hs
     have:=Tl 0 s (by simpa using hs)
     left;rw [List.getElem?_drop];rwa [show f+j=f+u+c.length+0 by omega]
    .
     obtain ⟨i,hi⟩:∃i,j-u-c.length=i+1:=⟨j-u-c.length-1,by omega⟩
     rw [hi,List.getElem?_cons_succ] at hs
     rcases Tm i s hs with h1|h1
     .left;rw [List.getElem?_drop];rwa [show f+j=f+u+(c.length+1)+i by omega]
     .exact .inr (.inl h1)
 have Tp:(d.Now.take (f+u)++(jH (first+(u:Int)) c++C)).take f=d.Now.take f:=by
  rw [List.take_append_of_le_length (by omega),List.take_take,Nat.min_eq_left (by omega)]
 have Vi:iE ((d.Now.take (f+u)++(jH (first+(u:Int)) c++C)).drop f) first (W++[c]) (u+c.length+1):=by
  rw [hdr]
  have q1:first+((d.Now.drop f).length:Int)<4294967296:=by rw [hdl0];exact hb
  have q2:u+(c.length+1)+C.length=(d.Now.drop f).length:=by rw [hdl0,U1];exact Nj Wk hnl a2 hBl
  refine hL.after h0 q1 a3 a1 q2 Wm fun j s hs=>?_
  rcases Tm j s hs with h1|h1
  .left;rw [List.getElem?_drop];rwa [show f+(u+(c.length+1)+j)=f+u+(c.length+1)+j by omega]
  .exact .inr h1
 have hold:∀ (T:List Turn) (z:Int),(∀t∈T,t∈rU ⟨f,k,first,u⟩ c)->(lA z T d.Kept).take f=d.Now.take f/\iE ((lA z T d.Kept).drop f) first W u:=fun T z hT=>by
  have hlen:(lA z T d.Kept).length=d.Now.length:=by rw [wH,hkn]
  have hp:∀ (p:Nat) s,(lA z T d.Kept)[p]? = some s->d.Now[p]? = some s∨(f+u<=p/\(bj s 0=0∨(bj s 0=111/\s.extract 1 5=bY (first+((p-f:Nat):Int))))):=fun p s hs=>by
   rcases Ni hs with h1|⟨t,ht,h1,h2⟩
   .left;rw [<- hkn];exact h1
   .
    right
    have ht:=hT t ht
    unfold rU at ht
    rcases List.mem_append.1 ht with ht|ht
    .
     obtain ⟨i,g1,g2,g3,g4⟩:=ym _ _ _ _ a3 ht
     dsimp only at g2 g4
     refine ⟨by omega,.inr ⟨by rw [<- h2];exact g3,by rw [<- h2,g4];congr 1;omega⟩⟩
    .
     split at ht
     .
      rw [List.mem_singleton.1 ht] at h1 h2
      dsimp only at h1 h2
      exact ⟨by omega,.inl (by rw [<- h2];exact oB)⟩
     .cases ht
  refine ⟨take_same hlen fun p s hp1 hs=>(hp p s hs).elim id fun h=>by omega,hL.keep h0 ?_ fun j s hs=>?_⟩
  .
   refine take_same (by rw [List.length_drop,List.length_drop,hlen]) fun p s hp1 hs=>?_
   rw [List.getElem?_drop] at hs ⊢
   exact (hp _ s hs).elim id fun h=>by omega
  .
   rw [List.getElem?_drop] at hs ⊢
   rcases hp _ s hs with h1|⟨h1,h2|h2⟩
   .exact .inl h1
   .exact .inr (.inl h2)
   .rw [Nat.add_sub_cancel_left] at h2;exact .inr (.inr h2)
 have fell:∀e:cw,cy ⟨f,k,first,u⟩ d c=(⟨f,k,first,u⟩,e,10)->¬ d.Fuse = -1:=fun e he hf=>by
  have:=(live hf).1
  rw [he,ha] at this;cases this
 have rest:∀ (e:cw),cy ⟨f,k,first,u⟩ d c=(⟨f,k,first,u⟩,e,10) -> ∀z,fM n 0 (a8 e z):=fun e he z=>by
  rw [he] at hok;exact hok.restart z
 rcases hS with ⟨g,hg,hS⟩ | ⟨e,he,e1,e2,j,e3⟩
 rotate_left
 .
  right
  have e':=N1 (lg:=⟨f,k,first,u⟩) (d:=d) ha (by rw [he];exact j1)
  rw [he] at e'
  refine ⟨e,e',fell e e',fun z=>⟨rest e e' z,?_⟩⟩
  rw [e2,e3,hwt,List.nil_append]
  have:=hold (List.take j (rU ⟨f,k,first,u⟩ c)) z (fun t ht=>List.mem_of_mem_take ht)
  exact ⟨this.1,W,u,this.2,.inl rfl⟩
 have g0:(dw ⟨f,k,first,u⟩ d c).2=0:=by rw [hS]
 have hb1:rR ⟨f,k,first,u⟩ d c=ai (dw ⟨f,k,first,u⟩ d c).1:=rfl
 rw [hS] at hb1
 rcases rT (d:=⟨d.Kept,d.Now.take (f+u)++eY (first+(u:Int)) c++b0::C,d.Wait++rU ⟨f,k,first,u⟩ c,g,false⟩) rfl hg with ⟨g2,hg2,hb'⟩ | hb'
 rotate_left
 .
  rw [hb'] at hb1
  right
  have e':=N2 (lg:=⟨f,k,first,u⟩) (d:=d) ha g0 (by rw [hb1];exact j1)
  rw [hb1] at e'
  refine ⟨_,e',fell _ e',fun z=>⟨rest _ e' z,?_⟩⟩
  dsimp only
  rw [hwt,List.nil_append]
  have:=hold _ z (fun t ht=>ht)
  exact ⟨this.1,W,u,this.2,.inl rfl⟩
 rw [hb'] at hb1
 have g1:(rR ⟨f,k,first,u⟩ d c).2=0:=by rw [hb1]
 have hc1:sR ⟨f,k,first,u⟩ d c=au (rR ⟨f,k,first,u⟩ d c).1 ((f:Int)+((u:Int)+(c.length:Int))) (dD 99 (first+((u:Int)+(c.length:Int))) (bY (c.length:Int))):=rfl
 rw [hb1] at hc1
 rcases oF (d:=⟨d.Now.take (f+u)++eY (first+(u:Int)) c++b0::C,d.Now.take (f+u)++eY (first+(u:Int)) c++b0::C,[],g2,false⟩) (i:=(f:Int)+((u:Int)+(c.length:Int))) (x:=dD 99 (first+((u:Int)+(c.length:Int))) (bY (c.length:Int))) rfl hg2 (by omega) (by dsimp only;rw [List.length_append,SF,List.length_cons];omega) (by rw [nM,aG];omega) with ⟨g3,hg3,hc'⟩ | hc'
 rotate_left
 .
  dsimp only at hc1 hc'
  rw [hc'] at hc1
  right
  have e':=N3 (lg:=⟨f,k,first,u⟩) (d:=d) ha g0 g1 (by rw [hc1];exact j1)
  rw [hc1] at e'
  refine ⟨_,e',fell _ e',fun z=>⟨rest _ e' z,?_⟩⟩
  exact ⟨Tn,W,u,hN1,.inl rfl⟩
 have e:((f:Int)+((u:Int)+(c.length:Int))).toNat=f+u+c.length:=by omega
 have hset:(d.Now.take (f+u)++eY (first+(u:Int)) c++b0::C).set (f+u+c.length) (full (dD 99 (first+((u:Int)+(c.length:Int))) (bY (c.length:Int))))=d.Now.take (f+u)++(jH (first+(u:Int)) c++C):=by
  rw [List.set_append_right _ _ (by omega),SF,Nat.sub_self,List.set_cons_zero]
  unfold jH
  rw [show first+((u:Int)+(c.length:Int))=first+(u:Int)+(c.length:Int) by omega]
  simp only [List.append_assoc,List.singleton_append,List.nil_append]
 dsimp only at hc1 hc'
 rw [hc',e,hset] at hc1
 have g2':(sR ⟨f,k,first,u⟩ d c).2=0:=by rw [hc1]
 have hdd:vf ⟨f,k,first,u⟩ d c=ai (sR ⟨f,k,first,u⟩ d c).1:=rfl
 rw [hc1] at hdd
 rcases rT (d:=(⟨d.Now.take (f+u)++eY (first+(u:Int)) c++b0::C,d.Now.take (f+u)++(jH (first+(u:Int)) c++C),[]++[⟨(f:Int)+((u:Int)+(c.length:Int)),full (dD 99 (first+((u:Int)+(c.length:Int))) (bY (c.length:Int)))⟩],g3,false⟩:cw)) rfl hg3 with ⟨g4,hg4,hd'⟩ | hd'
 rotate_left
 .
  dsimp only at hdd hd'
  rw [hd'] at hdd
  right
  have e':=N4 (lg:=⟨f,k,first,u⟩) (d:=d) ha g0 g1 g2' (by rw [hdd];exact j1)
  rw [hdd] at e'
  refine ⟨_,e',fell _ e',fun z=>⟨rest _ e' z,?_⟩⟩
  dsimp only
  show (nI z _ (_,0)).take f=_ /\ ∃W' u',iE ((nI z _ (_,0)).drop f) first W' u'/\_
  by_cases hbit:zf z 0=true
  .
   unfold nI;dsimp only
   rw [if_pos hbit,e,hset];exact ⟨Tp,_,_,Vi,.inr rfl⟩
  .
   unfold nI;dsimp only
   rw [if_neg hbit];exact ⟨Tn,_,_,hN1,.inl rfl⟩
 dsimp only at hdd hd'
 rw [hd'] at hdd
 left
 have e':=EU (lg:=⟨f,k,first,u⟩) (d:=d) ha g0 g1 g2' (by rw [hdd])
 rw [hdd] at e'
 refine ⟨_,by rw [e'];dsimp only;congr 1,⟨?_,rfl,hg4,rfl,rfl⟩,Tp,Vi,fun hf=>?_⟩
 .
  rw [e'] at hok
  exact ⟨hok.kl,hok.nl,hok.ks,hok.ns,Nat.zero_le _,fun t ht=>(by cases ht),hok.f0,hok.f1⟩
 .
  have:=(live hf).2.2.1
  rw [e'] at this;exact this
end
section
open Go Go.RowKit
theorem QI (s:ByteArray):dB s=(((bl s)[0]?).getD 0).toNat+(((bl s)[1]?).getD 0).toNat*256+(((bl s)[2]?).getD 0).toNat*65536+(((bl s)[3]?).getD 0).toNat*16777216:=by
 unfold dB;simp only [g9]
theorem tw {n:Int}(h0:0<=n)(h1:n<4294967296):((dB (bY n):Nat):Int)=n:=by
 rw [QI,pV]
 have e0:=mh (n:=n % 256) (by omega)
 have e1:=mh (n:=n / 256 % 256) (by omega)
 have e2:=mh (n:=n / 65536 % 256) (by omega)
 have e3:=mh (n:=n / 16777216 % 256) (by omega)
 simp only [List.getElem?_cons_zero,List.getElem?_cons_succ,Option.getD_some]
 omega
theorem sj (h:cY):(aL h).size=17:=by
 unfold aL;simp only [ByteArray.size_append,aG];rfl
theorem Lw (h:cY):bl (aL h)=[72]++bl (bY h.Epoch)++bl (bY h.Side)++bl (bY h.Size)++bl (bY h.First):=by
 unfold aL;simp only [iM];first|done|rfl
theorem head_piece (h:cY):(full (aL h)).extract 1 5=bY h.Epoch/\(full (aL h)).extract 5 9=bY h.Side/\(full (aL h)).extract 9 13=bY h.Size/\(full (aL h)).extract 13 17=bY h.First/\bj (full (aL h)) 0=72:=by
 have e:bl (full (aL h))=[72]++bl (bY h.Epoch)++bl (bY h.Side)++bl (bY h.Size)++bl (bY h.First)++List.replicate 31 0:=by rw [Bb,Lw,sj]
 simp only [pV] at e
 refine ⟨?_,?_,?_,?_,?_⟩
 .exact gM ((i7 _ 1 5).trans (by rw [e];rfl))
 .exact gM ((i7 _ 5 9).trans (by rw [e];rfl))
 .exact gM ((i7 _ 9 13).trans (by rw [e];rfl))
 .exact gM ((i7 _ 13 17).trans (by rw [e];rfl))
 .rw [g9,e];rfl
def Lx (h:cY):Prop:=0<=h.Epoch/\h.Epoch<4294967296/\0<=h.Side/\h.Side<=1/\0<=h.Size/\h.Size<=2400/\1<=h.First/\h.First<4294967296
theorem yn {h:cY}(k:Lx h):cm (full (aL h))=h:=by
 obtain ⟨k1,k2,k3,k4,k5,k6,k7,k8⟩:=k
 obtain ⟨p1,p2,p3,p4,p5⟩:=head_piece h
 have e1:=tw k1 k2;have e2:=tw k3 (by omega:h.Side<4294967296);have e3:=tw k5 (by omega:h.Size<4294967296);have e4:=tw (by omega:0<=h.First) k8
 rw [mo (by unfold fF;rw [p5,p2,p3,p4];omega)]
 unfold Gr
 rw [p1,p2,p3,p4,e1,e2,e3,e4]
theorem II:cm (tK 48)=⟨0,0,0,0⟩:=dc (.inl (by rw [CV];decide))
structure m7 (l:List Change):Prop where
  rise:dr l
  ok:∀c∈l,iL c=0
  live:∀c∈l,c.Gone=false
  len:l.length<=60
theorem sk (c:Change)(l:List Change)(b:ByteArray):(c::l).foldl (fun b c=>b++iQ c) b=l.foldl (fun b c=>b++iQ c) (b++iQ c):=rfl
theorem uo:∀ (l:List Change) (b:ByteArray),l.foldl (fun b c=>b++iQ c) b=b++aJ l
 | [],b=>gM (by unfold aJ;simp)
 | c::l,b=>by
  have h1:=uo l (b++iQ c)
  have h2:=uo l (⟨#[]⟩++iQ c)
  rw [sk,h1]
  unfold aJ at h2 ⊢
  rw [sk,h2]
  exact gM (by simp)
theorem IJ (c:Change)(l:List Change):aJ (c::l)=iQ c++aJ l:=by
 have:=uo l (⟨#[]⟩++iQ c)
 unfold aJ at this ⊢
 rw [sk,this]
 exact gM (by simp)
theorem Nl {c:Change}(h:iL c=0):bl (iQ c)=UInt8.ofNat c.Key.size::UInt8.ofNat c.Val.size::0::(bl c.Key++bl c.Val):=by
 obtain ⟨_,_,h3,h4⟩:=gZ h
 unfold iQ;rw [iM,iM,show c.Val.size / 256=0 by omega];rfl
theorem Nm {c:Change}(h:iL c=0)(hg:c.Gone=false)(t:ByteArray):p8 (iQ c++t)=(iQ c).size/\xa (iQ c++t)=c/\(iQ c++t).extract (iQ c).size (iQ c++t).size=t:=by
 obtain ⟨_,_,h3,h4⟩:=gZ h
 have eb:bl (iQ c++t)=UInt8.ofNat c.Key.size::UInt8.ofNat c.Val.size::0::(bl c.Key++bl c.Val++bl t):=by rw [iM,Nl h];simp
 have b0:bj (iQ c++t) 0=c.Key.size:=by rw [g9,eb];exact nL (by omega)
 have b1:bj (iQ c++t) 1=c.Val.size:=by rw [g9,eb];exact nL (by omega)
 have b2:bj (iQ c++t) 2=0:=by rw [g9,eb];rfl
 have hn:p8 (iQ c++t)=(iQ c).size:=by unfold p8;rw [b0,b1,b2,qE];rfl
 have kl:=eE c.Key;have vl:=eE c.Val
 refine ⟨hn,?_,?_⟩
 .
  unfold xa
  rw [hn,b0,qE]
  have e1:(iQ c++t).extract 3 (3+c.Key.size)=c.Key:=gM ((i7 _ _ _).trans (by
   rw [eb]
   simp only [List.take_succ_cons,Nat.add_comm 3 c.Key.size,List.drop_succ_cons,List.drop_zero]
   rw [List.append_assoc,<- kl,List.take_left]))
  have e2:(iQ c++t).extract (3+c.Key.size) (3+c.Key.size+c.Val.size)=c.Val:=gM ((i7 _ _ _).trans (by
   rw [eb,show 3+c.Key.size+c.Val.size=(c.Key.size+c.Val.size)+3 by omega,show 3+c.Key.size=c.Key.size+3 by omega]
   simp only [List.take_succ_cons,List.drop_succ_cons,List.drop_zero]
   rw [List.take_append_of_le_length (by rw [List.length_append];omega),List.take_of_length_le (by rw [List.length_append];omega),<- kl,List.drop_left]))
  rw [e1,e2]
  obtain ⟨a,b,g⟩:=c
  simp only at hg;rw [hg]
 .
  refine gM ((i7 _ _ _).trans ?_)
  rw [<- eE (iQ c++t),List.take_length,iM,<- eE (iQ c),List.drop_left]
theorem FG {l:List Change}{c:Change}(h:dr (l++[c]))(hg:c.Gone=false):cb l [c]=l++[c]:=by
 have h1:=(List.pairwise_append.1 h).2.2
 have e:=CU (A:=l) (B:=[]) (c:=c) (fun y hy=>h1 y hy c (List.mem_singleton.2 rfl)) (fun y hy=>by cases hy)
 show zp l c=_
 rw [List.append_nil] at e
 rw [e];unfold mid;rw [if_neg (by rw [hg];decide)];simp
theorem Ej:∀ (l:List Change) (k:Nat) (acc:List Change),dr (acc++l)->(∀c∈l,iL c=0/\c.Gone=false)->(aJ l).size<k->pd k (aJ l) acc=(acc++l,true)
 | [],k,acc,_,_,hk=>by
  cases k with
  | zero=>omega
  | succ k=>rw [pd,if_pos (show aJ []=⟨#[]⟩ from rfl),List.append_nil]
 | c::l,k,acc,hr,hc,hk=>by
  obtain ⟨h1,h2⟩:=hc c (List.mem_cons_self ..)
  have hz:=qE c
  rw [IJ] at hk ⊢
  obtain ⟨p1,p2,p3⟩:=Nm h1 h2 (aJ l)
  have hsz:(iQ c++aJ l).size=(iQ c).size+(aJ l).size:=ByteArray.size_append
  cases k with
  | zero=>omega
  | succ k =>
   have hne:¬ iQ c++aJ l=⟨#[]⟩:=fun h=>by
    have:=congrArg ByteArray.size h
    rw [hsz,hz] at this
    have h0:(⟨#[]⟩:ByteArray).size=0:=rfl
    omega
   rw [pd,if_neg hne,if_neg (by rw [p1];omega),p2,if_pos h1,p1,p3]
   rw [show acc++c::l=(acc++[c])++l by simp] at hr ⊢
   rw [FG (List.pairwise_append.1 hr).1 h2]
   exact Ej l k (acc++[c]) hr (fun x hx=>hc x (List.mem_cons_of_mem _ hx)) (by omega)
theorem IK {l:List Change}(h:m7 l):eX (aJ l)=(l,true):=by
 have:=Ej l ((aJ l).size+1) [] h.rise (fun c hc=>⟨h.ok c hc,h.live c hc⟩) (by omega)
 simpa [eX] using this
theorem m7.size {l:List Change}(h:m7 l):(aJ l).size<=2100:=by
 have:=vC h.ok;have:=h.len;omega
theorem Ek:∀ (c:List Change) {rows:List Change},dr rows->(∀x∈rows,iL x=0/\x.Gone=false)->(∀x∈c,iL x=0) -> ∀x∈cb rows c,iL x=0/\x.Gone=false
 | [],rows,_,h,_=>h
 | x::c,rows,hr,h,hc=>by
  show ∀y∈cb (zp rows x) c,_
  refine Ek c (wP hr x) (fun y hy=>?_) (fun y hy=>hc y (List.mem_cons_of_mem _ hy))
  rcases (Gf hr).1 hy with ⟨h1,_⟩ | ⟨h1,rfl⟩
  .exact h y h1
  .exact ⟨hc y (List.mem_cons_self ..),h1⟩
theorem m7.apply {rows c:List Change}(h:m7 rows)(hc:jF c=0)(hl:(cb rows c).length<=60):m7 (cb rows c):=by
 have ha:=Ek c h.rise (fun x hx=>⟨h.ok x hx,h.live x hx⟩) (qD hc)
 exact ⟨rP c h.rise,fun x hx=>(ha x hx).1,fun x hx=>(ha x hx).2,hl⟩
theorem m7.nil:m7 []:=⟨List.Pairwise.nil,fun c hc=>by (cases hc),fun c hc=>by (cases hc),by simp⟩
def uq (l:List ByteArray)(p:Nat)(t:ByteArray):Prop:= ∀k:Nat,k*48<t.size->l[p+k]? = some (full (t.extract (k*48) (k*48+min 48 (t.size-k*48))))
theorem GV {d:cw}{p:Nat}{t:ByteArray}(hd:d.Down=false)(hn:∀s∈d.Now,s.size=48)(hl:p+50<=d.Now.length)(h:uq d.Now p t):∀k:Nat,k<=50->(bl (vg d (p:Int) k)).length=48*k/\(bl (vg d (p:Int) k)).take t.size=(bl t).take (48*k)
 | 0,_=>by
  unfold vg
  refine ⟨rfl,?_⟩
  rw [show bl ⟨#[]⟩=[] from rfl];simp
 | k+1,hk=>by
  obtain ⟨h1,h2⟩:=GV hd hn hl h k (by omega)
  obtain ⟨x,hx⟩:∃x,d.Now[p+k]? = some x:=⟨_,List.getElem?_eq_getElem (by omega)⟩
  have hr:cj d ((p:Int)+(k:Int))=(x,0):=pP hd (by omega) (by rw [show ((p:Int)+(k:Int)).toNat=p+k by omega];exact hx)
  have hxs:=hn x (List.mem_of_getElem? hx)
  have hxl:(bl x).length=48:=by rw [eE];exact hxs
  have htl:=eE t
  unfold vg
  rw [hr,iM]
  refine ⟨by rw [List.length_append,h1,hxl];omega,?_⟩
  by_cases hkt:k*48<t.size
  .
   have hxe:=h k hkt
   rw [hx] at hxe
   injection hxe with hxe
   have hbx:bl x=((bl t).take (k*48+min 48 (t.size-k*48))).drop (k*48)++List.replicate (48-(t.extract (k*48) (k*48+min 48 (t.size-k*48))).size) 0:=by
    rw [hxe,Bb,i7]
   have hA:bl (vg d (p:Int) k)=(bl t).take (48*k):=by
    have:(bl (vg d (p:Int) k)).take t.size=bl (vg d (p:Int) k):=List.take_of_length_le (by rw [h1];omega)
    rw [<- this];exact h2
   rw [hA,hbx]
   by_cases hm:48<=t.size-k*48
   .
    rw [show min 48 (t.size-k*48)=48 by omega]
    have hes:(t.extract (k*48) (k*48+48)).size=48:=by rw [ByteArray.size_extract];omega
    rw [hes,Nat.sub_self,List.replicate_zero,List.append_nil]
    have e1:(bl t).take (48*k)++((bl t).take (k*48+48)).drop (k*48)=(bl t).take (48*(k+1)):=by
     rw [show 48*(k+1)=48*k+48 by omega,show k*48=48*k by omega,<- List.take_drop,<- List.take_add]
    rw [e1,List.take_of_length_le (by rw [List.length_take];omega)]
   .
    rw [show k*48+min 48 (t.size-k*48)=t.size by omega,show (bl t).take t.size=bl t from List.take_of_length_le (by omega)]
    have e1:(bl t).take (48*k)++((bl t).drop (k*48)++List.replicate (48-(t.extract (k*48) t.size).size) 0)=bl t++List.replicate (48-(t.extract (k*48) t.size).size) 0:=by
     rw [<- List.append_assoc,show k*48=48*k by omega,List.take_append_drop]
    rw [e1,List.take_append_of_le_length (by omega),List.take_of_length_le (by omega),List.take_of_length_le (by omega)]
  .rw [List.take_append_of_le_length (by rw [h1];omega),h2,List.take_of_length_le (by omega),List.take_of_length_le (by omega)]
theorem IL {d:cw}{p:Nat}{t:ByteArray}(hd:d.Down=false)(hn:∀s∈d.Now,s.size=48)(hl:p+50<=d.Now.length)(ht:t.size<=2400)(h:uq d.Now p t):(vg d (p:Int) 50).extract 0 t.size=t:=by
 obtain ⟨h1,h2⟩:=GV hd hn hl h 50 (Nat.le_refl _)
 refine gM ((i7 _ _ _).trans ?_)
 rw [List.drop_zero,h2,List.take_of_length_le (by rw [eE];omega)]
end
section
open Go Go.RowKit
structure SN (n:Nat)(l:List ByteArray)(st:oE)(u t:Nat):Prop where
  len:l.length=n
  nb:166<=n/\n<=200
  eb:1<=st.Epoch/\st.Epoch<=1+(t:Int)
  fb:1<=st.First/\st.First<=1+100*(t:Int)
  sd:st.Side=0∨st.Side=1
  hd:l[(st.Epoch % 2).toNat]? = some (full (aL ⟨st.Epoch,st.Side,st.Size,st.First⟩))
  oh:∀s,l[((st.Epoch+1) % 2).toNat]? = some s->(cm s).Epoch<st.Epoch
  lg:st.L=⟨102,(n:Int)-102,st.First,(u:Int)⟩
  rows:m7 st.Rows
  base:∃b W,m7 b/\st.Size=((aJ b).size:Int)/\uq l (2+(st.Side*50).toNat) (aJ b)/\iE (l.drop 102) st.First W u/\st.Rows=ky b W
def yO (st:oE):cY:=⟨st.Epoch,st.Side,st.Size,st.First⟩
section
variable {n u t:Nat} {l l':List ByteArray} {st:oE} {d e:cw}
theorem SN.hed (h:SN n l st u t)(ht:t<=10000):Lx (yO st):=by
 obtain ⟨b,W,hb,hz,_⟩:=h.base
 have h1:=h.eb;have h2:=h.fb;have h3:=h.sd;have h4:=hb.size
 unfold Lx yO;dsimp only
 refine ⟨?_,?_,?_,?_,?_,?_,?_,?_⟩ <;> omega
theorem SN.up (h:SN n l st u t){t':Nat}(ht:t<=t'):SN n l st u t' :=
 ⟨h.len,h.nb,⟨h.eb.1,by have:=h.eb.2;omega⟩,⟨h.fb.1,by have:=h.fb.2;omega⟩,h.sd,h.hd,h.oh,h.lg,h.rows,h.base⟩
theorem SN.same (h:SN n l st u t)(hl:l'.length=l.length)(hs:∀j:Nat,j<2∨102<=j∨(2+(st.Side*50).toNat<=j/\j<52+(st.Side*50).toNat)->l'[j]? = l[j]?):SN n l' st u t:=by
 obtain ⟨b,W,hb,hz,hh,Nn,hr⟩:=h.base
 have h3:=h.sd;have h4:=hb.size;have h1:=h.eb
 refine ⟨hl.trans h.len,h.nb,h.eb,h.fb,h.sd,by rw [hs _ (.inl (by omega))];exact h.hd,fun s hx=>h.oh s (by rw [<- hs _ (.inl (by omega))];exact hx),h.lg,h.rows,b,W,hb,hz,fun k hk=>?_,?_,hr⟩
 .rw [hs _ (.inr (.inr ⟨by omega,by omega⟩))];exact hh k hk
 .
  have e:l'.drop 102=l.drop 102:=List.ext_getElem? fun j=>by rw [List.getElem?_drop,List.getElem?_drop];exact hs _ (.inr (.inl (by omega)))
  rw [e];exact Nn
theorem SN.flip (h:SN n l st u t)(ht:t<=9999)(hh:uq l (2+((1-st.Side)*50).toNat) (aJ st.Rows))(hl:l'=l.set ((st.Epoch+1) % 2).toNat (full (aL (uF st))))(L:Lg)(hL:L=⟨102,(n:Int)-102,st.First+((n:Int)-102),0⟩) :
 SN n l' ⟨st.Epoch+1,1-st.Side,((aJ st.Rows).size:Int),st.First+((n:Int)-102),L,st.Rows⟩ 0 (t+1):=by
 obtain ⟨b,W,hb,hz,hh0,Nn,hr⟩:=h.base
 have h1:=h.eb;have h2:=h.fb;have h3:=h.sd;have h4:=h.rows.size;have h5:=h.nb;have h6:=h.len;have hM:st.L.Many=(n:Int)-102:=by rw [h.lg]
 have hdl:(l.drop 102).length=n-102:=by rw [List.length_drop];omega
 have hF:st.L.First=st.First:=by rw [h.lg]
 subst hl
 refine ⟨by rw [List.length_set];exact h6,h5,⟨by dsimp only;omega,by dsimp only;omega⟩,⟨by dsimp only;omega,by dsimp only;omega⟩,by dsimp only;omega,?_,fun s hs=>?_,by rw [hL];rfl,h.rows,st.Rows,[],h.rows,rfl,fun k hk=>?_,?_,rfl⟩
 .
  dsimp only
  rw [List.getElem?_set_self (by omega)]
  unfold uF
  rw [hM,hF]
 .
  dsimp only at hs ⊢
  rw [List.getElem?_set_ne (by omega)] at hs
  rw [show (st.Epoch+1+1) % 2=st.Epoch % 2 by omega,h.hd] at hs
  injection hs with hs
  have:=yn (h.hed (by omega))
  unfold yO at this
  rw [<- hs,this];dsimp only;omega
 .
  dsimp only at hk ⊢
  rw [List.getElem?_set_ne (by omega)]
  exact hh k hk
 .
  dsimp only
  have e:(l.set ((st.Epoch+1) % 2).toNat (full (aL (uF st)))).drop 102=l.drop 102:=by rw [List.drop_set_of_lt (by omega)]
  have hx:=Nn.next (by omega) (by rw [hdl];omega)
  rw [hdl] at hx
  rw [e,show st.First+((n:Int)-102)=st.First+((n-102:Nat):Int) by omega]
  exact hx
theorem yo {a b:cY}(h:1<=a.Epoch)(hb:b.Epoch<a.Epoch):nQ (nQ ⟨0,0,0,0⟩ a) b=a/\(0<=b.Epoch->nQ (nQ ⟨0,0,0,0⟩ b) a=a):=by
 unfold nQ
 refine ⟨?_,fun h0=>?_⟩
 .rw [if_pos (show (⟨0,0,0,0⟩:cY).Epoch<a.Epoch by show (0:Int)<_;omega),if_neg (by omega)]
 .
  have:(if (⟨0,0,0,0⟩:cY).Epoch<b.Epoch then b else (⟨0,0,0,0⟩:cY)).Epoch<a.Epoch:=by
   split
   .exact hb
   .show (0:Int)<_;omega
  rw [if_pos this]
theorem yp {m:Nat}(hO:fM n m d)(hd:d.Down=false)(h:SN n d.Now st u t)(ht:t<=10000):kx d=0/\aY d=st:=by
 obtain ⟨b,W,hb,hz,hh,Nn,hr⟩:=h.base
 have h1:=h.eb;have h2:=h.fb;have h3:=h.sd;have h4:=hb.size;have h5:=h.nb;have h6:=h.len
 have hH:=yn (h.hed ht)
 have hrd:∀ (j:Nat) s,d.Now[j]? = some s->(cj d (j:Int)).1=s:=fun j s hs=>by rw [wI hd hs]
 obtain ⟨x0,hx0⟩:∃x,d.Now[0]? = some x:=⟨_,List.getElem?_eq_getElem (by omega)⟩
 obtain ⟨x1,hx1⟩:∃x,d.Now[1]? = some x:=⟨_,List.getElem?_eq_getElem (by omega)⟩
 have r0:(cj d 0).1=x0:=hrd 0 x0 hx0
 have r1:(cj d 1).1=x1:=hrd 1 x1 hx1
 have hhead:headD d=yO st:=by
  unfold headD;rw [r0,r1]
  rcases (by omega:st.Epoch % 2=0∨st.Epoch % 2=1) with he|he
  .
   have a:=h.hd;rw [he,show Int.toNat 0=0 from rfl,hx0] at a;replace a:=Option.some.inj a
   have o:=h.oh x1 (by rw [show (st.Epoch+1) % 2=1 by omega];exact hx1)
   have e0:cm x0=yO st:=by rw [a];exact hH
   rw [e0];generalize cm x1=y at o ⊢;exact (yo (a:=yO st) (b:=y) (by show 1<=st.Epoch;omega) o).1
  .
   have a:=h.hd;rw [he,show Int.toNat 1=1 from rfl,hx1] at a;replace a:=Option.some.inj a
   have o:=h.oh x0 (by rw [show (st.Epoch+1) % 2=0 by omega];exact hx0)
   have e0:cm x1=yO st:=by rw [a];exact hH
   have o2:=(wZ x0).1
   rw [e0];generalize cm x0=y at o o2 ⊢;exact (yo (a:=yO st) (b:=y) (by show 1<=st.Epoch;omega) o).2 o2
 have Ov:rA d=aJ b:=by
  unfold rA;rw [hhead];unfold yO;dsimp only
  rw [hz,Int.toNat_natCast,show (2:Int)+st.Side*50=((2+(st.Side*50).toNat:Nat):Int) by omega]
  exact IL hd hO.ns (by omega) (by omega) hh
 have hp:=IK hb
 have HV:p6 d 102 ((d.Now.length:Int)-102).toNat=d.Now.drop 102:=by
  have:=nT (d:=d) (f:=102) (k:=d.Now.length-102) hd (by omega)
  rw [show ((102:Nat):Int)=102 from rfl] at this
  rw [show ((d.Now.length:Int)-102).toNat=d.Now.length-102 by omega,this,List.take_of_length_le (by rw [List.length_drop];omega)]
 refine ⟨?_,?_⟩
 .
  unfold kx
  rw [if_neg (by omega),hhead,if_neg (by show ¬ st.Epoch=0;omega),Ov,hp,if_pos rfl]
 .
  unfold aY
  rw [hhead,Ov,hp]
  unfold yO fE lE;dsimp only
  rw [HV,Nn.sc,h6]
  dsimp only
  rw [<- hr,<- h.lg]
structure UI (d e:cw)(p:Nat):Prop where
  kept:e.Kept=d.Kept
  wait:∃T,e.Wait=d.Wait++T /\ ∀x∈T,(p:Int)<=x.At/\x.At<(p:Int)+50
theorem GX (z:Int)(p q:Nat):∀ (w:List Turn) (i:Nat) (l:List ByteArray) (j:Nat),(∀x∈w,(p:Int)<=x.At/\x.At<(q:Int))->j<p∨q<=j->((w.zipIdx i).foldl (nI z) l)[j]? = l[j]?
 | [],i,l,j,_,_=>rfl
 | x::w,i,l,j,h,hj=>by
  rw [List.zipIdx_cons,List.foldl_cons,GX z p q w (i+1) _ j (fun y hy=>h y (List.mem_cons_of_mem _ hy)) hj]
  have hx:=h x (List.mem_cons_self ..)
  unfold nI;dsimp only
  split
  .rw [List.getElem?_set_ne (by omega)]
  .rfl
theorem uU {i:Int}{x:ByteArray}(hd:d.Down=false)(hf : -1<=d.Fuse)(h0:0<=i)(h1:i<(d.Now.length:Int))(h2:x.size<=48) :
 (∃g,-1<=g/\(d.Fuse = -1->g = -1)/\au d i x=(⟨d.Kept,d.Now.set i.toNat (full x),d.Wait++[⟨i,full x⟩],g,false⟩,0))∨(¬ d.Fuse = -1/\au d i x=(⟨d.Kept,d.Now,d.Wait,-1,true⟩,10)):=by
 have hl:=fun hq=>CH (d:=d) (i:=i) (x:=x) hd hq
 rcases oF hd hf h0 h1 h2 with ⟨g,hg,h⟩ | h
 .left;exact ⟨g,hg,fun hq=>by have:=(hl hq).2;rw [h] at this;exact this,h⟩
 .right;exact ⟨(fun hq=>by have h9:=(hl hq).1;rw [h] at h9;exact absurd (show true=false from h9) (by decide)),h⟩
theorem uV (hd:d.Down=false)(hf : -1<=d.Fuse):(∃g,-1<=g/\(d.Fuse = -1->g = -1)/\ai d=(⟨d.Now,d.Now,[],g,false⟩,0))∨(¬ d.Fuse = -1/\ai d=(⟨d.Kept,d.Now,d.Wait,-1,true⟩,10)):=by
 have hl:=fun hq=>lB (d:=d) hd hq
 rcases rT hd hf with ⟨g,hg,h⟩ | h
 .left;exact ⟨g,hg,fun hq=>by have:=hl hq;rw [h] at this;exact congrArg (fun q:cw×Int=>q.1.Fuse) this,h⟩
 .right;exact ⟨(fun hq=>by have h9:=hl hq;rw [h] at h9;exact absurd (congrArg (fun q:cw×Int=>q.2) h9) (by show ¬ (10:Int)=0;decide)),h⟩
theorem Ad {f:Nat}{x:ByteArray}(hx:x.size<=2400):∀ (k i:Nat) (d:cw),d.Down=false -> -1<=d.Fuse->f+50<=d.Now.length->x.size<48*(i+k) ->
 (∃g N T,-1<=g/\(d.Fuse = -1->g = -1)/\iN (f:Int) x k i d=(⟨d.Kept,N,d.Wait++T,g,false⟩,0)/\(∀y∈T,(f:Int)<=y.At/\y.At<(f:Int)+50)/\N.length=d.Now.length/\(∀j:Nat,j<f+i∨f+50<=j->N[j]? = d.Now[j]?) /\
  ∀j:Nat,i<=j->j*48<x.size->N[f+j]? = some (full (x.extract (j*48) (j*48+min 48 (x.size-j*48))))) ∨
 (∃e,¬ d.Fuse = -1/\iN (f:Int) x k i d=(e,10)/\UI d e f)
 | 0,i,d,hd,hf,hl,hk=>by
  left
  refine ⟨d.Fuse,d.Now,[],hf,id,?_,(fun y hy=>by cases hy),rfl,fun _ _=>rfl,fun j h1 h2=>by omega⟩
  rw [iN,List.append_nil];obtain ⟨a,b,c,g,q⟩:=d;simp only at hd;rw [hd]
 | k+1,i,d,hd,hf,hl,hk=>by
  rw [iN]
  by_cases hi:i*48<x.size
  .
   rw [if_pos hi]
   generalize hc:x.extract (i*48) (i*48+min 48 (x.size-i*48))=c
   have hcs:c.size<=48:=by rw [<- hc,ByteArray.size_extract];omega
   rcases uU (d:=d) (i:=(f:Int)+(i:Int)) (x:=c) hd hf (by omega) (by omega) hcs with ⟨g,hg,hgf,hw⟩ | ⟨hgf,hw⟩
   .
    rw [hw,if_pos rfl]
    have ei:((f:Int)+(i:Int)).toNat=f+i:=by omega
    rw [ei]
    dsimp only
    rcases Ad (f:=f) hx k (i+1) ⟨d.Kept,d.Now.set (f+i) (full c),d.Wait++[⟨(f:Int)+(i:Int),full c⟩],g,false⟩ rfl hg (by dsimp only;rw [List.length_set];exact hl) (by omega) with ⟨g',N,T,q1,q0,q2,q3,q4,q5,q6⟩ | ⟨e,q0,q1,q2,T,q3,q4⟩
    .
     left
     dsimp only at q2 q4 q5
     rw [List.length_set] at q4
     refine ⟨g',N,[⟨(f:Int)+(i:Int),full c⟩]++T,q1,fun hq=>q0 (hgf hq),by rw [q2,List.append_assoc],fun y hy=>?_,q4,fun j hj=>?_,fun j h1 h2=>?_⟩
     .
      rcases List.mem_append.1 hy with hy|hy
      .rw [List.mem_singleton.1 hy];dsimp only;omega
      .exact q3 y hy
     .rw [q5 j (by omega),List.getElem?_set_ne (by omega)]
     .
      by_cases hji:j=i
      .
       subst hji
       rw [q5 (f+j) (by omega),List.getElem?_set_self (by omega),hc]
      .exact q6 j (by omega) h2
    .
     right
     dsimp only at q2 q3
     refine ⟨e,fun hq=>q0 (hgf hq),q1,q2,[⟨(f:Int)+(i:Int),full c⟩]++T,by rw [q3,List.append_assoc],fun y hy=>?_⟩
     rcases List.mem_append.1 hy with hy|hy
     .rw [List.mem_singleton.1 hy];dsimp only;omega
     .exact q4 y hy
   .
    right
    rw [hw,if_neg j1]
    exact ⟨_,hgf,rfl,rfl,[],by simp,fun y hy=>by cases hy⟩
  .
   rw [if_neg hi]
   left
   refine ⟨d.Fuse,d.Now,[],hf,id,?_,(fun y hy=>by cases hy),rfl,fun _ _=>rfl,fun j h1 h2=>by omega⟩
   rw [List.append_nil];obtain ⟨a,b,c,g,q⟩:=d;simp only at hd;rw [hd]
structure SV (n:Nat)(d:cw)(st:oE)(u t:Nat):Prop where
  rest:Rest n d
  sn:SN n d.Now st u t
theorem mE {m:Nat}(h:fM n m e)(z:Int):Rest n (a8 e z):=⟨h.restart z,rfl,by show (-1:Int) <= -1;decide,rfl,rfl⟩
theorem SV.fell (h:SV n d st u t)(hO:fM n 3000 e)(hk:e.Kept=d.Now)(p:Nat)(hp:p=2+((1-st.Side)*50).toNat)(hw:∀x∈e.Wait,(p:Int)<=x.At/\x.At<(p:Int)+50)(z:Int):SV n (a8 e z) st u t:=by
 refine ⟨mE hO z,?_⟩
 have h3:=h.sn.sd
 refine h.sn.same (by show (lA z e.Wait e.Kept).length=_;rw [wH,hk]) fun j hj=>?_
 show (lA z e.Wait e.Kept)[j]? = _
 rw [<- hk]
 exact GX z p (p+50) e.Wait 0 e.Kept j (fun x hx=>⟨(hw x hx).1,by have:=(hw x hx).2;omega⟩) (by omega)
end
end
end Go.Proofs.YtkbhcbipadkcaaaGreatDoor
