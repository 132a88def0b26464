import Derived.Test.YtpipachmngdegaaTCP29
import Derived.Test.YtpipachmngdegaaTCP41
section
namespace Go.Proofs.Ytpipachmngdegaa
open Go Go.RowKit
set_option linter.unusedVariables false
theorem wG (s:ByteArray):bP s=(((bl s)[0]?).getD 0).toNat+(((bl s)[1]?).getD 0).toNat*256+(((bl s)[2]?).getD 0).toNat*65536+(((bl s)[3]?).getD 0).toNat*16777216:=by
  unfold bP;simp only [dE]
theorem kh {n:Int}(h0:0≤n)(h1:n<4294967296):((bP (aM n):Nat):Int)=n:=by
  rw [wG,i9]
  have e0:=gx (n:=n % 256) (by omega)
  have e1:=gx (n:=n / 256 % 256) (by omega)
  have e2:=gx (n:=n / 65536 % 256) (by omega)
  have e3:=gx (n:=n / 16777216 % 256) (by omega)
  simp only [List.getElem?_cons_zero,List.getElem?_cons_succ,Option.getD_some]
  omega
theorem jO (h:bq):(aC h).size=17:=by
  unfold aC;simp only [ByteArray.size_append,az];rfl
theorem tY (h:bq):bl (aC h)=[72]++bl (aM h.Epoch)++bl (aM h.Side)++bl (aM h.Size)++bl (aM h.First):=by
  unfold aC;simp only [iC];first|done|rfl
theorem head_piece (h:bq):(full (aC h)).extract 1 5=aM h.Epoch∧(full (aC h)).extract 5 9=aM h.Side∧(full (aC h)).extract 9 13=aM h.Size∧(full (aC h)).extract 13 17=aM h.First∧aV (full (aC h)) 0=72:=by
  have e:bl (full (aC h))=[72]++bl (aM h.Epoch)++bl (aM h.Side)++bl (aM h.Size)++bl (aM h.First)++List.replicate 31 0:=by rw [oa,tY,jO]
  simp only [i9] at e
  refine ⟨?_,?_,?_,?_,?_⟩
  · exact dN ((fh _ 1 5).trans (by rw [e];rfl))
  · exact dN ((fh _ 5 9).trans (by rw [e];rfl))
  · exact dN ((fh _ 9 13).trans (by rw [e];rfl))
  · exact dN ((fh _ 13 17).trans (by rw [e];rfl))
  · rw [dE,e];rfl
def tZ (h:bq):Prop:=0≤h.Epoch∧h.Epoch<4294967296∧0≤h.Side∧h.Side≤1∧0≤h.Size∧h.Size≤2400∧1≤h.First∧h.First<4294967296
theorem mj {h:bq}(k:tZ h):bh (full (aC h))=h:=by
  obtain ⟨k1,k2,k3,k4,k5,k6,k7,k8⟩:=k
  obtain ⟨p1,p2,p3,p4,p5⟩:=head_piece h
  have e1:=kh k1 k2;have e2:=kh k3 (by omega:h.Side<4294967296);have e3:=kh k5 (by omega:h.Size<4294967296);have e4:=kh (by omega:0≤h.First) k8
  rw [bI (by unfold bE;rw [p5,p2,p3,p4];omega)]
  unfold qZ
  rw [p1,p2,p3,p4,e1,e2,e3,e4]
theorem sh:bh (kt 48)=⟨0,0,0,0⟩:=bA (.inl (by rw [oW];decide))
structure gT (l:List Change):Prop where
  rise:fD l
  ok:∀c∈l,ea c=0
  live:∀c∈l,c.Gone=false
  len:l.length≤60
theorem jP (c:Change)(l:List Change)(b:ByteArray):(c::l).foldl (fun b c=>b++dI c) b=l.foldl (fun b c=>b++dI c) (b++dI c):=rfl
theorem kB:∀ (l:List Change) (b:ByteArray),l.foldl (fun b c=>b++dI c) b=b++aB l
  | [],b=>dN (by unfold aB;simp)
  | c::l,b=>by
    have h1:=kB l (b++dI c)
    have h2:=kB l (⟨#[]⟩++dI c)
    rw [jP,h1]
    unfold aB at h2 ⊢
    rw [jP,h2]
    exact dN (by simp)
theorem si (c:Change)(l:List Change):aB (c::l)=dI c++aB l:=by
  have:=kB l (⟨#[]⟩++dI c)
  unfold aB at this ⊢
  rw [jP,this]
  exact dN (by simp)
theorem vd {c:Change}(h:ea c=0):bl (dI c)=UInt8.ofNat c.Key.size::UInt8.ofNat c.Val.size::0::(bl c.Key++bl c.Val):=by
  obtain ⟨_,_,h3,h4⟩:=dx h
  unfold dI;rw [iC,iC,show c.Val.size / 256=0 by omega];rfl
theorem ve {c:Change}(h:ea c=0)(hg:c.Gone=false)(t:ByteArray):jf (dI c++t)=(dI c).size∧l4 (dI c++t)=c∧(dI c++t).extract (dI c).size (dI c++t).size=t:=by
  obtain ⟨_,_,h3,h4⟩:=dx h
  have eb:bl (dI c++t)=UInt8.ofNat c.Key.size::UInt8.ofNat c.Val.size::0::(bl c.Key++bl c.Val++bl t):=by rw [iC,vd h];simp
  have b0:aV (dI c++t) 0=c.Key.size:=by rw [dE,eb];exact i7 (by omega)
  have b1:aV (dI c++t) 1=c.Val.size:=by rw [dE,eb];exact i7 (by omega)
  have b2:aV (dI c++t) 2=0:=by rw [dE,eb];rfl
  have hn:jf (dI c++t)=(dI c).size:=by unfold jf;rw [b0,b1,b2,jr];rfl
  have kl:=eA c.Key;have vl:=eA c.Val
  refine ⟨hn,?_,?_⟩
  ·
    unfold l4
    rw [hn,b0,jr]
    have e1:(dI c++t).extract 3 (3+c.Key.size)=c.Key:=dN ((fh _ _ _).trans (by
      rw [eb]
      simp only [List.take_succ_cons,Nat.add_comm 3 c.Key.size,List.drop_succ_cons,List.drop_zero]
      rw [List.append_assoc,← kl,List.take_left]))
    have e2:(dI c++t).extract (3+c.Key.size) (3+c.Key.size+c.Val.size)=c.Val:=dN ((fh _ _ _).trans (by
      rw [eb,show 3+c.Key.size+c.Val.size=(c.Key.size+c.Val.size)+3 by omega,show 3+c.Key.size=c.Key.size+3 by omega]
      simp only [List.take_succ_cons,List.drop_succ_cons,List.drop_zero]
      rw [List.take_append_of_le_length (by rw [List.length_append];omega),List.take_of_length_le (by rw [List.length_append];omega),← kl,List.drop_left]))
    rw [e1,e2]
    obtain ⟨a,b,g⟩:=c
    simp only at hg;rw [hg]
  ·
    refine dN ((fh _ _ _).trans ?_)
    rw [← eA (dI c++t),List.take_length,iC,← eA (dI c),List.drop_left]
theorem p9 {l:List Change}{c:Change}(h:fD (l++[c]))(hg:c.Gone=false):a7 l [c]=l++[c]:=by
  have h1:=(List.pairwise_append.1 h).2.2
  have e:=lQ (A:=l) (B:=[]) (c:=c) (fun y hy=>h1 y hy c (List.mem_singleton.2 rfl)) (fun y hy=>by cases hy)
  show mF l c=_
  rw [List.append_nil] at e
  rw [e];unfold mid;rw [if_neg (by rw [hg];decide)];simp
theorem px:∀ (l:List Change) (k:Nat) (acc:List Change),fD (acc++l)→(∀c∈l,ea c=0∧c.Gone=false)→(aB l).size<k→iO k (aB l) acc=(acc++l,true)
  | [],k,acc,_,_,hk=>by
    cases k with
    | zero=>omega
    | succ k=>rw [iO,if_pos (show aB []=⟨#[]⟩ from rfl),List.append_nil]
  | c::l,k,acc,hr,hc,hk=>by
    obtain ⟨h1,h2⟩:=hc c (List.mem_cons_self ..)
    have hz:=jr c
    rw [si] at hk ⊢
    obtain ⟨p1,p2,p3⟩:=ve h1 h2 (aB l)
    have hsz:(dI c++aB l).size=(dI c).size+(aB l).size:=ByteArray.size_append
    cases k with
    | zero=>omega
    | succ k =>
      have hne:¬ dI c++aB l=⟨#[]⟩:=fun h=>by
        have:=congrArg ByteArray.size h
        rw [hsz,hz] at this
        have h0:(⟨#[]⟩:ByteArray).size=0:=rfl
        omega
      rw [iO,if_neg hne,if_neg (by rw [p1];omega),p2,if_pos h1,p1,p3]
      rw [show acc++c::l=(acc++[c])++l by simp] at hr ⊢
      rw [p9 (List.pairwise_append.1 hr).1 h2]
      exact px l k (acc++[c]) hr (fun x hx=>hc x (List.mem_cons_of_mem _ hx)) (by omega)
theorem sj {l:List Change}(h:gT l):cp (aB l)=(l,true):=by
  have:=px l ((aB l).size+1) [] h.rise (fun c hc=>⟨h.ok c hc,h.live c hc⟩) (by omega)
  simpa [cp] using this
theorem gT.size {l:List Change}(h:gT l):(aB l).size≤2100:=by
  have:=k9 h.ok;have:=h.len;omega
theorem py:∀ (c:List Change) {rows:List Change},fD rows→(∀x∈rows,ea x=0∧x.Gone=false)→(∀x∈c,ea x=0) → ∀x∈a7 rows c,ea x=0∧x.Gone=false
  | [],rows,_,h,_=>h
  | x::c,rows,hr,h,hc=>by
    show ∀y∈a7 (mF rows x) c,_
    refine py c (lR hr x) (fun y hy=>?_) (fun y hy=>hc y (List.mem_cons_of_mem _ hy))
    rcases (uJ hr).1 hy with ⟨h1,_⟩ | ⟨h1,rfl⟩
    · exact h y h1
    · exact ⟨hc y (List.mem_cons_self ..),h1⟩
theorem gT.apply {rows c:List Change}(h:gT rows)(hc:dR c=0)(hl:(a7 rows c).length≤60):gT (a7 rows c):=by
  have ha:=py c h.rise (fun x hx=>⟨h.ok x hx,h.live x hx⟩) (jq hc)
  exact ⟨lS c h.rise,fun x hx=>(ha x hx).1,fun x hx=>(ha x hx).2,hl⟩
theorem gT.nil:gT []:=⟨List.Pairwise.nil,fun c hc=>by (cases hc),fun c hc=>by (cases hc),by simp⟩
def kC (l:List ByteArray)(p:Nat)(t:ByteArray):Prop:= ∀k:Nat,k*48<t.size→l[p+k]? = some (full (t.extract (k*48) (k*48+min 48 (t.size-k*48))))
theorem ri {d:bp}{p:Nat}{t:ByteArray}(hd:d.Down=false)(hn:∀s∈d.Now,s.size=48)(hl:p+50≤d.Now.length)(h:kC d.Now p t):∀k:Nat,k≤50→(bl (kX d (p:Int) k)).length=48*k∧(bl (kX d (p:Int) k)).take t.size=(bl t).take (48*k)
  | 0,_=>by
    unfold kX
    refine ⟨rfl,?_⟩
    rw [show bl ⟨#[]⟩=[] from rfl];simp
  | k+1,hk=>by
    obtain ⟨h1,h2⟩:=ri hd hn hl h k (by omega)
    obtain ⟨x,hx⟩:∃x,d.Now[p+k]? = some x:=⟨_,List.getElem?_eq_getElem (by omega)⟩
    have hr:a6 d ((p:Int)+(k:Int))=(x,0):=dL hd (by omega) (by rw [show ((p:Int)+(k:Int)).toNat=p+k by omega];exact hx)
    have hxs:=hn x (List.mem_of_getElem? hx)
    have hxl:(bl x).length=48:=by rw [eA];exact hxs
    have htl:=eA t
    unfold kX
    rw [hr,iC]
    refine ⟨by rw [List.length_append,h1,hxl];omega,?_⟩
    by_cases hkt:k*48<t.size
    ·
      have hxe:=h k hkt
      rw [hx] at hxe
      injection hxe with hxe
      have hbx:bl x=((bl t).take (k*48+min 48 (t.size-k*48))).drop (k*48)++List.replicate (48-(t.extract (k*48) (k*48+min 48 (t.size-k*48))).size) 0:=by
        rw [hxe,oa,fh]
      have hA:bl (kX d (p:Int) k)=(bl t).take (48*k):=by
        have:(bl (kX d (p:Int) k)).take t.size=bl (kX d (p:Int) k):=List.take_of_length_le (by rw [h1];omega)
        rw [← this];exact h2
      rw [hA,hbx]
      by_cases hm:48≤t.size-k*48
      ·
        rw [show min 48 (t.size-k*48)=48 by omega]
        have hes:(t.extract (k*48) (k*48+48)).size=48:=by rw [ByteArray.size_extract];omega
        rw [hes,Nat.sub_self,List.replicate_zero,List.append_nil]
        have e1:(bl t).take (48*k)++((bl t).take (k*48+48)).drop (k*48)=(bl t).take (48*(k+1)):=by
          rw [show 48*(k+1)=48*k+48 by omega,show k*48=48*k by omega,← List.take_drop,← List.take_add]
        rw [e1,List.take_of_length_le (by rw [List.length_take];omega)]
      ·
        rw [show k*48+min 48 (t.size-k*48)=t.size by omega,show (bl t).take t.size=bl t from List.take_of_length_le (by omega)]
        have e1:(bl t).take (48*k)++((bl t).drop (k*48)++List.replicate (48-(t.extract (k*48) t.size).size) 0)=bl t++List.replicate (48-(t.extract (k*48) t.size).size) 0:=by
          rw [← List.append_assoc,show k*48=48*k by omega,List.take_append_drop]
        rw [e1,List.take_append_of_le_length (by omega),List.take_of_length_le (by omega),List.take_of_length_le (by omega)]
    · rw [List.take_append_of_le_length (by rw [h1];omega),h2,List.take_of_length_le (by omega),List.take_of_length_le (by omega)]
theorem sk {d:bp}{p:Nat}{t:ByteArray}(hd:d.Down=false)(hn:∀s∈d.Now,s.size=48)(hl:p+50≤d.Now.length)(ht:t.size≤2400)(h:kC d.Now p t):(kX d (p:Int) 50).extract 0 t.size=t:=by
  obtain ⟨h1,h2⟩:=ri hd hn hl h 50 (Nat.le_refl _)
  refine dN ((fh _ _ _).trans ?_)
  rw [List.drop_zero,h2,List.take_of_length_le (by rw [eA];omega)]
end Go.Proofs.Ytpipachmngdegaa
end
