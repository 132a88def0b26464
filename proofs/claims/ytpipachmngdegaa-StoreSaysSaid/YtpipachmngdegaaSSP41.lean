import Derived.Test.YtpipachmngdegaaSSP28
import Derived.Test.YtpipachmngdegaaSSP40
section
namespace Go.Proofs.Ytpipachmngdegaa
open Go Go.RowKit
set_option linter.unusedVariables false
theorem wW (s:ByteArray):bR s=(((bl s)[0]?).getD 0).toNat+(((bl s)[1]?).getD 0).toNat*256+(((bl s)[2]?).getD 0).toNat*65536+(((bl s)[3]?).getD 0).toNat*16777216:=by
  unfold bR;simp only [dP]
theorem kA {n:Int}(h0:0≤n)(h1:n<4294967296):((bR (aN n):Nat):Int)=n:=by
  rw [wW,jh]
  have e0:=gH (n:=n % 256) (by omega)
  have e1:=gH (n:=n / 256 % 256) (by omega)
  have e2:=gH (n:=n / 65536 % 256) (by omega)
  have e3:=gH (n:=n / 16777216 % 256) (by omega)
  simp only [List.getElem?_cons_zero,List.getElem?_cons_succ,Option.getD_some]
  omega
theorem j1 (h:br):(aA h).size=17:=by
  unfold aA;simp only [ByteArray.size_append,au];rfl
theorem uj (h:br):bl (aA h)=[72]++bl (aN h.Epoch)++bl (aN h.Side)++bl (aN h.Size)++bl (aN h.First):=by
  unfold aA;simp only [iJ];first|done|rfl
theorem head_piece (h:br):(full (aA h)).extract 1 5=aN h.Epoch∧(full (aA h)).extract 5 9=aN h.Side∧(full (aA h)).extract 9 13=aN h.Size∧(full (aA h)).extract 13 17=aN h.First∧aW (full (aA h)) 0=72:=by
  have e:bl (full (aA h))=[72]++bl (aN h.Epoch)++bl (aN h.Side)++bl (aN h.Size)++bl (aN h.First)++List.replicate 31 0:=by rw [ou,uj,j1]
  simp only [jh] at e
  refine ⟨?_,?_,?_,?_,?_⟩
  · exact ec ((fF _ 1 5).trans (by rw [e];rfl))
  · exact ec ((fF _ 5 9).trans (by rw [e];rfl))
  · exact ec ((fF _ 9 13).trans (by rw [e];rfl))
  · exact ec ((fF _ 13 17).trans (by rw [e];rfl))
  · rw [dP,e];rfl
def uk (h:br):Prop:=0≤h.Epoch∧h.Epoch<4294967296∧0≤h.Side∧h.Side≤1∧0≤h.Size∧h.Size≤2400∧1≤h.First∧h.First<4294967296
theorem mI {h:br}(k:uk h):aT (full (aA h))=h:=by
  obtain ⟨k1,k2,k3,k4,k5,k6,k7,k8⟩:=k
  obtain ⟨p1,p2,p3,p4,p5⟩:=head_piece h
  have e1:=kA k1 k2;have e2:=kA k3 (by omega:h.Side<4294967296);have e3:=kA k5 (by omega:h.Size<4294967296);have e4:=kA (by omega:0≤h.First) k8
  rw [bJ (by unfold bD;rw [p5,p2,p3,p4];omega)]
  unfold rq
  rw [p1,p2,p3,p4,e1,e2,e3,e4]
theorem nQ:aT (jK 48)=⟨0,0,0,0⟩:=bB (.inl (by rw [o8];decide))
structure hX (l:List Change):Prop where
  rise:fS l
  ok:∀c∈l,dH c=0
  live:∀c∈l,c.Gone=false
  len:l.length≤60
theorem j2 (c:Change)(l:List Change)(b:ByteArray):(c::l).foldl (fun b c=>b++dW c) b=l.foldl (fun b c=>b++dW c) (b++dW c):=rfl
theorem kO:∀ (l:List Change) (b:ByteArray),l.foldl (fun b c=>b++dW c) b=b++az l
  | [],b=>ec (by unfold az;simp)
  | c::l,b=>by
    have h1:=kO l (b++dW c)
    have h2:=kO l (⟨#[]⟩++dW c)
    rw [j2,h1]
    unfold az at h2 ⊢
    rw [j2,h2]
    exact ec (by simp)
theorem sA (c:Change)(l:List Change):az (c::l)=dW c++az l:=by
  have:=kO l (⟨#[]⟩++dW c)
  unfold az at this ⊢
  rw [j2,this]
  exact ec (by simp)
theorem vt {c:Change}(h:dH c=0):bl (dW c)=UInt8.ofNat c.Key.size::UInt8.ofNat c.Val.size::0::(bl c.Key++bl c.Val):=by
  obtain ⟨_,_,h3,h4⟩:=dB h
  unfold dW;rw [iJ,iJ,show c.Val.size / 256=0 by omega];rfl
theorem vu {c:Change}(h:dH c=0)(hg:c.Gone=false)(t:ByteArray):jq (dW c++t)=(dW c).size∧mh (dW c++t)=c∧(dW c++t).extract (dW c).size (dW c++t).size=t:=by
  obtain ⟨_,_,h3,h4⟩:=dB h
  have eb:bl (dW c++t)=UInt8.ofNat c.Key.size::UInt8.ofNat c.Val.size::0::(bl c.Key++bl c.Val++bl t):=by rw [iJ,vt h];simp
  have b0:aW (dW c++t) 0=c.Key.size:=by rw [dP,eb];exact jg (by omega)
  have b1:aW (dW c++t) 1=c.Val.size:=by rw [dP,eb];exact jg (by omega)
  have b2:aW (dW c++t) 2=0:=by rw [dP,eb];rfl
  have hn:jq (dW c++t)=(dW c).size:=by unfold jq;rw [b0,b1,b2,jD];rfl
  have kl:=eO c.Key;have vl:=eO c.Val
  refine ⟨hn,?_,?_⟩
  ·
    unfold mh
    rw [hn,b0,jD]
    have e1:(dW c++t).extract 3 (3+c.Key.size)=c.Key:=ec ((fF _ _ _).trans (by
      rw [eb]
      simp only [List.take_succ_cons,Nat.add_comm 3 c.Key.size,List.drop_succ_cons,List.drop_zero]
      rw [List.append_assoc,← kl,List.take_left]))
    have e2:(dW c++t).extract (3+c.Key.size) (3+c.Key.size+c.Val.size)=c.Val:=ec ((fF _ _ _).trans (by
      rw [eb,show 3+c.Key.size+c.Val.size=(c.Key.size+c.Val.size)+3 by omega,show 3+c.Key.size=c.Key.size+3 by omega]
      simp only [List.take_succ_cons,List.drop_succ_cons,List.drop_zero]
      rw [List.take_append_of_le_length (by rw [List.length_append];omega),List.take_of_length_le (by rw [List.length_append];omega),← kl,List.drop_left]))
    rw [e1,e2]
    obtain ⟨a,b,g⟩:=c
    simp only at hg;rw [hg]
  ·
    refine ec ((fF _ _ _).trans ?_)
    rw [← eO (dW c++t),List.take_length,iJ,← eO (dW c),List.drop_left]
theorem ql {l:List Change}{c:Change}(h:fS (l++[c]))(hg:c.Gone=false):a8 l [c]=l++[c]:=by
  have h1:=(List.pairwise_append.1 h).2.2
  have e:=l5 (A:=l) (B:=[]) (c:=c) (fun y hy=>h1 y hy c (List.mem_singleton.2 rfl)) (fun y hy=>by cases hy)
  show mS l c=_
  rw [List.append_nil] at e
  rw [e];unfold mid;rw [if_neg (by rw [hg];decide)];simp
theorem pC:∀ (l:List Change) (k:Nat) (acc:List Change),fS (acc++l)→(∀c∈l,dH c=0∧c.Gone=false)→(az l).size<k→iZ k (az l) acc=(acc++l,true)
  | [],k,acc,_,_,hk=>by
    cases k with
    | zero=>omega
    | succ k=>rw [iZ,if_pos (show az []=⟨#[]⟩ from rfl),List.append_nil]
  | c::l,k,acc,hr,hc,hk=>by
    obtain ⟨h1,h2⟩:=hc c (List.mem_cons_self ..)
    have hz:=jD c
    rw [sA] at hk ⊢
    obtain ⟨p1,p2,p3⟩:=vu h1 h2 (az l)
    have hsz:(dW c++az l).size=(dW c).size+(az l).size:=ByteArray.size_append
    cases k with
    | zero=>omega
    | succ k =>
      have hne:¬ dW c++az l=⟨#[]⟩:=fun h=>by
        have:=congrArg ByteArray.size h
        rw [hsz,hz] at this
        have h0:(⟨#[]⟩:ByteArray).size=0:=rfl
        omega
      rw [iZ,if_neg hne,if_neg (by rw [p1];omega),p2,if_pos h1,p1,p3]
      rw [show acc++c::l=(acc++[c])++l by simp] at hr ⊢
      rw [ql (List.pairwise_append.1 hr).1 h2]
      exact pC l k (acc++[c]) hr (fun x hx=>hc x (List.mem_cons_of_mem _ hx)) (by omega)
theorem sB {l:List Change}(h:hX l):ct (az l)=(l,true):=by
  have:=pC l ((az l).size+1) [] h.rise (fun c hc=>⟨h.ok c hc,h.live c hc⟩) (by omega)
  simpa [ct] using this
theorem hX.size {l:List Change}(h:hX l):(az l).size≤2100:=by
  have:=lA h.ok;have:=h.len;omega
theorem pD:∀ (c:List Change) {rows:List Change},fS rows→(∀x∈rows,dH x=0∧x.Gone=false)→(∀x∈c,dH x=0) → ∀x∈a8 rows c,dH x=0∧x.Gone=false
  | [],rows,_,h,_=>h
  | x::c,rows,hr,h,hc=>by
    show ∀y∈a8 (mS rows x) c,_
    refine pD c (l6 hr x) (fun y hy=>?_) (fun y hy=>hc y (List.mem_cons_of_mem _ hy))
    rcases (uS hr).1 hy with ⟨h1,_⟩ | ⟨h1,rfl⟩
    · exact h y h1
    · exact ⟨hc y (List.mem_cons_self ..),h1⟩
theorem hX.apply {rows c:List Change}(h:hX rows)(hc:dF c=0)(hl:(a8 rows c).length≤60):hX (a8 rows c):=by
  have ha:=pD c h.rise (fun x hx=>⟨h.ok x hx,h.live x hx⟩) (jC hc)
  exact ⟨l7 c h.rise,fun x hx=>(ha x hx).1,fun x hx=>(ha x hx).2,hl⟩
theorem hX.nil:hX []:=⟨List.Pairwise.nil,fun c hc=>by (cases hc),fun c hc=>by (cases hc),by simp⟩
def kP (l:List ByteArray)(p:Nat)(t:ByteArray):Prop:= ∀k:Nat,k*48<t.size→l[p+k]? = some (full (t.extract (k*48) (k*48+min 48 (t.size-k*48))))
theorem ry {d:bA}{p:Nat}{t:ByteArray}(hd:d.Down=false)(hn:∀s∈d.Now,s.size=48)(hl:p+50≤d.Now.length)(h:kP d.Now p t):∀k:Nat,k≤50→(bl (lu d (p:Int) k)).length=48*k∧(bl (lu d (p:Int) k)).take t.size=(bl t).take (48*k)
  | 0,_=>by
    unfold lu
    refine ⟨rfl,?_⟩
    rw [show bl ⟨#[]⟩=[] from rfl];simp
  | k+1,hk=>by
    obtain ⟨h1,h2⟩:=ry hd hn hl h k (by omega)
    obtain ⟨x,hx⟩:∃x,d.Now[p+k]? = some x:=⟨_,List.getElem?_eq_getElem (by omega)⟩
    have hr:aO d ((p:Int)+(k:Int))=(x,0):=d9 hd (by omega) (by rw [show ((p:Int)+(k:Int)).toNat=p+k by omega];exact hx)
    have hxs:=hn x (List.mem_of_getElem? hx)
    have hxl:(bl x).length=48:=by rw [eO];exact hxs
    have htl:=eO t
    unfold lu
    rw [hr,iJ]
    refine ⟨by rw [List.length_append,h1,hxl];omega,?_⟩
    by_cases hkt:k*48<t.size
    ·
      have hxe:=h k hkt
      rw [hx] at hxe
      injection hxe with hxe
      have hbx:bl x=((bl t).take (k*48+min 48 (t.size-k*48))).drop (k*48)++List.replicate (48-(t.extract (k*48) (k*48+min 48 (t.size-k*48))).size) 0:=by
        rw [hxe,ou,fF]
      have hA:bl (lu d (p:Int) k)=(bl t).take (48*k):=by
        have:(bl (lu d (p:Int) k)).take t.size=bl (lu d (p:Int) k):=List.take_of_length_le (by rw [h1];omega)
        rw [← this];exact h2
      rw [hA,hbx]
      by_cases hm:48≤t.size-k*48
      ·
        rw [show min 48 (t.size-k*48)=48 by omega]
        have hes:(t.extract (k*48) (k*48+48)).size=48:=by rw [ByteArray.size_extract];omega
        rw [hes,Nat.sub_self,List.replicate_zero,List.append_nil]
        have e1:(bl t).take (48*k)++((bl t).take (k*48+48)).drop (k*48)=(bl t).take (48*(k+1)):=by
          rw [show 48*(k+1)=48*k+48 by omega,show k*48=48*k by omega,← List.take_drop,← List.take_add]
        rw [e1,List.take_of_length_le (by rw [List.length_take];omega)]
      ·
        rw [show k*48+min 48 (t.size-k*48)=t.size by omega,show (bl t).take t.size=bl t from List.take_of_length_le (by omega)]
        have e1:(bl t).take (48*k)++((bl t).drop (k*48)++List.replicate (48-(t.extract (k*48) t.size).size) 0)=bl t++List.replicate (48-(t.extract (k*48) t.size).size) 0:=by
          rw [← List.append_assoc,show k*48=48*k by omega,List.take_append_drop]
        rw [e1,List.take_append_of_le_length (by omega),List.take_of_length_le (by omega),List.take_of_length_le (by omega)]
    · rw [List.take_append_of_le_length (by rw [h1];omega),h2,List.take_of_length_le (by omega),List.take_of_length_le (by omega)]
theorem sC {d:bA}{p:Nat}{t:ByteArray}(hd:d.Down=false)(hn:∀s∈d.Now,s.size=48)(hl:p+50≤d.Now.length)(ht:t.size≤2400)(h:kP d.Now p t):(lu d (p:Int) 50).extract 0 t.size=t:=by
  obtain ⟨h1,h2⟩:=ry hd hn hl h 50 (Nat.le_refl _)
  refine ec ((fF _ _ _).trans ?_)
  rw [List.drop_zero,h2,List.take_of_length_le (by rw [eO];omega)]
end Go.Proofs.Ytpipachmngdegaa
end
