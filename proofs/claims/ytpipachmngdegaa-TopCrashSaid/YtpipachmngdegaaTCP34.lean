import Derived.Test.YtpipachmngdegaaTCP33
section
namespace Go.Proofs.Ytpipachmngdegaa
open Go Go.RowKit
set_option linter.unusedVariables false
section
variable {n m:Nat} {lg:Lg} {d:bp} {c:List Change}
theorem eC {a:bp}:¬ ((a,(10:Int)):bp×Int).2=0:=by show ¬ (10:Int)=0;decide
theorem nD (hd:d.Down=false)(hf : -1≤d.Fuse):(∃g,-1≤g∧aH d=(⟨d.Kept,d.Now,d.Wait,g,false⟩,0))∨aH d=(⟨d.Kept,d.Now,d.Wait,-1,true⟩,10):=by
  by_cases h:d.Fuse=0
  · exact .inr (gy hd h)
  · exact .inl ⟨_,by omega,ia hd h⟩
theorem iG {i:Int}{x:ByteArray}(hd:d.Down=false)(hf : -1≤d.Fuse)(h0:0≤i)(h1:i<(d.Now.length:Int))(h2:x.size≤48) :
    (∃g,-1≤g∧ar d i x=(⟨d.Kept,d.Now.set i.toNat (full x),d.Wait++[⟨i,full x⟩],g,false⟩,0))∨ar d i x=(⟨d.Kept,d.Now,d.Wait,-1,true⟩,10):=by
  rcases nD hd hf with ⟨g,hg,h⟩ | h
  · left;exact ⟨g,hg,by rw [bG h0 h1 h2 (by rw [h]),h]⟩
  · right;rw [cT h0 h1 h2 (by rw [h];exact eC),h]
theorem jM (hd:d.Down=false)(hf : -1≤d.Fuse):(∃g,-1≤g∧aj d=(⟨d.Now,d.Now,[],g,false⟩,0))∨aj d=(⟨d.Kept,d.Now,d.Wait,-1,true⟩,10):=by
  unfold aj
  rcases nD hd hf with ⟨g,hg,h⟩ | h
  · left;exact ⟨g,hg,by rw [h,if_pos rfl]⟩
  · right;rw [h,if_neg eC]
theorem pg (lg:Lg):∀ (c:List Change) (d:bp) (i q:Nat),d.Down=false → -1≤d.Fuse→lg.From+lg.Next+(i:Int)=(q:Int)→q+c.length≤d.Now.length→(∀x∈c,ea x=0) →
    (∃g,-1≤g∧fq lg d c i=(⟨d.Kept,d.Now.take q++cu (lg.First+lg.Next+(i:Int)) c++d.Now.drop (q+c.length),d.Wait++eB (q:Int) (lg.First+lg.Next+(i:Int)) c,g,false⟩,0)) ∨
    (∃e,fq lg d c i=(e,10)∧e.Down=true∧e.Kept=d.Kept ∧ ∃j,e.Wait=d.Wait++(eB (q:Int) (lg.First+lg.Next+(i:Int)) c).take j)
  | [],d,i,q,hd,hf,hq,hl,hc=>by
    left;refine ⟨d.Fuse,hf,?_⟩
    unfold fq;obtain ⟨a,b,e,f,g⟩:=d;simp_all [cu,eB]
  | x::r,d,i,q,hd,hf,hq,hl,hc=>by
    have hx:=og (hc x (List.mem_cons_self ..))
    rw [List.length_cons] at hl
    have hw:=iG (d:=d) (i:=lg.From+lg.Next+(i:Int)) (x:=a8 111 (lg.First+lg.Next+(i:Int)) (dO x).1) hd hf (by omega) (by omega) (by rw [ic];omega)
    have uS:(lg.From+lg.Next+(i:Int)).toNat=q:=by omega
    rw [uS,hq] at hw
    unfold fq
    rw [hq]
    rcases hw with ⟨g,hg,hw⟩ | hw
    ·
      rw [hw,if_pos rfl]
      have e3:lg.First+lg.Next+((i+1:Nat):Int)=lg.First+lg.Next+(i:Int)+1:=by omega
      have e4:((q+1:Nat):Int)=(q:Int)+1:=by omega
      rcases pg lg r ⟨d.Kept,d.Now.set q (full (a8 111 (lg.First+lg.Next+(i:Int)) (dO x).1)),d.Wait++[⟨(q:Int),full (a8 111 (lg.First+lg.Next+(i:Int)) (dO x).1)⟩],g,false⟩ (i+1) (q+1) rfl hg (by omega) (by dsimp only;rw [List.length_set];omega) (fun y hy=>hc y (List.mem_cons_of_mem _ hy)) with ⟨g',hg',h⟩ | ⟨e,he,h1,h2,j,h3⟩
      ·
        left;refine ⟨g',hg',?_⟩
        rw [h]
        have e1:(d.Now.set q (full (a8 111 (lg.First+lg.Next+(i:Int)) (dO x).1))).take (q+1)=d.Now.take q++[full (a8 111 (lg.First+lg.Next+(i:Int)) (dO x).1)]:=by
          rw [List.take_add_one,List.take_set_of_le (Nat.le_refl _),List.getElem?_set_self (by omega)];rfl
        have e2:(d.Now.set q (full (a8 111 (lg.First+lg.Next+(i:Int)) (dO x).1))).drop (q+1+r.length)=d.Now.drop (q+(r.length+1)):=by
          rw [List.drop_set_of_lt (by omega),show q+1+r.length=q+(r.length+1) by omega]
        dsimp only
        rw [e1,e2,e3,e4,List.length_cons]
        simp only [cu,eB,List.append_assoc,List.singleton_append]
      ·
        right;refine ⟨e,he,h1,h2,j+1,?_⟩
        rw [h3,e3,e4]
        simp only [eB,List.take_succ_cons,List.append_assoc,List.singleton_append]
    ·
      right
      rw [hw,if_neg eC]
      exact ⟨_,rfl,rfl,rfl,0,by simp⟩
def jN (lg:Lg)(c:List Change):List Turn:=eB (lg.From+lg.Next) (lg.First+lg.Next) c++(if lg.Next+(c.length:Int)+1<lg.Many then [⟨lg.From+(lg.Next+(c.length:Int)+1),full ⟨#[]⟩⟩] else [])
theorem tL (h:wA n m lg d)(hd:d.Down=false)(hf : -1≤d.Fuse)(ha:ec lg c=0) :
    ∃ (B:List ByteArray) (b0:ByteArray),d.Now.drop ((lg.From+lg.Next).toNat+c.length)=b0::B ∧
      ((∃g,-1≤g∧aR lg d c=(⟨d.Kept,d.Now.take (lg.From+lg.Next).toNat++cu (lg.First+lg.Next) c++b0::(if lg.Next+(c.length:Int)+1<lg.Many then B.set 0 (full ⟨#[]⟩) else B),d.Wait++jN lg c,g,false⟩,0)) ∨
       (∃e,aR lg d c=(e,10)∧e.Down=true∧e.Kept=d.Kept ∧ ∃j,e.Wait=d.Wait++(jN lg c).take j)):=by
  obtain ⟨a1,a2,a3⟩:=gl ha
  have h1:=h.f0;have h2:=h.m0;have h3:=h.fm;have h4:=h.x0;have h5:=h.ok.nl
  obtain ⟨q,hq⟩:∃q:Nat,lg.From+lg.Next=(q:Int):=⟨(lg.From+lg.Next).toNat,by omega⟩
  have hle:q+c.length≤d.Now.length:=by omega
  have uS:(lg.From+lg.Next).toNat=q:=by omega
  have hl:=pg lg c d 0 q hd hf (by omega) (by omega) a3
  rw [show lg.First+lg.Next+((0:Nat):Int)=lg.First+lg.Next by omega] at hl
  have hdl:(d.Now.drop (q+c.length)).length=d.Now.length-(q+c.length):=List.length_drop
  obtain ⟨b0,B,hB⟩:∃b0 B,d.Now.drop (q+c.length)=b0::B:=by
    cases hh:d.Now.drop (q+c.length) with
    | nil=>rw [hh] at hdl;simp at hdl;omega
    | cons b0 B=>exact ⟨b0,B,rfl⟩
  refine ⟨B,b0,by rw [uS];exact hB,?_⟩
  rw [uS]
  have hA:(d.Now.take q++cu (lg.First+lg.Next) c).length=q+c.length:=by rw [List.length_append,List.length_take,cY];omega
  rw [hB] at hl
  have hn:(d.Now.take q++cu (lg.First+lg.Next) c++b0::B).length=d.Now.length:=by
    rw [List.length_append,hA,← hB,hdl];exact Nat.add_sub_cancel' hle
  unfold aR jN
  rw [hq]
  rcases hl with ⟨g,hg,hl⟩ | ⟨e,he,e1,e2,j,e3⟩
  ·
    rw [hl,if_pos rfl]
    by_cases hr:lg.Next+(c.length:Int)+1<lg.Many
    ·
      rw [if_pos hr,if_pos hr,if_pos hr]
      rcases iG (d:=⟨d.Kept,d.Now.take q++cu (lg.First+lg.Next) c++b0::B,d.Wait++eB (q:Int) (lg.First+lg.Next) c,g,false⟩) (i:=lg.From+(lg.Next+(c.length:Int)+1)) (x:=⟨#[]⟩) rfl hg (by omega) (by dsimp only;omega) (by decide) with ⟨g',hg',hw⟩ | hw
      ·
        left;refine ⟨g',hg',?_⟩
        rw [hw]
        dsimp only
        have e:(lg.From+(lg.Next+(c.length:Int)+1)).toNat=q+c.length+1:=by
          have:lg.From+(lg.Next+(c.length:Int)+1)=((q+c.length+1:Nat):Int):=by omega
          rw [this,Int.toNat_natCast]
        rw [e,List.set_append_right _ _ (by omega),hA,show q+c.length+1-(q+c.length)=0+1 by omega,List.set_cons_succ]
        simp only [List.append_assoc]
      ·
        right
        rw [hw]
        exact ⟨_,rfl,rfl,rfl,c.length,by dsimp only;rw [List.take_append_of_le_length (by rw [fr];omega),List.take_of_length_le (by rw [fr];omega)]⟩
    ·
      rw [if_neg hr,if_neg hr,if_neg hr,List.append_nil]
      exact .inl ⟨g,hg,rfl⟩
  ·
    right
    rw [he,if_neg eC]
    refine ⟨e,rfl,e1,e2,min j c.length,?_⟩
    rw [e3,List.take_append_of_le_length (by rw [fr];exact Nat.min_le_right _ _)]
    congr 1
    by_cases hj:j≤c.length
    · rw [Nat.min_eq_left hj]
    · rw [Nat.min_eq_right (by omega),List.take_of_length_le (by rw [fr];omega),List.take_of_length_le (by rw [fr];omega)]
structure TL (n:Nat)(lg:Lg)(d:bp)(W:List (List Change))(u:Nat):Prop where
  ok:wA n 0 lg d
  down:d.Down=false
  fuse : -1≤d.Fuse
  kn:d.Kept=d.Now
  wait:d.Wait=[]
  nx:lg.Next=(u:Int)
  sc:scan ((d.Now.drop lg.From.toNat).take lg.Many.toNat) lg.First=(W,u)
  tail:∀s∈d.Now.drop (lg.From.toNat+u),¬ aV s 0=99
theorem mM (d:bp)(k:Int):(ae d k).Fuse = -1:=rfl
theorem uU (d:bp)(f:Int)(k:Nat)(first:Int):bY d f k first≤k:=by
  have:=qR (je d f k) first
  rw [fI] at this;exact this
theorem uV {d:bp}{f:Int}{k:Nat}{first:Int}:(dz d f k first).length≤k:=by
  have:=mb (je d f k) first [] [] 0 0
  rw [fI] at this
  simpa [dz,scan] using this
theorem uW {l:List bS}{d:bp}{f:Int}{k:Nat}{first:Int}(h:l.map bS.L=dz d f k first):l.length≤k:=by
  have:=uV (d:=d) (f:=f) (k:=k) (first:=first)
  rw [← h,List.length_map] at this;exact this
end
end Go.Proofs.Ytpipachmngdegaa
end
