import Derived.Shelf.Strings.Builder1
import Derived.Shelf.Strings.Builder2
import Derived.Shelf.Small.Bits
import Derived.Shelf.Small.Strs
import Derived.Shelf.Small.Wraps
import Derived.Shelf.Strings.BuilderF
import Derived.Shelf.Strconv.Itoa0
import Derived.Shelf.Strconv.Itoa1
import Derived.Shelf.LaysM
import Derived.Shelf.Strconv.Itoa2
import Derived.Shelf.Strconv.Itoa3
import Derived.Shelf.Strconv.AtoiErrFast
import Derived.Shelf.Strconv.ParseIntEmpty
import Derived.Shelf.Strconv.AtoiFail
import Derived.Shelf.Strconv.Clone
import Derived.Shelf.Strconv.SyntaxError
import Derived.Shelf.LaysC
import Derived.Shelf.Strconv.ToError
import Derived.Shelf.Strconv.AtoiErr
import Derived.Shelf.Strconv.ErrVar
import Derived.Shelf.Sort.Plain
import Derived.Shelf.Strings.Prefix
import Derived.Shelf.Bits.Mul64
import Derived.Shelf.Strings.Repeat
import Derived.Shelf.Slices.Turned
import Derived.Shelf.Slices.Equal
import Derived.Ground.Names2Prog
import Derived.Shelf.Slices.CompactI
import Derived.Shelf.Slices.SearchI
import Derived.Shelf.Slices.Cells
import Derived.Shelf.Slices.In.SortNone
import Derived.Shelf.Slices.Empties2
import Derived.Test.YtbkfhjaibhnkmaaGreatDoorProg
import Derived.Test.YtbkfhjaibhnkmaaGreatDoorTRP28
import Derived.Test.YtbkfhjaibhnkmaaGreatDoorTRP29
import Derived.Test.YtbkfhjaibhnkmaaGreatDoorTRP21
section
namespace Go.Proofs
open Go.Shelf
def Tryz.lays212_ren:Go.Shelf.Ren:=⟨fun|212=>125|263=>162|264=>163|n=>n,fun|46=>138|51=>176|146=>192|53=>40|148=>194|n=>n,fun|n=>n⟩
theorem Tryz.lays212:Go.Proofs.Lays.n212 Tryz.prog Tryz.lays212_ren:={
  mixed:=by kernel_rfl
  f212:=Tryz.func125.trans (congrArg some (by kernel_rfl))
  f263:=Tryz.func162.trans (congrArg some (by kernel_rfl))
  f264:=Tryz.func163.trans (congrArg some (by kernel_rfl))
  t46:=Tryz.underlying138
  a46:=Tryz.isAgg138
  z46:=Tryz.sizeOf138
  v46:=Tryz.zeroValue138
  t51:=Tryz.underlying176
  a51:=Tryz.isAgg176
  z51:=Tryz.sizeOf176
  v51:=Tryz.zeroValue176
  t53:=Tryz.underlying40
  a53:=Tryz.isAgg40
  z53:=Tryz.sizeOf40
  v53:=Tryz.zeroValue40
  t146:=Tryz.underlying192
  a146:=Tryz.isAgg192
  z146:=Tryz.sizeOf192
  v146:=Tryz.zeroValue192
  t148:=Tryz.underlying194
  a148:=Tryz.isAgg194
  z148:=Tryz.sizeOf194
  v148:=Tryz.zeroValue194 }
open Go.RowKit Go.Lib in
theorem Tryz.bits_Mul (x y:Nat)(hx:x<18446744073709551616)(hy:y<18446744073709551616)(w:World) :
    Calls Tryz.prog 125 #[.int .u64 x,.int .u64 y] w fun e w'=>e = .returned (.tuple #[.int .u64 ((x*y / 18446744073709551616:Nat):Int),.int .u64 ((x*y % 18446744073709551616:Nat):Int)])∧w'=w:=Any.bits_Mul Tryz.lays212 x y hx hy w
end Go.Proofs
end
section
namespace Go.Proofs.YtbkfhjaibhnkmaaGreatDoor
set_option linter.unusedVariables false
theorem sL {l:List Held}{p:Place}{id:Int}(hg:Good l)(h:hY l p=0)(hi:id≠0):∃A B,l=A++B∧ck l p id=A++⟨p,id⟩::B:=by
  cases shape l p (ft hg) with
  | hit A B w e hh k ha hb =>
    have hw:w≠0:=(ln hg ⟨p,w⟩ (by rw [e];simp)).2
    rw [at_eq (ft hg),e,lL (fun x hx=>gh (ha x hx))] at h
    exact absurd h hw
  | miss A B e hh k ha hb=>exact ⟨A,B,e,by rw [j3 e hh k,if_neg hi]⟩
theorem sM {l:List Held}{p:Place}{w:Int}(hg:Good l)(h:hY l p=w)(hw:w≠0):∃A B,l=A++⟨p,w⟩::B∧ck l p 0=A++B:=by
  cases shape l p (ft hg) with
  | hit A B w' e hh k ha hb =>
    rw [at_eq (ft hg),e,lL (fun x hx=>gh (ha x hx))] at h
    subst h
    exact ⟨A,B,e,by rw [lp e hh k,if_pos rfl]⟩
  | miss A B e hh k ha hb =>
    rw [at_eq (ft hg),e,qf (fun x hx=>by
      rcases List.mem_append.1 hx with hx|hx
      · exact gh (ha x hx)
      · exact fun e=>gh (hb x hx) e.symm)] at h
    exact absurd h.symm hw
theorem qj {l:List Held}(f:Held→Bool)(hg:Good l):Good (l.filter f) :=
  j2 ((ft hg).filter _) (fun x hx=>ln hg x (List.mem_filter.1 hx).1)
def cH (l:List Held)(j:Int):Nat:=l.countP (fun h=>h.ak==j)
def cN (l:List Note)(j:Int):Nat:=l.countP (fun n=>n.ak==j)
theorem pn {l:List Held}{p:Place}{id:Int}(hg:Good l)(h:hY l p=0)(hi:id≠0)(j:Int):cH (ck l p id) j=cH l j+(if id=j then 1 else 0):=by
  obtain ⟨A,B,e,e2⟩:=sL hg h hi
  rw [e2,e];unfold cH
  rw [List.countP_append,List.countP_append,List.countP_cons]
  by_cases hj:id=j
  · rw [if_pos (by simpa using hj),if_pos hj];omega
  · rw [if_neg (by simpa using hj),if_neg hj];omega
theorem yX {l:List Held}{p:Place}{w:Int}(hg:Good l)(h:hY l p=w)(hw:w≠0)(j:Int):cH l j=cH (ck l p 0) j+(if w=j then 1 else 0):=by
  obtain ⟨A,B,e,e2⟩:=sM hg h hw
  rw [e2,e];unfold cH
  rw [List.countP_append,List.countP_append,List.countP_cons]
  by_cases hj:w=j
  · rw [if_pos (by simpa using hj),if_pos hj];omega
  · rw [if_neg (by simpa using hj),if_neg hj];omega
theorem yY {l:List Held}{x:Held}(h:x∈l):0<cH l x.ak:=List.countP_pos_iff.2 ⟨x,h,by simp⟩
theorem yZ {l:List Note}{x:Note}(h:x∈l):0<cN l x.ak:=List.countP_pos_iff.2 ⟨x,h,by simp⟩
theorem y9 {l:List Note}{i:Nat}{n:Note}(h:l[i]? = some n)(j:Int):cN l j=cN (lJ l i) j+(if n.ak=j then 1 else 0):=by
  obtain ⟨hi,rfl⟩:=List.getElem?_eq_some_iff.1 h
  have e:l=l.take i++l[i]::l.drop (i+1):=by rw [← List.drop_eq_getElem_cons hi,List.take_append_drop]
  unfold lJ cN
  conv=>lhs;rw [e]
  rw [List.countP_append,List.countP_append,List.countP_cons]
  by_cases hj:(l[i]).ak=j
  · rw [if_pos (by simpa using hj),if_pos hj];omega
  · rw [if_neg (by simpa using hj),if_neg hj];omega
theorem xd {l:List Note}{i:Nat}{x:Note}(h:x∈lJ l i):x∈l:=by
  unfold lJ at h
  rcases List.mem_append.1 h with h|h
  · exact List.mem_of_mem_take h
  · exact List.mem_of_mem_drop h
theorem oH {l:List Note}{i:Nat}(q:Int):dX (lJ l i) q≤dX l q:=by
  unfold lJ dX
  have h:(l.take i++l.drop (i+1)).Sublist l:=by
    have:=List.Sublist.append (List.Sublist.refl (l.take i)) (List.drop_sublist_drop_left l (Nat.le_succ i))
    rwa [List.take_append_drop] at this
  exact (h.filter _).length_le
theorem fX {l:List ak}{id:Int}:0≤bC l id ↔ ∃x∈l,x.ID=id:=by
  constructor
  · intro h;obtain ⟨x,_,h2,h3⟩:=pW l id h;exact ⟨x,h3,h2⟩
  · rintro ⟨x,hx,rfl⟩;exact gG hx
theorem fY {l:List ak}(h:bQ l){t:Int}:t∈aR l ↔ ∃w∈l,w.ai=t:=by
  unfold aR
  rw [oE h]
  show t∈fM l 999↔_
  rw [(hG l 999).2]
  simp only [hasT?,List.any_eq_true,beq_iff_eq]
  constructor
  · rintro ⟨_,_,w,hw,e⟩;exact ⟨w,hw,e⟩
  ·
    rintro ⟨w,hw,e⟩
    have:=h.mem hw
    have h1:=this.yH;have h2:=this.yI
    exact ⟨by omega,by omega,w,hw,e⟩
structure Pre (r:au):Prop where
  tree:bQ r.aj
  good:Good r.Held
  kF:∀w∈r.aj,w.ID<r.ae
  jk:1≤r.ae
  j4:r.ae≤1000
  jo:1≤r.af
  jq:r.af≤1000
  e8:r.Things.Pairwise (fun a b=>a.ID<b.ID)
  mJ:∀t∈r.Things,1≤t.ID∧t.ID<r.af
  fc:∀t∈r.Things,t.Kind=1∨t.Kind=2
  fe:∀t∈r.Things,t.Data.size≤8∧(t.Kind=2→t.Data=⟨#[]⟩)
  fj:r.Things.length≤10
  thing:∀w∈r.aj,∃t∈r.Things,t.ID=w.ai
  port:∀n∈r.Notes,∃t∈r.Things,t.ID=n.Port∧t.Kind=2
  fP:∀n∈r.Notes,n.Data.size≤8∧0≤n.ar∧n.ar≤99
  wait:∀q,dX r.Notes q≤3
  ff:∀n∈r.Notes,0≤n.ak
  once:∀w∈r.aj,cH r.Held w.ID+cN r.Notes w.ID=1
structure Inv (r:au):Prop extends Pre r where
  eK:∀n∈r.Notes,0<n.ak → ∃w∈r.aj,w.ID=n.ak
  dk:∀h∈r.Held,∃w∈r.aj,w.ID=h.ak
  used:∀t∈r.Things,∃w∈r.aj,w.ai=t.ID
theorem Inv.new:Inv newR:=by
  refine { tree:=rfl,good:=j2 List.Pairwise.nil (fun x hx=>by cases hx),kF:=?_,jk:=by decide,j4:=by decide,jo:=by decide,jq:=by decide,e8:=List.Pairwise.nil,mJ:=?_,fc:=?_,fe:=?_,fj:=by decide,thing:=?_,port:=?_,fP:=?_,wait:=fun q=>by simp [dX,newR],ff:=?_,once:=?_,eK:=?_,dk:=?_,used:=?_ } <;> intro x hx <;> cases hx
theorem Pre.ri {r:au}(h:Pre r):∀w∈r.aj,0≤w.Rights∧w.Rights≤7:=fun w hw=>⟨(h.tree.mem hw).uX,(h.tree.mem hw).uY⟩
theorem oI:∀ (ids:List Int) (l:List ak),bQ l→bQ (ids.foldl without l)
  | [],l,h=>h
  | i::ids,l,h=>oI ids _ (h.wo i)
structure Like (y x:ak):Prop where
  id:y.ID=x.ID
  th:y.ai=x.ai
  ri:y.Rights=x.Rights
  ba:y.ar=x.ar
theorem Like.refl (x:ak):Like x x:=⟨rfl,rfl,rfl,rfl⟩
theorem Like.trans {x y z:ak}(h:Like x y)(k:Like y z):Like x z:=⟨h.id.trans k.id,h.th.trans k.th,h.ri.trans k.ri,h.ba.trans k.ba⟩
theorem Like.symm {x y:ak}(h:Like x y):Like y x:=⟨h.id.symm,h.th.symm,h.ri.symm,h.ba.symm⟩
theorem mK (id f:Int)(x:ak):Like (gW id f x) x:=by have:=fL (id:=id) (f:=f) x;exact ⟨this.1,this.2.1,this.2.2.1,this.2.2.2⟩
theorem qk:∀ (ids:List Int) (l:List ak) (w:ak),w∈ids.foldl without l→(∃y∈l,Like w y)∧¬ w.ID∈ids
  | [],l,w,h=>⟨⟨w,h,Like.refl w⟩,fun h=>by cases h⟩
  | i::ids,l,w,h=>by
    obtain ⟨⟨y,hy,hl⟩,hn⟩:=qk ids (without l i) w h
    obtain ⟨z,hz,hne,rfl⟩:=ei.1 hy
    refine ⟨⟨z,hz,hl.trans (mK _ _ z)⟩,fun hm=>?_⟩
    rcases List.mem_cons.1 hm with e|hm
    · exact hne (by rw [← e,hl.id,(fL z).1])
    · exact hn hm
theorem fu (ws:List ak)(n:Note):(fh ws n).Port=n.Port∧(fh ws n).Data=n.Data∧(fh ws n).ar=n.ar∧((fh ws n).ak=n.ak∧0≤bC ws n.ak∨(fh ws n).ak=0):=by
  unfold fh;split
  · exact ⟨rfl,rfl,rfl,.inr rfl⟩
  · exact ⟨rfl,rfl,rfl,.inl ⟨rfl,by omega⟩⟩
theorem ql {ws:List ak}{ts:List Int}{ns:List Note}{n:Note}:n∈eI ws ts ns ↔ ∃m∈ns,n=fh ws m∧m.Port∈ts:=by
  unfold eI
  rw [List.mem_filter,List.mem_map]
  constructor
  ·
    rintro ⟨⟨m,hm,rfl⟩,hp⟩
    exact ⟨m,hm,rfl,by have:=of_decide_eq_true hp;rwa [(fu ws m).1] at this⟩
  ·
    rintro ⟨m,hm,rfl,hp⟩
    exact ⟨⟨m,hm,rfl⟩,decide_eq_true (by rw [(fu ws m).1];exact hp)⟩
theorem qm {ws:List ak}{ts:List Int}{ns:List Note}{j:Int}:j∈fS ws ts ns ↔ ∃m∈ns,j=(fh ws m).ak∧¬ m.Port∈ts∧0<j:=by
  unfold fS
  rw [List.mem_map]
  constructor
  ·
    rintro ⟨n,hn,rfl⟩
    obtain ⟨h1,h2⟩:=List.mem_filter.1 hn
    obtain ⟨m,hm,rfl⟩:=List.mem_map.1 h1
    simp only [Bool.and_eq_true,Bool.not_eq_true',decide_eq_false_iff_not,decide_eq_true_eq] at h2
    exact ⟨m,hm,rfl,by rw [← (fu ws m).1];exact h2.1,h2.2⟩
  ·
    rintro ⟨m,hm,rfl,hp,h0⟩
    refine ⟨fh ws m,List.mem_filter.2 ⟨List.mem_map.2 ⟨m,hm,rfl⟩,?_⟩,rfl⟩
    simp only [Bool.and_eq_true,Bool.not_eq_true',decide_eq_false_iff_not,decide_eq_true_eq]
    exact ⟨by rw [(fu ws m).1];exact hp,h0⟩
theorem lM (ws:List ak)(ts:List Int)(m:Note)(ns:List Note):eI ws ts (m::ns)=if m.Port∈ts then fh ws m::eI ws ts ns else eI ws ts ns:=by
  unfold eI
  rw [List.map_cons,List.filter_cons,(fu ws m).1]
  by_cases h:m.Port∈ts
  · rw [if_pos (decide_eq_true h),if_pos h]
  · rw [if_neg (by simpa using h),if_neg h]
theorem nF {ws:List ak}{ts:List Int}{j:Int}(hj:0≤bC ws j)(h0:0<j):∀ (ns:List Note),(∀n∈ns,n.ak=j→n.Port∈ts)→cN (eI ws ts ns) j=cN ns j
  | [],_=>rfl
  | m::ns,hl=>by
    have ih:=nF hj h0 ns (fun n hn=>hl n (List.mem_cons_of_mem _ hn))
    have hf:=fu ws m
    rw [lM]
    unfold cN at ih ⊢
    by_cases e:m.ak=j
    ·
      have hfm:(fh ws m).ak=j:=by
        rcases hf.2.2.2 with ⟨h1,_⟩ | h1
        · omega
        · unfold fh at h1 ⊢;rw [if_neg (by rw [e];omega)];exact e
      rw [if_pos (hl m (List.mem_cons_self ..) e),List.countP_cons,List.countP_cons,if_pos (by simpa using hfm),if_pos (by simpa using e),ih]
    ·
      have hfm:¬ (fh ws m).ak=j:=by rcases hf.2.2.2 with ⟨h1,_⟩ | h1 <;> omega
      split
      · rw [List.countP_cons,List.countP_cons,if_neg (by simpa using hfm),if_neg (by simpa using e),ih]
      · rw [List.countP_cons,if_neg (by simpa using e),ih];rfl
theorem oJ (ws:List ak)(ts:List Int)(q:Int):∀ (ns:List Note),dX (eI ws ts ns) q≤dX ns q
  | []=>Nat.le_refl _
  | m::ns=>by
    have ih:=oJ ws ts q ns
    have hf:=fu ws m
    rw [lM]
    unfold dX at ih ⊢
    have e:(fh ws m).Port=m.Port:=hf.1
    split
    · rw [List.filter_cons,List.filter_cons,e];split <;> simp <;> omega
    · rw [List.filter_cons];split <;> simp <;> omega
def sw (r:au)(ids:List Int):au:=⟨ids.foldl without r.aj,(dS r).Things,(dS r).Held,(dS r).Notes,r.ae,r.af⟩
theorem j5 {r:au}{t:ai}:t∈(dS r).Things↔t∈r.Things∧t.ID∈aR r.aj:=by
  show t∈r.Things.filter _↔_
  rw [List.mem_filter];simp
theorem xe {r:au}{h:Held}:h∈(dS r).Held↔h∈r.Held ∧ ∃w∈r.aj,w.ID=h.ak:=by
  show h∈r.Held.filter _↔_
  rw [List.mem_filter,← fX];simp
theorem Pre.sw {r:au}(h:Pre r){ids:List Int}(hl:∀j∈jj r,j∈ids):Pre (YtbkfhjaibhnkmaaGreatDoor.sw r ids):=by
  have hsub:∀w∈ids.foldl without r.aj,(∃y∈r.aj,Like w y)∧¬ w.ID∈ids:=fun w hw=>qk ids r.aj w hw
  have oK:∀n∈(dS r).Notes,∃m∈r.Notes,n=fh r.aj m∧m.Port∈aR r.aj:=fun n hn=>ql.1 hn
  refine { tree:=oI ids _ h.tree,good:=qj _ h.good,kF:=?_,jk:=h.jk,j4:=h.j4,jo:=h.jo,jq:=h.jq,e8:=h.e8.filter _,mJ:=fun t ht=>h.mJ t (j5.1 ht).1,fc:=fun t ht=>h.fc t (j5.1 ht).1,fe:=fun t ht=>h.fe t (j5.1 ht).1,fj:=Nat.le_trans (List.length_filter_le _ _) h.fj,thing:=?_,port:=?_,fP:=?_,wait:=fun q=>Nat.le_trans (oJ _ _ q _) (h.wait q),ff:=?_,once:=?_ }
  ·
    intro w hw
    obtain ⟨⟨y,hy,hk⟩,_⟩:=hsub w hw
    rw [hk.id];exact h.kF y hy
  ·
    intro w hw
    obtain ⟨⟨y,hy,hk⟩,_⟩:=hsub w hw
    obtain ⟨t,ht,e⟩:=h.thing y hy
    exact ⟨t,j5.2 ⟨ht,(fY h.tree).2 ⟨y,hy,e.symm⟩⟩,by rw [e,hk.th]⟩
  ·
    intro n hn
    obtain ⟨m,hm,rfl,hp⟩:=oK n hn
    obtain ⟨t,ht,e,hk⟩:=h.port m hm
    exact ⟨t,j5.2 ⟨ht,by rw [e];exact hp⟩,by rw [(fu _ m).1];exact e,hk⟩
  ·
    intro n hn
    obtain ⟨m,hm,rfl,hp⟩:=oK n hn
    rw [(fu _ m).2.1,(fu _ m).2.2.1];exact h.fP m hm
  ·
    intro n hn
    obtain ⟨m,hm,rfl,hp⟩:=oK n hn
    have:=h.ff m hm
    rcases (fu r.aj m).2.2.2 with ⟨e,_⟩ | e <;> omega
  ·
    intro w hw
    obtain ⟨⟨y,hy,hk⟩,hn⟩:=hsub w hw
    have CH:0≤bC r.aj w.ID:=fX.2 ⟨y,hy,hk.id.symm⟩
    have h0:0<w.ID:=by have:=(h.tree.mem hy).id1;rw [hk.id];omega
    have h1:cH (dS r).Held w.ID=cH r.Held w.ID:=by
      show List.countP _ (r.Held.filter _)=List.countP _ r.Held
      rw [List.countP_filter]
      refine List.countP_congr fun x _=>?_
      simp only [Bool.and_eq_true,beq_iff_eq,Bool.not_eq_true',decide_eq_false_iff_not]
      exact ⟨fun h=>h.1,fun e=>⟨e,by rw [e];omega⟩⟩
    have h2:cN (dS r).Notes w.ID=cN r.Notes w.ID:=nF CH h0 r.Notes (fun n hnn e=>by
      by_cases hp:n.Port∈aR r.aj
      · exact hp
      ·
        refine absurd (hl w.ID (qm.2 ⟨n,hnn,?_,hp,h0⟩)) hn
        rw [fh,if_neg (by rw [e];omega)];exact e.symm)
    show cH (dS r).Held w.ID+cN (dS r).Notes w.ID=1
    rw [h1,h2,hk.id];exact h.once y hy
theorem rz {r:au}(h:Pre r)(hl:(jj r).length=0):Inv (dS r):=by
  have h1:Pre (dS r):=h.sw (ids:=[]) (fun j hj=>by rw [List.length_eq_zero_iff.1 hl] at hj;exact hj)
  refine { toPre:=h1,eK:=?_,dk:=fun x hx=>(xe.1 hx).2,used:=fun t ht=>(fY h.tree).1 (j5.1 ht).2 }
  intro n hn h0
  obtain ⟨m,hm,rfl,hp⟩:=ql.1 hn
  rcases (fu r.aj m).2.2.2 with ⟨e,hf⟩ | e
  · rw [e];exact fX.1 hf
  · omega
theorem mg:∀ (n:Nat) (r:au),r.Notes.length<n→Pre r→Inv (fN n r)
  | 0,r,h,_=>by omega
  | n+1,r,h,hp=>by
    unfold fN;split
    · exact rz hp (by assumption)
    ·
      have:=iX (r:=r) (by assumption)
      exact mg n _ (by omega) (hp.sw (ids:=jj r) (fun j hj=>hj))
theorem lN {r:au}(h:Pre r):Inv (a8 r):=mg _ r (Nat.lt_succ_self _) h
end Go.Proofs.YtbkfhjaibhnkmaaGreatDoor
end
