import Derived.Shelf.Strings.Builder1
import Derived.Shelf.Strings.Builder2
import Derived.Shelf.Small.Bits
import Derived.Shelf.Small.Strs
import Derived.Shelf.Small.Wraps
import Derived.Shelf.Strings.BuilderF
import Derived.Shelf.Strconv.Itoa0
import Derived.Shelf.Strconv.Itoa1
import Derived.Shelf.LaysM
import Derived.Shelf.Strconv.Itoa2
import Derived.Shelf.Strconv.Itoa3
import Derived.Shelf.Strconv.AtoiErrFast
import Derived.Shelf.Strconv.ParseIntEmpty
import Derived.Shelf.Strconv.AtoiFail
import Derived.Shelf.Strconv.Clone
import Derived.Shelf.Strconv.SyntaxError
import Derived.Shelf.LaysC
import Derived.Shelf.Strconv.ToError
import Derived.Shelf.Strconv.AtoiErr
import Derived.Shelf.Strconv.ErrVar
import Derived.Shelf.Sort.Plain
import Derived.Shelf.Strings.Prefix
import Derived.Shelf.Bits.Mul64
import Derived.Shelf.Strings.Repeat
import Derived.Shelf.Slices.Turned
import Derived.Shelf.Slices.Equal
import Derived.Ground.Names2Prog
import Derived.Shelf.Slices.CompactI
import Derived.Shelf.Slices.SearchI
import Derived.Shelf.Slices.Cells
import Derived.Shelf.Slices.In.SortNone
import Derived.Shelf.Slices.Empties2
import Derived.Test.YtbkfhjaibhnkmaaGreatDoorProg
import Derived.Test.YtbkfhjaibhnkmaaGreatDoorIMS25
import Derived.Test.YtbkfhjaibhnkmaaGreatDoorIMS19
section
namespace Go.Proofs
open Go.Shelf
def Tryz.lays106_ren:Go.Shelf.Ren:=⟨fun|106=>57|213=>103|265=>132|n=>n,fun|9=>9|3=>3|n=>n,fun|n=>n⟩
theorem Tryz.lays106:Go.Proofs.Lays.n106 Tryz.prog Tryz.lays106_ren:={
 mixed:=by kernel_rfl
 f106:=Tryz.func57.trans (congrArg some (by kernel_rfl))
 f213:=Tryz.func103.trans (congrArg some (by kernel_rfl))
 f265:=Tryz.func132.trans (congrArg some (by kernel_rfl))
 t3:=Tryz.underlying3
 a3:=Tryz.isAgg3
 z3:=Tryz.sizeOf3
 v3:=Tryz.zeroValue3
 t9:=Tryz.underlying9
 a9:=Tryz.isAgg9
 z9:=Tryz.sizeOf9
 v9:=Tryz.zeroValue9 }
def Tryz.lays212_ren:Go.Shelf.Ren:=⟨fun|212=>125|263=>162|264=>163|n=>n,fun|46=>138|51=>176|146=>192|53=>40|148=>194|n=>n,fun|n=>n⟩
theorem Tryz.lays212:Go.Proofs.Lays.n212 Tryz.prog Tryz.lays212_ren:={
 mixed:=by kernel_rfl
 f212:=Tryz.func125.trans (congrArg some (by kernel_rfl))
 f263:=Tryz.func162.trans (congrArg some (by kernel_rfl))
 f264:=Tryz.func163.trans (congrArg some (by kernel_rfl))
 t46:=Tryz.underlying138
 a46:=Tryz.isAgg138
 z46:=Tryz.sizeOf138
 v46:=Tryz.zeroValue138
 t51:=Tryz.underlying176
 a51:=Tryz.isAgg176
 z51:=Tryz.sizeOf176
 v51:=Tryz.zeroValue176
 t53:=Tryz.underlying40
 a53:=Tryz.isAgg40
 z53:=Tryz.sizeOf40
 v53:=Tryz.zeroValue40
 t146:=Tryz.underlying192
 a146:=Tryz.isAgg192
 z146:=Tryz.sizeOf192
 v146:=Tryz.zeroValue192
 t148:=Tryz.underlying194
 a148:=Tryz.isAgg194
 z148:=Tryz.sizeOf194
 v148:=Tryz.zeroValue194 }
open Go.RowKit in
theorem Tryz.strings_Compare (a b:ByteArray)(w:World) :
    Calls Tryz.prog 57 #[.string a,.string b] w fun e w'=>e = .returned (.int .i64 (Lib.compareBytes a.data.toList b.data.toList))∧w'=w:=Any.strings_Compare Tryz.lays106 a b w
open Go.RowKit Go.Lib in
theorem Tryz.bits_Mul (x y:Nat)(hx:x<18446744073709551616)(hy:y<18446744073709551616)(w:World) :
    Calls Tryz.prog 125 #[.int .u64 x,.int .u64 y] w fun e w'=>e = .returned (.tuple #[.int .u64 ((x*y / 18446744073709551616:Nat):Int),.int .u64 ((x*y % 18446744073709551616:Nat):Int)])∧w'=w:=Any.bits_Mul Tryz.lays212 x y hx hy w
end Go.Proofs
end
section
namespace Go.Proofs.YtbkfhjaibhnkmaaGreatDoor
set_option linter.unusedVariables false
theorem yI {l:List Held}{p:Place}{id:Int}(hg:Good l)(h:jY l p=0)(hi:id≠0):∃A B,l=A++B∧cw l p id=A++⟨p,id⟩::B:=by
 cases shape l p (fV hg) with
 | hit A B w e hh k ha hb =>
  have hw:w≠0:=(oG hg ⟨p,w⟩ (by rw [e];simp)).2
  rw [at_eq (fV hg),e,po (fun x hx=>iU (ha x hx))] at h
  exact absurd h hw
 | miss A B e hh k ha hb=>exact ⟨A,B,e,by rw [m0 e hh k,if_neg hi]⟩
theorem yJ {l:List Held}{p:Place}{w:Int}(hg:Good l)(h:jY l p=w)(hw:w≠0):∃A B,l=A++⟨p,w⟩::B∧cw l p 0=A++B:=by
 cases shape l p (fV hg) with
 | hit A B w' e hh k ha hb =>
  rw [at_eq (fV hg),e,po (fun x hx=>iU (ha x hx))] at h
  subst h
  exact ⟨A,B,e,by rw [oH e hh k,if_pos rfl]⟩
 | miss A B e hh k ha hb =>
  rw [at_eq (fV hg),e,vO (fun x hx=>by
   rcases List.mem_append.1 hx with hx|hx
   ·exact iU (ha x hx)
   ·exact fun e=>iU (hb x hx) e.symm)] at h
  exact absurd h.symm hw
theorem vR {l:List Held}(f:Held→Bool)(hg:Good l):Good (l.filter f) :=
 lB ((fV hg).filter _) (fun x hx=>oG hg x (List.mem_filter.1 hx).1)
def cH (l:List Held)(j:Int):Nat:=l.countP (fun h=>h.ak==j)
def cN (l:List Note)(j:Int):Nat:=l.countP (fun n=>n.ak==j)
theorem uo {l:List Held}{p:Place}{id:Int}(hg:Good l)(h:jY l p=0)(hi:id≠0)(j:Int):cH (cw l p id) j=cH l j+(if id=j then 1 else 0):=by
 obtain ⟨A,B,e,e2⟩:=yI hg h hi
 rw [e2,e];unfold cH
 rw [List.countP_append,List.countP_append,List.countP_cons]
 by_cases hj:id=j
 ·rw [if_pos (by simpa using hj),if_pos hj];omega
 ·rw [if_neg (by simpa using hj),if_neg hj];omega
theorem FC {l:List Held}{p:Place}{w:Int}(hg:Good l)(h:jY l p=w)(hw:w≠0)(j:Int):cH l j=cH (cw l p 0) j+(if w=j then 1 else 0):=by
 obtain ⟨A,B,e,e2⟩:=yJ hg h hw
 rw [e2,e];unfold cH
 rw [List.countP_append,List.countP_append,List.countP_cons]
 by_cases hj:w=j
 ·rw [if_pos (by simpa using hj),if_pos hj];omega
 ·rw [if_neg (by simpa using hj),if_neg hj];omega
theorem FD {l:List Held}{x:Held}(h:x∈l):0<cH l x.ak:=List.countP_pos_iff.2 ⟨x,h,by simp⟩
theorem FE {l:List Note}{x:Note}(h:x∈l):0<cN l x.ak:=List.countP_pos_iff.2 ⟨x,h,by simp⟩
theorem FG {l:List Note}{i:Nat}{n:Note}(h:l[i]? = some n)(j:Int):cN l j=cN (pj l i) j+(if n.ak=j then 1 else 0):=by
 obtain ⟨hi,rfl⟩:=List.getElem?_eq_some_iff.1 h
 have e:l=l.take i++l[i]::l.drop (i+1):=by rw [← List.drop_eq_getElem_cons hi,List.take_append_drop]
 unfold pj cN
 conv=>lhs;rw [e]
 rw [List.countP_append,List.countP_append,List.countP_cons]
 by_cases hj:(l[i]).ak=j
 ·rw [if_pos (by simpa using hj),if_pos hj];omega
 ·rw [if_neg (by simpa using hj),if_neg hj];omega
theorem DF {l:List Note}{i:Nat}{x:Note}(h:x∈pj l i):x∈l:=by
 unfold pj at h
 rcases List.mem_append.1 h with h|h
 ·exact List.mem_of_mem_take h
 ·exact List.mem_of_mem_drop h
theorem tf {l:List Note}{i:Nat}(q:Int):eM (pj l i) q≤eM l q:=by
 unfold pj eM
 have h:(l.take i++l.drop (i+1)).Sublist l:=by
  have:=List.Sublist.append (List.Sublist.refl (l.take i)) (List.drop_sublist_drop_left l (Nat.le_succ i))
  rwa [List.take_append_drop] at this
 exact (h.filter _).length_le
theorem gB {l:List ak}{id:Int}:0≤cB l id ↔ ∃x∈l,x.ID=id:=by
 constructor
 ·intro h;obtain ⟨x,_,h2,h3⟩:=rr l id h;exact ⟨x,h3,h2⟩
 ·rintro ⟨x,hx,rfl⟩;exact iG hx
theorem gC {l:List ak}(h:cR l){t:Int}:t∈aX l ↔ ∃w∈l,w.ao=t:=by
 unfold aX
 rw [pg h]
 show t∈ez l 999↔_
 rw [(j9 l 999).2]
 simp only [hasT?,List.any_eq_true,beq_iff_eq]
 constructor
 ·rintro ⟨_,_,w,hw,e⟩;exact ⟨w,hw,e⟩
 ·
  rintro ⟨w,hw,e⟩
  have:=h.mem hw
  have h1:=this.EH;have h2:=this.Fu
  exact ⟨by omega,by omega,w,hw,e⟩
structure Pre (r:ar):Prop where
  tree:cR r.ai
  good:Good r.Held
  nD:∀w∈r.ai,w.ID<r.ae
  ki:1≤r.ae
  lC:r.ae≤1000
  kv:1≤r.af
  ky:r.af≤1000
  fP:r.Things.Pairwise (fun a b=>a.ID<b.ID)
  qn:∀t∈r.Things,1≤t.ID∧t.ID<r.af
  gD:∀t∈r.Things,t.Kind=1∨t.Kind=2
  gE:∀t∈r.Things,t.Data.size≤8∧(t.Kind=2→t.Data=⟨#[]⟩)
  gh:r.Things.length≤10
  thing:∀w∈r.ai,∃t∈r.Things,t.ID=w.ao
  port:∀n∈r.Notes,∃t∈r.Things,t.ID=n.Port∧t.Kind=2
  hM:∀n∈r.Notes,n.Data.size≤8∧0≤n.aI∧n.aI≤99
  wait:∀q,eM r.Notes q≤3
  gF:∀n∈r.Notes,0≤n.ak
  once:∀w∈r.ai,cH r.Held w.ID+cN r.Notes w.ID=1
structure Inv (r:ar):Prop extends Pre r where
  fQ:∀n∈r.Notes,0<n.ak → ∃w∈r.ai,w.ID=n.ak
  eo:∀h∈r.Held,∃w∈r.ai,w.ID=h.ak
  used:∀t∈r.Things,∃w∈r.ai,w.ao=t.ID
theorem Inv.new:Inv newR:=by
 refine { tree:=rfl,good:=lB List.Pairwise.nil (fun x hx=>by cases hx),nD:=?_,ki:=by decide,lC:=by decide,kv:=by decide,ky:=by decide,fP:=List.Pairwise.nil,qn:=?_,gD:=?_,gE:=?_,gh:=by decide,thing:=?_,port:=?_,hM:=?_,wait:=fun q=>by simp [eM,newR],gF:=?_,once:=?_,fQ:=?_,eo:=?_,used:=?_ } <;> intro x hx <;> cases hx
theorem Pre.ri {r:ar}(h:Pre r):∀w∈r.ai,0≤w.Rights∧w.Rights≤7:=fun w hw=>⟨(h.tree.mem hw).Bm,(h.tree.mem hw).Bn⟩
theorem pq:∀ (ids:List Int) (l:List ak),cR l→cR (ids.foldl without l)
 | [],l,h=>h
 | i::ids,l,h=>pq ids _ (h.wo i)
structure Like (y x:ak):Prop where
  id:y.ID=x.ID
  th:y.ao=x.ao
  ri:y.Rights=x.Rights
  ba:y.aI=x.aI
theorem Like.refl (x:ak):Like x x:=⟨rfl,rfl,rfl,rfl⟩
theorem Like.trans {x y z:ak}(h:Like x y)(k:Like y z):Like x z:=⟨h.id.trans k.id,h.th.trans k.th,h.ri.trans k.ri,h.ba.trans k.ba⟩
theorem Like.symm {x y:ak}(h:Like x y):Like y x:=⟨h.id.symm,h.th.symm,h.ri.symm,h.ba.symm⟩
theorem qC (id f:Int)(x:ak):Like (jt id f x) x:=by have:=ij (id:=id) (f:=f) x;exact ⟨this.1,this.2.1,this.2.2.1,this.2.2.2⟩
theorem vS:∀ (ids:List Int) (l:List ak) (w:ak),w∈ids.foldl without l→(∃y∈l,Like w y)∧¬ w.ID∈ids
 | [],l,w,h=>⟨⟨w,h,Like.refl w⟩,fun h=>by cases h⟩
 | i::ids,l,w,h=>by
  obtain ⟨⟨y,hy,hl⟩,hn⟩:=vS ids (without l i) w h
  obtain ⟨z,hz,hne,rfl⟩:=fC.1 hy
  refine ⟨⟨z,hz,hl.trans (qC _ _ z)⟩,fun hm=>?_⟩
  rcases List.mem_cons.1 hm with e|hm
  ·exact hne (by rw [← e,hl.id,(ij z).1])
  ·exact hn hm
theorem gS (ws:List ak)(n:Note):(gN ws n).Port=n.Port∧(gN ws n).Data=n.Data∧(gN ws n).aI=n.aI∧((gN ws n).ak=n.ak∧0≤cB ws n.ak∨(gN ws n).ak=0):=by
 unfold gN;split
 ·exact ⟨rfl,rfl,rfl,.inr rfl⟩
 ·exact ⟨rfl,rfl,rfl,.inl ⟨rfl,by omega⟩⟩
theorem vT {ws:List ak}{ts:List Int}{ns:List Note}{n:Note}:n∈fH ws ts ns ↔ ∃m∈ns,n=gN ws m∧m.Port∈ts:=by
 unfold fH
 rw [List.mem_filter,List.mem_map]
 constructor
 ·
  rintro ⟨⟨m,hm,rfl⟩,hp⟩
  exact ⟨m,hm,rfl,by have:=of_decide_eq_true hp;rwa [(gS ws m).1] at this⟩
 ·
  rintro ⟨m,hm,rfl,hp⟩
  exact ⟨⟨m,hm,rfl⟩,decide_eq_true (by rw [(gS ws m).1];exact hp)⟩
theorem vU {ws:List ak}{ts:List Int}{ns:List Note}{j:Int}:j∈f5 ws ts ns ↔ ∃m∈ns,j=(gN ws m).ak∧¬ m.Port∈ts∧0<j:=by
 unfold f5
 rw [List.mem_map]
 constructor
 ·
  rintro ⟨n,hn,rfl⟩
  obtain ⟨h1,h2⟩:=List.mem_filter.1 hn
  obtain ⟨m,hm,rfl⟩:=List.mem_map.1 h1
  simp only [Bool.and_eq_true,Bool.not_eq_true',decide_eq_false_iff_not,decide_eq_true_eq] at h2
  exact ⟨m,hm,rfl,by rw [← (gS ws m).1];exact h2.1,h2.2⟩
 ·
  rintro ⟨m,hm,rfl,hp,h0⟩
  refine ⟨gN ws m,List.mem_filter.2 ⟨List.mem_map.2 ⟨m,hm,rfl⟩,?_⟩,rfl⟩
  simp only [Bool.and_eq_true,Bool.not_eq_true',decide_eq_false_iff_not,decide_eq_true_eq]
  exact ⟨by rw [(gS ws m).1];exact hp,h0⟩
theorem pw (ws:List ak)(ts:List Int)(m:Note)(ns:List Note):fH ws ts (m::ns)=if m.Port∈ts then gN ws m::fH ws ts ns else fH ws ts ns:=by
 unfold fH
 rw [List.map_cons,List.filter_cons,(gS ws m).1]
 by_cases h:m.Port∈ts
 ·rw [if_pos (decide_eq_true h),if_pos h]
 ·rw [if_neg (by simpa using h),if_neg h]
theorem rV {ws:List ak}{ts:List Int}{j:Int}(hj:0≤cB ws j)(h0:0<j):∀ (ns:List Note),(∀n∈ns,n.ak=j→n.Port∈ts)→cN (fH ws ts ns) j=cN ns j
 | [],_=>rfl
 | m::ns,hl=>by
  have ih:=rV hj h0 ns (fun n hn=>hl n (List.mem_cons_of_mem _ hn))
  have hf:=gS ws m
  rw [pw]
  unfold cN at ih ⊢
  by_cases e:m.ak=j
  ·
   have hfm:(gN ws m).ak=j:=by
    rcases hf.2.2.2 with ⟨h1,_⟩ | h1
    ·omega
    ·unfold gN at h1 ⊢;rw [if_neg (by rw [e];omega)];exact e
   rw [if_pos (hl m (List.mem_cons_self ..) e),List.countP_cons,List.countP_cons,if_pos (by simpa using hfm),if_pos (by simpa using e),ih]
  ·
   have hfm:¬ (gN ws m).ak=j:=by rcases hf.2.2.2 with ⟨h1,_⟩ | h1 <;> omega
   split
   ·rw [List.countP_cons,List.countP_cons,if_neg (by simpa using hfm),if_neg (by simpa using e),ih]
   ·rw [List.countP_cons,if_neg (by simpa using e),ih];rfl
theorem tg (ws:List ak)(ts:List Int)(q:Int):∀ (ns:List Note),eM (fH ws ts ns) q≤eM ns q
 | []=>Nat.le_refl _
 | m::ns=>by
  have ih:=tg ws ts q ns
  have hf:=gS ws m
  rw [pw]
  unfold eM at ih ⊢
  have e:(gN ws m).Port=m.Port:=hf.1
  split
  ·rw [List.filter_cons,List.filter_cons,e];split <;> simp <;> omega
  ·rw [List.filter_cons];split <;> simp <;> omega
def sw (r:ar)(ids:List Int):ar:=⟨ids.foldl without r.ai,(eS r).Things,(eS r).Held,(eS r).Notes,r.ae,r.af⟩
theorem m4 {r:ar}{t:ao}:t∈(eS r).Things↔t∈r.Things∧t.ID∈aX r.ai:=by
 show t∈r.Things.filter _↔_
 rw [List.mem_filter];simp
theorem DG {r:ar}{h:Held}:h∈(eS r).Held↔h∈r.Held ∧ ∃w∈r.ai,w.ID=h.ak:=by
 show h∈r.Held.filter _↔_
 rw [List.mem_filter,← gB];simp
theorem Pre.sw {r:ar}(h:Pre r){ids:List Int}(hl:∀j∈ka r,j∈ids):Pre (YtbkfhjaibhnkmaaGreatDoor.sw r ids):=by
 have hsub:∀w∈ids.foldl without r.ai,(∃y∈r.ai,Like w y)∧¬ w.ID∈ids:=fun w hw=>vS ids r.ai w hw
 have tj:∀n∈(eS r).Notes,∃m∈r.Notes,n=gN r.ai m∧m.Port∈aX r.ai:=fun n hn=>vT.1 hn
 refine { tree:=pq ids _ h.tree,good:=vR _ h.good,nD:=?_,ki:=h.ki,lC:=h.lC,kv:=h.kv,ky:=h.ky,fP:=h.fP.filter _,qn:=fun t ht=>h.qn t (m4.1 ht).1,gD:=fun t ht=>h.gD t (m4.1 ht).1,gE:=fun t ht=>h.gE t (m4.1 ht).1,gh:=Nat.le_trans (List.length_filter_le _ _) h.gh,thing:=?_,port:=?_,hM:=?_,wait:=fun q=>Nat.le_trans (tg _ _ q _) (h.wait q),gF:=?_,once:=?_ }
 ·
  intro w hw
  obtain ⟨⟨y,hy,hk⟩,_⟩:=hsub w hw
  rw [hk.id];exact h.nD y hy
 ·
  intro w hw
  obtain ⟨⟨y,hy,hk⟩,_⟩:=hsub w hw
  obtain ⟨t,ht,e⟩:=h.thing y hy
  exact ⟨t,m4.2 ⟨ht,(gC h.tree).2 ⟨y,hy,e.symm⟩⟩,by rw [e,hk.th]⟩
 ·
  intro n hn
  obtain ⟨m,hm,rfl,hp⟩:=tj n hn
  obtain ⟨t,ht,e,hk⟩:=h.port m hm
  exact ⟨t,m4.2 ⟨ht,by rw [e];exact hp⟩,by rw [(gS _ m).1];exact e,hk⟩
 ·
  intro n hn
  obtain ⟨m,hm,rfl,hp⟩:=tj n hn
  rw [(gS _ m).2.1,(gS _ m).2.2.1];exact h.hM m hm
 ·
  intro n hn
  obtain ⟨m,hm,rfl,hp⟩:=tj n hn
  have:=h.gF m hm
  rcases (gS r.ai m).2.2.2 with ⟨e,_⟩ | e <;> omega
 ·
  intro w hw
  obtain ⟨⟨y,hy,hk⟩,hn⟩:=hsub w hw
  have JR:0≤cB r.ai w.ID:=gB.2 ⟨y,hy,hk.id.symm⟩
  have h0:0<w.ID:=by have:=(h.tree.mem hy).id1;rw [hk.id];omega
  have h1:cH (eS r).Held w.ID=cH r.Held w.ID:=by
   show List.countP _ (r.Held.filter _)=List.countP _ r.Held
   rw [List.countP_filter]
   refine List.countP_congr fun x _=>?_
   simp only [Bool.and_eq_true,beq_iff_eq,Bool.not_eq_true',decide_eq_false_iff_not]
   exact ⟨fun h=>h.1,fun e=>⟨e,by rw [e];omega⟩⟩
  have h2:cN (eS r).Notes w.ID=cN r.Notes w.ID:=rV JR h0 r.Notes (fun n hnn e=>by
   by_cases hp:n.Port∈aX r.ai
   ·exact hp
   ·
    refine absurd (hl w.ID (vU.2 ⟨n,hnn,?_,hp,h0⟩)) hn
    rw [gN,if_neg (by rw [e];omega)];exact e.symm)
  show cH (eS r).Held w.ID+cN (eS r).Notes w.ID=1
  rw [h1,h2,hk.id];exact h.once y hy
theorem xu {r:ar}(h:Pre r)(hl:(ka r).length=0):Inv (eS r):=by
 have h1:Pre (eS r):=h.sw (ids:=[]) (fun j hj=>by rw [List.length_eq_zero_iff.1 hl] at hj;exact hj)
 refine { toPre:=h1,fQ:=?_,eo:=fun x hx=>(DG.1 hx).2,used:=fun t ht=>(gC h.tree).1 (m4.1 ht).2 }
 intro n hn h0
 obtain ⟨m,hm,rfl,hp⟩:=vT.1 hn
 rcases (gS r.ai m).2.2.2 with ⟨e,hf⟩ | e
 ·rw [e];exact gB.1 hf
 ·omega
theorem p9:∀ (n:Nat) (r:ar),r.Notes.length<n→Pre r→Inv (im n r)
 | 0,r,h,_=>by omega
 | n+1,r,h,hp=>by
  unfold im;split
  ·exact xu hp (by assumption)
  ·
   have:=lx (r:=r) (by assumption)
   exact p9 n _ (by omega) (hp.sw (ids:=ka r) (fun j hj=>hj))
theorem px {r:ar}(h:Pre r):Inv (aY r):=p9 _ r (Nat.lt_succ_self _) h
end Go.Proofs.YtbkfhjaibhnkmaaGreatDoor
end
