import Derived.Shelf.Strings.Builder1
import Derived.Shelf.Strings.Builder2
import Derived.Shelf.Small.Bits
import Derived.Shelf.Small.Strs
import Derived.Shelf.Small.Wraps
import Derived.Shelf.Strings.BuilderF
import Derived.Shelf.Strconv.Itoa0
import Derived.Shelf.Strconv.Itoa1
import Derived.Shelf.LaysM
import Derived.Shelf.Strconv.Itoa2
import Derived.Shelf.Strconv.Itoa3
import Derived.Shelf.Strconv.AtoiErrFast
import Derived.Shelf.Strconv.ParseIntEmpty
import Derived.Shelf.Strconv.AtoiFail
import Derived.Shelf.Strconv.Clone
import Derived.Shelf.Strconv.SyntaxError
import Derived.Shelf.LaysC
import Derived.Shelf.Strconv.ToError
import Derived.Shelf.Strconv.AtoiErr
import Derived.Shelf.Strconv.ErrVar
import Derived.Shelf.Sort.Plain
import Derived.Shelf.Strings.Prefix
import Derived.Shelf.Bits.Mul64
import Derived.Shelf.Strings.Repeat
import Derived.Shelf.Slices.Turned
import Derived.Shelf.Slices.Equal
import Derived.Ground.Names2Prog
import Derived.Shelf.Slices.CompactI
import Derived.Shelf.Slices.SearchI
import Derived.Shelf.Slices.Cells
import Derived.Shelf.Slices.In.SortNone
import Derived.Shelf.Slices.Empties2
import Derived.Test.YtbkfhjaibhnkmaaGreatDoorProg
import Derived.Test.YtbkfhjaibhnkmaaGreatDoorTSD27
import Derived.Test.YtbkfhjaibhnkmaaGreatDoorTSD28
import Derived.Test.YtbkfhjaibhnkmaaGreatDoorTSD20
section
namespace Go.Proofs
open Go.Shelf
def Tryz.lays212_ren:Go.Shelf.Ren:=⟨fun|212=>125|263=>162|264=>163|n=>n,fun|46=>138|51=>176|146=>192|53=>40|148=>194|n=>n,fun|n=>n⟩
theorem Tryz.lays212:Go.Proofs.Lays.n212 Tryz.prog Tryz.lays212_ren:={
 mixed:=by kernel_rfl
 f212:=Tryz.func125.trans (congrArg some (by kernel_rfl))
 f263:=Tryz.func162.trans (congrArg some (by kernel_rfl))
 f264:=Tryz.func163.trans (congrArg some (by kernel_rfl))
 t46:=Tryz.underlying138
 a46:=Tryz.isAgg138
 z46:=Tryz.sizeOf138
 v46:=Tryz.zeroValue138
 t51:=Tryz.underlying176
 a51:=Tryz.isAgg176
 z51:=Tryz.sizeOf176
 v51:=Tryz.zeroValue176
 t53:=Tryz.underlying40
 a53:=Tryz.isAgg40
 z53:=Tryz.sizeOf40
 v53:=Tryz.zeroValue40
 t146:=Tryz.underlying192
 a146:=Tryz.isAgg192
 z146:=Tryz.sizeOf192
 v146:=Tryz.zeroValue192
 t148:=Tryz.underlying194
 a148:=Tryz.isAgg194
 z148:=Tryz.sizeOf194
 v148:=Tryz.zeroValue194 }
open Go.RowKit Go.Lib in
theorem Tryz.bits_Mul (x y:Nat)(hx:x<18446744073709551616)(hy:y<18446744073709551616)(w:World) :
    Calls Tryz.prog 125 #[.int .u64 x,.int .u64 y] w fun e w'=>e = .returned (.tuple #[.int .u64 ((x*y / 18446744073709551616:Nat):Int),.int .u64 ((x*y % 18446744073709551616:Nat):Int)])∧w'=w:=Any.bits_Mul Tryz.lays212 x y hx hy w
end Go.Proofs
end
section
namespace Go.Proofs.YtbkfhjaibhnkmaaGreatDoor
set_option linter.unusedVariables false
theorem ug {l:List Held}{p:Place}{id:Int}(hg:Good l)(h:iQ l p=0)(hi:id≠0):∃A B,l=A++B∧cE l p id=A++⟨p,id⟩::B:=by
 cases shape l p (fV hg) with
 | hit A B w e hh k ha hb =>
  have hw:w≠0:=(l5 hg ⟨p,w⟩ (by rw [e];simp)).2
  rw [at_eq (fV hg),e,mJ (fun x hx=>gL (ha x hx))] at h
  exact absurd h hw
 | miss A B e hh k ha hb=>exact ⟨A,B,e,by rw [kJ e hh k,if_neg hi]⟩
theorem uh {l:List Held}{p:Place}{w:Int}(hg:Good l)(h:iQ l p=w)(hw:w≠0):∃A B,l=A++⟨p,w⟩::B∧cE l p 0=A++B:=by
 cases shape l p (fV hg) with
 | hit A B w' e hh k ha hb =>
  rw [at_eq (fV hg),e,mJ (fun x hx=>gL (ha x hx))] at h
  subst h
  exact ⟨A,B,e,by rw [l6 e hh k,if_pos rfl]⟩
 | miss A B e hh k ha hb =>
  rw [at_eq (fV hg),e,rG (fun x hx=>by
   rcases List.mem_append.1 hx with hx|hx
   ·exact gL (ha x hx)
   ·exact fun e=>gL (hb x hx) e.symm)] at h
  exact absurd h.symm hw
theorem rK {l:List Held}(f:Held→Bool)(hg:Good l):Good (l.filter f) :=
 jI ((fV hg).filter _) (fun x hx=>l5 hg x (List.mem_filter.1 hx).1)
def cH (l:List Held)(j:Int):Nat:=l.countP (fun h=>h.aj==j)
def cN (l:List Note)(j:Int):Nat:=l.countP (fun n=>n.aj==j)
theorem qy {l:List Held}{p:Place}{id:Int}(hg:Good l)(h:iQ l p=0)(hi:id≠0)(j:Int):cH (cE l p id) j=cH l j+(if id=j then 1 else 0):=by
 obtain ⟨A,B,e,e2⟩:=ug hg h hi
 rw [e2,e];unfold cH
 rw [List.countP_append,List.countP_append,List.countP_cons]
 by_cases hj:id=j
 ·rw [if_pos (by simpa using hj),if_pos hj];omega
 ·rw [if_neg (by simpa using hj),if_neg hj];omega
theorem Av {l:List Held}{p:Place}{w:Int}(hg:Good l)(h:iQ l p=w)(hw:w≠0)(j:Int):cH l j=cH (cE l p 0) j+(if w=j then 1 else 0):=by
 obtain ⟨A,B,e,e2⟩:=uh hg h hw
 rw [e2,e];unfold cH
 rw [List.countP_append,List.countP_append,List.countP_cons]
 by_cases hj:w=j
 ·rw [if_pos (by simpa using hj),if_pos hj];omega
 ·rw [if_neg (by simpa using hj),if_neg hj];omega
theorem Aw {l:List Held}{x:Held}(h:x∈l):0<cH l x.aj:=List.countP_pos_iff.2 ⟨x,h,by simp⟩
theorem Ax {l:List Note}{x:Note}(h:x∈l):0<cN l x.aj:=List.countP_pos_iff.2 ⟨x,h,by simp⟩
theorem Ay {l:List Note}{i:Nat}{n:Note}(h:l[i]? = some n)(j:Int):cN l j=cN (mH l i) j+(if n.aj=j then 1 else 0):=by
 obtain ⟨hi,rfl⟩:=List.getElem?_eq_some_iff.1 h
 have e:l=l.take i++l[i]::l.drop (i+1):=by rw [← List.drop_eq_getElem_cons hi,List.take_append_drop]
 unfold mH cN
 conv=>lhs;rw [e]
 rw [List.countP_append,List.countP_append,List.countP_cons]
 by_cases hj:(l[i]).aj=j
 ·rw [if_pos (by simpa using hj),if_pos hj];omega
 ·rw [if_neg (by simpa using hj),if_neg hj];omega
theorem yA {l:List Note}{i:Nat}{x:Note}(h:x∈mH l i):x∈l:=by
 unfold mH at h
 rcases List.mem_append.1 h with h|h
 ·exact List.mem_of_mem_take h
 ·exact List.mem_of_mem_drop h
theorem pT {l:List Note}{i:Nat}(q:Int):ey (mH l i) q≤ey l q:=by
 unfold mH ey
 have h:(l.take i++l.drop (i+1)).Sublist l:=by
  have:=List.Sublist.append (List.Sublist.refl (l.take i)) (List.drop_sublist_drop_left l (Nat.le_succ i))
  rwa [List.take_append_drop] at this
 exact (h.filter _).length_le
theorem gE {l:List aj}{id:Int}:0≤bL l id ↔ ∃x∈l,x.ID=id:=by
 constructor
 ·intro h;obtain ⟨x,_,h2,h3⟩:=ra l id h;exact ⟨x,h3,h2⟩
 ·rintro ⟨x,hx,rfl⟩;exact hM hx
theorem fG {l:List aj}(h:cj l){t:Int}:t∈aY l ↔ ∃w∈l,w.ah=t:=by
 unfold aY
 rw [pQ h]
 show t∈gv l 999↔_
 rw [(iL l 999).2]
 simp only [hasT?,List.any_eq_true,beq_iff_eq]
 constructor
 ·rintro ⟨_,_,w,hw,e⟩;exact ⟨w,hw,e⟩
 ·
  rintro ⟨w,hw,e⟩
  have:=h.mem hw
  have h1:=this.Ai;have h2:=this.A9
  exact ⟨by omega,by omega,w,hw,e⟩
structure Pre (r:ap):Prop where
  tree:cj r.ai
  good:Good r.Held
  ly:∀w∈r.ai,w.ID<r.ae
  jV:1≤r.ae
  kP:r.ae≤1000
  jY:1≤r.af
  jZ:r.af≤1000
  eZ:r.Things.Pairwise (fun a b=>a.ID<b.ID)
  nG:∀t∈r.Things,1≤t.ID∧t.ID<r.af
  fH:∀t∈r.Things,t.Kind=1∨t.Kind=2
  fI:∀t∈r.Things,t.Data.size≤8∧(t.Kind=2→t.Data=⟨#[]⟩)
  fN:r.Things.length≤10
  thing:∀w∈r.ai,∃t∈r.Things,t.ID=w.ah
  port:∀n∈r.Notes,∃t∈r.Things,t.ID=n.Port∧t.Kind=2
  f9:∀n∈r.Notes,n.Data.size≤8∧0≤n.aG∧n.aG≤99
  wait:∀q,ey r.Notes q≤3
  fJ:∀n∈r.Notes,0≤n.aj
  once:∀w∈r.ai,cH r.Held w.ID+cN r.Notes w.ID=1
structure Inv (r:ap):Prop extends Pre r where
  e5:∀n∈r.Notes,0<n.aj → ∃w∈r.ai,w.ID=n.aj
  dz:∀h∈r.Held,∃w∈r.ai,w.ID=h.aj
  used:∀t∈r.Things,∃w∈r.ai,w.ah=t.ID
theorem Inv.new:Inv newR:=by
 refine { tree:=rfl,good:=jI List.Pairwise.nil (fun x hx=>by cases hx),ly:=?_,jV:=by decide,kP:=by decide,jY:=by decide,jZ:=by decide,eZ:=List.Pairwise.nil,nG:=?_,fH:=?_,fI:=?_,fN:=by decide,thing:=?_,port:=?_,f9:=?_,wait:=fun q=>by simp [ey,newR],fJ:=?_,once:=?_,e5:=?_,dz:=?_,used:=?_ } <;> intro x hx <;> cases hx
theorem Pre.ri {r:ap}(h:Pre r):∀w∈r.ai,0≤w.Rights∧w.Rights≤7:=fun w hw=>⟨(h.tree.mem hw).xD,(h.tree.mem hw).xE⟩
theorem pU:∀ (ids:List Int) (l:List aj),cj l→cj (ids.foldl without l)
 | [],l,h=>h
 | i::ids,l,h=>pU ids _ (h.wo i)
structure Like (y x:aj):Prop where
  id:y.ID=x.ID
  th:y.ah=x.ah
  ri:y.Rights=x.Rights
  ba:y.aG=x.aG
theorem Like.refl (x:aj):Like x x:=⟨rfl,rfl,rfl,rfl⟩
theorem Like.trans {x y z:aj}(h:Like x y)(k:Like y z):Like x z:=⟨h.id.trans k.id,h.th.trans k.th,h.ri.trans k.ri,h.ba.trans k.ba⟩
theorem Like.symm {x y:aj}(h:Like x y):Like y x:=⟨h.id.symm,h.th.symm,h.ri.symm,h.ba.symm⟩
theorem nH (id f:Int)(x:aj):Like (iD id f x) x:=by have:=gu (id:=id) (f:=f) x;exact ⟨this.1,this.2.1,this.2.2.1,this.2.2.2⟩
theorem rL:∀ (ids:List Int) (l:List aj) (w:aj),w∈ids.foldl without l→(∃y∈l,Like w y)∧¬ w.ID∈ids
 | [],l,w,h=>⟨⟨w,h,Like.refl w⟩,fun h=>by cases h⟩
 | i::ids,l,w,h=>by
  obtain ⟨⟨y,hy,hl⟩,hn⟩:=rL ids (without l i) w h
  obtain ⟨z,hz,hne,rfl⟩:=eJ.1 hy
  refine ⟨⟨z,hz,hl.trans (nH _ _ z)⟩,fun hm=>?_⟩
  rcases List.mem_cons.1 hm with e|hm
  ·exact hne (by rw [← e,hl.id,(gu z).1])
  ·exact hn hm
theorem fW (ws:List aj)(n:Note):(fP ws n).Port=n.Port∧(fP ws n).Data=n.Data∧(fP ws n).aG=n.aG∧((fP ws n).aj=n.aj∧0≤bL ws n.aj∨(fP ws n).aj=0):=by
 unfold fP;split
 ·exact ⟨rfl,rfl,rfl,.inr rfl⟩
 ·exact ⟨rfl,rfl,rfl,.inl ⟨rfl,by omega⟩⟩
theorem rM {ws:List aj}{ts:List Int}{ns:List Note}{n:Note}:n∈e9 ws ts ns ↔ ∃m∈ns,n=fP ws m∧m.Port∈ts:=by
 unfold e9
 rw [List.mem_filter,List.mem_map]
 constructor
 ·
  rintro ⟨⟨m,hm,rfl⟩,hp⟩
  exact ⟨m,hm,rfl,by have:=of_decide_eq_true hp;rwa [(fW ws m).1] at this⟩
 ·
  rintro ⟨m,hm,rfl,hp⟩
  exact ⟨⟨m,hm,rfl⟩,decide_eq_true (by rw [(fW ws m).1];exact hp)⟩
theorem rN {ws:List aj}{ts:List Int}{ns:List Note}{j:Int}:j∈gA ws ts ns ↔ ∃m∈ns,j=(fP ws m).aj∧¬ m.Port∈ts∧0<j:=by
 unfold gA
 rw [List.mem_map]
 constructor
 ·
  rintro ⟨n,hn,rfl⟩
  obtain ⟨h1,h2⟩:=List.mem_filter.1 hn
  obtain ⟨m,hm,rfl⟩:=List.mem_map.1 h1
  simp only [Bool.and_eq_true,Bool.not_eq_true',decide_eq_false_iff_not,decide_eq_true_eq] at h2
  exact ⟨m,hm,rfl,by rw [← (fW ws m).1];exact h2.1,h2.2⟩
 ·
  rintro ⟨m,hm,rfl,hp,h0⟩
  refine ⟨fP ws m,List.mem_filter.2 ⟨List.mem_map.2 ⟨m,hm,rfl⟩,?_⟩,rfl⟩
  simp only [Bool.and_eq_true,Bool.not_eq_true',decide_eq_false_iff_not,decide_eq_true_eq]
  exact ⟨by rw [(fW ws m).1];exact hp,h0⟩
theorem mK (ws:List aj)(ts:List Int)(m:Note)(ns:List Note):e9 ws ts (m::ns)=if m.Port∈ts then fP ws m::e9 ws ts ns else e9 ws ts ns:=by
 unfold e9
 rw [List.map_cons,List.filter_cons,(fW ws m).1]
 by_cases h:m.Port∈ts
 ·rw [if_pos (decide_eq_true h),if_pos h]
 ·rw [if_neg (by simpa using h),if_neg h]
theorem oM {ws:List aj}{ts:List Int}{j:Int}(hj:0≤bL ws j)(h0:0<j):∀ (ns:List Note),(∀n∈ns,n.aj=j→n.Port∈ts)→cN (e9 ws ts ns) j=cN ns j
 | [],_=>rfl
 | m::ns,hl=>by
  have ih:=oM hj h0 ns (fun n hn=>hl n (List.mem_cons_of_mem _ hn))
  have hf:=fW ws m
  rw [mK]
  unfold cN at ih ⊢
  by_cases e:m.aj=j
  ·
   have hfm:(fP ws m).aj=j:=by
    rcases hf.2.2.2 with ⟨h1,_⟩ | h1
    ·omega
    ·unfold fP at h1 ⊢;rw [if_neg (by rw [e];omega)];exact e
   rw [if_pos (hl m (List.mem_cons_self ..) e),List.countP_cons,List.countP_cons,if_pos (by simpa using hfm),if_pos (by simpa using e),ih]
  ·
   have hfm:¬ (fP ws m).aj=j:=by rcases hf.2.2.2 with ⟨h1,_⟩ | h1 <;> omega
   split
   ·rw [List.countP_cons,List.countP_cons,if_neg (by simpa using hfm),if_neg (by simpa using e),ih]
   ·rw [List.countP_cons,if_neg (by simpa using e),ih];rfl
theorem pV (ws:List aj)(ts:List Int)(q:Int):∀ (ns:List Note),ey (e9 ws ts ns) q≤ey ns q
 | []=>Nat.le_refl _
 | m::ns=>by
  have ih:=pV ws ts q ns
  have hf:=fW ws m
  rw [mK]
  unfold ey at ih ⊢
  have e:(fP ws m).Port=m.Port:=hf.1
  split
  ·rw [List.filter_cons,List.filter_cons,e];split <;> simp <;> omega
  ·rw [List.filter_cons];split <;> simp <;> omega
def sw (r:ap)(ids:List Int):ap:=⟨ids.foldl without r.ai,(ew r).Things,(ew r).Held,(ew r).Notes,r.ae,r.af⟩
theorem kK {r:ap}{t:ah}:t∈(ew r).Things↔t∈r.Things∧t.ID∈aY r.ai:=by
 show t∈r.Things.filter _↔_
 rw [List.mem_filter];simp
theorem yB {r:ap}{h:Held}:h∈(ew r).Held↔h∈r.Held ∧ ∃w∈r.ai,w.ID=h.aj:=by
 show h∈r.Held.filter _↔_
 rw [List.mem_filter,← gE];simp
theorem Pre.sw {r:ap}(h:Pre r){ids:List Int}(hl:∀j∈jU r,j∈ids):Pre (YtbkfhjaibhnkmaaGreatDoor.sw r ids):=by
 have hsub:∀w∈ids.foldl without r.ai,(∃y∈r.ai,Like w y)∧¬ w.ID∈ids:=fun w hw=>rL ids r.ai w hw
 have pW:∀n∈(ew r).Notes,∃m∈r.Notes,n=fP r.ai m∧m.Port∈aY r.ai:=fun n hn=>rM.1 hn
 refine { tree:=pU ids _ h.tree,good:=rK _ h.good,ly:=?_,jV:=h.jV,kP:=h.kP,jY:=h.jY,jZ:=h.jZ,eZ:=h.eZ.filter _,nG:=fun t ht=>h.nG t (kK.1 ht).1,fH:=fun t ht=>h.fH t (kK.1 ht).1,fI:=fun t ht=>h.fI t (kK.1 ht).1,fN:=Nat.le_trans (List.length_filter_le _ _) h.fN,thing:=?_,port:=?_,f9:=?_,wait:=fun q=>Nat.le_trans (pV _ _ q _) (h.wait q),fJ:=?_,once:=?_ }
 ·
  intro w hw
  obtain ⟨⟨y,hy,hk⟩,_⟩:=hsub w hw
  rw [hk.id];exact h.ly y hy
 ·
  intro w hw
  obtain ⟨⟨y,hy,hk⟩,_⟩:=hsub w hw
  obtain ⟨t,ht,e⟩:=h.thing y hy
  exact ⟨t,kK.2 ⟨ht,(fG h.tree).2 ⟨y,hy,e.symm⟩⟩,by rw [e,hk.th]⟩
 ·
  intro n hn
  obtain ⟨m,hm,rfl,hp⟩:=pW n hn
  obtain ⟨t,ht,e,hk⟩:=h.port m hm
  exact ⟨t,kK.2 ⟨ht,by rw [e];exact hp⟩,by rw [(fW _ m).1];exact e,hk⟩
 ·
  intro n hn
  obtain ⟨m,hm,rfl,hp⟩:=pW n hn
  rw [(fW _ m).2.1,(fW _ m).2.2.1];exact h.f9 m hm
 ·
  intro n hn
  obtain ⟨m,hm,rfl,hp⟩:=pW n hn
  have:=h.fJ m hm
  rcases (fW r.ai m).2.2.2 with ⟨e,_⟩ | e <;> omega
 ·
  intro w hw
  obtain ⟨⟨y,hy,hk⟩,hn⟩:=hsub w hw
  have Et:0≤bL r.ai w.ID:=gE.2 ⟨y,hy,hk.id.symm⟩
  have h0:0<w.ID:=by have:=(h.tree.mem hy).id1;rw [hk.id];omega
  have h1:cH (ew r).Held w.ID=cH r.Held w.ID:=by
   show List.countP _ (r.Held.filter _)=List.countP _ r.Held
   rw [List.countP_filter]
   refine List.countP_congr fun x _=>?_
   simp only [Bool.and_eq_true,beq_iff_eq,Bool.not_eq_true',decide_eq_false_iff_not]
   exact ⟨fun h=>h.1,fun e=>⟨e,by rw [e];omega⟩⟩
  have h2:cN (ew r).Notes w.ID=cN r.Notes w.ID:=oM Et h0 r.Notes (fun n hnn e=>by
   by_cases hp:n.Port∈aY r.ai
   ·exact hp
   ·
    refine absurd (hl w.ID (rN.2 ⟨n,hnn,?_,hp,h0⟩)) hn
    rw [fP,if_neg (by rw [e];omega)];exact e.symm)
  show cH (ew r).Held w.ID+cN (ew r).Notes w.ID=1
  rw [h1,h2,hk.id];exact h.once y hy
theorem sY {r:ap}(h:Pre r)(hl:(jU r).length=0):Inv (ew r):=by
 have h1:Pre (ew r):=h.sw (ids:=[]) (fun j hj=>by rw [List.length_eq_zero_iff.1 hl] at hj;exact hj)
 refine { toPre:=h1,e5:=?_,dz:=fun x hx=>(yB.1 hx).2,used:=fun t ht=>(fG h.tree).1 (kK.1 ht).2 }
 intro n hn h0
 obtain ⟨m,hm,rfl,hp⟩:=rM.1 hn
 rcases (fW r.ai m).2.2.2 with ⟨e,hf⟩ | e
 ·rw [e];exact gE.1 hf
 ·omega
theorem ni:∀ (n:Nat) (r:ap),r.Notes.length<n→Pre r→Inv (gw n r)
 | 0,r,h,_=>by omega
 | n+1,r,h,hp=>by
  unfold gw;split
  ·exact sY hp (by assumption)
  ·
   have:=jE (r:=r) (by assumption)
   exact ni n _ (by omega) (hp.sw (ids:=jU r) (fun j hj=>hj))
theorem mL {r:ap}(h:Pre r):Inv (bq r):=ni _ r (Nat.lt_succ_self _) h
end Go.Proofs.YtbkfhjaibhnkmaaGreatDoor
end
