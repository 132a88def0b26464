import Derived.Shelf.SlGeneric
import Derived.Shelf.SlSortCmp.WholeK
import Derived.Shelf.SlSortCmp.NoneTotal
import Derived.Ground.SlsfProg
import Derived.Test.YtbkfhjaibhnkmaaGreatDoorProg
import Derived.Test.YtbkfhjaibhnkmaaGreatDoorIMS31
section
namespace Go.Proofs
open Go.Shelf
def Tryz.laysSF_ren:Go.Shelf.Ren:=⟨fun|6=>59|15=>105|14=>104|28=>141|29=>142|20=>133|21=>134|22=>135|23=>136|24=>137|25=>138|26=>139|27=>140|46=>169|47=>170|48=>171|49=>172|50=>173|57=>192|n=>n,fun|22=>23|24=>52|25=>100|3=>3|39=>138|0=>0|53=>176|55=>40|4=>4|46=>170|45=>169|50=>97|5=>5|9=>9|66=>198|70=>202|76=>222|77=>223|n=>n,fun|n=>n⟩
theorem Tryz.laysSF:Go.Proofs.SlLaysF0.n6 Tryz.prog Tryz.laysSF_ren:={
 mixed:=by kernel_rfl
 f6:=⟨Tryz.f59.name,by decide,Tryz.func59.trans (congrArg some (by kernel_rfl))⟩
 f14:=⟨Tryz.f104.name,by decide,Tryz.func104.trans (congrArg some (by kernel_rfl))⟩
 f15:=Tryz.func105.trans (congrArg some (by kernel_rfl))
 f20:=⟨Tryz.f133.name,by decide,Tryz.func133.trans (congrArg some (by kernel_rfl))⟩
 f21:=⟨Tryz.f134.name,by decide,Tryz.func134.trans (congrArg some (by kernel_rfl))⟩
 f22:=⟨Tryz.f135.name,by decide,Tryz.func135.trans (congrArg some (by kernel_rfl))⟩
 f23:=⟨Tryz.f136.name,by decide,Tryz.func136.trans (congrArg some (by kernel_rfl))⟩
 f24:=⟨Tryz.f137.name,by decide,Tryz.func137.trans (congrArg some (by kernel_rfl))⟩
 f25:=⟨Tryz.f138.name,by decide,Tryz.func138.trans (congrArg some (by kernel_rfl))⟩
 f26:=⟨Tryz.f139.name,by decide,Tryz.func139.trans (congrArg some (by kernel_rfl))⟩
 f27:=⟨Tryz.f140.name,by decide,Tryz.func140.trans (congrArg some (by kernel_rfl))⟩
 f28:=Tryz.func141.trans (congrArg some (by kernel_rfl))
 f29:=Tryz.func142.trans (congrArg some (by kernel_rfl))
 f46:=⟨Tryz.f169.name,by decide,Tryz.func169.trans (congrArg some (by kernel_rfl))⟩
 f47:=Tryz.func170.trans (congrArg some (by kernel_rfl))
 f48:=Tryz.func171.trans (congrArg some (by kernel_rfl))
 f49:=⟨Tryz.f172.name,by decide,Tryz.func172.trans (congrArg some (by kernel_rfl))⟩
 f50:=⟨Tryz.f173.name,by decide,Tryz.func173.trans (congrArg some (by kernel_rfl))⟩
 f57:=⟨Tryz.f192.name,by decide,Tryz.func192.trans (congrArg some (by kernel_rfl))⟩
 t0:=Tryz.underlying0
 a0:=Tryz.isAgg0
 z0:=Tryz.sizeOf0
 v0:=Tryz.zeroValue0
 t3:=Tryz.underlying3
 a3:=Tryz.isAgg3
 z3:=Tryz.sizeOf3
 v3:=Tryz.zeroValue3
 t4:=Tryz.underlying4
 a4:=Tryz.isAgg4
 z4:=Tryz.sizeOf4
 v4:=Tryz.zeroValue4
 t5:=Tryz.underlying5
 a5:=Tryz.isAgg5
 z5:=Tryz.sizeOf5
 v5:=Tryz.zeroValue5
 t9:=Tryz.underlying9
 a9:=Tryz.isAgg9
 z9:=Tryz.sizeOf9
 v9:=Tryz.zeroValue9
 t22:=Tryz.underlying23
 a22:=Tryz.isAgg23
 z22:=Tryz.sizeOf23
 v22:=Tryz.zeroValue23
 t25:=Tryz.underlying100
 a25:=Tryz.isAgg100
 z25:=Tryz.sizeOf100
 v25:=Tryz.zeroValue100
 t39:=Tryz.underlying138
 a39:=Tryz.isAgg138
 z39:=Tryz.sizeOf138
 v39:=Tryz.zeroValue138
 t45:=Tryz.underlying169
 a45:=Tryz.isAgg169
 z45:=Tryz.sizeOf169
 v45:=Tryz.zeroValue169
 t46:=Tryz.underlying170
 a46:=Tryz.isAgg170
 z46:=Tryz.sizeOf170
 v46:=Tryz.zeroValue170
 t50:=Tryz.underlying97
 a50:=Tryz.isAgg97
 z50:=Tryz.sizeOf97
 v50:=Tryz.zeroValue97
 t53:=Tryz.underlying176
 a53:=Tryz.isAgg176
 z53:=Tryz.sizeOf176
 v53:=Tryz.zeroValue176
 t55:=Tryz.underlying40
 a55:=Tryz.isAgg40
 z55:=Tryz.sizeOf40
 v55:=Tryz.zeroValue40
 t66:=Tryz.underlying198
 a66:=Tryz.isAgg198
 z66:=Tryz.sizeOf198
 v66:=Tryz.zeroValue198
 t70:=Tryz.underlying202
 a70:=Tryz.isAgg202
 z70:=Tryz.sizeOf202
 v70:=Tryz.zeroValue202
 t76:=Tryz.underlying222
 a76:=Tryz.isAgg222
 z76:=Tryz.sizeOf222
 v76:=Tryz.zeroValue222
 t77:=Tryz.underlying223
 a77:=Tryz.isAgg223
 z77:=Tryz.sizeOf223
 v77:=Tryz.zeroValue223 }
end Go.Proofs
end
section
namespace Go.Proofs.YtbkfhjaibhnkmaaGreatDoor
set_option linter.unusedVariables false
set_option linter.unusedSimpArgs false
def qb (k:ByteArray):Change:=⟨k,⟨#[]⟩,true⟩
def sh (a b:List Change):List Change:=(a.filter (fun c => !mR (fK c.Key) b)).map (fun c=>qb c.Key)
def wE (a b:List Change):List Change:=b.filter (fun c => !mR (fK c.Key) a || !decide (a[mQ (fK c.Key) a]? = some c))
def oS (a b:List Change):List Change:=sh a b++wE a b
def cG:List Change→List Change→List Change
  | [],b=>b
  | x::a,[]=>qb x.Key::cG a []
  | x::a,y::b=>if fS x.Key y.Key=true then qb x.Key::cG a (y::b) else if fS y.Key x.Key=true then y::cG (x::a) b else if x=y then cG a b else y::cG a b
termination_by a b=>a.length+b.length
decreasing_by all_goals (simp only [List.length_cons];omega)
theorem m7 (b:List Change):cG [] b=b:=by rw [cG]
theorem tH (x:Change)(a:List Change):cG (x::a) []=qb x.Key::cG a []:=by rw [cG]
theorem jU (x y:Change)(a b:List Change):cG (x::a) (y::b)=if fS x.Key y.Key=true then qb x.Key::cG a (y::b) else if fS y.Key x.Key=true then y::cG (x::a) b else if x=y then cG a b else y::cG a b:=by rw [cG]
theorem yW {l:List Change}(h:dY l)(k:ByteArray):mR (fK k) l=true ↔ ∃x∈l,x.Key=k:=by
 rcases dY.cut h k with ⟨A,B,x,e,hx,ha,hb⟩ | ⟨A,B,e,ha,hb⟩
 ·rw [e,(BS hx ha hb).2];exact ⟨fun _=>⟨x,by simp,hx⟩,fun _=>rfl⟩
 ·
  rw [e,(DJ ha hb).2]
  refine ⟨fun q=>(by cases q),fun ⟨x,hx,hk⟩=>?_⟩
  rcases List.mem_append.1 hx with q|q
  ·have:=ha x q;rw [hk,eR] at this;cases this
  ·have:=hb x q;rw [hk,eR] at this;cases this
theorem zV {l:List Change}(h:dY l){x y:Change}(hx:x∈l)(hy:y∈l)(e:x.Key=y.Key):x=y:=by
 rcases dY.cut h x.Key with ⟨A,B,z,e1,hz,ha,hb⟩ | ⟨A,B,e1,ha,hb⟩
 ·
  have key:∀w∈l,w.Key=x.Key→w=z:=fun w hw hk=>by
   rw [e1] at hw
   rcases List.mem_append.1 hw with q|q
   ·have:=ha w q;rw [hk,eR] at this;cases this
   ·
    rcases List.mem_cons.1 q with q|q
    ·exact q
    ·have:=hb w q;rw [hk,eR] at this;cases this
  rw [key x hx rfl,key y hy e.symm]
 ·
  rw [e1] at hx
  rcases List.mem_append.1 hx with q|q
  ·have:=ha x q;rw [eR] at this;cases this
  ·have:=hb x q;rw [eR] at this;cases this
theorem CB {l:List Change}(h:dY l){c:Change}:(mR (fK c.Key) l=true∧l[mQ (fK c.Key) l]? = some c)↔c∈l:=by
 constructor
 ·rintro ⟨_,h2⟩;exact List.mem_of_getElem? h2
 ·
  intro hc
  rcases dY.cut h c.Key with ⟨A,B,z,e1,hz,ha,hb⟩ | ⟨A,B,e1,ha,hb⟩
  ·
   have hk:=BS hz ha hb
   have e2:z=c:=zV h (by rw [e1];simp) hc hz
   rw [e1,hk.1,hk.2]
   refine ⟨rfl,?_⟩
   rw [List.getElem?_append_right (Nat.le_refl _),Nat.sub_self,e2];rfl
  ·
   rw [e1] at hc
   rcases List.mem_append.1 hc with q|q
   ·have:=ha c q;rw [eR] at this;cases this
   ·have:=hb c q;rw [eR] at this;cases this
def Gn (a b:List Change)(x:Change):Prop:=(∃c∈a,(∀y∈b,y.Key≠c.Key)∧x=qb c.Key)∨(x∈b∧¬ x∈a)
theorem wF {a b:List Change}(hb:dY b){x:Change}:x∈sh a b ↔ ∃c∈a,(∀y∈b,y.Key≠c.Key)∧x=qb c.Key:=by
 unfold sh
 rw [List.mem_map]
 constructor
 ·
  rintro ⟨c,hc,rfl⟩
  obtain ⟨h1,h2⟩:=List.mem_filter.1 hc
  refine ⟨c,h1,fun y hy e=>?_,rfl⟩
  rw [(yW hb c.Key).2 ⟨y,hy,e⟩] at h2;cases h2
 ·
  rintro ⟨c,hc,hn,rfl⟩
  refine ⟨c,List.mem_filter.2 ⟨hc,?_⟩,rfl⟩
  cases hq:mR (fK c.Key) b with
  | false=>rfl
  | true=>obtain ⟨y,hy,e⟩:=(yW hb c.Key).1 hq;exact absurd e (hn y hy)
theorem wG {a b:List Change}(ha:dY a){x:Change}:x∈wE a b↔x∈b∧¬ x∈a:=by
 unfold wE
 rw [List.mem_filter,← CB ha (c:=x)]
 refine and_congr_right fun _=>?_
 cases mR (fK x.Key) a <;> simp
theorem CC {a b:List Change}(ha:dY a)(hb:dY b){x:Change}:x∈oS a b↔Gn a b x:=by
 unfold oS Gn;rw [List.mem_append,wF hb,wG ha]
theorem hX:∀ (n:Nat) (a b:List Change),a.length+b.length≤n→dY a→dY b→(∀x,x∈cG a b↔Gn a b x)∧dY (cG a b)
 | n,[],b,_,_,hb=>by
  rw [m7]
  refine ⟨fun x=>⟨fun h => .inr ⟨h,fun q=>by cases q⟩,?_⟩,hb⟩
  rintro (⟨c,hc,_⟩ | ⟨h,_⟩)
  ·cases hc
  ·exact h
 | 0,x::a,b,h,_,_=>by simp at h
 | n+1,x::a,[],hn,ha,hb=>by
  obtain ⟨a1,a2⟩:=List.pairwise_cons.1 ha
  obtain ⟨i1,i2⟩:=hX n a [] (by simp only [List.length_cons] at hn;omega) a2 hb
  rw [tH]
  refine ⟨fun z=>?_,List.pairwise_cons.2 ⟨fun z hz=>?_,i2⟩⟩
  ·
   rw [List.mem_cons,i1 z]
   constructor
   ·
    rintro (rfl|⟨c,hc,hh,rfl⟩ | ⟨h,_⟩)
    ·exact .inl ⟨x,List.mem_cons_self ..,(fun y hy=>by cases hy),rfl⟩
    ·exact .inl ⟨c,List.mem_cons_of_mem _ hc,hh,rfl⟩
    ·cases h
   ·
    rintro (⟨c,hc,hh,rfl⟩ | ⟨h,_⟩)
    ·
     rcases List.mem_cons.1 hc with rfl|hc
     ·exact .inl rfl
     ·exact .inr (.inl ⟨c,hc,hh,rfl⟩)
    ·cases h
  ·
   rcases (i1 z).1 hz with ⟨c,hc,_,rfl⟩ | ⟨h,_⟩
   ·exact a1 c hc
   ·cases h
 | n+1,x::a,y::b,hn,ha,hb=>by
  obtain ⟨a1,a2⟩:=List.pairwise_cons.1 ha
  obtain ⟨b1,b2⟩:=List.pairwise_cons.1 hb
  simp only [List.length_cons] at hn
  have ne_of:∀ {u v:ByteArray},fS u v=true→u≠v:=fun h e=>by rw [e,eR] at h;cases h
  rw [jU]
  by_cases c1:fS x.Key y.Key=true
  ·
   rw [if_pos c1]
   obtain ⟨i1,i2⟩:=hX n a (y::b) (by simp only [List.length_cons];omega) a2 hb
   have hxb:∀z∈y::b,fS x.Key z.Key=true:=fun z hz=>by
    rcases List.mem_cons.1 hz with rfl|hz
    ·exact c1
    ·exact hN c1 (b1 z hz)
   refine ⟨fun z=>?_,List.pairwise_cons.2 ⟨fun z hz=>?_,i2⟩⟩
   ·
    rw [List.mem_cons,i1 z]
    constructor
    ·
     rintro (rfl|⟨c,hc,hh,rfl⟩ | ⟨h,h'⟩)
     ·exact .inl ⟨x,List.mem_cons_self ..,(fun z hz e=>ne_of (hxb z hz) e.symm),rfl⟩
     ·exact .inl ⟨c,List.mem_cons_of_mem _ hc,hh,rfl⟩
     ·exact .inr ⟨h,fun q=>by
       rcases List.mem_cons.1 q with q|q
       ·exact ne_of (hxb z h) (by rw [q])
       ·exact h' q⟩
    ·
     rintro (⟨c,hc,hh,rfl⟩ | ⟨h,h'⟩)
     ·
      rcases List.mem_cons.1 hc with rfl|hc
      ·exact .inl rfl
      ·exact .inr (.inl ⟨c,hc,hh,rfl⟩)
     ·exact .inr (.inr ⟨h,fun q=>h' (List.mem_cons_of_mem _ q)⟩)
   ·
    rcases (i1 z).1 hz with ⟨c,hc,_,rfl⟩ | ⟨h,_⟩
    ·exact a1 c hc
    ·exact hxb z h
  ·
   rw [if_neg c1]
   by_cases c2:fS y.Key x.Key=true
   ·
    rw [if_pos c2]
    obtain ⟨i1,i2⟩:=hX n (x::a) b (by simp only [List.length_cons];omega) ha b2
    have hya:∀z∈x::a,fS y.Key z.Key=true:=fun z hz=>by
     rcases List.mem_cons.1 hz with rfl|hz
     ·exact c2
     ·exact hN c2 (a1 z hz)
    refine ⟨fun z=>?_,List.pairwise_cons.2 ⟨fun z hz=>?_,i2⟩⟩
    ·
     rw [List.mem_cons,i1 z]
     constructor
     ·
      rintro (rfl|⟨c,hc,hh,rfl⟩ | ⟨h,h'⟩)
      ·exact .inr ⟨List.mem_cons_self ..,fun q=>ne_of (hya z q) rfl⟩
      ·exact .inl ⟨c,hc,(fun w hw=>by
        rcases List.mem_cons.1 hw with rfl|hw
        ·exact ne_of (hya c hc)
        ·exact hh w hw),rfl⟩
      ·exact .inr ⟨List.mem_cons_of_mem _ h,h'⟩
     ·
      rintro (⟨c,hc,hh,rfl⟩ | ⟨h,h'⟩)
      ·exact .inr (.inl ⟨c,hc,(fun w hw=>hh w (List.mem_cons_of_mem _ hw)),rfl⟩)
      ·
       rcases List.mem_cons.1 h with rfl|h
       ·exact .inl rfl
       ·exact .inr (.inr ⟨h,h'⟩)
    ·
     rcases (i1 z).1 hz with ⟨c,hc,_,rfl⟩ | ⟨h,_⟩
     ·exact hya c hc
     ·exact b1 z h
   ·
    rw [if_neg c2]
    have e:x.Key=y.Key:=by
     rcases m6 x.Key y.Key with q|q|q
     ·exact absurd q c1
     ·exact q
     ·exact absurd q c2
    obtain ⟨i1,i2⟩:=hX n a b (by omega) a2 b2
    have hz0:∀z∈cG a b,fS y.Key z.Key=true:=fun z hz=>by
     rcases (i1 z).1 hz with ⟨c,hc,_,rfl⟩ | ⟨h,_⟩
     ·rw [← e];exact a1 c hc
     ·exact b1 z h
    have hgen:∀z,Gn (x::a) (y::b) z↔(z=y∧x≠y)∨Gn a b z:=fun z=>by
     constructor
     ·
      rintro (⟨c,hc,hh,rfl⟩ | ⟨h,h'⟩)
      ·
       rcases List.mem_cons.1 hc with rfl|hc
       ·exact absurd e.symm (hh y (List.mem_cons_self ..))
       ·exact .inr (.inl ⟨c,hc,(fun w hw=>hh w (List.mem_cons_of_mem _ hw)),rfl⟩)
      ·
       rcases List.mem_cons.1 h with rfl|h
       ·exact .inl ⟨rfl,fun q=>h' (q▸List.mem_cons_self ..)⟩
       ·exact .inr (.inr ⟨h,fun q=>h' (List.mem_cons_of_mem _ q)⟩)
     ·
      rintro (⟨rfl,hne⟩ | ⟨c,hc,hh,rfl⟩ | ⟨h,h'⟩)
      ·
       refine .inr ⟨List.mem_cons_self ..,fun q=>?_⟩
       rcases List.mem_cons.1 q with q|q
       ·exact hne q.symm
       ·exact ne_of (a1 z q) e
      ·
       refine .inl ⟨c,List.mem_cons_of_mem _ hc,fun w hw=>?_,rfl⟩
       rcases List.mem_cons.1 hw with rfl|hw
       ·rw [← e];exact ne_of (a1 c hc)
       ·exact hh w hw
      ·
       refine .inr ⟨List.mem_cons_of_mem _ h,fun q=>?_⟩
       rcases List.mem_cons.1 q with q|q
       ·subst q;exact ne_of (b1 z h) e.symm
       ·exact h' q
    by_cases c3:x=y
    ·
     rw [if_pos c3]
     exact ⟨fun z=>(i1 z).trans ⟨fun q=>(hgen z).2 (.inr q),fun q=>((hgen z).1 q).elim (fun r=>absurd c3 r.2) id⟩,i2⟩
    ·
     rw [if_neg c3]
     refine ⟨fun z=>?_,List.pairwise_cons.2 ⟨hz0,i2⟩⟩
     rw [List.mem_cons,hgen z,i1 z]
     exact or_congr_left ⟨fun q=>⟨q,c3⟩,fun q=>q.1⟩
theorem mem_merge {a b:List Change}(ha:dY a)(hb:dY b){x:Change}:x∈cG a b↔Gn a b x:=(hX _ a b (Nat.le_refl _) ha hb).1 x
theorem xP {a b:List Change}(ha:dY a)(hb:dY b):dY (cG a b):=(hX _ a b (Nat.le_refl _) ha hb).2
abbrev Apart (l:List Change):Prop:=l.Pairwise (fun x y=>x.Key≠y.Key)
theorem si {l:List Change}(h:dY l):Apart l:=List.Pairwise.imp (fun q e=>by rw [e,eR] at q;cases q) h
theorem zW {a b:List Change}(ha:dY a)(hb:dY b):Apart (oS a b):=by
 unfold oS
 refine List.pairwise_append.2 ⟨?_,(si hb).filter _,?_⟩
 ·
  unfold sh
  exact List.pairwise_map.2 ((si ha).filter _)
 ·
  intro x hx y hy e
  obtain ⟨c,hc,hn,rfl⟩:=(wF hb).1 hx
  exact hn y ((wG ha).1 hy).1 e.symm
theorem xQ {a b d:List Change}(ha:dY a)(hb:dY b)(hp:d.Perm (oS a b))(hs:d.Pairwise (fun x y => ¬ fS y.Key x.Key=true)):d=cG a b:=by
 have h1:Apart d:=hp.symm.pairwise (zW ha hb) (fun q e=>q e.symm)
 have h2:dY d:=by
  refine List.Pairwise.imp ?_ (hs.and h1)
  rintro x y ⟨q1,q2⟩
  rcases m6 x.Key y.Key with q|q|q
  ·exact q
  ·exact absurd q q2
  ·exact absurd q q1
 exact tw d _ h2 (xP ha hb) fun x=>by rw [hp.mem_iff,CC ha hb,mem_merge ha hb]
end Go.Proofs.YtbkfhjaibhnkmaaGreatDoor
end
