import Derived.Test.YtkbhcbipadkcaaaGreatDoorTS26
import Derived.Shelf.SlGeneric
import Derived.Shelf.SlSortCmp.WholeK
import Derived.Shelf.SlSortCmp.NoneTotal
import Derived.Ground.SlsfProg
import Derived.Sort.OwnSorted
section
namespace Go.Proofs
open Go.Shelf
def Tryz.laysSF_ren:Go.Shelf.Ren:=⟨fun|6=>160|15=>190|14=>189|28=>215|29=>216|20=>207|21=>208|22=>209|23=>210|24=>211|25=>212|26=>213|27=>214|46=>241|47=>242|48=>243|49=>244|50=>245|57=>259|n=>n,fun|22=>34|24=>117|25=>219|3=>3|39=>188|0=>0|53=>232|55=>33|4=>4|46=>257|45=>256|50=>205|5=>5|9=>9|66=>282|70=>286|76=>302|77=>303|n=>n,fun|n=>n⟩
theorem Tryz.laysSF:Go.Proofs.SlLaysF0.n6 Tryz.prog Tryz.laysSF_ren:={
 mixed:=by kernel_rfl
 f6:=⟨Tryz.f160.name,by decide,Tryz.func160.trans (congrArg some (by kernel_rfl))⟩
 f14:=⟨Tryz.f189.name,by decide,Tryz.func189.trans (congrArg some (by kernel_rfl))⟩
 f15:=Tryz.func190.trans (congrArg some (by kernel_rfl))
 f20:=⟨Tryz.f207.name,by decide,Tryz.func207.trans (congrArg some (by kernel_rfl))⟩
 f21:=⟨Tryz.f208.name,by decide,Tryz.func208.trans (congrArg some (by kernel_rfl))⟩
 f22:=⟨Tryz.f209.name,by decide,Tryz.func209.trans (congrArg some (by kernel_rfl))⟩
 f23:=⟨Tryz.f210.name,by decide,Tryz.func210.trans (congrArg some (by kernel_rfl))⟩
 f24:=⟨Tryz.f211.name,by decide,Tryz.func211.trans (congrArg some (by kernel_rfl))⟩
 f25:=⟨Tryz.f212.name,by decide,Tryz.func212.trans (congrArg some (by kernel_rfl))⟩
 f26:=⟨Tryz.f213.name,by decide,Tryz.func213.trans (congrArg some (by kernel_rfl))⟩
 f27:=⟨Tryz.f214.name,by decide,Tryz.func214.trans (congrArg some (by kernel_rfl))⟩
 f28:=Tryz.func215.trans (congrArg some (by kernel_rfl))
 f29:=Tryz.func216.trans (congrArg some (by kernel_rfl))
 f46:=⟨Tryz.f241.name,by decide,Tryz.func241.trans (congrArg some (by kernel_rfl))⟩
 f47:=Tryz.func242.trans (congrArg some (by kernel_rfl))
 f48:=Tryz.func243.trans (congrArg some (by kernel_rfl))
 f49:=⟨Tryz.f244.name,by decide,Tryz.func244.trans (congrArg some (by kernel_rfl))⟩
 f50:=⟨Tryz.f245.name,by decide,Tryz.func245.trans (congrArg some (by kernel_rfl))⟩
 f57:=⟨Tryz.f259.name,by decide,Tryz.func259.trans (congrArg some (by kernel_rfl))⟩
 t0:=Tryz.underlying0
 a0:=Tryz.isAgg0
 z0:=Tryz.sizeOf0
 v0:=Tryz.zeroValue0
 t3:=Tryz.underlying3
 a3:=Tryz.isAgg3
 z3:=Tryz.sizeOf3
 v3:=Tryz.zeroValue3
 t4:=Tryz.underlying4
 a4:=Tryz.isAgg4
 z4:=Tryz.sizeOf4
 v4:=Tryz.zeroValue4
 t5:=Tryz.underlying5
 a5:=Tryz.isAgg5
 z5:=Tryz.sizeOf5
 v5:=Tryz.zeroValue5
 t9:=Tryz.underlying9
 a9:=Tryz.isAgg9
 z9:=Tryz.sizeOf9
 v9:=Tryz.zeroValue9
 t22:=Tryz.underlying34
 a22:=Tryz.isAgg34
 z22:=Tryz.sizeOf34
 v22:=Tryz.zeroValue34
 t25:=Tryz.underlying219
 a25:=Tryz.isAgg219
 z25:=Tryz.sizeOf219
 v25:=Tryz.zeroValue219
 t39:=Tryz.underlying188
 a39:=Tryz.isAgg188
 z39:=Tryz.sizeOf188
 v39:=Tryz.zeroValue188
 t45:=Tryz.underlying256
 a45:=Tryz.isAgg256
 z45:=Tryz.sizeOf256
 v45:=Tryz.zeroValue256
 t46:=Tryz.underlying257
 a46:=Tryz.isAgg257
 z46:=Tryz.sizeOf257
 v46:=Tryz.zeroValue257
 t50:=Tryz.underlying205
 a50:=Tryz.isAgg205
 z50:=Tryz.sizeOf205
 v50:=Tryz.zeroValue205
 t53:=Tryz.underlying232
 a53:=Tryz.isAgg232
 z53:=Tryz.sizeOf232
 v53:=Tryz.zeroValue232
 t55:=Tryz.underlying33
 a55:=Tryz.isAgg33
 z55:=Tryz.sizeOf33
 v55:=Tryz.zeroValue33
 t66:=Tryz.underlying282
 a66:=Tryz.isAgg282
 z66:=Tryz.sizeOf282
 v66:=Tryz.zeroValue282
 t70:=Tryz.underlying286
 a70:=Tryz.isAgg286
 z70:=Tryz.sizeOf286
 v70:=Tryz.zeroValue286
 t76:=Tryz.underlying302
 a76:=Tryz.isAgg302
 z76:=Tryz.sizeOf302
 v76:=Tryz.zeroValue302
 t77:=Tryz.underlying303
 a77:=Tryz.isAgg303
 z77:=Tryz.sizeOf303
 v77:=Tryz.zeroValue303 }
end Go.Proofs
end
namespace Go.Proofs.YtkbhcbipadkcaaaGreatDoor
set_option linter.unusedVariables false
set_option linter.unusedSimpArgs false
set_option maxRecDepth 100000
set_option maxHeartbeats 90000000
def rG (k:ByteArray):Change:=⟨k,⟨#[]⟩,true⟩
def yj (a b:List Change):List Change:=(a.filter (fun c => !lI (fK c.Key) b)).map (fun c=>rG c.Key)
def D9 (a b:List Change):List Change:=b.filter (fun c => !lI (fK c.Key) a || !decide (a[jD (fK c.Key) a]? = some c))
def mK (a b:List Change):List Change:=yj a b++D9 a b
def dO:List Change->List Change->List Change
  | [],b=>b
  | x::a,[]=>rG x.Key::dO a []
  | x::a,y::b=>if jy x.Key y.Key=true then rG x.Key::dO a (y::b) else if jy y.Key x.Key=true then y::dO (x::a) b else if x=y then dO a b else y::dO a b
termination_by a b=>a.length+b.length
decreasing_by all_goals (simp only [List.length_cons];omega)
theorem zX (b:List Change):dO [] b=b:=by rw [dO]
theorem IB (x:Change)(a:List Change):dO (x::a) []=rG x.Key::dO a []:=by rw [dO]
theorem FA (x y:Change)(a b:List Change):dO (x::a) (y::b)=if jy x.Key y.Key=true then rG x.Key::dO a (y::b) else if jy y.Key x.Key=true then y::dO (x::a) b else if x=y then dO a b else y::dO a b:=by rw [dO]
theorem GN {l:List Change}(h:dr l)(k:ByteArray):lI (fK k) l=true ↔ ∃x∈l,x.Key=k:=by
 rcases dr.cut h k with ⟨A,B,x,e,hx,ha,hb⟩ | ⟨A,B,e,ha,hb⟩
 .rw [e,(ER hx ha hb).2];exact ⟨fun _=>⟨x,by simp,hx⟩,fun _=>rfl⟩
 .
  rw [e,(Gd ha hb).2]
  refine ⟨fun q=>(by cases q),fun ⟨x,hx,hk⟩=>?_⟩
  rcases List.mem_append.1 hx with q|q
  .have:=ha x q;rw [hk,e8] at this;cases this
  .have:=hb x q;rw [hk,e8] at this;cases this
theorem uk {l:List Change}(h:dr l){x y:Change}(hx:x∈l)(hy:y∈l)(e:x.Key=y.Key):x=y:=by
 rcases dr.cut h x.Key with ⟨A,B,z,e1,hz,ha,hb⟩ | ⟨A,B,e1,ha,hb⟩
 .
  have key:∀w∈l,w.Key=x.Key->w=z:=fun w hw hk=>by
   rw [e1] at hw
   rcases List.mem_append.1 hw with q|q
   .have:=ha w q;rw [hk,e8] at this;cases this
   .
    rcases List.mem_cons.1 q with q|q
    .exact q
    .have:=hb w q;rw [hk,e8] at this;cases this
  rw [key x hx rfl,key y hy e.symm]
 .
  rw [e1] at hx
  rcases List.mem_append.1 hx with q|q
  .have:=ha x q;rw [e8] at this;cases this
  .have:=hb x q;rw [e8] at this;cases this
theorem Ln {l:List Change}(h:dr l){c:Change}:(lI (fK c.Key) l=true/\l[jD (fK c.Key) l]? = some c)↔c∈l:=by
 constructor
 .rintro ⟨_,h2⟩;exact List.mem_of_getElem? h2
 .
  intro hc
  rcases dr.cut h c.Key with ⟨A,B,z,e1,hz,ha,hb⟩ | ⟨A,B,e1,ha,hb⟩
  .
   have hk:=ER hz ha hb
   have e2:z=c:=uk h (by rw [e1];simp) hc hz
   rw [e1,hk.1,hk.2]
   refine ⟨rfl,?_⟩
   rw [List.getElem?_append_right (Nat.le_refl _),Nat.sub_self,e2];rfl
  .
   rw [e1] at hc
   rcases List.mem_append.1 hc with q|q
   .have:=ha c q;rw [e8] at this;cases this
   .have:=hb c q;rw [e8] at this;cases this
def Q5 (a b:List Change)(x:Change):Prop:=(∃c∈a,(∀y∈b,y.Key≠c.Key)/\x=rG c.Key)∨(x∈b/\¬ x∈a)
theorem Ea {a b:List Change}(hb:dr b){x:Change}:x∈yj a b ↔ ∃c∈a,(∀y∈b,y.Key≠c.Key)/\x=rG c.Key:=by
 unfold yj
 rw [List.mem_map]
 constructor
 .
  rintro ⟨c,hc,rfl⟩
  obtain ⟨h1,h2⟩:=List.mem_filter.1 hc
  refine ⟨c,h1,fun y hy e=>?_,rfl⟩
  rw [(GN hb c.Key).2 ⟨y,hy,e⟩] at h2;cases h2
 .
  rintro ⟨c,hc,hn,rfl⟩
  refine ⟨c,List.mem_filter.2 ⟨hc,?_⟩,rfl⟩
  cases hq:lI (fK c.Key) b with
  | false=>rfl
  | true=>obtain ⟨y,hy,e⟩:=(GN hb c.Key).1 hq;exact absurd e (hn y hy)
theorem Eb {a b:List Change}(ha:dr a){x:Change}:x∈D9 a b↔x∈b/\¬ x∈a:=by
 unfold D9
 rw [List.mem_filter,<- Ln ha (c:=x)]
 refine and_congr_right fun _=>?_
 cases lI (fK x.Key) a <;> simp
theorem Lp {a b:List Change}(ha:dr a)(hb:dr b){x:Change}:x∈mK a b↔Q5 a b x:=by
 unfold mK Q5;rw [List.mem_append,Ea hb,Eb ha]
theorem j8:∀ (n:Nat) (a b:List Change),a.length+b.length<=n->dr a->dr b->(∀x,x∈dO a b↔Q5 a b x)/\dr (dO a b)
 | n,[],b,_,_,hb=>by
  rw [zX]
  refine ⟨fun x=>⟨fun h => .inr ⟨h,fun q=>by cases q⟩,?_⟩,hb⟩
  rintro (⟨c,hc,_⟩ | ⟨h,_⟩)
  .cases hc
  .exact h
 | 0,x::a,b,h,_,_=>by simp at h
 | n+1,x::a,[],hn,ha,hb=>by
  obtain ⟨a1,a2⟩:=List.pairwise_cons.1 ha
  obtain ⟨i1,i2⟩:=j8 n a [] (by simp only [List.length_cons] at hn;omega) a2 hb
  rw [IB]
  refine ⟨fun z=>?_,List.pairwise_cons.2 ⟨fun z hz=>?_,i2⟩⟩
  .
   rw [List.mem_cons,i1 z]
   constructor
   .
    rintro (rfl|⟨c,hc,hh,rfl⟩ | ⟨h,_⟩)
    .exact .inl ⟨x,List.mem_cons_self ..,(fun y hy=>by cases hy),rfl⟩
    .exact .inl ⟨c,List.mem_cons_of_mem _ hc,hh,rfl⟩
    .cases h
   .
    rintro (⟨c,hc,hh,rfl⟩ | ⟨h,_⟩)
    .
     rcases List.mem_cons.1 hc with rfl|hc
     .exact .inl rfl
     .exact .inr (.inl ⟨c,hc,hh,rfl⟩)
    .cases h
  .
   rcases (i1 z).1 hz with ⟨c,hc,_,rfl⟩ | ⟨h,_⟩
   .exact a1 c hc
   .cases h
 | n+1,x::a,y::b,hn,ha,hb=>by
  obtain ⟨a1,a2⟩:=List.pairwise_cons.1 ha
  obtain ⟨b1,b2⟩:=List.pairwise_cons.1 hb
  simp only [List.length_cons] at hn
  have ne_of:∀ {u v:ByteArray},jy u v=true->u≠v:=fun h e=>by rw [e,e8] at h;cases h
  rw [FA]
  by_cases c1:jy x.Key y.Key=true
  .
   rw [if_pos c1]
   obtain ⟨i1,i2⟩:=j8 n a (y::b) (by simp only [List.length_cons];omega) a2 hb
   have hxb:∀z∈y::b,jy x.Key z.Key=true:=fun z hz=>by
    rcases List.mem_cons.1 hz with rfl|hz
    .exact c1
    .exact l4 c1 (b1 z hz)
   refine ⟨fun z=>?_,List.pairwise_cons.2 ⟨fun z hz=>?_,i2⟩⟩
   .
    rw [List.mem_cons,i1 z]
    constructor
    .
     rintro (rfl|⟨c,hc,hh,rfl⟩ | ⟨h,h'⟩)
     .exact .inl ⟨x,List.mem_cons_self ..,(fun z hz e=>ne_of (hxb z hz) e.symm),rfl⟩
     .exact .inl ⟨c,List.mem_cons_of_mem _ hc,hh,rfl⟩
     .exact .inr ⟨h,fun q=>by
       rcases List.mem_cons.1 q with q|q
       .exact ne_of (hxb z h) (by rw [q])
       .exact h' q⟩
    .
     rintro (⟨c,hc,hh,rfl⟩ | ⟨h,h'⟩)
     .
      rcases List.mem_cons.1 hc with rfl|hc
      .exact .inl rfl
      .exact .inr (.inl ⟨c,hc,hh,rfl⟩)
     .exact .inr (.inr ⟨h,fun q=>h' (List.mem_cons_of_mem _ q)⟩)
   .
    rcases (i1 z).1 hz with ⟨c,hc,_,rfl⟩ | ⟨h,_⟩
    .exact a1 c hc
    .exact hxb z h
  .
   rw [if_neg c1]
   by_cases c2:jy y.Key x.Key=true
   .
    rw [if_pos c2]
    obtain ⟨i1,i2⟩:=j8 n (x::a) b (by simp only [List.length_cons];omega) ha b2
    have hya:∀z∈x::a,jy y.Key z.Key=true:=fun z hz=>by
     rcases List.mem_cons.1 hz with rfl|hz
     .exact c2
     .exact l4 c2 (a1 z hz)
    refine ⟨fun z=>?_,List.pairwise_cons.2 ⟨fun z hz=>?_,i2⟩⟩
    .
     rw [List.mem_cons,i1 z]
     constructor
     .
      rintro (rfl|⟨c,hc,hh,rfl⟩ | ⟨h,h'⟩)
      .exact .inr ⟨List.mem_cons_self ..,fun q=>ne_of (hya z q) rfl⟩
      .exact .inl ⟨c,hc,(fun w hw=>by
        rcases List.mem_cons.1 hw with rfl|hw
        .exact ne_of (hya c hc)
        .exact hh w hw),rfl⟩
      .exact .inr ⟨List.mem_cons_of_mem _ h,h'⟩
     .
      rintro (⟨c,hc,hh,rfl⟩ | ⟨h,h'⟩)
      .exact .inr (.inl ⟨c,hc,(fun w hw=>hh w (List.mem_cons_of_mem _ hw)),rfl⟩)
      .
       rcases List.mem_cons.1 h with rfl|h
       .exact .inl rfl
       .exact .inr (.inr ⟨h,h'⟩)
    .
     rcases (i1 z).1 hz with ⟨c,hc,_,rfl⟩ | ⟨h,_⟩
     .exact hya c hc
     .exact b1 z h
   .
    rw [if_neg c2]
    have e:x.Key=y.Key:=by
     rcases sP x.Key y.Key with q|q|q
     .exact absurd q c1
     .exact q
     .exact absurd q c2
    obtain ⟨i1,i2⟩:=j8 n a b (by omega) a2 b2
    have hz0:∀z∈dO a b,jy y.Key z.Key=true:=fun z hz=>by
     rcases (i1 z).1 hz with ⟨c,hc,_,rfl⟩ | ⟨h,_⟩
     .rw [<- e];exact a1 c hc
     .exact b1 z h
    have hgen:∀z,Q5 (x::a) (y::b) z↔(z=y/\x≠y)∨Q5 a b z:=fun z=>by
     constructor
     .
      rintro (⟨c,hc,hh,rfl⟩ | ⟨h,h'⟩)
      .
       rcases List.mem_cons.1 hc with rfl|hc
       .exact absurd e.symm (hh y (List.mem_cons_self ..))
       .exact .inr (.inl ⟨c,hc,(fun w hw=>hh w (List.mem_cons_of_mem _ hw)),rfl⟩)
      .
       rcases List.mem_cons.1 h with rfl|h
       .exact .inl ⟨rfl,fun q=>h' (q▸List.mem_cons_self ..)⟩
       .exact .inr (.inr ⟨h,fun q=>h' (List.mem_cons_of_mem _ q)⟩)
     .
      rintro (⟨rfl,hne⟩ | ⟨c,hc,hh,rfl⟩ | ⟨h,h'⟩)
      .
       refine .inr ⟨List.mem_cons_self ..,fun q=>?_⟩
       rcases List.mem_cons.1 q with q|q
       .exact hne q.symm
       .exact ne_of (a1 z q) e
      .
       refine .inl ⟨c,List.mem_cons_of_mem _ hc,fun w hw=>?_,rfl⟩
       rcases List.mem_cons.1 hw with rfl|hw
       .rw [<- e];exact ne_of (a1 c hc)
       .exact hh w hw
      .
       refine .inr ⟨List.mem_cons_of_mem _ h,fun q=>?_⟩
       rcases List.mem_cons.1 q with q|q
       .subst q;exact ne_of (b1 z h) e.symm
       .exact h' q
    by_cases c3:x=y
    .
     rw [if_pos c3]
     exact ⟨fun z=>(i1 z).trans ⟨fun q=>(hgen z).2 (.inr q),fun q=>((hgen z).1 q).elim (fun r=>absurd c3 r.2) id⟩,i2⟩
    .
     rw [if_neg c3]
     refine ⟨fun z=>?_,List.pairwise_cons.2 ⟨hz0,i2⟩⟩
     rw [List.mem_cons,hgen z,i1 z]
     exact or_congr_left ⟨fun q=>⟨q,c3⟩,fun q=>q.1⟩
theorem mem_merge {a b:List Change}(ha:dr a)(hb:dr b){x:Change}:x∈dO a b↔Q5 a b x:=(j8 _ a b (Nat.le_refl _) ha hb).1 x
theorem sh {a b:List Change}(ha:dr a)(hb:dr b):dr (dO a b):=(j8 _ a b (Nat.le_refl _) ha hb).2
abbrev Apart (l:List Change):Prop:=l.Pairwise (fun x y=>x.Key≠y.Key)
theorem si {l:List Change}(h:dr l):Apart l:=List.Pairwise.imp (fun q e=>by rw [e,e8] at q;cases q) h
theorem IC {a b:List Change}(ha:dr a)(hb:dr b):Apart (mK a b):=by
 unfold mK
 refine List.pairwise_append.2 ⟨?_,(si hb).filter _,?_⟩
 .
  unfold yj
  exact List.pairwise_map.2 ((si ha).filter _)
 .
  intro x hx y hy e
  obtain ⟨c,hc,hn,rfl⟩:=(Ea hb).1 hx
  exact hn y ((Eb ha).1 hy).1 e.symm
theorem FB {a b d:List Change}(ha:dr a)(hb:dr b)(hp:d.Perm (mK a b))(hs:d.Pairwise (fun x y => ¬ jy y.Key x.Key=true)):d=dO a b:=by
 have h1:Apart d:=hp.symm.pairwise (IC ha hb) (fun q e=>q e.symm)
 have h2:dr d:=by
  refine List.Pairwise.imp ?_ (hs.and h1)
  rintro x y ⟨q1,q2⟩
  rcases sP x.Key y.Key with q|q|q
  .exact q
  .exact absurd q q2
  .exact absurd q q1
 exact tO d _ h2 (sh ha hb) fun x=>by rw [hp.mem_iff,Lp ha hb,mem_merge ha hb]
theorem zY:∀ (l:List Change) {rows:List Change},dr rows->dr l -> ∀ {y:Change},y∈cb rows l↔(y∈rows /\ ∀c∈l,c.Key≠y.Key)∨(y∈l/\y.Gone=false)
 | [],rows,hr,_,y=>by
  show y∈rows↔_
  exact ⟨fun h => .inl ⟨h,fun c hc=>by cases hc⟩,fun h=>h.elim (fun q=>q.1) (fun q=>by cases q.1)⟩
 | c::l,rows,hr,hl,y=>by
  obtain ⟨l1,l2⟩:=List.pairwise_cons.1 hl
  show y∈cb (zp rows c) l↔_
  rw [zY l (wP hr c) l2,Gf hr]
  constructor
  .
   rintro (⟨⟨h1,h2⟩ | ⟨h1,rfl⟩,h3⟩ | ⟨h1,h2⟩)
   .
    refine .inl ⟨h1,fun d hd=>?_⟩
    rcases List.mem_cons.1 hd with rfl|hd
    .exact fun e=>h2 e.symm
    .exact h3 d hd
   .exact .inr ⟨List.mem_cons_self ..,h1⟩
   .exact .inr ⟨List.mem_cons_of_mem _ h1,h2⟩
  .
   rintro (⟨h1,h2⟩ | ⟨h1,h2⟩)
   .exact .inl ⟨.inl ⟨h1,fun e=>h2 c (List.mem_cons_self ..) e.symm⟩,fun d hd=>h2 d (List.mem_cons_of_mem _ hd)⟩
   .
    rcases List.mem_cons.1 h1 with rfl|h1
    .exact .inl ⟨.inr ⟨h2,rfl⟩,fun d hd e=>by have:=l1 d hd;rw [e,e8] at this;cases this⟩
    .exact .inr ⟨h1,h2⟩
theorem uT {a b:List Change}(ha:dr a)(hb:dr b)(hg:∀c∈b,c.Gone=false):cb a (dO a b)=b:=by
 refine tO _ _ (rP _ ha) hb fun y=>?_
 rw [zY _ ha (sh ha hb)]
 constructor
 .
  rintro (⟨h1,h2⟩ | ⟨h1,h2⟩)
  .
   by_cases hy:∃z∈b,z.Key=y.Key
   .
    obtain ⟨z,hz,e⟩:=hy
    by_cases hza:z∈a
    .rw [<- uk ha hza h1 e];exact hz
    .exact absurd e (h2 z ((mem_merge ha hb).2 (.inr ⟨hz,hza⟩)))
   .exact absurd rfl (h2 (rG y.Key) ((mem_merge ha hb).2 (.inl ⟨y,h1,fun z hz e=>hy ⟨z,hz,e⟩,rfl⟩)))
  .
   rcases (mem_merge ha hb).1 h1 with ⟨c,_,_,rfl⟩ | ⟨q,_⟩
   .cases h2
   .exact q
 .
  intro h
  by_cases hya:y∈a
  .
   refine .inl ⟨hya,fun c hc e=>?_⟩
   rcases (mem_merge ha hb).1 hc with ⟨d,_,hn,rfl⟩ | ⟨q1,q2⟩
   .exact hn y h e.symm
   .exact q2 (uk hb q1 h e▸hya)
  .exact .inr ⟨(mem_merge ha hb).2 (.inr ⟨h,hya⟩),hg y h⟩
section
open Go Go.RowKit Go.Sort
instance:Inhabited Change:=⟨⟨⟨#[]⟩,⟨#[]⟩,false⟩⟩
def LO (x y:Change):Int:=AU x.Key y.Key
theorem BX (x y:Change):ltOf LO x y=jy x.Key y.Key:=by
 unfold ltOf LO
 cases h:jy x.Key y.Key with
 | true=>exact decide_eq_true (wO.2 h)
 | false=>exact decide_eq_false fun q=>by rw [wO.1 q] at h;cases h
theorem GQ:SWO (ltOf LO) where
 irrefl x:=by rw [BX];exact e8 _
 trans x y z h k:=by rw [BX] at h k ⊢;exact l4 h k
 ntrans x y z h k:=by
  rw [BX] at h k ⊢
  cases q:jy x.Key z.Key with
  | false=>rfl
  | true =>
   rcases sP x.Key y.Key with e|e|e
   .rw [e] at h;cases h
   .rw [e] at q;rw [q] at k;cases k
   .rw [l4 e q] at k;cases k
def gR (l:List Change):List Change:=(pdq (ltOf LO) l.toArray 0 l.length (Lib.bitLen l.length) true true).toList
theorem qt (l:List Change):(gR l).Perm l/\(gR l).Pairwise (fun x y => ¬ jy y.Key x.Key=true)/\(gR l).length=l.length:=by
 have h:=pdq_sorts (ltOf LO) GQ l.toArray 0 l.toArray.size (Lib.bitLen l.length) true true (Nat.zero_le _) (Nat.le_refl _) (Or.inl rfl)
 rw [show l.toArray.size=l.length from rfl] at h
 obtain ⟨⟨hs,_,hp⟩,ho⟩:=h
 have hl:(gR l).length=l.length:=by unfold gR;rw [Array.length_toList,hs];rfl
 have e1:∀d:Array Change,d.size=l.length->(d.extract 0 l.length).toList=d.toList:=fun d hd=>by rw [<- hd,Array.extract_size]
 refine ⟨?_,?_,hl⟩
 .
  have:=hp
  rw [e1 _ hs,e1 _ rfl] at this
  exact this
 .
  rw [List.pairwise_iff_getElem]
  intro i j hi hj hij
  have:=ho i j (Nat.zero_le _) hij (by rw [<- hl];exact hj)
  rw [BX,getElem!_pos _ j (by rw [hs];show j<l.length;rw [<- hl];exact hj),getElem!_pos _ i (by rw [hs];show i<l.length;rw [<- hl];exact hi)] at this
  intro q
  exact Bool.noConfusion (this.symm.trans q)
theorem Ec {a b:List Change}(ha:dr a)(hb:dr b):gR (mK a b)=dO a b:=FB ha hb (qt _).1 (qt _).2.1
theorem Ed (l:List Change):flatK Enc.cells 3 l.toArray=(l.flatMap Enc.cells).toArray:=by
 have hf:=di l
 have h3:Enc.k Change=3:=rfl
 rw [h3] at hf
 refine ext_get! (by simp [hf]) fun t ht=>?_
 rw [size_flatK] at ht
 have ht':t<l.length*3:=ht
 rw [get_flatK _ _ _ t ht]
 have hi:t / 3<l.length:=by omega
 have hj:t % 3<(Enc.cells (l[t / 3]'hi)).length:=by rw [Enc.len,h3];omega
 have g:=flat_get l (t / 3) (l[t / 3]'hi) (t % 3) _ (List.getElem?_eq_getElem hi) (List.getElem?_eq_getElem hj)
 rw [h3,show t / 3*3+t % 3=t by omega] at g
 have e1:l.toArray[t / 3]! = l[t / 3]'hi:=by simp [hi]
 have e2:(Enc.cells (l[t / 3]'hi))[t % 3]! = (Enc.cells (l[t / 3]'hi))[t % 3]'hj:=getElem!_pos (Enc.cells (l[t / 3]'hi)) (t % 3) hj
 rw [e1,e2]
 have h2:t<(l.flatMap Enc.cells).length:=by rw [hf];exact ht'
 rw [getElem!_pos _ t (by simpa using h2)]
 rw [List.getElem?_eq_getElem h2] at g
 simpa using (Option.some.inj g).symm
theorem Lq {w:World}{g:Nat}{cur:Array Value}{e:TypeId}{xs:List Value}(hb:w.heap[g]? = some (.cells cur e (0,0)))(ht:cur.toList.take xs.length=xs):Holds id w g 0 xs.toArray:=by
 intro j hj
 have hj':j<xs.length:=by simpa using hj
 refine ⟨?_,by simp [World.frozen?,hb]⟩
 have h1:(cur.toList.take xs.length)[j]? = xs[j]?:=by rw [ht]
 rw [List.getElem?_take_of_lt hj'] at h1
 simp only [World.cell?,hb,Nat.zero_add]
 simp only [Option.isSome_none,Bool.false_eq_true,if_false]
 rw [<- Array.getElem?_toList,h1]
 simp [hj']
theorem Na {w:World}{g n:Nat}{os:Array Obj}{cur:Array Value}{e:TypeId}{fr:Nat×Nat}(d:Array Value)(hb:w.heap[g]? = some (.cells cur e fr)) :
 (Sort.grow (putRow id (Sort.ahead w n) g 0 d) os).heap[g]? = some (.cells (putCells id 0 d cur) e fr):=by
 have hg:g<w.heap.size:=(Array.getElem?_eq_some_iff.1 hb).1
 rw [heap_grow_old _ _ (by simpa using hg)]
 simp [putRow,mapBlock,Sort.ahead,Array.getElem?_modify,hb,onCells]
theorem FC {w:World}{g n:Nat}{os:Array Obj}(d:Array Value):w.grownBy (Sort.grow (putRow id (Sort.ahead w n) g 0 d) os) (some g):=by
 refine ⟨rfl,rfl,rfl,by simp,fun k hk hne=>?_⟩
 rw [heap_grow_old _ _ (by simpa using hk)]
 have:g≠k:=fun e=>hne (by rw [e])
 simp [putRow,mapBlock,Sort.ahead,Array.getElem?_modify,this]
theorem Nb (cur:Array Value)(ts:List Value)(h:ts.length<=cur.size):(putCells id 0 ts.toArray cur).toList.take ts.length=ts:=by
 apply List.ext_getElem?
 intro j
 by_cases hj:j<ts.length
 .
  rw [List.getElem?_take_of_lt hj,Array.getElem?_toList]
  simp [putCells,hj,show j<cur.size by omega]
 .rw [List.getElem?_take_eq_none (by omega),List.getElem?_eq_none (by omega)]
theorem UH (x y:Change)(w:World):Calls Tryz.prog 161 #[.agg (Enc.cells x).toArray,.agg (Enc.cells y).toArray] w fun e w'=>e = .returned (.int .i64 (LO x y)) /\ ∃q os',w'=Sort.grow (w.drewN q) os':=by
 have hcon:∀W,Calls Tryz.prog 147 #[.string x.Key,.string y.Key] W fun e w'=>e = .returned (.int .i64 (LO x y))/\w'=W:=fun W=>(Tryz.strings_Compare x.Key y.Key W).mono fun e w' ⟨h1,h2⟩=>⟨by rw [h1,<- mS,<- mS,Gb];rfl,h2⟩
 generalize LO x y=r at hcon ⊢
 show Calls Tryz.prog 161 #[.agg #[.string x.Key,.string x.Val,.bool x.Gone],.agg #[.string y.Key,.string y.Val,.bool y.Gone]] w _
 go_enter Tryz.func161,Tryz.ntmps161
 go_wp2_with (go_at_call 147;refine (hcon _).mono ?_;rintro e w' ⟨rfl,rfl⟩)
 go_ret
 exact ⟨rfl,0,_,by rw [alloc_eq_grow,alloc_eq_grow,grow_grow];rfl⟩
theorem FD {w:World}{g cap n:Nat}{os:Array Obj}{l ts:List Change}{v:Value}(hv:v = .slice (some ⟨g,0,none⟩) l.length cap)(how:Own 0 117 w v l)(hl:ts.length=l.length) :
 Turned [ag.row 117 v l] [ag.row 117 v ts] w (Sort.grow (putRow id (Sort.ahead w n) g 0 (ts.flatMap Enc.cells).toArray) os):=by
 obtain ⟨hlen,hn|⟨g',cap',cur,hv',_,hgg,hnc,hcm,hcs,htk⟩⟩:=how
 .rw [hn.1] at hv;cases hv
 rw [hv] at hv'
 simp only [Value.slice.injEq,Option.some.injEq,Addr.mk.injEq,and_true,true_and] at hv'
 obtain ⟨rfl,rfl⟩:=hv'
 have h3:cur.size=cap*3:=hcs
 have hf:(ts.flatMap Enc.cells).length=ts.length*3:=di ts
 have hgb:=FC (w:=w) (g:=g) (n:=n) (os:=os) (ts.flatMap Enc.cells).toArray
 have hown:Own 0 117 (Sort.grow (putRow id (Sort.ahead w n) g 0 (ts.flatMap Enc.cells).toArray) os) v ts:=by
  refine ⟨di ts,.inr ⟨g,cap,_,by rw [hv,hl],Nat.zero_le _,Na _ hgg,by omega,hcm,by simpa [putCells] using hcs,?_⟩⟩
  show (putCells id 0 (ts.flatMap Enc.cells).toArray cur).toList.take (ts.length*3)=_
  rw [<- hf];exact Nb cur _ (by rw [hf,h3,hl];exact Nat.mul_le_mul_right 3 hnc)
 have hlt:g<w.heap.size:=(Array.getElem?_eq_some_iff.1 hgg).1
 refine ⟨⟨hgb.os,hgb.tape,hgb.output,hgb.size,fun k hk hx=>hgb.block k hk (fun e=>hx ?_)⟩,?_,?_,fun k hk=>?_⟩
 .injection e with e;subst e;rw [hv];simp [blks,ag.row,dW]
 .intro r hr;simp at hr;subst hr;exact hown
 .rw [hv];simp [blks,ag.row,dW]
 .
  rw [hv] at hk;simp [blks,ag.row,dW] at hk;subst hk
  exact ⟨Nat.lt_of_lt_of_le hlt hgb.size,.inl (by rw [hv];simp [blks,ag.row,dW])⟩
theorem Turned.Tg {B0:List ag}{w:World}(h:Hnd B0 w):Turned B0 B0 w w:=⟨lR.refl _ _,h.ok,h.sep,fun k hk=>⟨h.lt k hk,.inl hk⟩⟩
theorem IE (v:Value)(l:List Change)(w:World)(H:Hnd [ag.row 117 v l] w)(hl:l.length<=1000000):Calls Tryz.prog 160 [v,.func (.func 161) #[] #[]].toArray w fun e w' => ∃_z:Unit,e = .returned (.tuple #[])/\Turned [ag.row 117 v l] [ag.row 117 v (gR l)] w w':=by
 have how:Own 0 117 w v l:=H.ok (ag.row 117 v l) (List.mem_singleton.2 rfl)
 have hs:=(qt l).2.2
 rcases how.2 with ⟨rfl,h0⟩ | ⟨g,cap,cur,hv,_,hgg,hnc,hcm,hcs,htk⟩
 .
  have:l=[]:=List.eq_nil_of_length_eq_zero h0
  subst this
  refine (AnyF.slices_SortFunc_none { Tryz.laysSF with } none 0 _ w).mono ?_
  rintro e w' ⟨rfl,rfl⟩
  have e0:gR []=[]:=List.eq_nil_of_length_eq_zero hs
  rw [e0]
  exact ⟨(),rfl,Turned.Tg H⟩
 .
  have hH:HoldsK Enc.cells 3 w g 0 l.toArray:=by
   unfold HoldsK;rw [Ed]
   exact Lq hgg (by rw [di];exact htk)
  have eg:∀args w,(callFunc 161 args).run Tryz.prog w = .ok (.enter 161 args) w:=enters_of Tryz.func161 (by kernel_rfl) rfl
  rw [hv]
  refine (AnyQ.slices_SortFunc_eq Tryz.laysSF 3 Tryz.isAgg117 Tryz.sizeOf117 Enc.cells Enc.len Enc.one LO GQ 161 #[] g 0 cap l.toArray w eg (fun _ _ _ _ x y=>UH x y _) hH (Array.getElem?_eq_some_iff.1 hgg).1 (by simp;omega)).mono ?_
  rintro e w' ⟨rfl,n,os,rfl⟩
  refine ⟨(),rfl,?_⟩
  have:=FD (os:=os) (n:=n) (ts:=gR l) hv how hs
  rw [hv] at this
  unfold sortWorldK putRowK
  have e2:(pdq (ltOf LO) l.toArray 0 l.toArray.size (Lib.bitLen l.toArray.size) true true)=(gR l).toArray:=by unfold gR;simp
  rw [e2,Ed]
  exact this
end
section
open Go Go.RowKit
theorem Ee {α:Type}(f:α->Int)(l:List α):lI f l=false ∨ ∃x,l[jD f l]? = some x/\lI f l=true/\jD f l<l.length:=by
 cases h:lI f l with
 | false=>exact .inl rfl
 | true =>
  have:=wQ h
  exact .inr ⟨l[jD f l],List.getElem?_eq_getElem this,rfl,this⟩
def yN (a:List Change)(c:Change):Bool:= !lI (fK c.Key) a || !decide (a[jD (fK c.Key) a]? = some c)
theorem zZ {a b:List Change}{k:Nat}{x:Change}(h:a[k]? = some x):yj (a.take (k+1)) b=yj (a.take k) b++(if lI (fK x.Key) b=false then [rG x.Key] else []):=by
 unfold yj
 rw [List.take_add_one,h,List.filter_append,List.map_append]
 cases hb:lI (fK x.Key) b <;> simp [hb]
theorem um {a b:List Change}{k:Nat}{x:Change}(h:b[k]? = some x):D9 a (b.take (k+1))=D9 a (b.take k)++(if yN a x=true then [x] else []):=by
 unfold D9
 rw [List.take_add_one,h,List.filter_append]
 congr 1
 cases hb:yN a x with
 | true=>unfold yN at hb;simp [hb]
 | false=>unfold yN at hb;simp [hb]
theorem Nc {a:List Change}{x:Change}(h:lI (fK x.Key) a=false):yN a x=true:=by unfold yN;rw [h];rfl
theorem Nf {a:List Change}{x y:Change}(h:a[jD (fK x.Key) a]? = some y)(hn:¬ y=x):yN a x=true:=by
 unfold yN;rw [h,decide_eq_false (fun e=>hn (Option.some.inj e))];simp
theorem Ng {a:List Change}{x y:Change}(hb:lI (fK x.Key) a=true)(h:a[jD (fK x.Key) a]? = some y)(hn:y=x):yN a x=false:=by
 unfold yN;rw [hb,h,hn];simp
theorem Ef (a b:List Change):(yj a b).length<=a.length:=by unfold yj;rw [List.length_map];exact List.length_filter_le _ _
theorem Lr (a b:List Change):(D9 a b).length<=b.length:=List.length_filter_le _ _
theorem oT (x:Change)(k:ByteArray)(w:World):Calls Tryz.prog 159 #[.agg #[.string x.Key,.string x.Val,.bool x.Gone],.string k] w fun e w'=>e = .returned (iV (fK k x))/\Ext w w':=by
 refine R.enter [] [(0,.agg #[.string x.Key,.string x.Val,.bool x.Gone]),(1,.string k)] Tryz.func159 O O O O<|R.reg O<|R.s O (s.box O O O) fun b1=>?_
 refine R.u 1 O<|R.nil<|R.reg O<|R.q (q.aP O bI O) O<|R.q (q.ld 0 O O bG O) O<|R.u 1 O<|R.c (q.call Jp O O (fun w hw=>(pU x.Key k w ))) O<|R.u 1 O<|R.nil ?_
 exact R.rv O Tryz.results159 O (rI (by rfl))
theorem Eg (Cd:Value)(a:List Change)(CC:Value)(b:List Change)(w:World)(own:List Nat)(H:HN w own [] [ag.ls Cd a,ag.ls CC b])(hl:a.length<=1000/\b.length<=1000):RC Tryz.prog 104 #[Cd,CC] H (fun z:Value=>z) (fun z=>[ag.row 117 z (gR (mK a b))]) (fun _=>[]):=by
 have WL:=H.cq 0 rfl
 have WM:=H.cq 1 rfl
 refine R.bF [(0,Cd),(1,CC)] Tryz.func104 O O O O H<|R.reg O<|R.u 1 O<|R.nil<|R.reg O<|R.u 1 O<|R.nil<|R.reg O<|R.u 1 O<|R.nil<|R.reg O<|R.u 1 O<|R.q (q.len' (dh 0 O) O Tryz.underlying34) O<|R.u 1 O<|R.nil<|R.row0 (α:=Change) 117<|R.loop (fun g_:Nat×Value×(List Change)=>[(0,Cd),(1,CC),(5,g_.2.1),(6,.func (.func 159) #[] #[]),(15,Cd),(16,iV (a.length:Int)),(17,iV (g_.1:Int))]) (fun g_=>[ag.row 117 g_.2.1 g_.2.2,ag.held w own]) (fun g_=>[ag.ls Cd a,ag.ls CC b]) (fun g_=>g_.1<=a.length/\g_.2.2=yj (a.take g_.1) b) (fun g_=>a.length-g_.1) (0,(nS),[]) O (by exact ⟨by omega,rfl⟩) (sF O) (iz [0,1] [0,1] O) ?_
 rintro ⟨k,u,l⟩ ⟨hk,HL⟩
 dsimp only at *
 have ll:=Ef (a.take k) b;rw [<- HL,List.length_take] at ll
 refine R.reg O<|?_
 by_cases h1:k<a.length
 .
  refine R.q (q.dC O O) O<|R.nil<|R.az O O<|R.reg O<|?_
  obtain ⟨x1,hx1⟩:∃z,a[k]? = some z:=⟨_,List.getElem?_eq_getElem (by omega)⟩
  refine R.q (q.idx (i:=k) (dh 0 O) O O bW O hx1) O<|R.q (q.gh (ds:=fC x1) (dh 0 O) hx1 O aX O) O<|R.s O (s.alloc cC O O) fun b1=>?_
  refine R.s O (s.st 0 _ O O O O (.inl aX) O O O O) fun _=>?_
  refine R.nil<|R.reg O<|R.u 1 O<|R.q (q.aP O bI O) O<|R.q (q.ld 0 O O bG O) O<|R.u 1 O<|?_
  rcases Ee (fun x=>(fun (x:Change) (k:ByteArray)=>fK k x) x x1.Key) b with gS|⟨Es,lU,gS,AR⟩
  .
   refine R.c (q.call wA O O (fun w hw=>(cv (congrArg (fun QC=>Value.tuple #[iV ((jD (fun x=>(fun (x:Change) (k:ByteArray)=>fK k x) x x1.Key) b:Nat):Int),.bool QC]) gS) (gC _ b x1.Key (fun (x:Change) (k:ByteArray)=>fK k x) _ _ Az w (hw.bO 1 O) (fun W x k hW=>oT x k W ) (by omega))))) O<|R.u 5 O<|R.nil ?_
   refine R.reg O<|R.u 2 O<|R.nil<|R.az O O<|R.reg O<|R.u 1 O<|R.q (q.aP O bI O) O<|R.q (q.ld 0 O O bG O) O<|R.q (q.build kM O O) O<|R.s O (s.bs (l:=([(⟨x1.Key,⟨#[]⟩,true⟩:Change)]:List Change)) bW cC O O O O O O O) fun b2=>?_
   refine R.s O (s.app 2 _ O O O (bD 0 O) jt (by (simp;omega)) (by (simp;omega)) (fun _=>rfl) O) fun v1=>?_
   refine R.u 1 O<|R.nil<|R.reg O<|R.q (q.bA (r:=((k+1:Nat):Int)) O O) O<|R.u 1 O<|R.nil<|R.back (k+1,v1,(l++([(⟨x1.Key,⟨#[]⟩,true⟩:Change)]))) O (by (exact ⟨by omega,by rw [zZ hx1,<- HL];(rw [if_pos (show lI (fK x1.Key) b=false from gS)];rfl)⟩)) (by dsimp only;omega) (sF O) (aA [2,3] [0,1] O)
  refine R.c (q.call wA O O (fun w hw=>(cv (congrArg (fun QC=>Value.tuple #[iV ((jD (fun x=>(fun (x:Change) (k:ByteArray)=>fK k x) x x1.Key) b:Nat):Int),.bool QC]) gS) (gC _ b x1.Key (fun (x:Change) (k:ByteArray)=>fK k x) _ _ Az w (hw.bO 1 O) (fun W x k hW=>oT x k W ) (by omega))))) O<|R.u 5 O<|R.nil ?_
  refine R.reg O<|R.u 2 O<|R.nil<|R.aD O O<|R.reg O<|R.q (q.bA (r:=((k+1:Nat):Int)) O O) O<|R.u 1 O<|R.nil<|R.back (k+1,u,l) O (by (exact ⟨by omega,by rw [zZ hx1,<- HL];(rw [if_neg (by rw [show lI (fK x1.Key) b=true from gS];decide)];exact (List.append_nil _).symm)⟩)) (by dsimp only;omega) (sF O) (aA [1,2] [0,1] O)
 refine R.q (q.cS O O) O<|R.nil<|R.aD O O<|R.reg O<|R.u 1 O<|R.q (q.len' (dh 1 O) O Tryz.underlying34) O<|R.u 1 O<|R.nil<|R.loop (fun g_:Nat×Value×(List Change)=>[(0,Cd),(5,g_.2.1),(6,.func (.func 159) #[] #[]),(38,CC),(39,iV (b.length:Int)),(40,iV (g_.1:Int))]) (fun g_=>[ag.row 117 g_.2.1 g_.2.2,ag.held w own]) (fun g_=>[ag.ls Cd a,ag.ls CC b]) (fun g_=>g_.1<=b.length/\g_.2.2=yj a b++D9 a (b.take g_.1)) (fun g_=>b.length-g_.1) (0,u,l) O (by exact ⟨by omega,by rw [HL,List.take_of_length_le (by omega)];exact (List.append_nil _).symm⟩) (sF O) (iz [0,1] [0,1] O) ?_
 rintro ⟨j,u2,l2⟩ ⟨hj,HL2⟩
 dsimp only at *
 have Ve:l2.length<=a.length+j:=by have q1:=Ef a b;have q2:=Lr a (b.take j);rw [List.length_take] at q2;rw [HL2,List.length_append];omega
 refine R.reg O<|?_
 by_cases h2:j<b.length
 .
  refine R.q (q.dC O O) O<|R.nil<|R.az O O<|R.reg O<|?_
  obtain ⟨x2,hx2⟩:∃z,b[j]? = some z:=⟨_,List.getElem?_eq_getElem (by omega)⟩
  refine R.q (q.idx (i:=j) (dh 1 O) O O bW O hx2) O<|R.q (q.gh (ds:=fC x2) (dh 1 O) hx2 O aX O) O<|R.s O (s.alloc cC O O) fun b3=>?_
  refine R.s O (s.st 0 _ O O O O (.inl aX) O O O O) fun _=>?_
  refine R.nil<|R.reg O<|R.u 1 O<|R.q (q.aP O bI O) O<|R.q (q.ld 0 O O bG O) O<|R.u 1 O<|?_
  rcases Ee (fun x=>(fun (x:Change) (k:ByteArray)=>fK k x) x x2.Key) a with Ti|⟨Tj,Q6,Ti,WN⟩
  .
   refine R.c (q.call wA O O (fun w hw=>(cv (congrArg (fun QC=>Value.tuple #[iV ((jD (fun x=>(fun (x:Change) (k:ByteArray)=>fK k x) x x2.Key) a:Nat):Int),.bool QC]) Ti) (gC _ a x2.Key (fun (x:Change) (k:ByteArray)=>fK k x) _ _ Az w (hw.bO 0 O) (fun W x k hW=>oT x k W ) (by omega))))) O<|R.u 5 O<|R.nil ?_
   refine R.eZ O mixed (by kernel_rfl)<|Q.u 10 O<|Q.nil<|R.az O O<|R.reg O<|R.u 1 O<|R.q (q.cT 0 O O aX) O<|R.s O (s.bs (l:=([x2]:List Change)) bW cC O O O O O O O) fun b4=>?_
   refine R.s O (s.app 2 _ O O O (bD 0 O) jt (by (simp;omega)) (by (simp;omega)) (fun _=>rfl) O) fun v2=>?_
   refine R.u 1 O<|R.nil<|R.reg O<|R.q (q.bA (r:=((j+1:Nat):Int)) O O) O<|R.u 1 O<|R.nil<|R.back (j+1,v2,(l2++([x2]))) O (by (exact ⟨by omega,by rw [um hx2,<- List.append_assoc,<- HL2];(rw [if_pos (Nc Ti)];done)⟩)) (by dsimp only;omega) (sF O) (aA [2,3] [0,1] O)
  refine R.c (q.call wA O O (fun w hw=>(cv (congrArg (fun QC=>Value.tuple #[iV ((jD (fun x=>(fun (x:Change) (k:ByteArray)=>fK k x) x x2.Key) a:Nat):Int),.bool QC]) Ti) (gC _ a x2.Key (fun (x:Change) (k:ByteArray)=>fK k x) _ _ Az w (hw.bO 0 O) (fun W x k hW=>oT x k W ) (by omega))))) O<|R.u 5 O<|R.nil ?_
  by_cases h3:Tj=x2
  .
   refine R.eZ O mixed (by kernel_rfl)<|Q.u 5 O<|Q.qg O (q.idx (i:=(jD (fun x=>(fun (x:Change) (k:ByteArray)=>fK k x) x x2.Key) a)) (dh 0 O) O O bW O Q6) O<|Q.qg O (q.gh (ds:=fC Tj) (dh 0 O) Q6 O aX O) O<|Q.qg O (q.cT 0 O O aX) O<|Q.qg O (q.FT (x:=Tj) (y:=x2) AG O O h3) O<|Q.u 1 O<|Q.nil<|R.aD O O<|R.reg O<|R.q (q.bA (r:=((j+1:Nat):Int)) O O) O<|R.u 1 O<|R.nil<|R.back (j+1,u2,l2) O (by (exact ⟨by omega,by rw [um hx2,<- List.append_assoc,<- HL2];(rw [if_neg (by rw [Ng Ti Q6 ‹_›];decide)];exact (List.append_nil _).symm)⟩)) (by dsimp only;omega) (sF O) (aA [1,2] [0,1] O)
  refine R.eZ O mixed (by kernel_rfl)<|Q.u 5 O<|Q.qg O (q.idx (i:=(jD (fun x=>(fun (x:Change) (k:ByteArray)=>fK k x) x x2.Key) a)) (dh 0 O) O O bW O Q6) O<|Q.qg O (q.gh (ds:=fC Tj) (dh 0 O) Q6 O aX O) O<|Q.qg O (q.cT 0 O O aX) O<|Q.qg O (q.FU (x:=Tj) (y:=x2) AG O O h3) O<|Q.u 1 O<|Q.nil<|R.az O O<|R.reg O<|R.u 1 O<|R.q (q.cT 0 O O aX) O<|R.s O (s.bs (l:=([x2]:List Change)) bW cC O O O O O O O) fun b5=>?_
  refine R.s O (s.app 2 _ O O O (bD 0 O) jt (by (simp;omega)) (by (simp;omega)) (fun _=>rfl) O) fun v3=>?_
  refine R.u 1 O<|R.nil<|R.reg O<|R.q (q.bA (r:=((j+1:Nat):Int)) O O) O<|R.u 1 O<|R.nil<|R.back (j+1,v3,(l2++([x2]))) O (by (exact ⟨by omega,by rw [um hx2,<- List.append_assoc,<- HL2];(rw [if_pos (Nf Q6 ‹_›)];done)⟩)) (by dsimp only;omega) (sF O) (aA [2,3] [0,1] O)
 refine R.q (q.cS O O) O<|R.nil<|R.aD O O<|R.reg O<|R.u 1 O<|R.s O (s.IY [0,1] _ _ O O Ph O O (fun w hw H=>IE u2 l2 w H (by omega)) O) fun u1=>?_
 refine R.nil<|R.reg O<|R.u 2 O<|R.nil ?_
 have hz:gR (mK a b)=(gR l2):=by (rw [HL2,List.take_of_length_le (by omega)];rfl)
 rw [hz]
 exact R.w1 u2 [0,1] [] O Tryz.results104 (RV.tmp O) O O O O
end
structure IG (c:Change):Prop where
  k0:0<c.Key.size
  k8:c.Key.size<=8
  v:c.Val.size<=24
  g:c.Gone=false
theorem QD {r:aB}(h:Inv r):∀c∈rowsOf r,IG c:=by
 have a1:=h.oN;have a2:=h.qS;have a3:=h.pj;have a4:=h.pn
 intro c hc
 unfold rowsOf at hc
 rcases List.mem_append.1 hc with hc|hc
 .
  rcases List.mem_append.1 hc with hc|hc
  .
   rcases List.mem_append.1 hc with hc|hc
   .
    obtain ⟨x,hx,rfl⟩:=List.mem_map.1 hc
    have k:=h.Iu hx;have k1:=k.2.1;have k2:=k.2.2
    have e:(hrow x).Key.size=3:=by rw [<- eE,hkey k.1];rfl
    have e2:(hrow x).Val.size=4:=cF (by omega) (by omega)
    exact ⟨by omega,by omega,by omega,rfl⟩
   .
    obtain ⟨x,hx,rfl⟩:=List.mem_map.1 hc
    have k:=h.Oq hx;have k1:=k.i0;have k2:=k.i9;have k3:=k.kd;have k4:=k.ds
    have e:(lW x).Key.size=5:=by rw [<- eE,tkey k1 k2];rfl
    have e2:(lW x).Val.size=4+x.Data.size:=by show (bN x.Kind++x.Data).size=_;rw [eT,cF (by omega) (by omega)]
    exact ⟨by omega,by omega,by omega,rfl⟩
  .
   obtain ⟨x,hx,rfl⟩:=List.mem_map.1 hc
   have k:=h.tree.mem hx
   have i1:=k.id1;have i9:=k.Og;have t1:=k.Qc;have t9:=k.Qd;have b0:=k.Qe;have b9:=k.Qf;have f0:=k.QX;have fl:=k.Qg;have q0:=k.Ky;have q7:=k.Kz
   have e:(nX x).Key.size=5:=by rw [<- eE,K2 (by omega) (by omega)];rfl
   have e2:(nX x).Val.size=16:=by
    show (bN x.aE++bN x.Rights++bN x.aQ++bN x.From).size=_
    simp only [eT]
    rw [cF (by omega) (by omega),cF (by omega) (by omega),cF (by omega) (by omega),cF (by omega) (by omega)]
   exact ⟨by omega,by omega,by omega,rfl⟩
 .
  rw [List.mem_singleton.1 hc]
  have e2:(DL r).Val.size=8:=by
   show (bN r.af++bN r.ah).size=_
   rw [eT,cF (by omega) (by omega),cF (by omega) (by omega)]
  exact ⟨(by decide:0<kX.size),(by decide:kX.size<=8),by omega,rfl⟩
theorem qX {r:aB}(h:Inv r):∀c∈bf r,IG c:=QD (jw h).1
theorem fZ {r:aB}(h:Inv r):dr (bf r):=zV (jw h).1
theorem FE {r:aB}(h:Inv r):∀c∈bf r,c.Key.size<=1000/\c.Val.size<=1000:=fun c hc=>by
 have k:=qX h c hc;have:=k.k8;have:=k.v;omega
section
theorem Ls {α:Type}[DecidableEq α]:∀ (a b:List α),a.Nodup->(∀x∈a,x∈b)->a.length<=b.length
 | [],b,_,_=>Nat.zero_le _
 | x::a,b,hn,h=>by
  obtain ⟨h1,h2⟩:=List.nodup_cons.1 hn
  have hx:=h x (List.mem_cons_self ..)
  have:=Ls a (b.erase x) h2 (fun y hy=>(List.mem_erase_of_ne (fun e=>h1 (by rw [<- e];exact hy))).2 (h y (List.mem_cons_of_mem _ hy)))
  rw [List.length_erase_of_mem hx] at this
  have hp:=List.length_pos_of_mem hx
  rw [List.length_cons];omega
def Wj (p:Place):ByteArray:=kH++gQ p.aC++gQ p.Slot
def QE:List Place:=(List.range 24).map (fun i=>⟨((i / 6+1:Nat):Int),((i % 6:Nat):Int)⟩)
theorem Lt {p:Place}(h:aZ p=0):p∈QE:=by
 have h1:=cx h
 refine List.mem_map.2 ⟨((p.aC.toNat-1)*6+p.Slot.toNat),List.mem_range.2 (by omega),?_⟩
 obtain ⟨a,b⟩:=p
 dsimp only at h1 ⊢
 congr 1 <;> omega
def GR (H T:List Int):List ByteArray:=QE.map Wj++T.map (fun i=>kT++bN i)++H.map (fun i=>kW++bN i)++[kX]
theorem Lu {H T:List Int}(h1:H.length<=24)(h2:T.length<=10):(GR H T).length<=59:=by
 unfold GR QE
 simp only [List.length_append,List.length_map,List.length_range,List.length_cons,List.length_nil];omega
section
variable {r a b:aB}
theorem Aa (h:Inv r){H T:List Int}(hH:∀x∈r.Held,x.ak∈H)(hT:∀t∈r.Things,t.ID∈T):∀c∈bf r,c.Key∈GR H T:=fun c hc=>by
 obtain ⟨q1,q2,q3,q4,q5⟩:=jw h
 unfold bf rowsOf at hc
 rcases List.mem_append.1 hc with hc|hc
 .
  rcases List.mem_append.1 hc with hc|hc
  .
   rcases List.mem_append.1 hc with hc|hc
   .
    obtain ⟨x,hx,rfl⟩:=List.mem_map.1 hc
    exact List.mem_append_left _ (List.mem_append_left _ (List.mem_append_left _ (List.mem_map.2 ⟨x.Place,Lt (q1.Iu hx).1,rfl⟩)))
   .
    obtain ⟨x,hx,rfl⟩:=List.mem_map.1 hc
    have hx2:=(zP _).2.2.1 x hx
    exact List.mem_append_left _ (List.mem_append_left _ (List.mem_append_right _ (List.mem_map.2 ⟨x.ID,hT x hx2,rfl⟩)))
  .
   obtain ⟨x,hx,rfl⟩:=List.mem_map.1 hc
   have h1:=q1.once x hx
   have h2:cN (bm r).Notes x.ID=0:=by rw [q2];rfl
   obtain ⟨y,hy,e⟩:=List.countP_pos_iff.1 (show 0<cH (bm r).Held x.ID by omega)
   have e:y.ak=x.ID:=by simpa using e
   rw [q3] at hy
   exact List.mem_append_left _ (List.mem_append_right _ (List.mem_map.2 ⟨x.ID,e▸hH y hy,rfl⟩))
 .
  rw [List.mem_singleton.1 hc]
  exact List.mem_append_right _ (List.mem_singleton.2 rfl)
theorem GU (ha:Inv a)(hb:Inv b){H T:List Int}(hH:H.length<=24)(hT:T.length<=10)(a1:∀x∈a.Held,x.ak∈H)(a2:∀t∈a.Things,t.ID∈T)(b1:∀x∈b.Held,x.ak∈H)(b2:∀t∈b.Things,t.ID∈T) :
 (dO (bf a) (bf b)).length<=59:=by
 have hr:=sh (fZ ha) (fZ hb)
 have hn:((dO (bf a) (bf b)).map Change.Key).Nodup:=by
  refine List.pairwise_map.2 ((si hr).imp fun q=>q)
 have:=Ls _ (GR H T) hn (fun k hk=>by
  obtain ⟨x,hx,rfl⟩:=List.mem_map.1 hk
  rcases (mem_merge (fZ ha) (fZ hb)).1 hx with ⟨c,hc,_,rfl⟩ | ⟨h,_⟩
  .exact Aa ha a1 a2 c hc
  .exact Aa hb b1 b2 x h)
 rw [List.length_map] at this
 exact Nat.le_trans this (Lu hH hT)
def Eh (a b:aB):Prop:=(∀x∈a.Held,∃y∈b.Held,y.ak=x.ak)/\(∀t∈a.Things,∃s∈b.Things,s.ID=t.ID)
theorem Eh.refl (a:aB):Eh a a:=⟨fun x hx=>⟨x,hx,rfl⟩,fun t ht=>⟨t,ht,rfl⟩⟩
theorem Nh (ha:Inv a)(hb:Inv b)(h:Eh a b∨Eh b a):(dO (bf a) (bf b)).length<=59:=by
 rcases h with h|h
 .exact GU ha hb (H:=b.Held.map Held.ak) (T:=b.Things.map aE.ID) (by rw [List.length_map];exact tq hb) (by rw [List.length_map];exact hb.jl)
   (fun x hx=>by obtain ⟨y,hy,e⟩:=h.1 x hx;exact List.mem_map.2 ⟨y,hy,e⟩) (fun x hx=>by obtain ⟨y,hy,e⟩:=h.2 x hx;exact List.mem_map.2 ⟨y,hy,e⟩)
   (fun x hx=>List.mem_map.2 ⟨x,hx,rfl⟩) (fun x hx=>List.mem_map.2 ⟨x,hx,rfl⟩)
 .exact GU ha hb (H:=a.Held.map Held.ak) (T:=a.Things.map aE.ID) (by rw [List.length_map];exact tq ha) (by rw [List.length_map];exact ha.jl)
   (fun x hx=>List.mem_map.2 ⟨x,hx,rfl⟩) (fun x hx=>List.mem_map.2 ⟨x,hx,rfl⟩)
   (fun x hx=>by obtain ⟨y,hy,e⟩:=h.1 x hx;exact List.mem_map.2 ⟨y,hy,e⟩) (fun x hx=>by obtain ⟨y,hy,e⟩:=h.2 x hx;exact List.mem_map.2 ⟨y,hy,e⟩)
theorem Ab {ws:List ak}{nw nt:Int}:Eh (dN ⟨ws,r.Things,r.Held,r.Notes,nw,nt⟩) r:=by
 have h:=zP (⟨ws,r.Things,r.Held,r.Notes,nw,nt⟩:aB)
 exact ⟨fun x hx=>⟨x,h.1 x hx,rfl⟩,fun t ht=>⟨t,h.2.2.1 t ht,rfl⟩⟩
theorem QF (h:Inv r){a:ft}(hm:(cp r a).2=0):Eh r (cp r a).1∨Eh (cp r a).1 r:=by
 have n1:=h.oN
 unfold cp at hm ⊢
 by_cases h1:a.Kind=(⟨#[109,97,107,101]⟩:ByteArray)
 .
  rw [if_pos h1] at hm ⊢
  obtain ⟨hk,hf,hl,ht,hw,he⟩:=xQ hm
  obtain ⟨hp,ha⟩:=l8 hf
  have hpl:=cx hp
  rw [he (by omega)]
  exact .inl ⟨fun x hx=>⟨x,(lG h.good ha (by omega)).2 (.inr hx),rfl⟩,fun t ht=>⟨t,List.mem_append_left _ ht,rfl⟩⟩
 .
  rw [if_neg h1] at hm ⊢
  by_cases h2:a.Kind=(⟨#[103,105,118,101]⟩:ByteArray)
  .
   rw [if_pos h2] at hm ⊢
   obtain ⟨hg,hf,hr,hw,hd,he⟩:=xR hm
   obtain ⟨hp,ha⟩:=l8 hf
   have hpl:=cx hp
   obtain ⟨_,hgm,_⟩:=h.get hg
   obtain ⟨GF,hid,hth,_⟩:=h.derive hgm hw hd
   rw [he (by omega)]
   exact .inl ⟨fun x hx=>⟨x,(lG h.good ha (by omega)).2 (.inr hx),rfl⟩,fun t ht=>⟨t,ht,rfl⟩⟩
  .
   rw [if_neg h2] at hm ⊢
   by_cases h3:a.Kind=(⟨#[109,111,118,101]⟩:ByteArray)
   .
    rw [if_pos h3] at hm ⊢
    obtain ⟨hg,hf,he⟩:=xS hm
    obtain ⟨hp,ha⟩:=l8 hf
    obtain ⟨hpf,hgm,hat,h1,_⟩:=h.get hg
    rw [he]
    have hi:(aS r a.P).1.ID≠0:=by omega
    have hg1:Good (fT r.Held a.P 0):=mD h.good hpf
    have hne:¬ (⟨a.P.aC,a.A⟩:Place)=a.P:=fun e=>by rw [e] at ha;omega
    have ha1:mM (fT r.Held a.P 0) ⟨a.P.aC,a.A⟩=0:=by rw [zK h.good hpf hne];exact ha
    refine .inr ⟨fun x hx=>?_,fun t ht=>⟨t,ht,rfl⟩⟩
    rcases (lG hg1 ha1 hi).1 hx with e|hx
    .exact ⟨⟨a.P,(aS r a.P).1.ID⟩,at_mem h.good hat.symm hi,by rw [e]⟩
    .exact ⟨x,DJ h.good hat.symm hi hx,rfl⟩
   .
    rw [if_neg h3] at hm ⊢
    by_cases h4:a.Kind=(⟨#[100,114,111,112]⟩:ByteArray)
    .
     rw [if_pos h4] at hm ⊢
     rw [(xU hm).2];exact .inr Ab
    .
     rw [if_neg h4] at hm ⊢
     by_cases h5:a.Kind=(⟨#[114,101,118,111,107,101]⟩:ByteArray)
     .
      rw [if_pos h5] at hm ⊢
      rw [(tj hm).2];exact .inr Ab
     .
      rw [if_neg h5] at hm ⊢
      by_cases h6:a.Kind=(⟨#[119,114,105,116,101]⟩:ByteArray)
      .
       rw [if_pos h6] at hm ⊢
       rw [(uQ hm).2.2]
       refine .inr ⟨fun x hx=>⟨x,hx,rfl⟩,fun t ht=>?_⟩
       obtain ⟨k,s,hs,e,_⟩:=mem_set ht
       exact ⟨s,List.mem_of_getElem? hs,e.symm⟩
      .
       rw [if_neg h6] at hm ⊢
       by_cases h7:a.Kind=(⟨#[115,101,110,100]⟩:ByteArray)
       .
        rw [if_pos h7] at hm ⊢
        obtain ⟨_,_,_,hc⟩:=xV hm
        rcases hc with ⟨_,he⟩ | ⟨_,_,_,_,_,he⟩
        .rw [he];exact .inr ⟨fun x hx=>⟨x,hx,rfl⟩,fun t ht=>⟨t,ht,rfl⟩⟩
        .rw [he];exact .inr ⟨fun x hx=>⟨x,hx,rfl⟩,fun t ht=>⟨t,ht,rfl⟩⟩
       .
        rw [if_neg h7] at hm ⊢
        by_cases h8:a.Kind=(⟨#[116,97,107,101]⟩:ByteArray)
        .
         rw [if_pos h8] at hm ⊢
         obtain ⟨hy,i,n,hn,hp,hb,_,hc⟩:=xW hm
         rcases hc with ⟨h0,hf,_,he⟩ | ⟨h0,_,he⟩
         .
          obtain ⟨h5,ha⟩:=free_at hf
          dsimp only;rw [he]
          exact .inl ⟨fun x hx=>⟨x,(lG h.good ha (by omega)).2 (.inr hx),rfl⟩,fun t ht=>⟨t,ht,rfl⟩⟩
         .
          dsimp only;rw [he]
          exact .inl ⟨fun x hx=>⟨x,hx,rfl⟩,fun t ht=>⟨t,ht,rfl⟩⟩
        .rw [if_neg h8];exact .inl (Eh.refl r)
theorem QG (h:Inv r){a:ft}(hm:(cp r a).2=0):(dO (bf r) (bf (cp r a).1)).length<=59:=Nh h (h.do hm) (QF h hm)
theorem yk:∀ (l:List Change),(∀c∈l,iL c=0)->jF l=0
 | [],_=>rfl
 | x::l,h=>by
  unfold jF;rw [if_pos (h x (List.mem_cons_self ..))]
  exact yk l (fun c hc=>h c (List.mem_cons_of_mem _ hc))
theorem IG.ok {c:Change}(h:IG c):iL c=0:=JK (fun e=>by have:=h.k0;rw [e] at this;exact absurd this (by decide)) (fun e=>by rw [h.g] at e;cases e) h.k8 h.v
theorem IG.gone {c:Change}(h:IG c):iL (rG c.Key)=0:=JK (fun e=>by have:=h.k0;have e:c.Key=⟨#[]⟩:=e;rw [e] at this;exact absurd this (by decide)) (fun _=>rfl) h.k8 (by show (0:Nat)<=24;decide)
theorem QH (ha:Inv a)(hb:Inv b):jF (dO (bf a) (bf b))=0:=yk _ fun x hx=>by
 rcases (mem_merge (fZ ha) (fZ hb)).1 hx with ⟨c,hc,_,rfl⟩ | ⟨h,_⟩
 .exact (qX ha c hc).gone
 .exact (qX hb x h).ok
theorem BZ (ha:Inv a)(hb:Inv b):cb (bf a) (dO (bf a) (bf b))=bf b:=uT (fZ ha) (fZ hb) (fun c hc=>(qX hb c hc).g)
theorem yl (h:Inv r):bf (bm r)=bf r:=by
 unfold bf;rw [(jw h).2.2.2.2]
end
end
end Go.Proofs.YtkbhcbipadkcaaaGreatDoor
