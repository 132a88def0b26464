import Derived.Test.YtkbhcbipadkcaaaGreatDoorTO41
import Derived.Shelf.SlGeneric
import Derived.Shelf.SlSortCmp.WholeK
import Derived.Shelf.SlSortCmp.NoneTotal
import Derived.Ground.SlsfProg
section
namespace Go.Proofs
open Go.Shelf
def Tryz.laysSF_ren:Go.Shelf.Ren:=⟨fun|6=>160|15=>190|14=>189|28=>215|29=>216|20=>207|21=>208|22=>209|23=>210|24=>211|25=>212|26=>213|27=>214|46=>241|47=>242|48=>243|49=>244|50=>245|57=>259|n=>n,fun|22=>34|24=>117|25=>219|3=>3|39=>188|0=>0|53=>232|55=>33|4=>4|46=>257|45=>256|50=>205|5=>5|9=>9|66=>282|70=>286|76=>302|77=>303|n=>n,fun|n=>n⟩
theorem Tryz.laysSF:Go.Proofs.SlLaysF0.n6 Tryz.prog Tryz.laysSF_ren:={
 mixed:=by kernel_rfl
 f6:=⟨Tryz.f160.name,by decide,Tryz.func160.trans (congrArg some (by kernel_rfl))⟩
 f14:=⟨Tryz.f189.name,by decide,Tryz.func189.trans (congrArg some (by kernel_rfl))⟩
 f15:=Tryz.func190.trans (congrArg some (by kernel_rfl))
 f20:=⟨Tryz.f207.name,by decide,Tryz.func207.trans (congrArg some (by kernel_rfl))⟩
 f21:=⟨Tryz.f208.name,by decide,Tryz.func208.trans (congrArg some (by kernel_rfl))⟩
 f22:=⟨Tryz.f209.name,by decide,Tryz.func209.trans (congrArg some (by kernel_rfl))⟩
 f23:=⟨Tryz.f210.name,by decide,Tryz.func210.trans (congrArg some (by kernel_rfl))⟩
 f24:=⟨Tryz.f211.name,by decide,Tryz.func211.trans (congrArg some (by kernel_rfl))⟩
 f25:=⟨Tryz.f212.name,by decide,Tryz.func212.trans (congrArg some (by kernel_rfl))⟩
 f26:=⟨Tryz.f213.name,by decide,Tryz.func213.trans (congrArg some (by kernel_rfl))⟩
 f27:=⟨Tryz.f214.name,by decide,Tryz.func214.trans (congrArg some (by kernel_rfl))⟩
 f28:=Tryz.func215.trans (congrArg some (by kernel_rfl))
 f29:=Tryz.func216.trans (congrArg some (by kernel_rfl))
 f46:=⟨Tryz.f241.name,by decide,Tryz.func241.trans (congrArg some (by kernel_rfl))⟩
 f47:=Tryz.func242.trans (congrArg some (by kernel_rfl))
 f48:=Tryz.func243.trans (congrArg some (by kernel_rfl))
 f49:=⟨Tryz.f244.name,by decide,Tryz.func244.trans (congrArg some (by kernel_rfl))⟩
 f50:=⟨Tryz.f245.name,by decide,Tryz.func245.trans (congrArg some (by kernel_rfl))⟩
 f57:=⟨Tryz.f259.name,by decide,Tryz.func259.trans (congrArg some (by kernel_rfl))⟩
 t0:=Tryz.underlying0
 a0:=Tryz.isAgg0
 z0:=Tryz.sizeOf0
 v0:=Tryz.zeroValue0
 t3:=Tryz.underlying3
 a3:=Tryz.isAgg3
 z3:=Tryz.sizeOf3
 v3:=Tryz.zeroValue3
 t4:=Tryz.underlying4
 a4:=Tryz.isAgg4
 z4:=Tryz.sizeOf4
 v4:=Tryz.zeroValue4
 t5:=Tryz.underlying5
 a5:=Tryz.isAgg5
 z5:=Tryz.sizeOf5
 v5:=Tryz.zeroValue5
 t9:=Tryz.underlying9
 a9:=Tryz.isAgg9
 z9:=Tryz.sizeOf9
 v9:=Tryz.zeroValue9
 t22:=Tryz.underlying34
 a22:=Tryz.isAgg34
 z22:=Tryz.sizeOf34
 v22:=Tryz.zeroValue34
 t25:=Tryz.underlying219
 a25:=Tryz.isAgg219
 z25:=Tryz.sizeOf219
 v25:=Tryz.zeroValue219
 t39:=Tryz.underlying188
 a39:=Tryz.isAgg188
 z39:=Tryz.sizeOf188
 v39:=Tryz.zeroValue188
 t45:=Tryz.underlying256
 a45:=Tryz.isAgg256
 z45:=Tryz.sizeOf256
 v45:=Tryz.zeroValue256
 t46:=Tryz.underlying257
 a46:=Tryz.isAgg257
 z46:=Tryz.sizeOf257
 v46:=Tryz.zeroValue257
 t50:=Tryz.underlying205
 a50:=Tryz.isAgg205
 z50:=Tryz.sizeOf205
 v50:=Tryz.zeroValue205
 t53:=Tryz.underlying232
 a53:=Tryz.isAgg232
 z53:=Tryz.sizeOf232
 v53:=Tryz.zeroValue232
 t55:=Tryz.underlying33
 a55:=Tryz.isAgg33
 z55:=Tryz.sizeOf33
 v55:=Tryz.zeroValue33
 t66:=Tryz.underlying282
 a66:=Tryz.isAgg282
 z66:=Tryz.sizeOf282
 v66:=Tryz.zeroValue282
 t70:=Tryz.underlying286
 a70:=Tryz.isAgg286
 z70:=Tryz.sizeOf286
 v70:=Tryz.zeroValue286
 t76:=Tryz.underlying302
 a76:=Tryz.isAgg302
 z76:=Tryz.sizeOf302
 v76:=Tryz.zeroValue302
 t77:=Tryz.underlying303
 a77:=Tryz.isAgg303
 z77:=Tryz.sizeOf303
 v77:=Tryz.zeroValue303 }
end Go.Proofs
end
namespace Go.Proofs.YtkbhcbipadkcaaaGreatDoor
set_option linter.unusedVariables false
set_option linter.unusedSimpArgs false
def rN (k:ByteArray):Change:=⟨k,⟨#[]⟩,true⟩
def yo (a b:List Change):List Change:=(a.filter (fun c => !lG (fK c.Key) b)).map (fun c=>rN c.Key)
def D1 (a b:List Change):List Change:=b.filter (fun c => !lG (fK c.Key) a || !decide (a[jF (fK c.Key) a]? = some c))
def mN (a b:List Change):List Change:=yo a b++D1 a b
def dS:List Change->List Change->List Change
  | [],b=>b
  | x::a,[]=>rN x.Key::dS a []
  | x::a,y::b=>if jA x.Key y.Key=true then rN x.Key::dS a (y::b) else if jA y.Key x.Key=true then y::dS (x::a) b else if x=y then dS a b else y::dS a b
termination_by a b=>a.length+b.length
decreasing_by all_goals (simp only [List.length_cons];omega)
theorem Ab (b:List Change):dS [] b=b:=by rw [dS]
theorem Iw (x:Change)(a:List Change):dS (x::a) []=rN x.Key::dS a []:=by rw [dS]
theorem Ft (x y:Change)(a b:List Change):dS (x::a) (y::b)=if jA x.Key y.Key=true then rN x.Key::dS a (y::b) else if jA y.Key x.Key=true then y::dS (x::a) b else if x=y then dS a b else y::dS a b:=by rw [dS]
theorem GI {l:List Change}(h:dq l)(k:ByteArray):lG (fK k) l=true ↔ ∃x∈l,x.Key=k:=by
 rcases dq.cut h k with ⟨A,B,x,e,hx,ha,hb⟩ | ⟨A,B,e,ha,hb⟩
 .rw [e,(EK hx ha hb).2];exact ⟨fun _=>⟨x,by simp,hx⟩,fun _=>rfl⟩
 .
  rw [e,(F9 ha hb).2]
  refine ⟨fun q=>(by cases q),fun ⟨x,hx,hk⟩=>?_⟩
  rcases List.mem_append.1 hx with q|q
  .have:=ha x q;rw [hk,e9] at this;cases this
  .have:=hb x q;rw [hk,e9] at this;cases this
theorem uo {l:List Change}(h:dq l){x y:Change}(hx:x∈l)(hy:y∈l)(e:x.Key=y.Key):x=y:=by
 rcases dq.cut h x.Key with ⟨A,B,z,e1,hz,ha,hb⟩ | ⟨A,B,e1,ha,hb⟩
 .
  have key:∀w∈l,w.Key=x.Key->w=z:=fun w hw hk=>by
   rw [e1] at hw
   rcases List.mem_append.1 hw with q|q
   .have:=ha w q;rw [hk,e9] at this;cases this
   .
    rcases List.mem_cons.1 q with q|q
    .exact q
    .have:=hb w q;rw [hk,e9] at this;cases this
  rw [key x hx rfl,key y hy e.symm]
 .
  rw [e1] at hx
  rcases List.mem_append.1 hx with q|q
  .have:=ha x q;rw [e9] at this;cases this
  .have:=hb x q;rw [e9] at this;cases this
theorem Lw {l:List Change}(h:dq l){c:Change}:(lG (fK c.Key) l=true/\l[jF (fK c.Key) l]? = some c)↔c∈l:=by
 constructor
 .rintro ⟨_,h2⟩;exact List.mem_of_getElem? h2
 .
  intro hc
  rcases dq.cut h c.Key with ⟨A,B,z,e1,hz,ha,hb⟩ | ⟨A,B,e1,ha,hb⟩
  .
   have hk:=EK hz ha hb
   have e2:z=c:=uo h (by rw [e1];simp) hc hz
   rw [e1,hk.1,hk.2]
   refine ⟨rfl,?_⟩
   rw [List.getElem?_append_right (Nat.le_refl _),Nat.sub_self,e2];rfl
  .
   rw [e1] at hc
   rcases List.mem_append.1 hc with q|q
   .have:=ha c q;rw [e9] at this;cases this
   .have:=hb c q;rw [e9] at this;cases this
def Ra (a b:List Change)(x:Change):Prop:=(∃c∈a,(∀y∈b,y.Key≠c.Key)/\x=rN c.Key)∨(x∈b/\¬ x∈a)
theorem D2 {a b:List Change}(hb:dq b){x:Change}:x∈yo a b ↔ ∃c∈a,(∀y∈b,y.Key≠c.Key)/\x=rN c.Key:=by
 unfold yo
 rw [List.mem_map]
 constructor
 .
  rintro ⟨c,hc,rfl⟩
  obtain ⟨h1,h2⟩:=List.mem_filter.1 hc
  refine ⟨c,h1,fun y hy e=>?_,rfl⟩
  rw [(GI hb c.Key).2 ⟨y,hy,e⟩] at h2;cases h2
 .
  rintro ⟨c,hc,hn,rfl⟩
  refine ⟨c,List.mem_filter.2 ⟨hc,?_⟩,rfl⟩
  cases hq:lG (fK c.Key) b with
  | false=>rfl
  | true=>obtain ⟨y,hy,e⟩:=(GI hb c.Key).1 hq;exact absurd e (hn y hy)
theorem D3 {a b:List Change}(ha:dq a){x:Change}:x∈D1 a b↔x∈b/\¬ x∈a:=by
 unfold D1
 rw [List.mem_filter,<- Lw ha (c:=x)]
 refine and_congr_right fun _=>?_
 cases lG (fK x.Key) a <;> simp
theorem Lx {a b:List Change}(ha:dq a)(hb:dq b){x:Change}:x∈mN a b↔Ra a b x:=by
 unfold mN Ra;rw [List.mem_append,D2 hb,D3 ha]
theorem j8:∀ (n:Nat) (a b:List Change),a.length+b.length<=n->dq a->dq b->(∀x,x∈dS a b↔Ra a b x)/\dq (dS a b)
 | n,[],b,_,_,hb=>by
  rw [Ab]
  refine ⟨fun x=>⟨fun h => .inr ⟨h,fun q=>by cases q⟩,?_⟩,hb⟩
  rintro (⟨c,hc,_⟩ | ⟨h,_⟩)
  .cases hc
  .exact h
 | 0,x::a,b,h,_,_=>by simp at h
 | n+1,x::a,[],hn,ha,hb=>by
  obtain ⟨a1,a2⟩:=List.pairwise_cons.1 ha
  obtain ⟨i1,i2⟩:=j8 n a [] (by simp only [List.length_cons] at hn;omega) a2 hb
  rw [Iw]
  refine ⟨fun z=>?_,List.pairwise_cons.2 ⟨fun z hz=>?_,i2⟩⟩
  .
   rw [List.mem_cons,i1 z]
   constructor
   .
    rintro (rfl|⟨c,hc,hh,rfl⟩ | ⟨h,_⟩)
    .exact .inl ⟨x,List.mem_cons_self ..,(fun y hy=>by cases hy),rfl⟩
    .exact .inl ⟨c,List.mem_cons_of_mem _ hc,hh,rfl⟩
    .cases h
   .
    rintro (⟨c,hc,hh,rfl⟩ | ⟨h,_⟩)
    .
     rcases List.mem_cons.1 hc with rfl|hc
     .exact .inl rfl
     .exact .inr (.inl ⟨c,hc,hh,rfl⟩)
    .cases h
  .
   rcases (i1 z).1 hz with ⟨c,hc,_,rfl⟩ | ⟨h,_⟩
   .exact a1 c hc
   .cases h
 | n+1,x::a,y::b,hn,ha,hb=>by
  obtain ⟨a1,a2⟩:=List.pairwise_cons.1 ha
  obtain ⟨b1,b2⟩:=List.pairwise_cons.1 hb
  simp only [List.length_cons] at hn
  have ne_of:∀ {u v:ByteArray},jA u v=true->u≠v:=fun h e=>by rw [e,e9] at h;cases h
  rw [Ft]
  by_cases c1:jA x.Key y.Key=true
  .
   rw [if_pos c1]
   obtain ⟨i1,i2⟩:=j8 n a (y::b) (by simp only [List.length_cons];omega) a2 hb
   have hxb:∀z∈y::b,jA x.Key z.Key=true:=fun z hz=>by
    rcases List.mem_cons.1 hz with rfl|hz
    .exact c1
    .exact l8 c1 (b1 z hz)
   refine ⟨fun z=>?_,List.pairwise_cons.2 ⟨fun z hz=>?_,i2⟩⟩
   .
    rw [List.mem_cons,i1 z]
    constructor
    .
     rintro (rfl|⟨c,hc,hh,rfl⟩ | ⟨h,h'⟩)
     .exact .inl ⟨x,List.mem_cons_self ..,(fun z hz e=>ne_of (hxb z hz) e.symm),rfl⟩
     .exact .inl ⟨c,List.mem_cons_of_mem _ hc,hh,rfl⟩
     .exact .inr ⟨h,fun q=>by
       rcases List.mem_cons.1 q with q|q
       .exact ne_of (hxb z h) (by rw [q])
       .exact h' q⟩
    .
     rintro (⟨c,hc,hh,rfl⟩ | ⟨h,h'⟩)
     .
      rcases List.mem_cons.1 hc with rfl|hc
      .exact .inl rfl
      .exact .inr (.inl ⟨c,hc,hh,rfl⟩)
     .exact .inr (.inr ⟨h,fun q=>h' (List.mem_cons_of_mem _ q)⟩)
   .
    rcases (i1 z).1 hz with ⟨c,hc,_,rfl⟩ | ⟨h,_⟩
    .exact a1 c hc
    .exact hxb z h
  .
   rw [if_neg c1]
   by_cases c2:jA y.Key x.Key=true
   .
    rw [if_pos c2]
    obtain ⟨i1,i2⟩:=j8 n (x::a) b (by simp only [List.length_cons];omega) ha b2
    have hya:∀z∈x::a,jA y.Key z.Key=true:=fun z hz=>by
     rcases List.mem_cons.1 hz with rfl|hz
     .exact c2
     .exact l8 c2 (a1 z hz)
    refine ⟨fun z=>?_,List.pairwise_cons.2 ⟨fun z hz=>?_,i2⟩⟩
    .
     rw [List.mem_cons,i1 z]
     constructor
     .
      rintro (rfl|⟨c,hc,hh,rfl⟩ | ⟨h,h'⟩)
      .exact .inr ⟨List.mem_cons_self ..,fun q=>ne_of (hya z q) rfl⟩
      .exact .inl ⟨c,hc,(fun w hw=>by
        rcases List.mem_cons.1 hw with rfl|hw
        .exact ne_of (hya c hc)
        .exact hh w hw),rfl⟩
      .exact .inr ⟨List.mem_cons_of_mem _ h,h'⟩
     .
      rintro (⟨c,hc,hh,rfl⟩ | ⟨h,h'⟩)
      .exact .inr (.inl ⟨c,hc,(fun w hw=>hh w (List.mem_cons_of_mem _ hw)),rfl⟩)
      .
       rcases List.mem_cons.1 h with rfl|h
       .exact .inl rfl
       .exact .inr (.inr ⟨h,h'⟩)
    .
     rcases (i1 z).1 hz with ⟨c,hc,_,rfl⟩ | ⟨h,_⟩
     .exact hya c hc
     .exact b1 z h
   .
    rw [if_neg c2]
    have e:x.Key=y.Key:=by
     rcases sT x.Key y.Key with q|q|q
     .exact absurd q c1
     .exact q
     .exact absurd q c2
    obtain ⟨i1,i2⟩:=j8 n a b (by omega) a2 b2
    have hz0:∀z∈dS a b,jA y.Key z.Key=true:=fun z hz=>by
     rcases (i1 z).1 hz with ⟨c,hc,_,rfl⟩ | ⟨h,_⟩
     .rw [<- e];exact a1 c hc
     .exact b1 z h
    have hgen:∀z,Ra (x::a) (y::b) z↔(z=y/\x≠y)∨Ra a b z:=fun z=>by
     constructor
     .
      rintro (⟨c,hc,hh,rfl⟩ | ⟨h,h'⟩)
      .
       rcases List.mem_cons.1 hc with rfl|hc
       .exact absurd e.symm (hh y (List.mem_cons_self ..))
       .exact .inr (.inl ⟨c,hc,(fun w hw=>hh w (List.mem_cons_of_mem _ hw)),rfl⟩)
      .
       rcases List.mem_cons.1 h with rfl|h
       .exact .inl ⟨rfl,fun q=>h' (q▸List.mem_cons_self ..)⟩
       .exact .inr (.inr ⟨h,fun q=>h' (List.mem_cons_of_mem _ q)⟩)
     .
      rintro (⟨rfl,hne⟩ | ⟨c,hc,hh,rfl⟩ | ⟨h,h'⟩)
      .
       refine .inr ⟨List.mem_cons_self ..,fun q=>?_⟩
       rcases List.mem_cons.1 q with q|q
       .exact hne q.symm
       .exact ne_of (a1 z q) e
      .
       refine .inl ⟨c,List.mem_cons_of_mem _ hc,fun w hw=>?_,rfl⟩
       rcases List.mem_cons.1 hw with rfl|hw
       .rw [<- e];exact ne_of (a1 c hc)
       .exact hh w hw
      .
       refine .inr ⟨List.mem_cons_of_mem _ h,fun q=>?_⟩
       rcases List.mem_cons.1 q with q|q
       .subst q;exact ne_of (b1 z h) e.symm
       .exact h' q
    by_cases c3:x=y
    .
     rw [if_pos c3]
     exact ⟨fun z=>(i1 z).trans ⟨fun q=>(hgen z).2 (.inr q),fun q=>((hgen z).1 q).elim (fun r=>absurd c3 r.2) id⟩,i2⟩
    .
     rw [if_neg c3]
     refine ⟨fun z=>?_,List.pairwise_cons.2 ⟨hz0,i2⟩⟩
     rw [List.mem_cons,hgen z,i1 z]
     exact or_congr_left ⟨fun q=>⟨q,c3⟩,fun q=>q.1⟩
theorem mem_merge {a b:List Change}(ha:dq a)(hb:dq b){x:Change}:x∈dS a b↔Ra a b x:=(j8 _ a b (Nat.le_refl _) ha hb).1 x
theorem sr {a b:List Change}(ha:dq a)(hb:dq b):dq (dS a b):=(j8 _ a b (Nat.le_refl _) ha hb).2
abbrev Apart (l:List Change):Prop:=l.Pairwise (fun x y=>x.Key≠y.Key)
theorem su {l:List Change}(h:dq l):Apart l:=List.Pairwise.imp (fun q e=>by rw [e,e9] at q;cases q) h
theorem Ix {a b:List Change}(ha:dq a)(hb:dq b):Apart (mN a b):=by
 unfold mN
 refine List.pairwise_append.2 ⟨?_,(su hb).filter _,?_⟩
 .
  unfold yo
  exact List.pairwise_map.2 ((su ha).filter _)
 .
  intro x hx y hy e
  obtain ⟨c,hc,hn,rfl⟩:=(D2 hb).1 hx
  exact hn y ((D3 ha).1 hy).1 e.symm
theorem Fu {a b d:List Change}(ha:dq a)(hb:dq b)(hp:d.Perm (mN a b))(hs:d.Pairwise (fun x y => ¬ jA y.Key x.Key=true)):d=dS a b:=by
 have h1:Apart d:=hp.symm.pairwise (Ix ha hb) (fun q e=>q e.symm)
 have h2:dq d:=by
  refine List.Pairwise.imp ?_ (hs.and h1)
  rintro x y ⟨q1,q2⟩
  rcases sT x.Key y.Key with q|q|q
  .exact q
  .exact absurd q q2
  .exact absurd q q1
 exact tT d _ h2 (sr ha hb) fun x=>by rw [hp.mem_iff,Lx ha hb,mem_merge ha hb]
theorem Ac:∀ (l:List Change) {rows:List Change},dq rows->dq l -> ∀ {y:Change},y∈bW rows l↔(y∈rows /\ ∀c∈l,c.Key≠y.Key)∨(y∈l/\y.Gone=false)
 | [],rows,hr,_,y=>by
  show y∈rows↔_
  exact ⟨fun h => .inl ⟨h,fun c hc=>by cases hc⟩,fun h=>h.elim (fun q=>q.1) (fun q=>by cases q.1)⟩
 | c::l,rows,hr,hl,y=>by
  obtain ⟨l1,l2⟩:=List.pairwise_cons.1 hl
  show y∈bW (zu rows c) l↔_
  rw [Ac l (wT hr c) l2,Gb hr]
  constructor
  .
   rintro (⟨⟨h1,h2⟩ | ⟨h1,rfl⟩,h3⟩ | ⟨h1,h2⟩)
   .
    refine .inl ⟨h1,fun d hd=>?_⟩
    rcases List.mem_cons.1 hd with rfl|hd
    .exact fun e=>h2 e.symm
    .exact h3 d hd
   .exact .inr ⟨List.mem_cons_self ..,h1⟩
   .exact .inr ⟨List.mem_cons_of_mem _ h1,h2⟩
  .
   rintro (⟨h1,h2⟩ | ⟨h1,h2⟩)
   .exact .inl ⟨.inl ⟨h1,fun e=>h2 c (List.mem_cons_self ..) e.symm⟩,fun d hd=>h2 d (List.mem_cons_of_mem _ hd)⟩
   .
    rcases List.mem_cons.1 h1 with rfl|h1
    .exact .inl ⟨.inr ⟨h2,rfl⟩,fun d hd e=>by have:=l1 d hd;rw [e,e9] at this;cases this⟩
    .exact .inr ⟨h1,h2⟩
theorem uV {a b:List Change}(ha:dq a)(hb:dq b)(hg:∀c∈b,c.Gone=false):bW a (dS a b)=b:=by
 refine tT _ _ (rV _ ha) hb fun y=>?_
 rw [Ac _ ha (sr ha hb)]
 constructor
 .
  rintro (⟨h1,h2⟩ | ⟨h1,h2⟩)
  .
   by_cases hy:∃z∈b,z.Key=y.Key
   .
    obtain ⟨z,hz,e⟩:=hy
    by_cases hza:z∈a
    .rw [<- uo ha hza h1 e];exact hz
    .exact absurd e (h2 z ((mem_merge ha hb).2 (.inr ⟨hz,hza⟩)))
   .exact absurd rfl (h2 (rN y.Key) ((mem_merge ha hb).2 (.inl ⟨y,h1,fun z hz e=>hy ⟨z,hz,e⟩,rfl⟩)))
  .
   rcases (mem_merge ha hb).1 h1 with ⟨c,_,_,rfl⟩ | ⟨q,_⟩
   .cases h2
   .exact q
 .
  intro h
  by_cases hya:y∈a
  .
   refine .inl ⟨hya,fun c hc e=>?_⟩
   rcases (mem_merge ha hb).1 hc with ⟨d,_,hn,rfl⟩ | ⟨q1,q2⟩
   .exact hn y h e.symm
   .exact q2 (uo hb q1 h e▸hya)
  .exact .inr ⟨(mem_merge ha hb).2 (.inr ⟨h,hya⟩),hg y h⟩
end Go.Proofs.YtkbhcbipadkcaaaGreatDoor
