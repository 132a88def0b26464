import Derived.Test.YtbkfhjaibhnkmaaGreatDoorIMS18
import Derived.Lib.SlicesCompact
import Derived.Shelf.Strings.Builder1
import Derived.Shelf.Strings.Builder2
import Derived.Shelf.Small.Bits
import Derived.Shelf.Small.Strs
import Derived.Shelf.Small.Wraps
import Derived.Shelf.Strings.BuilderF
import Derived.Shelf.Strconv.Itoa0
import Derived.Shelf.Strconv.Itoa1
import Derived.Shelf.LaysM
import Derived.Shelf.Strconv.Itoa2
import Derived.Shelf.Strconv.Itoa3
import Derived.Shelf.Strconv.AtoiErrFast
import Derived.Shelf.Strconv.ParseIntEmpty
import Derived.Shelf.Strconv.AtoiFail
import Derived.Shelf.Strconv.Clone
import Derived.Shelf.Strconv.SyntaxError
import Derived.Shelf.LaysC
import Derived.Shelf.Strconv.ToError
import Derived.Shelf.Strconv.AtoiErr
import Derived.Shelf.Strconv.ErrVar
import Derived.Shelf.Sort.Plain
import Derived.Shelf.Strings.Prefix
import Derived.Shelf.Bits.Mul64
import Derived.Shelf.Strings.Repeat
import Derived.Shelf.Slices.Turned
import Derived.Shelf.Slices.Equal
import Derived.Ground.Names2Prog
import Derived.Shelf.Slices.CompactI
import Derived.Shelf.Slices.SearchI
import Derived.Shelf.Slices.Cells
import Derived.Shelf.Slices.In.SortNone
import Derived.Shelf.Slices.Empties2
import Derived.Test.YtbkfhjaibhnkmaaGreatDoorProg
section
namespace Go.Proofs.YtbkfhjaibhnkmaaGreatDoor
open Go.RowKit
set_option linter.unusedVariables false
structure Made (y x:ak):Prop where
  thing:y.ao=x.ao
  has:fF y.Rights x.Rights=true
  aJ:y.aI=0∨x.aI=y.aI
  Ah:y.ID=x.From
theorem Dm {y x:ak}(h1:(derived y x.ID x.Rights x.aI).2=0)(h2:(derived y x.ID x.Rights x.aI).1=x):Made y x:=by
 unfold derived at h1 h2
 split at h1;· simp at h1
 split at h1;· simp at h1
 split at h1;· simp at h1
 split at h1;· simp at h1
 split at h1;· simp at h1
 rename_i a b c d e
 rw [if_neg a,if_neg b,if_neg c,if_neg d,if_neg e] at h2
 have ht:=congrArg ak.ao h2
 have hb:=congrArg ak.aI h2
 have hf:=congrArg ak.From h2
 simp only [] at ht hb hf
 refine ⟨ht,by simpa using d,?_,hf⟩
 by_cases h0:x.aI=0
 ·rw [if_pos h0] at hb;exact .inl (by omega)
 ·
  by_cases hy:y.aI=0
  ·exact .inl hy
  ·
   right
   by_cases he:x.aI=y.aI
   ·exact he
   ·exact absurd ⟨h0,hy,he⟩ e
theorem xa {y x:ak}(w:Gi x)(h:Made y x):derived y x.ID x.Rights x.aI=(x,0):=by
 have:=w.Bm;have:=w.Bn;have:=w.Fv;have:=w.Fw
 unfold derived
 rw [if_neg (by rw [fE w.Bm w.Bn];omega),if_neg (by omega),if_neg (by omega),if_neg (by rw [h.has];simp),if_neg (by rintro ⟨h1,h2,h3⟩;rcases h.aJ with h4|h4 <;> omega)]
 have hb:(if x.aI=0 then y.aI else x.aI)=x.aI:=by
  split
  ·rcases h.aJ with h4|h4 <;> omega
  ·rfl
 rw [hb,h.thing,h.Ah]
theorem Bt:∀a b c:Fin 8,fF ((a:Nat):Int) ((b:Nat):Int)=true→fF ((b:Nat):Int) ((c:Nat):Int)=true→fF ((a:Nat):Int) ((c:Nat):Int)=true:=by decide
theorem IQ {a b c:Int}(a0:0≤a)(a7:a≤7)(b0:0≤b)(b7:b≤7)(c0:0≤c)(c7:c≤7)(h:fF a b=true)(k:fF b c=true):fF a c=true:=by
 obtain ⟨x,rfl⟩:=rk a0 a7;obtain ⟨y,rfl⟩:=rk b0 b7;obtain ⟨z,rfl⟩:=rk c0 c7;exact Bt x y z h k
structure pb (l:List ak):Prop where
  ok:∀x∈l,cM x=0
  rise:l.Pairwise (fun x y=>x.ID<y.ID)
  made:∀x∈l,x.From≠0 → ∃y∈l,Made y x
theorem cR.fault {l:List ak}(h:cR l){x:ak}(hx:x∈l):cM x=0:=by
 obtain ⟨j,hj⟩:=List.mem_iff_getElem?.1 hx
 rcases ig x with h1|h1
 ·exact h1
 ·have:=gv hj (by omega);rw [h.steps j (List.getElem?_eq_some_iff.1 hj).1] at this;omega
theorem cR.is {l:List ak}(h:cR l):pb l:=by
 refine ⟨fun x hx=>h.fault hx,?_,fun x hx h0=>?_⟩
 ·
  rw [List.pairwise_iff_getElem]
  intro i j hi hj hij
  exact h.rise j i hij (List.getElem?_eq_getElem hj) (List.getElem?_eq_getElem hi)
 ·
  obtain ⟨k,hk⟩:=List.mem_iff_getElem?.1 hx
  obtain ⟨j,y,hj,hy,_,h1,h2⟩:=rA hk (h.steps k (List.getElem?_eq_some_iff.1 hk).1) h0
  exact ⟨y,List.mem_of_getElem? hy,Dm h1 h2⟩
theorem ml {l:List ak}(h:l.Pairwise (fun x y=>x.ID<y.ID)){i j:Nat}{x y:ak}(hi:l[i]? = some x)(hj:l[j]? = some y)(hij:i<j):x.ID<y.ID:=by
 rw [List.pairwise_iff_getElem] at h
 obtain ⟨h1,rfl⟩:=List.getElem?_eq_some_iff.1 hi
 obtain ⟨h2,rfl⟩:=List.getElem?_eq_some_iff.1 hj
 exact h i j h1 h2 hij
theorem pb.ok' {l:List ak}(h:pb l):cR l:=by
 refine mh fun k hk=>?_
 have hx:l[k]? = some l[k]:=List.getElem?_eq_getElem hk
 have hm:l[k]∈l:=List.getElem_mem hk
 have h0:=h.ok _ hm
 have w:=ud h0
 have hsh:¬ 0<k ∨ ∃y,l[k-1]? = some y∧y.ID<(l[k]).ID:=by
  by_cases h1:0<k
  ·
   have hy:l[k-1]? = some (l[k-1]'(by omega)):=List.getElem?_eq_getElem (by omega)
   exact .inr ⟨_,hy,ml h.rise hy hx (by omega)⟩
  ·exact .inl h1
 by_cases hf:(l[k]).From=0
 ·exact rm hx h0 hsh hf
 ·
  obtain ⟨y,hy,hmd⟩:=h.made _ hm hf
  obtain ⟨j,hj⟩:=List.mem_iff_getElem?.1 hy
  have hjl:j<l.length:=(List.getElem?_eq_some_iff.1 hj).1
  have hjk:j<k:=by
   rcases Nat.lt_trichotomy j k with h1|h1|h1
   ·exact h1
   ·
    subst h1;rw [hj] at hx;injection hx with hx
    have:=hmd.Ah;have:=w.EJ;rw [hx] at *;omega
   ·have:=ml h.rise hx hj h1;have:=hmd.Ah;have:=w.EJ;omega
  have hfw:cB (l.take k) (l[k]).From=(j:Int):=by
   have hl:j<(l.take k).length:=by rw [List.length_take];omega
   have hge:(l.take k)[j]=y:=by
    rw [List.getElem_take];exact (List.getElem?_eq_some_iff.1 hj).2
   refine Bi hl (by rw [hge];exact hmd.Ah) (fun i z hi hz=>?_)
   have hz':l[i]? = some z:=by rw [List.getElem?_take,if_pos (by omega)] at hz;exact hz
   have:=ml h.rise hz' hj hi
   have:=hmd.Ah;omega
  rw [gw hx h0 hsh hf hfw hjk hj]
  have:=xa w hmd
  rw [this];simp
theorem s8 {l:List ak}(h:cR l){a b:Int}(ha:0≤cB l a)(hb:0≤cB l b):b∈eb a l↔a∈above l b:=by
 rw [yB h]
 have ha0:=h.pX ha
 have hb0:=h.pX hb
 unfold beneath nj above
 rw [← vC h ha _ hb0.2.2.1]
 simp only [List.mem_map,List.mem_filter,Gk,Bool.and_eq_true,decide_eq_true_eq]
 obtain ⟨y,_,hy2,hy3,hy4⟩:=kL hb
 constructor
 ·
  rintro ⟨x,⟨hx,hu,_⟩,hid⟩
  have:x=y:=h.inj hx hy3 (by omega)
  subst this;rw [hy4];exact hu
 ·
  intro hu
  exact ⟨y,⟨hy3,by rw [← hy4];exact hu,ha0.1⟩,hy2⟩
theorem fC {l:List ak}{id:Int}{x:ak}:x∈without l id ↔ ∃y∈l,y.ID≠id∧x=jt id (ey l id) y:=by
 unfold without vx
 simp only [List.mem_map,List.mem_filter,decide_eq_true_eq]
 constructor
 ·rintro ⟨y,⟨h1,h2⟩,rfl⟩;exact ⟨y,h1,h2,rfl⟩
 ·rintro ⟨y,h1,h2,rfl⟩;exact ⟨y,⟨h1,h2⟩,rfl⟩
theorem ij {id f:Int}(x:ak):(jt id f x).ID=x.ID∧(jt id f x).ao=x.ao∧(jt id f x).Rights=x.Rights∧(jt id f x).aI=x.aI:=by unfold jt;split <;> exact ⟨rfl,rfl,rfl,rfl⟩
theorem pd {id f:Int}(x:ak):(jt id f x).From=if x.From=id then f else x.From:=by unfold jt;split <;> rfl
theorem Dn {x:ak}(h:cM x=0){f:Int}(h0:0≤f)(h1:f<x.ID):cM { x with From:=f }=0:=by
 have w:=ud h
 rcases fk { x with From:=f } with ⟨h2,h3⟩ | ⟨h2,_⟩
 ·
  have:=w.id1;have:=w.Dl;have:=w.EH;have:=w.Fu;have:=w.Fv;have:=w.Fw;have:=w.Bm;have:=w.Bn
  simp only [] at h3;omega
 ·exact h2
theorem Dp {id f:Int}{y x:ak}(h:Made y x)(hf:x.From≠id):Made (jt id f y) (jt id f x):=by
 have hy:=ij (id:=id) (f:=f) y
 have hx:=ij (id:=id) (f:=f) x
 refine ⟨by rw [hy.2.1,hx.2.1];exact h.thing,by rw [hy.2.2.1,hx.2.2.1];exact h.has,by rw [hy.2.2.2,hx.2.2.2];exact h.aJ,?_⟩
 rw [hy.1,pd,if_neg hf];exact h.Ah
theorem cR.wo {l:List ak}(h:cR l)(id:Int):cR (without l id):=by
 have hi:=h.is
 refine pb.ok' ⟨fun x hx=>?_,?_,fun x hx h0=>?_⟩
 ·
  obtain ⟨y,hy,hne,rfl⟩:=fC.1 hx
  have IU:=hi.ok y hy
  unfold jt
  split
  ·
   rename_i he
   have w:=ud IU
   have:=w.EI;have:=w.EJ
   have hid:0≤ey l id∧(0<ey l id→ey l id<id):=by
    rcases Int.lt_or_le (cB l id) 0 with h1|h1
    ·rw [nN h1];omega
    ·have:=h.pX h1;omega
   exact Dn IU hid.1 (by omega)
  ·exact IU
 ·
  unfold without vx
  rw [List.pairwise_map]
  refine (hi.rise.filter _).imp ?_
  intro a b hab
  rw [(ij a).1,(ij b).1];exact hab
 ·
  obtain ⟨y,hy,hne,rfl⟩:=fC.1 hx
  rw [pd] at h0
  by_cases he:y.From=id
  ·
   rw [if_pos he] at h0
   have hid:0≤cB l id:=by
    rcases Int.lt_or_le (cB l id) 0 with h1|h1
    ·rw [nN h1] at h0;exact absurd rfl h0
    ·exact h1
   obtain ⟨p,_,hp2,hp3,IV⟩:=kL hid
   have JQ:=h.pX hid
   obtain ⟨z,hz,HE⟩:=hi.made p hp3 (by rw [← IV];exact h0)
   have hy0:y.From≠0:=by rw [he];omega
   obtain ⟨p',hp',hpy⟩:=hi.made y hy hy0
   have:p'=p:=h.inj hp' hp3 (by rw [hpy.Ah,he,hp2])
   subst this
   have IW:z.ID≠id:=by have:=HE.Ah;rw [← IV] at this;omega
   refine ⟨jt id (ey l id) z,fC.2 ⟨z,hz,IW,rfl⟩,?_⟩
   have wz:=h.mem hz;have wp:=h.mem hp3;have wy:=h.mem hy
   have hz':=ij (id:=id) (f:=ey l id) z
   have hy':=ij (id:=id) (f:=ey l id) y
   refine ⟨by rw [hz'.2.1,hy'.2.1,HE.thing,hpy.thing],by rw [hz'.2.2.1,hy'.2.2.1];exact IQ wz.Bm wz.Bn wp.Bm wp.Bn wy.Bm wy.Bn HE.has hpy.has,?_,?_⟩
   ·
    rw [hz'.2.2.2,hy'.2.2.2]
    rcases HE.aJ with h1|h1
    ·exact .inl h1
    ·
     rcases hpy.aJ with h2|h2
     ·exact .inl (by omega)
     ·exact .inr (by omega)
   ·rw [hz'.1,pd,if_pos he,HE.Ah,IV]
  ·
   rw [if_neg he] at h0
   obtain ⟨p,hp,hpy⟩:=hi.made y hy h0
   exact ⟨jt id (ey l id) p,fC.2 ⟨p,hp,by rw [hpy.Ah];exact he,rfl⟩,Dp hpy he⟩
theorem Bu {l:List ak}(h:cR l)(id:Int):vy l id=without l id:=by
 unfold vy
 split
 ·
  rename_i h1
  unfold without vx
  rw [nN h1]
  have:∀x∈l.filter (fun x=>decide (x.ID≠id)),jt id 0 x=x:=by
   intro x hx
   have hxl:=(List.mem_filter.1 hx).1
   unfold jt;split
   ·
    rename_i he
    by_cases h0:x.From=0
    ·cases x;simp only [] at h0;subst h0;rfl
    ·
     obtain ⟨y,hy,hm⟩:=h.is.made x hxl h0
     have:=iG hy;rw [hm.Ah,he] at this;omega
   ·rfl
  exact (List.map_congr_left this).trans (List.map_id' _) |>.symm
 ·rfl
end Go.Proofs.YtbkfhjaibhnkmaaGreatDoor
end
section
namespace Go.Proofs.YtbkfhjaibhnkmaaGreatDoor
open Go.RowKit
set_option linter.unusedVariables false
def hasT? (l:List ak)(t:Int):Bool:=l.any (fun x=>x.ao==t)
def ez (l:List ak):Nat→List Int
  | 0=>[]
  | n+1=>if hasT? l ((n+1:Nat):Int) then ez l n++[((n+1:Nat):Int)] else ez l n
def vD (l:List ak):List Int:=ez l 999
theorem oA (l:List ak):∀n,(ez l n).length≤n
 | 0=>by simp [ez]
 | n+1=>by
  have:=oA l n
  simp only [ez];split
  ·simp;omega
  ·omega
theorem uj {l:List ak}{n:Nat}{t:Int}{x:ak}{j:Nat}(hn:0<n)(ht:t=(n:Int))(hx:l[j]? = some x)(h:x.ao=t):ez l n=ez l (n-1)++[t]:=by
 obtain ⟨m,rfl⟩:∃m,n=m+1:=⟨n-1,by omega⟩
 simp only [ez,Nat.add_sub_cancel]
 have:hasT? l ((m+1:Nat):Int)=true:=by
  unfold hasT?;rw [List.any_eq_true];exact ⟨x,List.mem_of_getElem? hx,by simp [h,ht]⟩
 rw [if_pos this,ht]
theorem sv {l:List ak}{n:Nat}(hn:0<n)(h:∀ (j:Nat) x,j<l.length→l[j]? = some x→¬ x.ao=(n:Int)):ez l n=ez l (n-1):=by
 obtain ⟨m,rfl⟩:∃m,n=m+1:=⟨n-1,by omega⟩
 simp only [ez,Nat.add_sub_cancel]
 have:hasT? l ((m+1:Nat):Int)=false:=by
  unfold hasT?;rw [List.any_eq_false];intro x hx
  obtain ⟨j,hj⟩:=List.mem_iff_getElem?.1 hx
  have:=h j x (List.getElem?_eq_some_iff.1 hj).1 hj
  simpa using this
 rw [if_neg (by rw [this];simp)]
end Go.Proofs.YtbkfhjaibhnkmaaGreatDoor
end
section
namespace Go.Proofs
open Go.Shelf
def Tryz.lays189_ren:Go.Shelf.Ren:=⟨fun|189=>68|125=>105|257=>115|128=>141|129=>142|294=>144|295=>145|296=>146|297=>147|298=>148|299=>149|216=>150|300=>151|301=>152|328=>174|329=>170|330=>171|331=>175|332=>176|215=>177|343=>193|n=>n,fun|28=>60|3=>3|46=>138|0=>0|51=>176|53=>40|4=>4|183=>170|182=>169|131=>97|5=>5|9=>9|218=>198|222=>202|228=>222|229=>223|n=>n,fun|n=>n⟩
theorem Tryz.lays189:Go.Proofs.Lays.n189 Tryz.prog Tryz.lays189_ren:={
 mixed:=by kernel_rfl
 f125:=Tryz.func105.trans (congrArg some (by kernel_rfl))
 f128:=Tryz.func141.trans (congrArg some (by kernel_rfl))
 f129:=Tryz.func142.trans (congrArg some (by kernel_rfl))
 f189:=Tryz.func68.trans (congrArg some (by kernel_rfl))
 f215:=Tryz.func177.trans (congrArg some (by kernel_rfl))
 f216:=Tryz.func150.trans (congrArg some (by kernel_rfl))
 f257:=Tryz.func115.trans (congrArg some (by kernel_rfl))
 f294:=Tryz.func144.trans (congrArg some (by kernel_rfl))
 f295:=Tryz.func145.trans (congrArg some (by kernel_rfl))
 f296:=Tryz.func146.trans (congrArg some (by kernel_rfl))
 f297:=Tryz.func147.trans (congrArg some (by kernel_rfl))
 f298:=Tryz.func148.trans (congrArg some (by kernel_rfl))
 f299:=Tryz.func149.trans (congrArg some (by kernel_rfl))
 f300:=Tryz.func151.trans (congrArg some (by kernel_rfl))
 f301:=Tryz.func152.trans (congrArg some (by kernel_rfl))
 f328:=Tryz.func174.trans (congrArg some (by kernel_rfl))
 f329:=Tryz.func170.trans (congrArg some (by kernel_rfl))
 f330:=Tryz.func171.trans (congrArg some (by kernel_rfl))
 f331:=Tryz.func175.trans (congrArg some (by kernel_rfl))
 f332:=Tryz.func176.trans (congrArg some (by kernel_rfl))
 f343:=Tryz.func193.trans (congrArg some (by kernel_rfl))
 t0:=Tryz.underlying0
 a0:=Tryz.isAgg0
 z0:=Tryz.sizeOf0
 v0:=Tryz.zeroValue0
 t3:=Tryz.underlying3
 a3:=Tryz.isAgg3
 z3:=Tryz.sizeOf3
 v3:=Tryz.zeroValue3
 t4:=Tryz.underlying4
 a4:=Tryz.isAgg4
 z4:=Tryz.sizeOf4
 v4:=Tryz.zeroValue4
 t5:=Tryz.underlying5
 a5:=Tryz.isAgg5
 z5:=Tryz.sizeOf5
 v5:=Tryz.zeroValue5
 t9:=Tryz.underlying9
 a9:=Tryz.isAgg9
 z9:=Tryz.sizeOf9
 v9:=Tryz.zeroValue9
 t28:=Tryz.underlying60
 a28:=Tryz.isAgg60
 z28:=Tryz.sizeOf60
 v28:=Tryz.zeroValue60
 t46:=Tryz.underlying138
 a46:=Tryz.isAgg138
 z46:=Tryz.sizeOf138
 v46:=Tryz.zeroValue138
 t51:=Tryz.underlying176
 a51:=Tryz.isAgg176
 z51:=Tryz.sizeOf176
 v51:=Tryz.zeroValue176
 t53:=Tryz.underlying40
 a53:=Tryz.isAgg40
 z53:=Tryz.sizeOf40
 v53:=Tryz.zeroValue40
 t131:=Tryz.underlying97
 a131:=Tryz.isAgg97
 z131:=Tryz.sizeOf97
 v131:=Tryz.zeroValue97
 t182:=Tryz.underlying169
 a182:=Tryz.isAgg169
 z182:=Tryz.sizeOf169
 v182:=Tryz.zeroValue169
 t183:=Tryz.underlying170
 a183:=Tryz.isAgg170
 z183:=Tryz.sizeOf170
 v183:=Tryz.zeroValue170
 t218:=Tryz.underlying198
 a218:=Tryz.isAgg198
 z218:=Tryz.sizeOf198
 v218:=Tryz.zeroValue198
 t222:=Tryz.underlying202
 a222:=Tryz.isAgg202
 z222:=Tryz.sizeOf202
 v222:=Tryz.zeroValue202
 t228:=Tryz.underlying222
 a228:=Tryz.isAgg222
 z228:=Tryz.sizeOf222
 v228:=Tryz.zeroValue222
 t229:=Tryz.underlying223
 a229:=Tryz.isAgg223
 z229:=Tryz.sizeOf223
 v229:=Tryz.zeroValue223 }
def Tryz.laysNm220_ren:Go.Shelf.Ren:=⟨fun|20=>69|n=>n,fun|22=>60|3=>3|4=>4|0=>0|n=>n,fun|n=>n⟩
theorem Tryz.laysNm220:Go.Proofs.Lays2.n20 Tryz.prog Tryz.laysNm220_ren:={
 mixed:=by kernel_rfl
 f20:=Tryz.func69.trans (congrArg some (by kernel_rfl))
 t0:=Tryz.underlying0
 a0:=Tryz.isAgg0
 z0:=Tryz.sizeOf0
 v0:=Tryz.zeroValue0
 t3:=Tryz.underlying3
 a3:=Tryz.isAgg3
 z3:=Tryz.sizeOf3
 v3:=Tryz.zeroValue3
 t4:=Tryz.underlying4
 a4:=Tryz.isAgg4
 z4:=Tryz.sizeOf4
 v4:=Tryz.zeroValue4
 t22:=Tryz.underlying60
 a22:=Tryz.isAgg60
 z22:=Tryz.sizeOf60
 v22:=Tryz.zeroValue60
 i3:=by kernel_rfl }
open Go.Sort Go.RowKit in
theorem Tryz.slices_Sort_int (blk off cap:Nat)(zs:List Int)(w:World)(hH:Holds (Value.int .i64) w blk off zs.toArray)(hblk:blk<w.heap.size)(hsz:zs.length<4611686018427387904) :
    Calls Tryz.prog 68 #[.slice (some ⟨blk,off,none⟩) zs.length cap] w fun e w' =>
      e = .returned (.tuple #[]) ∧ ∃n os,w'=grow (putRow (Value.int .i64) (Sort.ahead w n) blk off (zs.mergeSort fun x y=>decide (x≤y)).toArray) os:=Any.slices_Sort_int Tryz.lays189 blk off cap zs w hH hblk hsz
open Go.RowKit Go.Lib Go.Sort in
theorem Tryz.slices_Compact_int (blk off cap:Nat)(zs:List Int)(w:World)(hH:Holds (Value.int .i64) w blk off zs.toArray)(hsz:zs.length≤9223372036854775807)(hcap:zs.length≤cap) :
    Calls Tryz.prog 69 #[.slice (some ⟨blk,off,none⟩) zs.length cap] w fun e w'=>e = .returned (.slice (some ⟨blk,off,none⟩) (Lib.compact zs).length cap) ∧ ∃q,w'=putRow (Value.int .i64) (Sort.ahead w q) blk off (Lib.compact zs++List.replicate (zs.length-(Lib.compact zs).length) 0).toArray:=Any.slices_Compact_int Tryz.laysNm220 blk off cap zs w hH hsz hcap
open Go.RowKit Go.Lib Go.Sort in
theorem Tryz.slices_Compact_int_empty (a:Option Addr)(cap:Nat)(w:World) :
    Calls Tryz.prog 69 #[.slice a 0 cap] w fun e w'=>e = .returned (.slice a 0 cap)∧w'=w:=Any.slices_Compact_int_empty Tryz.laysNm220 a cap w
open Go.RowKit Go.Sort in
theorem Tryz.slices_Sort_int_none (p:Option Addr)(cap:Nat)(w:World) :
    Calls Tryz.prog 68 #[.slice p 0 cap] w fun e w'=>e = .returned (.tuple #[])∧w'=w:=Any.slices_Sort_int_none Tryz.lays189 p cap w
end Go.Proofs
end
