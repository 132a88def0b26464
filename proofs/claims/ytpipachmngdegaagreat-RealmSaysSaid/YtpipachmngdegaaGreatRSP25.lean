import Derived.Test.YtpipachmngdegaaGreatRSP24
import Derived.Lib.SlicesCompact
import Derived.Shelf.Small.Bits
import Derived.Shelf.Small.Wraps
import Derived.Shelf.Strconv.Itoa0
import Derived.Shelf.Sort.Plain
import Derived.Shelf.Slices.Turned
import Derived.Ground.Names2Prog
import Derived.Shelf.Slices.CompactI
import Derived.Shelf.Slices.SearchI
import Derived.Shelf.Slices.Cells
import Derived.Shelf.Slices.In.SortNone
import Derived.Test.YtpipachmngdegaaGreatProg
section
namespace Go.Proofs.YtpipachmngdegaaGreat
open Go.RowKit
set_option linter.unusedVariables false
def hasT? (l:List ao)(t:Int):Bool:=l.any (fun x=>x.ai==t)
def dy (l:List ao):Nat→List Int
  | 0=>[]
  | n+1=>if hasT? l ((n+1:Nat):Int) then dy l n++[((n+1:Nat):Int)] else dy l n
def o7 (l:List ao):List Int:=dy l 999
theorem kL (l:List ao):∀n,(dy l n).length≤n
  | 0=>by simp [dy]
  | n+1=>by
    have:=kL l n
    simp only [dy];split
    · simp;omega
    · omega
theorem oh {l:List ao}{n:Nat}{t:Int}{x:ao}{j:Nat}(hn:0<n)(ht:t=(n:Int))(hx:l[j]? = some x)(h:x.ai=t):dy l n=dy l (n-1)++[t]:=by
  obtain ⟨m,rfl⟩:∃m,n=m+1:=⟨n-1,by omega⟩
  simp only [dy,Nat.add_sub_cancel]
  have:hasT? l ((m+1:Nat):Int)=true:=by
    unfold hasT?;rw [List.any_eq_true];exact ⟨x,List.mem_of_getElem? hx,by simp [h,ht]⟩
  rw [if_pos this,ht]
theorem mZ {l:List ao}{n:Nat}(hn:0<n)(h:∀ (j:Nat) x,j<l.length→l[j]? = some x→¬ x.ai=(n:Int)):dy l n=dy l (n-1):=by
  obtain ⟨m,rfl⟩:∃m,n=m+1:=⟨n-1,by omega⟩
  simp only [dy,Nat.add_sub_cancel]
  have:hasT? l ((m+1:Nat):Int)=false:=by
    unfold hasT?;rw [List.any_eq_false];intro x hx
    obtain ⟨j,hj⟩:=List.mem_iff_getElem?.1 hx
    have:=h j x (List.getElem?_eq_some_iff.1 hj).1 hj
    simpa using this
  rw [if_neg (by rw [this];simp)]
end Go.Proofs.YtpipachmngdegaaGreat
end
section
namespace Go.Proofs
open Go.Shelf
def Tryz.lays189_ren:Go.Shelf.Ren:=⟨fun|189=>95|125=>104|257=>103|128=>116|129=>117|294=>107|295=>108|296=>109|297=>110|298=>111|299=>112|216=>113|300=>114|301=>115|328=>118|329=>119|330=>120|331=>121|332=>122|215=>105|343=>123|n=>n,fun|28=>116|3=>3|46=>138|0=>0|51=>153|53=>34|4=>4|183=>147|182=>146|131=>109|5=>5|9=>9|218=>155|222=>159|228=>161|229=>162|n=>n,fun|n=>n⟩
theorem Tryz.lays189:Go.Proofs.Lays.n189 Tryz.prog Tryz.lays189_ren:={
  mixed:=by kernel_rfl
  f125:=Tryz.func104.trans (congrArg some (by kernel_rfl))
  f128:=Tryz.func116.trans (congrArg some (by kernel_rfl))
  f129:=Tryz.func117.trans (congrArg some (by kernel_rfl))
  f189:=Tryz.func95.trans (congrArg some (by kernel_rfl))
  f215:=Tryz.func105.trans (congrArg some (by kernel_rfl))
  f216:=Tryz.func113.trans (congrArg some (by kernel_rfl))
  f257:=Tryz.func103.trans (congrArg some (by kernel_rfl))
  f294:=Tryz.func107.trans (congrArg some (by kernel_rfl))
  f295:=Tryz.func108.trans (congrArg some (by kernel_rfl))
  f296:=Tryz.func109.trans (congrArg some (by kernel_rfl))
  f297:=Tryz.func110.trans (congrArg some (by kernel_rfl))
  f298:=Tryz.func111.trans (congrArg some (by kernel_rfl))
  f299:=Tryz.func112.trans (congrArg some (by kernel_rfl))
  f300:=Tryz.func114.trans (congrArg some (by kernel_rfl))
  f301:=Tryz.func115.trans (congrArg some (by kernel_rfl))
  f328:=Tryz.func118.trans (congrArg some (by kernel_rfl))
  f329:=Tryz.func119.trans (congrArg some (by kernel_rfl))
  f330:=Tryz.func120.trans (congrArg some (by kernel_rfl))
  f331:=Tryz.func121.trans (congrArg some (by kernel_rfl))
  f332:=Tryz.func122.trans (congrArg some (by kernel_rfl))
  f343:=Tryz.func123.trans (congrArg some (by kernel_rfl))
  t0:=Tryz.underlying0
  a0:=Tryz.isAgg0
  z0:=Tryz.sizeOf0
  v0:=Tryz.zeroValue0
  t3:=Tryz.underlying3
  a3:=Tryz.isAgg3
  z3:=Tryz.sizeOf3
  v3:=Tryz.zeroValue3
  t4:=Tryz.underlying4
  a4:=Tryz.isAgg4
  z4:=Tryz.sizeOf4
  v4:=Tryz.zeroValue4
  t5:=Tryz.underlying5
  a5:=Tryz.isAgg5
  z5:=Tryz.sizeOf5
  v5:=Tryz.zeroValue5
  t9:=Tryz.underlying9
  a9:=Tryz.isAgg9
  z9:=Tryz.sizeOf9
  v9:=Tryz.zeroValue9
  t28:=Tryz.underlying116
  a28:=Tryz.isAgg116
  z28:=Tryz.sizeOf116
  v28:=Tryz.zeroValue116
  t46:=Tryz.underlying138
  a46:=Tryz.isAgg138
  z46:=Tryz.sizeOf138
  v46:=Tryz.zeroValue138
  t51:=Tryz.underlying153
  a51:=Tryz.isAgg153
  z51:=Tryz.sizeOf153
  v51:=Tryz.zeroValue153
  t53:=Tryz.underlying34
  a53:=Tryz.isAgg34
  z53:=Tryz.sizeOf34
  v53:=Tryz.zeroValue34
  t131:=Tryz.underlying109
  a131:=Tryz.isAgg109
  z131:=Tryz.sizeOf109
  v131:=Tryz.zeroValue109
  t182:=Tryz.underlying146
  a182:=Tryz.isAgg146
  z182:=Tryz.sizeOf146
  v182:=Tryz.zeroValue146
  t183:=Tryz.underlying147
  a183:=Tryz.isAgg147
  z183:=Tryz.sizeOf147
  v183:=Tryz.zeroValue147
  t218:=Tryz.underlying155
  a218:=Tryz.isAgg155
  z218:=Tryz.sizeOf155
  v218:=Tryz.zeroValue155
  t222:=Tryz.underlying159
  a222:=Tryz.isAgg159
  z222:=Tryz.sizeOf159
  v222:=Tryz.zeroValue159
  t228:=Tryz.underlying161
  a228:=Tryz.isAgg161
  z228:=Tryz.sizeOf161
  v228:=Tryz.zeroValue161
  t229:=Tryz.underlying162
  a229:=Tryz.isAgg162
  z229:=Tryz.sizeOf162
  v229:=Tryz.zeroValue162 }
def Tryz.laysNm220_ren:Go.Shelf.Ren:=⟨fun|20=>96|n=>n,fun|22=>116|3=>3|4=>4|0=>0|n=>n,fun|n=>n⟩
theorem Tryz.laysNm220:Go.Proofs.Lays2.n20 Tryz.prog Tryz.laysNm220_ren:={
  mixed:=by kernel_rfl
  f20:=Tryz.func96.trans (congrArg some (by kernel_rfl))
  t0:=Tryz.underlying0
  a0:=Tryz.isAgg0
  z0:=Tryz.sizeOf0
  v0:=Tryz.zeroValue0
  t3:=Tryz.underlying3
  a3:=Tryz.isAgg3
  z3:=Tryz.sizeOf3
  v3:=Tryz.zeroValue3
  t4:=Tryz.underlying4
  a4:=Tryz.isAgg4
  z4:=Tryz.sizeOf4
  v4:=Tryz.zeroValue4
  t22:=Tryz.underlying116
  a22:=Tryz.isAgg116
  z22:=Tryz.sizeOf116
  v22:=Tryz.zeroValue116
  i3:=by kernel_rfl }
open Go.Sort Go.RowKit in
theorem Tryz.slices_Sort_int (blk off cap:Nat)(zs:List Int)(w:World)(hH:Holds (Value.int .i64) w blk off zs.toArray)(hblk:blk<w.heap.size)(hsz:zs.length<4611686018427387904) :
    Calls Tryz.prog 95 #[.slice (some ⟨blk,off,none⟩) zs.length cap] w fun e w' =>
      e = .returned (.tuple #[]) ∧ ∃n os,w'=grow (putRow (Value.int .i64) (Sort.ahead w n) blk off (zs.mergeSort fun x y=>decide (x≤y)).toArray) os:=Any.slices_Sort_int Tryz.lays189 blk off cap zs w hH hblk hsz
open Go.RowKit Go.Lib Go.Sort in
theorem Tryz.slices_Compact_int (blk off cap:Nat)(zs:List Int)(w:World)(hH:Holds (Value.int .i64) w blk off zs.toArray)(hsz:zs.length≤9223372036854775807)(hcap:zs.length≤cap) :
    Calls Tryz.prog 96 #[.slice (some ⟨blk,off,none⟩) zs.length cap] w fun e w'=>e = .returned (.slice (some ⟨blk,off,none⟩) (Lib.compact zs).length cap) ∧ ∃q,w'=putRow (Value.int .i64) (Sort.ahead w q) blk off (Lib.compact zs++List.replicate (zs.length-(Lib.compact zs).length) 0).toArray:=Any.slices_Compact_int Tryz.laysNm220 blk off cap zs w hH hsz hcap
open Go.RowKit Go.Lib Go.Sort in
theorem Tryz.slices_Compact_int_empty (a:Option Addr)(cap:Nat)(w:World) :
    Calls Tryz.prog 96 #[.slice a 0 cap] w fun e w'=>e = .returned (.slice a 0 cap)∧w'=w:=Any.slices_Compact_int_empty Tryz.laysNm220 a cap w
open Go.RowKit Go.Sort in
theorem Tryz.slices_Sort_int_none (p:Option Addr)(cap:Nat)(w:World) :
    Calls Tryz.prog 95 #[.slice p 0 cap] w fun e w'=>e = .returned (.tuple #[])∧w'=w:=Any.slices_Sort_int_none Tryz.lays189 p cap w
end Go.Proofs
end
