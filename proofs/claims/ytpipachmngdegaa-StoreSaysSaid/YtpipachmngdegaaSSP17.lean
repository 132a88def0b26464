import Derived.Test.YtpipachmngdegaaSSP12
import Derived.Shelf.Small.Strs
import Derived.Shelf.Bits.Mul64
import Derived.Test.YtpipachmngdegaaProg
section
namespace Go.Proofs.Ytpipachmngdegaa
open Go Go.RowKit
set_option linter.unusedVariables false
def u8 (n:Int):UInt8:=UInt8.ofNat n.toNat
theorem gH {n:Int}(h:0≤n∧n≤255):(((u8 n).toNat:Nat):Int)=n:=by
  unfold u8;rw [UInt8.toNat_ofNat'];omega
theorem rQ {n:Nat}(h:n≤255):(UInt8.ofNat n).toNat=n:=by
  rw [UInt8.toNat_ofNat'];omega
theorem dr {n:Int}(h:0≤n∧n≤255):(Value.int .u8 n).cells.toList=Enc.cells (u8 n):=by
  show [Value.int .u8 n]=[Value.int .u8 (((u8 n).toNat:Nat):Int)]
  rw [gH h]
theorem bU {n:Nat}(h:n≤255):(Value.int .u8 ((n:Nat):Int)).cells.toList=Enc.cells (UInt8.ofNat n):=by
  show [Value.int .u8 (n:Int)]=[Value.int .u8 (((UInt8.ofNat n).toNat:Nat):Int)]
  rw [rQ h]
theorem aC (l:List UInt8):(⟨l.toArray⟩:ByteArray).size=l.length:=by simp [ByteArray.size]
section
variable {α:Type} [Enc α]
theorem cT:([]:List Value).map (fun v=>v.cells.toList)=([]:List α).map Enc.cells:=rfl
theorem bq {v:Value}{x:α}{vs:List Value}{l:List α}(h:v.cells.toList=Enc.cells x)(hs:vs.map (fun v=>v.cells.toList)=l.map Enc.cells) :
    (v::vs).map (fun v=>v.cells.toList)=(x::l).map Enc.cells:=by
  rw [List.map_cons,List.map_cons,h,hs]
end
end Go.Proofs.Ytpipachmngdegaa
end
section
namespace Go.Proofs
open Go.Shelf
def Try.lays106_ren:Go.Shelf.Ren:=⟨fun|106=>66|213=>75|265=>79|n=>n,fun|9=>9|3=>3|n=>n,fun|n=>n⟩
theorem Try.lays106:Go.Proofs.Lays.n106 Try.prog Try.lays106_ren:={
  mixed:=by kernel_rfl
  f106:=Try.func66.trans (congrArg some (by kernel_rfl))
  f213:=Try.func75.trans (congrArg some (by kernel_rfl))
  f265:=Try.func79.trans (congrArg some (by kernel_rfl))
  t3:=Try.underlying3
  a3:=Try.isAgg3
  z3:=Try.sizeOf3
  v3:=Try.zeroValue3
  t9:=Try.underlying9
  a9:=Try.isAgg9
  z9:=Try.sizeOf9
  v9:=Try.zeroValue9 }
def Try.lays212_ren:Go.Shelf.Ren:=⟨fun|212=>61|263=>73|264=>74|n=>n,fun|46=>111|51=>128|146=>129|53=>45|148=>131|n=>n,fun|n=>n⟩
theorem Try.lays212:Go.Proofs.Lays.n212 Try.prog Try.lays212_ren:={
  mixed:=by kernel_rfl
  f212:=Try.func61.trans (congrArg some (by kernel_rfl))
  f263:=Try.func73.trans (congrArg some (by kernel_rfl))
  f264:=Try.func74.trans (congrArg some (by kernel_rfl))
  t46:=Try.underlying111
  a46:=Try.isAgg111
  z46:=Try.sizeOf111
  v46:=Try.zeroValue111
  t51:=Try.underlying128
  a51:=Try.isAgg128
  z51:=Try.sizeOf128
  v51:=Try.zeroValue128
  t53:=Try.underlying45
  a53:=Try.isAgg45
  z53:=Try.sizeOf45
  v53:=Try.zeroValue45
  t146:=Try.underlying129
  a146:=Try.isAgg129
  z146:=Try.sizeOf129
  v146:=Try.zeroValue129
  t148:=Try.underlying131
  a148:=Try.isAgg131
  z148:=Try.sizeOf131
  v148:=Try.zeroValue131 }
open Go.RowKit in
theorem Try.strings_Compare (a b:ByteArray)(w:World) :
    Calls Try.prog 66 #[.string a,.string b] w fun e w'=>e = .returned (.int .i64 (Lib.compareBytes a.data.toList b.data.toList))∧w'=w:=Any.strings_Compare Try.lays106 a b w
open Go.RowKit Go.Lib in
theorem Try.bits_Mul (x y:Nat)(hx:x<18446744073709551616)(hy:y<18446744073709551616)(w:World) :
    Calls Try.prog 61 #[.int .u64 x,.int .u64 y] w fun e w'=>e = .returned (.tuple #[.int .u64 ((x*y / 18446744073709551616:Nat):Int),.int .u64 ((x*y % 18446744073709551616:Nat):Int)])∧w'=w:=Any.bits_Mul Try.lays212 x y hx hy w
end Go.Proofs
end
