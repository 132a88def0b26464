import Derived.Test.YtbkfhjaibhnkmaaGreatDoorTSD11
import Derived.Test.YtbkfhjaibhnkmaaGreatDoorTSD30
import Derived.Test.YtbkfhjaibhnkmaaGreatDoorTSD31
import Derived.Test.YtbkfhjaibhnkmaaGreatDoorTSD36
import Derived.Test.YtbkfhjaibhnkmaaGreatDoorTSD10
import Derived.Laws.OwnMore
import Derived.Lib.AppendIntMem
import Derived.Lib.AtoiBound
import Derived.Lib.SmallJoins
import Derived.Lib.ItoaLen
section
namespace Go.Proofs.YtbkfhjaibhnkmaaGreatDoor
open Go Go.RowKit
set_option linter.unusedVariables false
set_option linter.unusedSimpArgs false
set_option maxRecDepth 100000
theorem Dz (w:World):Calls Tryz.prog 97 #[.string ⟨#[48]⟩,.int .i64 0] w fun e w'=>e = .returned (.string ⟨#[]⟩)∧w'=w:=by
 go_enter Tryz.func97,Tryz.ntmps97
 go_wp2
 go_ret
 exact ⟨rfl,rfl⟩
theorem DC (w:World):Calls Tryz.prog 97 #[.string ⟨#[48]⟩,.int .i64 1] w fun e w'=>e = .returned (.string ⟨#[48]⟩)∧w'=w:=by
 go_enter Tryz.func97,Tryz.ntmps97
 go_wp2
 go_ret
 exact ⟨rfl,rfl⟩
theorem DF (w:World):Calls Tryz.prog 97 #[.string ⟨#[48]⟩,.int .i64 2] w fun e w'=>e = .returned (.string ⟨#[48,48]⟩)∧w'=w:=by
 have hm:=fun w=>Tryz.bits_Mul 1 2 (by decide) (by decide) w
 have hp:∀ (a b:ByteArray) w,Calls Tryz.prog 126 #[.string a,.string b] w fun e w'=>e = .returned (.bool (Lib.hasPrefix a.data.toList b.data.toList))∧w'=w:=fun a b w=>Tryz.strings_HasPrefix a b w
 go_enter Tryz.func97,Tryz.ntmps97
 go_wp2_with (first
  | (go_at_call 125;refine (hm _).mono ?_;rintro e w' ⟨rfl,rfl⟩)
  | (go_at_call 126;refine (hp _ _ _).mono ?_;rintro e w' ⟨rfl,rfl⟩))
 all_goals first|(go_ret;exact ⟨rfl,rfl⟩)|(exfalso;repeat (rename_i h;first|exact absurd h (by decide)|clear h))
theorem DG (w:World):Calls Tryz.prog 97 #[.string ⟨#[48]⟩,.int .i64 3] w fun e w'=>e = .returned (.string ⟨#[48,48,48]⟩)∧w'=w:=by
 have hm:=fun w=>Tryz.bits_Mul 1 3 (by decide) (by decide) w
 have hp:∀ (a b:ByteArray) w,Calls Tryz.prog 126 #[.string a,.string b] w fun e w'=>e = .returned (.bool (Lib.hasPrefix a.data.toList b.data.toList))∧w'=w:=fun a b w=>Tryz.strings_HasPrefix a b w
 go_enter Tryz.func97,Tryz.ntmps97
 go_wp2_with (first
  | (go_at_call 125;refine (hm _).mono ?_;rintro e w' ⟨rfl,rfl⟩)
  | (go_at_call 126;refine (hp _ _ _).mono ?_;rintro e w' ⟨rfl,rfl⟩))
 all_goals first|(go_ret;exact ⟨rfl,rfl⟩)|(exfalso;repeat (rename_i h;first|exact absurd h (by decide)|clear h))
theorem tj (sx:ByteArray)(c:Int)(w:World)(hs:sx=⟨#[48]⟩)(h:0≤c∧c≤3):Calls Tryz.prog 97 #[.string sx,.int .i64 c] w fun e w'=>e = .returned (.string ⟨(Lib.repeatL [48] c.toNat).toArray⟩)∧Ext w w':=by
 subst hs
 have e0:c=0∨c=1∨c=2∨c=3:=by omega
 rcases e0 with rfl|rfl|rfl|rfl
 ·exact (Dz w).mono fun e w' ⟨h1,h2⟩=>⟨h1,h2▸Ext.refl _⟩
 ·exact (DC w).mono fun e w' ⟨h1,h2⟩=>⟨h1,h2▸Ext.refl _⟩
 ·exact (DF w).mono fun e w' ⟨h1,h2⟩=>⟨h1,h2▸Ext.refl _⟩
 ·exact (DG w).mono fun e w' ⟨h1,h2⟩=>⟨h1,h2▸Ext.refl _⟩
end Go.Proofs.YtbkfhjaibhnkmaaGreatDoor
end
section
namespace Go.Proofs.YtbkfhjaibhnkmaaGreatDoor
open Go Go.RowKit
set_option linter.unusedVariables false
section
variable {P:Program} {n:Nat} {we:World} {X:List Nat} {L:Fm} {B F:List ag} {x y z':Operand} {v:Value} {d:Nat} {ty:TypeId} {pos:String} {dY:Array Edge} {g:Option (Nat×Bool)} {t e:TypeId} {α:Type} [Enc α] {l:List α}
end
theorem ofInt_u64 (a:Nat)(ha:a<18446744073709551616):(BitVec.ofInt 64 (a:Int)).toNat=a:=by
 rw [BitVec.ofInt_natCast,BitVec.toNat_ofNat];exact Nat.mod_eq_of_lt (by omega)
theorem DI {a b:Nat}{c:Int}(h:c=(b:Int)):((a:Nat):Int).tmod c=((a % b:Nat):Int):=by
 subst h;rw [Int.tmod_eq_emod_of_nonneg (Int.natCast_nonneg a)];exact (Int.natCast_emod a b).symm
section
variable {P:Program} {n:Nat} {we:World} {X:List Nat} {L:Fm} {B F:List ag} {ty xT e:TypeId} {x y:Operand}
end
section
variable {P:Program} {n:Nat} {we:World} {X:List Nat} {L:Fm} {B F:List ag} {ty:TypeId}
end
section
variable {we w w':World} {X:List Nat} {B0 Bl Br B1 F Fl:List ag}
end
section
variable {P:Program} {n:Nat} {we:World} {X:List Nat} {L:Fm} {B F:List ag} {d:Nat} {ty:TypeId} {pos:String} {dY:Array Edge} {g:Option (Nat×Bool)}
end
end Go.Proofs.YtbkfhjaibhnkmaaGreatDoor
end
section
namespace Go.Proofs.YtbkfhjaibhnkmaaGreatDoor
open Go Go.RowKit
set_option linter.unusedVariables false
set_option linter.unusedSimpArgs false
theorem AJ:Tryz.prog.globalNamed "internal/strconv.uint64pow10" = some 1:=by kernel_rfl
theorem AK:Tryz.prog.globalNamed "strconv.ErrSyntax" = some 2:=by kernel_rfl
structure tq (w:World):Prop where
  pow:Lib.TabIs Tryz.prog w "internal/strconv.uint64pow10" .u64 Lib.pow10Tab
  err:∃tp p,w.var? Tryz.prog "strconv.ErrSyntax" = some #[.iface tp p]
theorem xe {w w':World}{s:String}{g:Nat}(hg:Tryz.prog.globalNamed s=some g)(h:w'.heap[g]? = w.heap[g]?):w'.var? Tryz.prog s=w.var? Tryz.prog s:=by
 unfold World.var?;rw [hg];simp only [Option.bind_some,h]
theorem xg {w:World}{s:String}{g:Nat}{cs:Array Value}(hg:Tryz.prog.globalNamed s=some g)(h:w.var? Tryz.prog s=some cs):g<w.heap.size:=by
 unfold World.var? at h;rw [hg] at h;simp only [Option.bind_some] at h
 split at h
 ·rename_i hq;exact (Array.getElem?_eq_some_iff.1 hq).1
 ·cases h
def bz:ag:=⟨[1,2],tq,fun w w' h ⟨h1,h2⟩=>⟨by unfold Lib.TabIs;rw [xe AJ (h _ (by simp))];exact h1,by rw [xe AK (h _ (by simp))];exact h2⟩⟩
theorem uw {w:World}(h:tq w):∀k∈bz.blk,k<w.heap.size:=fun k hk=>by
 rcases List.mem_cons.1 hk with rfl|hk
 ·exact xg AJ h.pow
 ·
  obtain ⟨tp,p,h2⟩:=h.err
  rw [List.mem_singleton.1 hk];exact xg AK h2
theorem oW (n:Int)(w:World)(ht:tq w)(hn : -9223372036854775808≤n∧n≤9223372036854775807):Calls Tryz.prog 46 #[.int .i64 n] w fun e w'=>e = .returned (.string (dV n))∧Ext w w' :=
 (Tryz.strconv_Itoa n hn.1 hn.2 w ht.pow).mono fun e w' ⟨h1,k,os,h2⟩=>⟨h1,Ext.mk (h2▸Lib.below_grow _ w (Nat.le_refl _) k os)⟩
def aV (s:ByteArray):Int:=(Lib.atoi s.data.toList).getD 0
theorem xh (s:ByteArray)(w:World)(h:(Lib.atoi s.data.toList).isSome=true)(hs:s.size≤18):Calls Tryz.prog 131 #[.string s] w fun e w'=>e = .returned (.tuple #[.int .i64 (aV s),.nilIface])∧Ext w w':=by
 obtain ⟨n,hn⟩:=Option.isSome_iff_exists.1 h
 refine (Tryz.strconv_Atoi s n hs hn w).mono fun e w' ⟨h1,t,h2⟩=>⟨?_,Ext.mk (h2▸Joins.below_bytesWorld _ w _ t (Nat.le_refl _))⟩
 rw [h1];unfold aV;rw [hn];rfl
theorem xj (s:ByteArray)(w:World)(own:List Nat)(H:Wd w (blks []++own) ([]++[ag.held w own]) [bz] w)(h:¬ (Lib.atoi s.data.toList).isSome=true)(hs:s.size≤18) :
 Calls Tryz.prog 131 #[.string s] w fun e w' => ∃z:Value,e = .returned (.tuple #[.int .i64 0,.iface 219 (z)])∧Wd w (blks []++own) ([]++[ag.held w own]) [] w':=by
 have ht:tq w:=H.okF bz (List.Mem.head _)
 obtain ⟨tp,p,he⟩:=ht.err
 have hn:Lib.atoi s.data.toList=none:=by cases hq:Lib.atoi s.data.toList with|none=>rfl|some n=>rw [hq] at h;exact absurd rfl h
 refine (Tryz.strconv_Atoi_err_var s hs hn tp p w he).mono fun e w' ⟨N,h1,h2,h3,h4⟩=>⟨_,h1,?_⟩
 have hw:=H.grow (Ext.mk h4).upd
 exact ⟨hw.upd,hw.okB,(fun r hr=>by cases hr),hw.sep,hw.own,(fun k hk=>by cases hk)⟩
theorem xk {s:ByteArray}(hs:s.size≤18) : -9223372036854775808≤aV s∧aV s≤9223372036854775807:=by
 unfold aV
 cases h:Lib.atoi s.data.toList with
 | none=>exact ⟨by decide,by decide⟩
 | some n =>
  have:=Lib.atoi_bound h (by rw [Array.length_toList];exact hs)
  show -9223372036854775808≤n∧n≤9223372036854775807
  omega
theorem oX {n:Int}(h : -9223372036854775808≤n∧n≤9223372036854775807):(dV n).size≤21:=by
 show (⟨(Lib.itoa n).toArray⟩:ByteArray).size≤21
 rw [size_mk];exact Lib.itoa_length_le n h.1 h.2
theorem xl (n:Int):0<(dV n).size:=by
 show 0<(⟨(Lib.itoa n).toArray⟩:ByteArray).size
 rw [size_mk];unfold Lib.itoa
 split
 ·simp
 ·rw [Lib.decDigits_length];exact Lib.nDigits_pos _
theorem ux (k:Nat):(⟨(Lib.repeatL [48] k).toArray⟩:ByteArray).size=k:=by rw [size_mk,Lib.repeatL_length];simp
theorem xm {n:Int}(h : -9223372036854775808≤n∧n≤9223372036854775807):(bf n).size≤25:=by
 unfold bf;rw [ByteArray.size_append,ux];have:=oX h;omega
end Go.Proofs.YtbkfhjaibhnkmaaGreatDoor
end
section
namespace Go.Proofs.YtbkfhjaibhnkmaaGreatDoor
open Go Go.RowKit
set_option linter.unusedVariables false
def u8 (n:Int):UInt8:=UInt8.ofNat n.toNat
theorem gy (l:List UInt8):(⟨l.toArray⟩:ByteArray).size=l.length:=by simp [ByteArray.size]
section
variable {α:Type} [Enc α]
end
end Go.Proofs.YtbkfhjaibhnkmaaGreatDoor
end
