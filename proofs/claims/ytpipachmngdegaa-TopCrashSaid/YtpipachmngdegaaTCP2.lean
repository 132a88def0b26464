import Derived.Test.YtpipachmngdegaaTCP1
section
namespace Go.Proofs.Ytpipachmngdegaa
open Go.RowKit
set_option linter.unusedVariables false
structure gY where
  ID:Int
  gH:Int
  Rights:Int
  kE:Int
  From:Int
  deriving DecidableEq
structure Place where
  iR:Int
  Slot:Int
  deriving DecidableEq
structure Held where
  Place:Place
  gY:Int
  deriving DecidableEq
structure gH where
  ID:Int
  Kind:Int
  Data:ByteArray
  deriving DecidableEq
structure Note where
  Port:Int
  Data:ByteArray
  kE:Int
  gY:Int
  deriving DecidableEq
structure Change where
  Key:ByteArray
  Val:ByteArray
  Gone:Bool
  deriving DecidableEq
structure y9 where
  za:List gY
  Things:List gH
  Held:List Held
  Notes:List Note
  wP:Int
  wI:Int
  deriving DecidableEq
abbrev gY.cs (x:gY):List Value:=[.int .i64 x.ID,.int .i64 x.gH,.int .i64 x.Rights,.int .i64 x.kE,.int .i64 x.From]
abbrev gY.val (x:gY):Value:= .agg #[.int .i64 x.ID,.int .i64 x.gH,.int .i64 x.Rights,.int .i64 x.kE,.int .i64 x.From]
abbrev Place.val (x:Place):Value:= .agg #[.int .i64 x.iR,.int .i64 x.Slot]
abbrev Held.cs (x:Held):List Value:=[.int .i64 x.Place.iR,.int .i64 x.Place.Slot,.int .i64 x.gY]
abbrev Held.val (x:Held):Value:= .agg #[.int .i64 x.Place.iR,.int .i64 x.Place.Slot,.int .i64 x.gY]
abbrev gH.cs (x:gH):List Value:=[.int .i64 x.ID,.int .i64 x.Kind,.string x.Data]
abbrev gH.val (x:gH):Value:= .agg #[.int .i64 x.ID,.int .i64 x.Kind,.string x.Data]
abbrev Note.cs (x:Note):List Value:=[.int .i64 x.Port,.string x.Data,.int .i64 x.kE,.int .i64 x.gY]
abbrev Note.val (x:Note):Value:= .agg #[.int .i64 x.Port,.string x.Data,.int .i64 x.kE,.int .i64 x.gY]
abbrev Change.cs (x:Change):List Value:=[.string x.Key,.string x.Val,.bool x.Gone]
abbrev Change.val (x:Change):Value:= .agg #[.string x.Key,.string x.Val,.bool x.Gone]
instance:Enc gY:=⟨5,gY.cs,fun _=>rfl,fun x u hu=>by simp [gY.cs] at hu;rcases hu with rfl|rfl|rfl|rfl|rfl <;> rfl,by decide⟩
instance:Enc Held:=⟨3,Held.cs,fun _=>rfl,fun x u hu=>by simp [Held.cs] at hu;rcases hu with rfl|rfl|rfl <;> rfl,by decide⟩
instance:Enc gH:=⟨3,gH.cs,fun _=>rfl,fun x u hu=>by simp [gH.cs] at hu;rcases hu with rfl|rfl|rfl <;> rfl,by decide⟩
instance:Enc Note:=⟨4,Note.cs,fun _=>rfl,fun x u hu=>by simp [Note.cs] at hu;rcases hu with rfl|rfl|rfl|rfl <;> rfl,by decide⟩
instance:Enc Change:=⟨3,Change.cs,fun _=>rfl,fun x u hu=>by simp [Change.cs] at hu;rcases hu with rfl|rfl|rfl <;> rfl,by decide⟩
def rl (w:World)(b:Nat)(x:gY):Prop:=w.cell? ⟨b,0,none⟩=some (.int .i64 x.ID)∧w.cell? ⟨b,1,none⟩=some (.int .i64 x.gH)∧w.cell? ⟨b,2,none⟩=some (.int .i64 x.Rights)∧w.cell? ⟨b,3,none⟩=some (.int .i64 x.kE)∧w.cell? ⟨b,4,none⟩=some (.int .i64 x.From)
theorem rl.new (w:World)(x:gY)(t:TypeId):rl (w.alloc (.cells #[.int .i64 x.ID,.int .i64 x.gH,.int .i64 x.Rights,.int .i64 x.kE,.int .i64 x.From] t)) w.heap.size x:=by
  unfold rl;simp [go_sem]
theorem rl.ext {w w':World}{b:Nat}{x:gY}(h:rl w b x)(e:Ext w w'):rl w' b x:=⟨e.gX h.1,e.gX h.2.1,e.gX h.2.2.1,e.gX h.2.2.2.1,e.gX h.2.2.2.2⟩
def bF (n:Int):Value:=if n=0 then .nilIface else .iface 75 (.int .i64 n)
theorem jT {n:Int}(h:n≠0):bF n = .iface 75 (.int .i64 n):=by unfold bF;rw [if_neg h]
end Go.Proofs.Ytpipachmngdegaa
end
