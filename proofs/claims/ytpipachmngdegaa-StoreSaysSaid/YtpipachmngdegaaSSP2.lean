import Derived.Test.YtpipachmngdegaaSSP1
section
namespace Go.Proofs.Ytpipachmngdegaa
open Go.RowKit
set_option linter.unusedVariables false
structure ik where
  ID:Int
  gQ:Int
  Rights:Int
  kQ:Int
  From:Int
  deriving DecidableEq
structure Place where
  bH:Int
  Slot:Int
  deriving DecidableEq
structure Held where
  Place:Place
  ik:Int
  deriving DecidableEq
structure gQ where
  ID:Int
  Kind:Int
  Data:ByteArray
  deriving DecidableEq
structure Note where
  Port:Int
  Data:ByteArray
  kQ:Int
  ik:Int
  deriving DecidableEq
structure Change where
  Key:ByteArray
  Val:ByteArray
  Gone:Bool
  deriving DecidableEq
structure zH where
  zI:List ik
  Things:List gQ
  Held:List Held
  Notes:List Note
  xj:Int
  wZ:Int
  deriving DecidableEq
abbrev ik.cs (x:ik):List Value:=[.int .i64 x.ID,.int .i64 x.gQ,.int .i64 x.Rights,.int .i64 x.kQ,.int .i64 x.From]
abbrev ik.val (x:ik):Value:= .agg #[.int .i64 x.ID,.int .i64 x.gQ,.int .i64 x.Rights,.int .i64 x.kQ,.int .i64 x.From]
abbrev Place.val (x:Place):Value:= .agg #[.int .i64 x.bH,.int .i64 x.Slot]
abbrev Held.cs (x:Held):List Value:=[.int .i64 x.Place.bH,.int .i64 x.Place.Slot,.int .i64 x.ik]
abbrev Held.val (x:Held):Value:= .agg #[.int .i64 x.Place.bH,.int .i64 x.Place.Slot,.int .i64 x.ik]
abbrev gQ.cs (x:gQ):List Value:=[.int .i64 x.ID,.int .i64 x.Kind,.string x.Data]
abbrev gQ.val (x:gQ):Value:= .agg #[.int .i64 x.ID,.int .i64 x.Kind,.string x.Data]
abbrev Note.cs (x:Note):List Value:=[.int .i64 x.Port,.string x.Data,.int .i64 x.kQ,.int .i64 x.ik]
abbrev Note.val (x:Note):Value:= .agg #[.int .i64 x.Port,.string x.Data,.int .i64 x.kQ,.int .i64 x.ik]
abbrev Change.cs (x:Change):List Value:=[.string x.Key,.string x.Val,.bool x.Gone]
abbrev Change.val (x:Change):Value:= .agg #[.string x.Key,.string x.Val,.bool x.Gone]
instance:Enc ik:=⟨5,ik.cs,fun _=>rfl,fun x u hu=>by simp [ik.cs] at hu;rcases hu with rfl|rfl|rfl|rfl|rfl <;> rfl,by decide⟩
instance:Enc Held:=⟨3,Held.cs,fun _=>rfl,fun x u hu=>by simp [Held.cs] at hu;rcases hu with rfl|rfl|rfl <;> rfl,by decide⟩
instance:Enc gQ:=⟨3,gQ.cs,fun _=>rfl,fun x u hu=>by simp [gQ.cs] at hu;rcases hu with rfl|rfl|rfl <;> rfl,by decide⟩
instance:Enc Note:=⟨4,Note.cs,fun _=>rfl,fun x u hu=>by simp [Note.cs] at hu;rcases hu with rfl|rfl|rfl|rfl <;> rfl,by decide⟩
instance:Enc Change:=⟨3,Change.cs,fun _=>rfl,fun x u hu=>by simp [Change.cs] at hu;rcases hu with rfl|rfl|rfl <;> rfl,by decide⟩
def rC (w:World)(b:Nat)(x:ik):Prop:=w.cell? ⟨b,0,none⟩=some (.int .i64 x.ID)∧w.cell? ⟨b,1,none⟩=some (.int .i64 x.gQ)∧w.cell? ⟨b,2,none⟩=some (.int .i64 x.Rights)∧w.cell? ⟨b,3,none⟩=some (.int .i64 x.kQ)∧w.cell? ⟨b,4,none⟩=some (.int .i64 x.From)
theorem rC.new (w:World)(x:ik)(t:TypeId):rC (w.alloc (.cells #[.int .i64 x.ID,.int .i64 x.gQ,.int .i64 x.Rights,.int .i64 x.kQ,.int .i64 x.From] t)) w.heap.size x:=by
  unfold rC;simp [go_sem]
theorem rC.ext {w w':World}{b:Nat}{x:ik}(h:rC w b x)(e:Ext w w'):rC w' b x:=⟨e.ij h.1,e.ij h.2.1,e.ij h.2.2.1,e.ij h.2.2.2.1,e.ij h.2.2.2.2⟩
def bG (n:Int):Value:=if n=0 then .nilIface else .iface 75 (.int .i64 n)
theorem j3 {n:Int}(h:n≠0):bG n = .iface 75 (.int .i64 n):=by unfold bG;rw [if_neg h]
end Go.Proofs.Ytpipachmngdegaa
end
