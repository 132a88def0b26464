import Derived.Test.YtpipachmngdegaaGreatRSP1
section
namespace Go.Proofs.YtpipachmngdegaaGreat
open Go.RowKit
set_option linter.unusedVariables false
structure ao where
  ID:Int
  ai:Int
  Rights:Int
  ar:Int
  From:Int
  deriving DecidableEq
structure Place where
  ag:Int
  Slot:Int
  deriving DecidableEq
structure Held where
  Place:Place
  ao:Int
  deriving DecidableEq
structure ai where
  ID:Int
  Kind:Int
  Data:ByteArray
  deriving DecidableEq
structure Note where
  Port:Int
  Data:ByteArray
  ar:Int
  ao:Int
  deriving DecidableEq
structure Change where
  Key:ByteArray
  Val:ByteArray
  Gone:Bool
  deriving DecidableEq
structure ay where
  ap:List ao
  Things:List ai
  Held:List Held
  Notes:List Note
  ae:Int
  af:Int
  deriving DecidableEq
abbrev ao.cs (x:ao):List Value:=[.int .i64 x.ID,.int .i64 x.ai,.int .i64 x.Rights,.int .i64 x.ar,.int .i64 x.From]
abbrev ao.val (x:ao):Value:= .agg #[.int .i64 x.ID,.int .i64 x.ai,.int .i64 x.Rights,.int .i64 x.ar,.int .i64 x.From]
abbrev Place.val (x:Place):Value:= .agg #[.int .i64 x.ag,.int .i64 x.Slot]
abbrev Held.cs (x:Held):List Value:=[.int .i64 x.Place.ag,.int .i64 x.Place.Slot,.int .i64 x.ao]
abbrev Held.val (x:Held):Value:= .agg #[.int .i64 x.Place.ag,.int .i64 x.Place.Slot,.int .i64 x.ao]
abbrev ai.cs (x:ai):List Value:=[.int .i64 x.ID,.int .i64 x.Kind,.string x.Data]
abbrev ai.val (x:ai):Value:= .agg #[.int .i64 x.ID,.int .i64 x.Kind,.string x.Data]
abbrev Note.cs (x:Note):List Value:=[.int .i64 x.Port,.string x.Data,.int .i64 x.ar,.int .i64 x.ao]
abbrev Note.val (x:Note):Value:= .agg #[.int .i64 x.Port,.string x.Data,.int .i64 x.ar,.int .i64 x.ao]
abbrev Change.cs (x:Change):List Value:=[.string x.Key,.string x.Val,.bool x.Gone]
abbrev Change.val (x:Change):Value:= .agg #[.string x.Key,.string x.Val,.bool x.Gone]
instance:Enc ao:=⟨5,ao.cs,fun _=>rfl,fun x u hu=>by simp [ao.cs] at hu;rcases hu with rfl|rfl|rfl|rfl|rfl <;> rfl,by decide⟩
instance:Enc Held:=⟨3,Held.cs,fun _=>rfl,fun x u hu=>by simp [Held.cs] at hu;rcases hu with rfl|rfl|rfl <;> rfl,by decide⟩
instance:Enc ai:=⟨3,ai.cs,fun _=>rfl,fun x u hu=>by simp [ai.cs] at hu;rcases hu with rfl|rfl|rfl <;> rfl,by decide⟩
instance:Enc Note:=⟨4,Note.cs,fun _=>rfl,fun x u hu=>by simp [Note.cs] at hu;rcases hu with rfl|rfl|rfl|rfl <;> rfl,by decide⟩
instance:Enc Change:=⟨3,Change.cs,fun _=>rfl,fun x u hu=>by simp [Change.cs] at hu;rcases hu with rfl|rfl|rfl <;> rfl,by decide⟩
theorem Sl.gI {w:World}{v:Value}{l:List Held}(h:Sl w v l){i:Nat}(hi:i<l.length):∃b off c,v = .slice (some ⟨b,off,none⟩) l.length c∧b<w.heap.size ∧
    w.cell? ⟨b,off+i*3,none⟩=some (.int .i64 l[i].Place.ag)∧w.cell? ⟨b,off+i*3+1,none⟩=some (.int .i64 l[i].Place.Slot)∧w.cell? ⟨b,off+i*3+2,none⟩=some (.int .i64 l[i].ao):=by
  obtain ⟨b,off,c,hv,hb,hc⟩:=h.at hi
  exact ⟨b,off,c,hv,hb,hc 0 _ rfl,hc 1 _ rfl,hc 2 _ rfl⟩
def rx (w:World)(b:Nat)(x:ao):Prop:=w.cell? ⟨b,0,none⟩=some (.int .i64 x.ID)∧w.cell? ⟨b,1,none⟩=some (.int .i64 x.ai)∧w.cell? ⟨b,2,none⟩=some (.int .i64 x.Rights)∧w.cell? ⟨b,3,none⟩=some (.int .i64 x.ar)∧w.cell? ⟨b,4,none⟩=some (.int .i64 x.From)
theorem rx.new (w:World)(x:ao)(t:TypeId):rx (w.alloc (.cells #[.int .i64 x.ID,.int .i64 x.ai,.int .i64 x.Rights,.int .i64 x.ar,.int .i64 x.From] t)) w.heap.size x:=by
  unfold rx;simp [go_sem]
theorem rx.ext {w w':World}{b:Nat}{x:ao}(h:rx w b x)(e:Ext w w'):rx w' b x:=⟨e.iw h.1,e.iw h.2.1,e.iw h.2.2.1,e.iw h.2.2.2.1,e.iw h.2.2.2.2⟩
def ek (n:Int):Value:=if n=0 then .nilIface else .iface 69 (.int .i64 n)
theorem ko {n:Int}(h:n≠0):ek n = .iface 69 (.int .i64 n):=by unfold ek;rw [if_neg h]
end Go.Proofs.YtpipachmngdegaaGreat
end
