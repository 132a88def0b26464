import Derived.Shelf.Strings.Builder1
import Derived.Shelf.Small.Strs
import Derived.Shelf.Bits.Mul64
import Derived.Ground.Names2Prog
import Derived.Shelf.Slices.Clone
import Derived.Ground.SlgnProg
import Derived.Shelf.SlicesE.Clone
import Derived.Test.YtpipachmngdegaaProg
import Derived.Test.YtpipachmngdegaaSSP28
section
namespace Go.Proofs
open Go.Shelf
def Try.lays169_ren:Go.Shelf.Ren:=⟨fun|169=>71|n=>n,fun|70=>122|9=>9|0=>0|72=>124|37=>109|127=>134|3=>3|5=>5|n=>n,fun|n=>n⟩
theorem Try.lays169:Go.Proofs.Lays.n169 Try.prog Try.lays169_ren:={
  mixed:=by kernel_rfl
  f169:=Try.func71.trans (congrArg some (by kernel_rfl))
  t0:=Try.underlying0
  a0:=Try.isAgg0
  z0:=Try.sizeOf0
  v0:=Try.zeroValue0
  t3:=Try.underlying3
  a3:=Try.isAgg3
  z3:=Try.sizeOf3
  v3:=Try.zeroValue3
  t9:=Try.underlying9
  a9:=Try.isAgg9
  z9:=Try.sizeOf9
  v9:=Try.zeroValue9
  t37:=Try.underlying109
  a37:=Try.isAgg109
  z37:=Try.sizeOf109
  v37:=Try.zeroValue109
  t70:=Try.underlying122
  a70:=Try.isAgg122
  z70:=Try.sizeOf122
  v70:=Try.zeroValue122
  t72:=Try.underlying124
  a72:=Try.isAgg124
  z72:=Try.sizeOf124
  v72:=Try.zeroValue124
  t127:=Try.underlying134
  a127:=Try.isAgg134
  z127:=Try.sizeOf134
  v127:=Try.zeroValue134 }
theorem Try.Builder_Extra_169:Builder.Extra Try.prog Try.lays169_ren:={
  sizeBuilder:=by kernel_rfl
  liesBuilder:=by kernel_rfl
  t5:=Try.underlying5
  a5:=Try.isAgg5
  z5:=Try.sizeOf5
  v5:=Try.zeroValue5
  infoByte:=by kernel_rfl
  cellsByte:=by kernel_rfl
  sizeByte:=by kernel_rfl
  neB5:=by decide }
open Go.RowKit in
theorem Try.Builder_String_any (B b:Nat)(l:List UInt8)(w:World)(h:Lib.IsBuilder 124 5 B b (Lib.byteCells l) w)(hBw:B≤w.heap.size) :
    Calls Try.prog 71 #[.pointer (some ⟨b,0,none⟩)] w fun e w'=>e = .returned (.string ⟨l.toArray⟩)∧Below B w w':=Any.Builder_String_any Try.lays169 Try.Builder_Extra_169 B b l w h hBw
end Go.Proofs
end
section
namespace Go.Proofs.Ytpipachmngdegaa
open Go Go.RowKit
set_option linter.unusedVariables false
section
variable {s:jo} {d m:bA} {e:Int}
theorem r7 (h:ck1 s d=(m,e))(he:¬ e=0):aQ s d=(s,m,e):=by
  have h4:p9 s d=(m,e):=by
    unfold p9 wK ck2;rw [h,dM (s:=(m,e)) (f:=ag) he,dM (s:=(m,e)) he,dM (s:=(m,e)) he]
  unfold aQ;rw [h4,if_neg he]
theorem r8 (h:ck1 s d=(m,e))(he:e=0)(h2:¬ (ag m).2=0):aQ s d=(s,ag m):=by
  have h4:p9 s d=ag m:=by
    unfold p9 wK ck2;rw [h,cX (s:=(m,e)) (f:=ag) he,dM h2,dM h2]
  unfold aQ;rw [h4,if_neg h2]
theorem r9 (h:ck1 s d=(m,e))(he:e=0)(h2:(ag m).2=0)(h3:¬ (aj (ag m).1 ((s.Epoch+1) % 2) (aA (kW s))).2=0):aQ s d=(s,aj (ag m).1 ((s.Epoch+1) % 2) (aA (kW s))):=by
  have h4:p9 s d=aj (ag m).1 ((s.Epoch+1) % 2) (aA (kW s)):=by
    unfold p9 wK ck2;rw [h,cX (s:=(m,e)) (f:=ag) he,cX h2,dM h3]
  unfold aQ;rw [h4,if_neg h3]
theorem sf (h:ck1 s d=(m,e))(he:e=0)(h2:(ag m).2=0)(h3:(aj (ag m).1 ((s.Epoch+1) % 2) (aA (kW s))).2=0)(h5:¬ (ag (aj (ag m).1 ((s.Epoch+1) % 2) (aA (kW s))).1).2=0) :
    aQ s d=(s,ag (aj (ag m).1 ((s.Epoch+1) % 2) (aA (kW s))).1):=by
  have h4:p9 s d=ag (aj (ag m).1 ((s.Epoch+1) % 2) (aA (kW s))).1:=by
    unfold p9 wK ck2;rw [h,cX (s:=(m,e)) (f:=ag) he,cX h2,cX h3]
  unfold aQ;rw [h4,if_neg h5]
theorem sg (h:ck1 s d=(m,e))(he:e=0)(h2:(ag m).2=0)(h3:(aj (ag m).1 ((s.Epoch+1) % 2) (aA (kW s))).2=0)(h5:(ag (aj (ag m).1 ((s.Epoch+1) % 2) (aA (kW s))).1).2=0) :
    aQ s d=(yr s (ag (aj (ag m).1 ((s.Epoch+1) % 2) (aA (kW s))).1).1,(ag (aj (ag m).1 ((s.Epoch+1) % 2) (aA (kW s))).1).1,0):=by
  have h4:p9 s d=ag (aj (ag m).1 ((s.Epoch+1) % 2) (aA (kW s))).1:=by
    unfold p9 wK ck2;rw [h,cX (s:=(m,e)) (f:=ag) he,cX h2,cX h3]
  unfold aQ;rw [h4,if_pos h5]
theorem tU (h:(ag d).2=0):(ag d).1.Down=false:=by
  unfold ag at h ⊢
  split
  ·
    rename_i h0
    by_cases hd:d.Down=true
    · rw [iH hd] at h0;cases h0
    ·
      have hd':d.Down=false:=by simpa using hd
      by_cases hf:d.Fuse=0
      · rw [gI hd' hf] at h0;cases h0
      · rw [iw hd' hf]
  ·
    rename_i h0
    rw [if_neg h0] at h;exact absurd h h0
end
section
variable {s:jo} {d:bA} {l:List Change} {e:Int} {n m:Nat}
theorem kL {f:Int}{t:ByteArray}:∀ (k i:Nat) (d:bA) (m:Nat),cI n m d→cI n (m+k) (dR f t k i d).1
  | 0,i,d,m,h=>h
  | k+1,i,d,m,h=>by
    rw [dR]
    split
    ·
      split
      ·
        have:=kL (f:=f) (t:=t) k (i+1) _ (m+1) (h.write (f+(i:Int)) (t.extract (i*48) (i*48+min 48 (t.size-i*48))))
        exact this.up (by omega)
      · exact (h.write _ _).up (by omega)
    · exact h.up (by omega)
theorem ml {x:bA×Int}{f:bA→bA×Int}{a b:Nat}(h:cI n a x.1)(hab:a≤b)(hf:∀e,cI n a e→cI n b (f e).1):cI n b (jO x f).1:=by
  unfold jO;split
  · exact hf _ h
  · exact h.up hab
theorem tV (h:cI n m d)(ht:(az s.Rows).size≤2400):cI n (m+2500) (aQ s d).2.1:=by
  have h1:cI n (m+2401) (ck1 s d).1:=(kL _ 0 d m h).up (by omega)
  have h2:cI n (m+2401) (ck2 s d).1:=ml h1 (Nat.le_refl _) fun e he=>he.flush
  have h3:cI n (m+2402) (wK s d).1:=ml h2 (by omega) fun e he=>he.write _ _
  have h4:cI n (m+2402) (p9 s d).1:=ml h3 (Nat.le_refl _) fun e he=>he.flush
  unfold aQ;split <;> exact h4.up (by omega)
theorem wO (h:(aQ s d).2.2=0):(aQ s d).1=yr s (aQ s d).2.1:=by
  unfold aQ at h ⊢
  split
  · rfl
  · rename_i h1;rw [if_neg h1] at h;exact absurd h h1
end
section
variable {s:jo} {d:bA} {l:List Change} {e:Int} {n m:Nat}
theorem yv (h:62<l.length):aD s d l=(s,d,2):=by
  have hf:gl s d.Now.length l=2:=by unfold gl;rw [if_pos h]
  unfold aD;rw [hf,if_pos (by decide)]
theorem yw (h0:¬ 62<l.length)(he:dF l=e)(h:¬ e=0):aD s d l=(s,d,e):=by
  have hf:gl s d.Now.length l=e:=by unfold gl;rw [if_neg h0,if_pos (by rw [he];exact h),he]
  unfold aD;rw [hf,if_pos h]
theorem mo (h0:¬ 62<l.length)(h1:dF l=0)(h:60<(a8 s.Rows l).length∨(d.Now.length:Int)-102<(l.length:Int)+1):aD s d l=(s,d,9):=by
  have hf:gl s d.Now.length l=9:=by unfold gl;rw [if_neg h0,if_neg (by rw [h1];decide),if_pos h]
  unfold aD;rw [hf,if_pos (by decide)]
theorem jX (h0:¬ 62<l.length)(h1:dF l=0)(h:¬ (60<(a8 s.Rows l).length∨(d.Now.length:Int)-102<(l.length:Int)+1)):gl s d.Now.length l=0:=by
  unfold gl;rw [if_neg h0,if_neg (by rw [h1];decide),if_neg h]
theorem kX (hf:gl s d.Now.length l=0)(hr:s.L.Many-s.L.Next<(l.length:Int)+1)(he:¬ (aQ s d).2.2=0):aD s d l=aQ s d:=by
  have hp:oC s d l=aQ s d:=if_pos hr
  unfold aD;rw [hf,if_neg (by decide),hp,if_pos he]
theorem kY (hf:gl s d.Now.length l=0)(hr:s.L.Many-s.L.Next<(l.length:Int)+1)(he:(aQ s d).2.2=0)(ha:(aR (aQ s d).1.L (aQ s d).2.1 l).2.2=0) :
    aD s d l=(kx (aQ s d).1 (aR (aQ s d).1.L (aQ s d).2.1 l).1 (a8 s.Rows l),(aR (aQ s d).1.L (aQ s d).2.1 l).2.1,(aR (aQ s d).1.L (aQ s d).2.1 l).2.2):=by
  have hp:oC s d l=aQ s d:=if_pos hr
  unfold aD;rw [hf,if_neg (by decide),hp,if_neg (by rw [he];decide)];unfold tP;rw [if_pos ha,ha]
theorem kZ (hf:gl s d.Now.length l=0)(hr:s.L.Many-s.L.Next<(l.length:Int)+1)(he:(aQ s d).2.2=0)(ha:¬ (aR (aQ s d).1.L (aQ s d).2.1 l).2.2=0) :
    aD s d l=(kx (aQ s d).1 (aR (aQ s d).1.L (aQ s d).2.1 l).1 (aQ s d).1.Rows,(aR (aQ s d).1.L (aQ s d).2.1 l).2.1,(aR (aQ s d).1.L (aQ s d).2.1 l).2.2):=by
  have hp:oC s d l=aQ s d:=if_pos hr
  unfold aD;rw [hf,if_neg (by decide),hp,if_neg (by rw [he];decide)];unfold tP;rw [if_neg ha]
theorem k0 (hf:gl s d.Now.length l=0)(hr:¬ s.L.Many-s.L.Next<(l.length:Int)+1)(ha:(aR s.L d l).2.2=0) :
    aD s d l=(kx s (aR s.L d l).1 (a8 s.Rows l),(aR s.L d l).2.1,(aR s.L d l).2.2):=by
  have hp:oC s d l=(s,d,0):=if_neg hr
  unfold aD;rw [hf,if_neg (by decide),hp,if_neg (fun hh=>hh rfl)];unfold tP;rw [if_pos ha,ha]
theorem k9 (hf:gl s d.Now.length l=0)(hr:¬ s.L.Many-s.L.Next<(l.length:Int)+1)(ha:¬ (aR s.L d l).2.2=0) :
    aD s d l=(kx s (aR s.L d l).1 s.Rows,(aR s.L d l).2.1,(aR s.L d l).2.2):=by
  have hp:oC s d l=(s,d,0):=if_neg hr
  unfold aD;rw [hf,if_neg (by decide),hp,if_neg (fun hh=>hh rfl)];unfold tP;rw [if_neg ha]
end
section
variable {d m:bA} {e:Int}
theorem eV (h:d.Now.length<166):ar d=(d,9):=if_pos h
theorem nG (h0:¬ d.Now.length<166)(h:mg d=(m,e))(he:¬ e=0):ar d=(m,e):=by
  unfold ar;rw [if_neg h0];unfold tO tN tM;rw [h]
  rw [dM (s:=(m,e)) (f:=ag) he,dM (s:=(m,e)) he,dM (s:=(m,e)) he]
theorem nH (h0:¬ d.Now.length<166)(h:mg d=(m,e))(he:e=0)(h2:¬ (ag m).2=0):ar d=ag m:=by
  unfold ar;rw [if_neg h0];unfold tO tN tM;rw [h]
  rw [cX (s:=(m,e)) (f:=ag) he,dM h2,dM h2]
theorem nI (h0:¬ d.Now.length<166)(h:mg d=(m,e))(he:e=0)(h2:(ag m).2=0)(h3:¬ (aj (ag m).1 1 (aA ⟨1,0,0,1⟩)).2=0):ar d=aj (ag m).1 1 (aA ⟨1,0,0,1⟩):=by
  unfold ar;rw [if_neg h0];unfold tO tN tM;rw [h]
  rw [cX (s:=(m,e)) (f:=ag) he,cX h2,dM h3]
theorem mq (h0:¬ d.Now.length<166)(h:mg d=(m,e))(he:e=0)(h2:(ag m).2=0)(h3:(aj (ag m).1 1 (aA ⟨1,0,0,1⟩)).2=0):ar d=ag (aj (ag m).1 1 (aA ⟨1,0,0,1⟩)).1:=by
  unfold ar;rw [if_neg h0];unfold tO tN tM;rw [h]
  rw [cX (s:=(m,e)) (f:=ag) he,cX h2,cX h3]
end
theorem wP {d m:bA}{e:Int}(h0:¬ d.Now.length<166)(h:mg d=(m,e))(he:e=0)(h2:(ag m).2=0)(h3:(aj (ag m).1 1 (aA ⟨1,0,0,1⟩)).2=0):ar d=ag (aj (ag m).1 1 (aA ⟨1,0,0,1⟩)).1:=mq h0 h he h2 h3
end Go.Proofs.Ytpipachmngdegaa
end
