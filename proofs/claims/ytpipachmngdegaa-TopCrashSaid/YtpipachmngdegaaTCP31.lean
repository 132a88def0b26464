import Derived.Shelf.Strings.Builder1
import Derived.Shelf.Small.Strs
import Derived.Shelf.Bits.Mul64
import Derived.Ground.Names2Prog
import Derived.Shelf.Slices.Clone
import Derived.Ground.SlgnProg
import Derived.Shelf.SlicesE.Clone
import Derived.Test.YtpipachmngdegaaProg
import Derived.Test.YtpipachmngdegaaTCP29
section
namespace Go.Proofs
open Go.Shelf
def Try.lays169_ren:Go.Shelf.Ren:=⟨fun|169=>71|n=>n,fun|70=>122|9=>9|0=>0|72=>124|37=>109|127=>134|3=>3|5=>5|n=>n,fun|n=>n⟩
theorem Try.lays169:Go.Proofs.Lays.n169 Try.prog Try.lays169_ren:={
  mixed:=by kernel_rfl
  f169:=Try.func71.trans (congrArg some (by kernel_rfl))
  t0:=Try.underlying0
  a0:=Try.isAgg0
  z0:=Try.sizeOf0
  v0:=Try.zeroValue0
  t3:=Try.underlying3
  a3:=Try.isAgg3
  z3:=Try.sizeOf3
  v3:=Try.zeroValue3
  t9:=Try.underlying9
  a9:=Try.isAgg9
  z9:=Try.sizeOf9
  v9:=Try.zeroValue9
  t37:=Try.underlying109
  a37:=Try.isAgg109
  z37:=Try.sizeOf109
  v37:=Try.zeroValue109
  t70:=Try.underlying122
  a70:=Try.isAgg122
  z70:=Try.sizeOf122
  v70:=Try.zeroValue122
  t72:=Try.underlying124
  a72:=Try.isAgg124
  z72:=Try.sizeOf124
  v72:=Try.zeroValue124
  t127:=Try.underlying134
  a127:=Try.isAgg134
  z127:=Try.sizeOf134
  v127:=Try.zeroValue134 }
theorem Try.Builder_Extra_169:Builder.Extra Try.prog Try.lays169_ren:={
  sizeBuilder:=by kernel_rfl
  liesBuilder:=by kernel_rfl
  t5:=Try.underlying5
  a5:=Try.isAgg5
  z5:=Try.sizeOf5
  v5:=Try.zeroValue5
  infoByte:=by kernel_rfl
  cellsByte:=by kernel_rfl
  sizeByte:=by kernel_rfl
  neB5:=by decide }
open Go.RowKit in
theorem Try.Builder_String_any (B b:Nat)(l:List UInt8)(w:World)(h:Lib.IsBuilder 124 5 B b (Lib.byteCells l) w)(hBw:B≤w.heap.size) :
    Calls Try.prog 71 #[.pointer (some ⟨b,0,none⟩)] w fun e w'=>e = .returned (.string ⟨l.toArray⟩)∧Below B w w':=Any.Builder_String_any Try.lays169 Try.Builder_Extra_169 B b l w h hBw
end Go.Proofs
end
section
namespace Go.Proofs.Ytpipachmngdegaa
open Go Go.RowKit
set_option linter.unusedVariables false
section
variable {s:iQ} {d m:bp} {e:Int}
theorem rR (h:ck1 s d=(m,e))(he:¬ e=0):ay s d=(s,m,e):=by
  have h4:pP s d=(m,e):=by
    unfold pP wt ck2;rw [h,dC (s:=(m,e)) (f:=aj) he,dC (s:=(m,e)) he,dC (s:=(m,e)) he]
  unfold ay;rw [h4,if_neg he]
theorem rT (h:ck1 s d=(m,e))(he:e=0)(h2:¬ (aj m).2=0):ay s d=(s,aj m):=by
  have h4:pP s d=aj m:=by
    unfold pP wt ck2;rw [h,cW (s:=(m,e)) (f:=aj) he,dC h2,dC h2]
  unfold ay;rw [h4,if_neg h2]
theorem rU (h:ck1 s d=(m,e))(he:e=0)(h2:(aj m).2=0)(h3:¬ (ar (aj m).1 ((s.Epoch+1) % 2) (aC (kK s))).2=0):ay s d=(s,ar (aj m).1 ((s.Epoch+1) % 2) (aC (kK s))):=by
  have h4:pP s d=ar (aj m).1 ((s.Epoch+1) % 2) (aC (kK s)):=by
    unfold pP wt ck2;rw [h,cW (s:=(m,e)) (f:=aj) he,cW h2,dC h3]
  unfold ay;rw [h4,if_neg h3]
theorem rV (h:ck1 s d=(m,e))(he:e=0)(h2:(aj m).2=0)(h3:(ar (aj m).1 ((s.Epoch+1) % 2) (aC (kK s))).2=0)(h5:¬ (aj (ar (aj m).1 ((s.Epoch+1) % 2) (aC (kK s))).1).2=0) :
    ay s d=(s,aj (ar (aj m).1 ((s.Epoch+1) % 2) (aC (kK s))).1):=by
  have h4:pP s d=aj (ar (aj m).1 ((s.Epoch+1) % 2) (aC (kK s))).1:=by
    unfold pP wt ck2;rw [h,cW (s:=(m,e)) (f:=aj) he,cW h2,cW h3]
  unfold ay;rw [h4,if_neg h5]
theorem rW (h:ck1 s d=(m,e))(he:e=0)(h2:(aj m).2=0)(h3:(ar (aj m).1 ((s.Epoch+1) % 2) (aC (kK s))).2=0)(h5:(aj (ar (aj m).1 ((s.Epoch+1) % 2) (aC (kK s))).1).2=0) :
    ay s d=(x5 s (aj (ar (aj m).1 ((s.Epoch+1) % 2) (aC (kK s))).1).1,(aj (ar (aj m).1 ((s.Epoch+1) % 2) (aC (kK s))).1).1,0):=by
  have h4:pP s d=aj (ar (aj m).1 ((s.Epoch+1) % 2) (aC (kK s))).1:=by
    unfold pP wt ck2;rw [h,cW (s:=(m,e)) (f:=aj) he,cW h2,cW h3]
  unfold ay;rw [h4,if_pos h5]
theorem tG (h:(aj d).2=0):(aj d).1.Down=false:=by
  unfold aj at h ⊢
  split
  ·
    rename_i h0
    by_cases hd:d.Down=true
    · rw [iB hd] at h0;cases h0
    ·
      have hd':d.Down=false:=by simpa using hd
      by_cases hf:d.Fuse=0
      · rw [gy hd' hf] at h0;cases h0
      · rw [ia hd' hf]
  ·
    rename_i h0
    rw [if_neg h0] at h;exact absurd h h0
end
section
variable {s:iQ} {d:bp} {l:List Change} {e:Int} {n m:Nat}
theorem kz {f:Int}{t:ByteArray}:∀ (k i:Nat) (d:bp) (m:Nat),cz n m d→cz n (m+k) (dG f t k i d).1
  | 0,i,d,m,h=>h
  | k+1,i,d,m,h=>by
    rw [dG]
    split
    ·
      split
      ·
        have:=kz (f:=f) (t:=t) k (i+1) _ (m+1) (h.write (f+(i:Int)) (t.extract (i*48) (i*48+min 48 (t.size-i*48))))
        exact this.up (by omega)
      · exact (h.write _ _).up (by omega)
    · exact h.up (by omega)
theorem l6 {x:bp×Int}{f:bp→bp×Int}{a b:Nat}(h:cz n a x.1)(hab:a≤b)(hf:∀e,cz n a e→cz n b (f e).1):cz n b (jz x f).1:=by
  unfold jz;split
  · exact hf _ h
  · exact h.up hab
theorem tH (h:cz n m d)(ht:(aB s.Rows).size≤2400):cz n (m+2500) (ay s d).2.1:=by
  have h1:cz n (m+2401) (ck1 s d).1:=(kz _ 0 d m h).up (by omega)
  have h2:cz n (m+2401) (ck2 s d).1:=l6 h1 (Nat.le_refl _) fun e he=>he.flush
  have h3:cz n (m+2402) (wt s d).1:=l6 h2 (by omega) fun e he=>he.write _ _
  have h4:cz n (m+2402) (pP s d).1:=l6 h3 (Nat.le_refl _) fun e he=>he.flush
  unfold ay;split <;> exact h4.up (by omega)
theorem wy (h:(ay s d).2.2=0):(ay s d).1=x5 s (ay s d).2.1:=by
  unfold ay at h ⊢
  split
  · rfl
  · rename_i h1;rw [if_neg h1] at h;exact absurd h h1
end
section
variable {s:iQ} {d:bp} {l:List Change} {e:Int} {n m:Nat}
theorem x8 (h:62<l.length):ai s d l=(s,d,2):=by
  have hf:fJ s d.Now.length l=2:=by unfold fJ;rw [if_pos h]
  unfold ai;rw [hf,if_pos (by decide)]
theorem x9 (h0:¬ 62<l.length)(he:dR l=e)(h:¬ e=0):ai s d l=(s,d,e):=by
  have hf:fJ s d.Now.length l=e:=by unfold fJ;rw [if_neg h0,if_pos (by rw [he];exact h),he]
  unfold ai;rw [hf,if_pos h]
theorem l7 (h0:¬ 62<l.length)(h1:dR l=0)(h:60<(a7 s.Rows l).length∨(d.Now.length:Int)-102<(l.length:Int)+1):ai s d l=(s,d,9):=by
  have hf:fJ s d.Now.length l=9:=by unfold fJ;rw [if_neg h0,if_neg (by rw [h1];decide),if_pos h]
  unfold ai;rw [hf,if_pos (by decide)]
theorem jL (h0:¬ 62<l.length)(h1:dR l=0)(h:¬ (60<(a7 s.Rows l).length∨(d.Now.length:Int)-102<(l.length:Int)+1)):fJ s d.Now.length l=0:=by
  unfold fJ;rw [if_neg h0,if_neg (by rw [h1];decide),if_neg h]
theorem kL (hf:fJ s d.Now.length l=0)(hr:s.L.Many-s.L.Next<(l.length:Int)+1)(he:¬ (ay s d).2.2=0):ai s d l=ay s d:=by
  have hp:oq s d l=ay s d:=if_pos hr
  unfold ai;rw [hf,if_neg (by decide),hp,if_pos he]
theorem kM (hf:fJ s d.Now.length l=0)(hr:s.L.Many-s.L.Next<(l.length:Int)+1)(he:(ay s d).2.2=0)(ha:(aP (ay s d).1.L (ay s d).2.1 l).2.2=0) :
    ai s d l=(kc (ay s d).1 (aP (ay s d).1.L (ay s d).2.1 l).1 (a7 s.Rows l),(aP (ay s d).1.L (ay s d).2.1 l).2.1,(aP (ay s d).1.L (ay s d).2.1 l).2.2):=by
  have hp:oq s d l=ay s d:=if_pos hr
  unfold ai;rw [hf,if_neg (by decide),hp,if_neg (by rw [he];decide)];unfold tD;rw [if_pos ha,ha]
theorem kN (hf:fJ s d.Now.length l=0)(hr:s.L.Many-s.L.Next<(l.length:Int)+1)(he:(ay s d).2.2=0)(ha:¬ (aP (ay s d).1.L (ay s d).2.1 l).2.2=0) :
    ai s d l=(kc (ay s d).1 (aP (ay s d).1.L (ay s d).2.1 l).1 (ay s d).1.Rows,(aP (ay s d).1.L (ay s d).2.1 l).2.1,(aP (ay s d).1.L (ay s d).2.1 l).2.2):=by
  have hp:oq s d l=ay s d:=if_pos hr
  unfold ai;rw [hf,if_neg (by decide),hp,if_neg (by rw [he];decide)];unfold tD;rw [if_neg ha]
theorem kO (hf:fJ s d.Now.length l=0)(hr:¬ s.L.Many-s.L.Next<(l.length:Int)+1)(ha:(aP s.L d l).2.2=0) :
    ai s d l=(kc s (aP s.L d l).1 (a7 s.Rows l),(aP s.L d l).2.1,(aP s.L d l).2.2):=by
  have hp:oq s d l=(s,d,0):=if_neg hr
  unfold ai;rw [hf,if_neg (by decide),hp,if_neg (fun hh=>hh rfl)];unfold tD;rw [if_pos ha,ha]
theorem kP (hf:fJ s d.Now.length l=0)(hr:¬ s.L.Many-s.L.Next<(l.length:Int)+1)(ha:¬ (aP s.L d l).2.2=0) :
    ai s d l=(kc s (aP s.L d l).1 s.Rows,(aP s.L d l).2.1,(aP s.L d l).2.2):=by
  have hp:oq s d l=(s,d,0):=if_neg hr
  unfold ai;rw [hf,if_neg (by decide),hp,if_neg (fun hh=>hh rfl)];unfold tD;rw [if_neg ha]
end
section
variable {d m:bp} {e:Int}
theorem gk (h:d.Now.length<166):av d=(d,9):=if_pos h
theorem nu (h0:¬ d.Now.length<166)(h:l3 d=(m,e))(he:¬ e=0):av d=(m,e):=by
  unfold av;rw [if_neg h0];unfold tC tA tw;rw [h]
  rw [dC (s:=(m,e)) (f:=aj) he,dC (s:=(m,e)) he,dC (s:=(m,e)) he]
theorem nw (h0:¬ d.Now.length<166)(h:l3 d=(m,e))(he:e=0)(h2:¬ (aj m).2=0):av d=aj m:=by
  unfold av;rw [if_neg h0];unfold tC tA tw;rw [h]
  rw [cW (s:=(m,e)) (f:=aj) he,dC h2,dC h2]
theorem ny (h0:¬ d.Now.length<166)(h:l3 d=(m,e))(he:e=0)(h2:(aj m).2=0)(h3:¬ (ar (aj m).1 1 (aC ⟨1,0,0,1⟩)).2=0):av d=ar (aj m).1 1 (aC ⟨1,0,0,1⟩):=by
  unfold av;rw [if_neg h0];unfold tC tA tw;rw [h]
  rw [cW (s:=(m,e)) (f:=aj) he,cW h2,dC h3]
theorem l8 (h0:¬ d.Now.length<166)(h:l3 d=(m,e))(he:e=0)(h2:(aj m).2=0)(h3:(ar (aj m).1 1 (aC ⟨1,0,0,1⟩)).2=0):av d=aj (ar (aj m).1 1 (aC ⟨1,0,0,1⟩)).1:=by
  unfold av;rw [if_neg h0];unfold tC tA tw;rw [h]
  rw [cW (s:=(m,e)) (f:=aj) he,cW h2,cW h3]
end
theorem wz {d m:bp}{e:Int}(h0:¬ d.Now.length<166)(h:l3 d=(m,e))(he:e=0)(h2:(aj m).2=0)(h3:(ar (aj m).1 1 (aC ⟨1,0,0,1⟩)).2=0):av d=aj (ar (aj m).1 1 (aC ⟨1,0,0,1⟩)).1:=l8 h0 h he h2 h3
end Go.Proofs.Ytpipachmngdegaa
end
