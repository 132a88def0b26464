import Derived.Test.YtnmpibjlnninjaaGreatDoorCT13
namespace Go.Proofs.YtnmpibjlnninjaaGreatDoor
set_option linter.unusedVariables false
set_option linter.unusedSimpArgs false
set_option maxRecDepth 100000
set_option maxHeartbeats 90000000
open Go Go.RowKit
attribute [local irreducible] Run Rg Rq Qt Qa Stp Dg Do Dm bQ
theorem q.cu {P:Program}{n:Nat}{we:World}{X:List Nat}{L:Fm}{B F:List ag}{x y:Operand}{xT yT ty:TypeId}{a b:ByteArray}(hx:ev L x=some (.string a))(hy:ev L y=some (.string b))(h:a.size+b.size<=9223372036854775807:=by (simp only [ByteArray.size_append,bg,kG,List.length_cons,List.length_nil];omega)):Qt P n we X L B F (.binOp .add xT x y yT) ty (.string (a++b)):=q.cat hx hy h
theorem dO (n:Int)(w:World)(hn:0<=n/\n<=9000000000000000000):Calls Tryz.prog 132 #[iV n] w fun e w'=>e = .returned (.string (cB n))/\Ext w w':=by
 refine R.eV ?_
 refine R.q (q.ny O (by rw [Tryz.underlying3];rfl) Tryz.underlying5 rV) O<|U ?_
 refine R.q (q.shr (r:=n / 256) O O aC (Lp (D:=256) aC aC)) O<|R.q (q.ny O (by rw [Tryz.underlying3];rfl) Tryz.underlying5 rV) O<|U ?_
 refine R.q (q.shr (r:=n / 65536) O O aC (Lp (D:=65536) aC aC)) O<|R.q (q.ny O (by rw [Tryz.underlying3];rfl) Tryz.underlying5 rV) O<|U ?_
 refine R.q (q.shr (r:=n / 16777216) O O aC (Lp (D:=16777216) aC aC)) O<|R.q (q.ny O (by rw [Tryz.underlying3];rfl) Tryz.underlying5 rV) O<|R.s O (s.bs (l:=([u8 (n % 256),u8 ((n / 256) % 256),u8 ((n / 65536) % 256),u8 ((n / 16777216) % 256)]:List UInt8)) aP eD O O O O O (cp (fM ae) (cp (fM ae) (cp (fM ae) (cp (fM ae) fF)))) O) fun b1=>?_
 refine R.q (q.kA (cI 0 O) O aP Tryz.underlying5 Tryz.underlying9) O<|U ?_
 refine R.rt ?_
 rfl
theorem G7 (k:Int)(n:Int)(sx:ByteArray)(w:World)(hk:0<=k/\k<=255)(hn:0<=n/\n<=9000000000000000000)(hs:sx.size<=41):Calls Tryz.prog 190 #[.int .u8 k,iV n,.string sx] w fun e w'=>e = .returned (.string (eK k n sx))/\Ext w w':=by
 refine R.eV ?_
 refine R.cO (fuel:=19) [] O O mixed O<|D.l [0,3,6,7,8,9,10,11,12,16] [] [] O<|U ?_
 refine Dm.yy O O (q.ny (r:=((sx.size:Nat):Int)) O (by rw [Tryz.underlying3];rfl) Tryz.underlying5 (rU ae)) O<|U ?_
 refine Dm.yy O O (q.shr (r:=(((sx.size / 256):Nat):Int)) O O aC (Rm aC)) O<|Dm.yy O O (q.ny (r:=(((sx.size / 256):Nat):Int)) O (by rw [Tryz.underlying3];rfl) Tryz.underlying5 (rU ae)) O<|U ?_
 refine D.three (i:=1) (j:=4) (m:=13) O O O ?_ ?_ ?_
 .
  refine Do.p [] [] (s.bs (l:=([u8 k]:List UInt8)) aP eD O O O O O (cp (fM ae) fF) O) fun b1=>?_
  refine D.three (i:=2) (j:=4) (m:=13) O O O ?_ ?_ ?_
  .
   refine Do.k [] [] (q.kA (cI 0 O) O aP Tryz.underlying5 Tryz.underlying9) ?_
   refine D.two (i:=4) (j:=13) O O ?_ ?_
   .
    refine Do.p [] [] (s.c (q.call fZ O O (fun w hw=>dO n w ae)) O) fun _=>?_
    refine D.l [5] [] [] O<|Dm.yy O O (q.cu O O) O<|U ?_
    refine D.p 13 O [] [] (s.bs (l:=([UInt8.ofNat sx.size,UInt8.ofNat (sx.size / 256)]:List UInt8)) aP eD O O O O O (cp (eu ae) (cp (eu ae) fF)) O) fun b2=>?_
    refine D.k 14 O [] [] (q.kA (cI 0 O) O aP Tryz.underlying5 Tryz.underlying9) ?_
    refine D.l [15,17,18] [] [] O<|Dm.yy O O (q.cu O O) O<|Dm.yy O O (q.cu O O) O<|U ?_
    refine D.done<|R.rt ?_
    (rfl)
   refine Do.p [] [] (s.bs (l:=([UInt8.ofNat sx.size,UInt8.ofNat (sx.size / 256)]:List UInt8)) aP eD O O O O O (cp (eu ae) (cp (eu ae) fF)) O) fun b3=>?_
   refine D.two (i:=4) (j:=14) O O ?_ ?_
   .
    refine Do.p [] [] (s.c (q.call fZ O O (fun w hw=>dO n w ae)) O) fun _=>?_
    refine D.l [5] [] [] O<|Dm.yy O O (q.cu O O) O<|U ?_
    refine D.k 14 O [] [] (q.kA (cI 0 O) O aP Tryz.underlying5 Tryz.underlying9) ?_
    refine D.l [15,17,18] [] [] O<|Dm.yy O O (q.cu O O) O<|Dm.yy O O (q.cu O O) O<|U ?_
    refine D.done<|R.rt ?_
    (rfl)
   refine Do.k [] [] (q.kA (cI 0 O) O aP Tryz.underlying5 Tryz.underlying9) ?_
   refine D.p 4 O [] [] (s.c (q.call fZ O O (fun w hw=>dO n w ae)) O) fun _=>?_
   refine D.l lK [] [] O<|Dm.yy O O (q.cu O O) O<|Dm.yy O O (q.cu O O) O<|Dm.yy O O (q.cu O O) O<|U ?_
   refine D.done<|R.rt ?_
   (rfl)
  .
   refine Do.p [] [] (s.c (q.call fZ O O (fun w hw=>dO n w ae)) O) fun _=>?_
   refine D.two (i:=2) (j:=13) O O ?_ ?_
   .
    refine Do.k [] [] (q.kA (cI 0 O) O aP Tryz.underlying5 Tryz.underlying9) ?_
    refine D.l [5] [] [] O<|Dm.yy O O (q.cu O O) O<|U ?_
    refine D.p 13 O [] [] (s.bs (l:=([UInt8.ofNat sx.size,UInt8.ofNat (sx.size / 256)]:List UInt8)) aP eD O O O O O (cp (eu ae) (cp (eu ae) fF)) O) fun b4=>?_
    refine D.k 14 O [] [] (q.kA (cI 0 O) O aP Tryz.underlying5 Tryz.underlying9) ?_
    refine D.l [15,17,18] [] [] O<|Dm.yy O O (q.cu O O) O<|Dm.yy O O (q.cu O O) O<|U ?_
    refine D.done<|R.rt ?_
    (rfl)
   refine Do.p [] [] (s.bs (l:=([UInt8.ofNat sx.size,UInt8.ofNat (sx.size / 256)]:List UInt8)) aP eD O O O O O (cp (eu ae) (cp (eu ae) fF)) O) fun b5=>?_
   refine D.two (i:=2) (j:=14) O O ?_ ?_
   .
    refine Do.k [] [] (q.kA (cI 1 O) O aP Tryz.underlying5 Tryz.underlying9) ?_
    refine D.l [5] [] [] O<|Dm.yy O O (q.cu O O) O<|U ?_
    refine D.k 14 O [] [] (q.kA (cI 0 O) O aP Tryz.underlying5 Tryz.underlying9) ?_
    refine D.l [15,17,18] [] [] O<|Dm.yy O O (q.cu O O) O<|Dm.yy O O (q.cu O O) O<|U ?_
    refine D.done<|R.rt ?_
    (rfl)
   refine Do.k [] [] (q.kA (cI 0 O) O aP Tryz.underlying5 Tryz.underlying9) ?_
   refine D.k 2 O [] [] (q.kA (cI 1 O) O aP Tryz.underlying5 Tryz.underlying9) ?_
   refine D.l lK [] [] O<|Dm.yy O O (q.cu O O) O<|Dm.yy O O (q.cu O O) O<|Dm.yy O O (q.cu O O) O<|U ?_
   refine D.done<|R.rt ?_
   (rfl)
  refine Do.p [] [] (s.bs (l:=([UInt8.ofNat sx.size,UInt8.ofNat (sx.size / 256)]:List UInt8)) aP eD O O O O O (cp (eu ae) (cp (eu ae) fF)) O) fun b6=>?_
  refine D.three (i:=2) (j:=4) (m:=14) O O O ?_ ?_ ?_
  .
   refine Do.k [] [] (q.kA (cI 1 O) O aP Tryz.underlying5 Tryz.underlying9) ?_
   refine D.two (i:=4) (j:=14) O O ?_ ?_
   .
    refine Do.p [] [] (s.c (q.call fZ O O (fun w hw=>dO n w ae)) O) fun _=>?_
    refine D.l [5] [] [] O<|Dm.yy O O (q.cu O O) O<|U ?_
    refine D.k 14 O [] [] (q.kA (cI 0 O) O aP Tryz.underlying5 Tryz.underlying9) ?_
    refine D.l [15,17,18] [] [] O<|Dm.yy O O (q.cu O O) O<|Dm.yy O O (q.cu O O) O<|U ?_
    refine D.done<|R.rt ?_
    (rfl)
   refine Do.k [] [] (q.kA (cI 0 O) O aP Tryz.underlying5 Tryz.underlying9) ?_
   refine D.p 4 O [] [] (s.c (q.call fZ O O (fun w hw=>dO n w ae)) O) fun _=>?_
   refine D.l lK [] [] O<|Dm.yy O O (q.cu O O) O<|Dm.yy O O (q.cu O O) O<|Dm.yy O O (q.cu O O) O<|U ?_
   refine D.done<|R.rt ?_
   (rfl)
  .
   refine Do.p [] [] (s.c (q.call fZ O O (fun w hw=>dO n w ae)) O) fun _=>?_
   refine D.two (i:=2) (j:=14) O O ?_ ?_
   .
    refine Do.k [] [] (q.kA (cI 1 O) O aP Tryz.underlying5 Tryz.underlying9) ?_
    refine D.l [5] [] [] O<|Dm.yy O O (q.cu O O) O<|U ?_
    refine D.k 14 O [] [] (q.kA (cI 0 O) O aP Tryz.underlying5 Tryz.underlying9) ?_
    refine D.l [15,17,18] [] [] O<|Dm.yy O O (q.cu O O) O<|Dm.yy O O (q.cu O O) O<|U ?_
    refine D.done<|R.rt ?_
    (rfl)
   refine Do.k [] [] (q.kA (cI 0 O) O aP Tryz.underlying5 Tryz.underlying9) ?_
   refine D.k 2 O [] [] (q.kA (cI 1 O) O aP Tryz.underlying5 Tryz.underlying9) ?_
   refine D.l lK [] [] O<|Dm.yy O O (q.cu O O) O<|Dm.yy O O (q.cu O O) O<|Dm.yy O O (q.cu O O) O<|U ?_
   refine D.done<|R.rt ?_
   (rfl)
  refine Do.k [] [] (q.kA (cI 0 O) O aP Tryz.underlying5 Tryz.underlying9) ?_
  refine D.two (i:=2) (j:=4) O O ?_ ?_
  .
   refine Do.k [] [] (q.kA (cI 1 O) O aP Tryz.underlying5 Tryz.underlying9) ?_
   refine D.p 4 O [] [] (s.c (q.call fZ O O (fun w hw=>dO n w ae)) O) fun _=>?_
   refine D.l lK [] [] O<|Dm.yy O O (q.cu O O) O<|Dm.yy O O (q.cu O O) O<|Dm.yy O O (q.cu O O) O<|U ?_
   refine D.done<|R.rt ?_
   (rfl)
  refine Do.p [] [] (s.c (q.call fZ O O (fun w hw=>dO n w ae)) O) fun _=>?_
  refine D.k 2 O [] [] (q.kA (cI 1 O) O aP Tryz.underlying5 Tryz.underlying9) ?_
  refine D.l lK [] [] O<|Dm.yy O O (q.cu O O) O<|Dm.yy O O (q.cu O O) O<|Dm.yy O O (q.cu O O) O<|U ?_
  refine D.done<|R.rt ?_
  (rfl)
 .
  refine Do.p [] [] (s.c (q.call fZ O O (fun w hw=>dO n w ae)) O) fun _=>?_
  refine D.two (i:=1) (j:=13) O O ?_ ?_
  .
   refine Do.p [] [] (s.bs (l:=([u8 k]:List UInt8)) aP eD O O O O O (cp (fM ae) fF) O) fun b7=>?_
   refine D.two (i:=2) (j:=13) O O ?_ ?_
   .
    refine Do.k [] [] (q.kA (cI 0 O) O aP Tryz.underlying5 Tryz.underlying9) ?_
    refine D.l [5] [] [] O<|Dm.yy O O (q.cu O O) O<|U ?_
    refine D.p 13 O [] [] (s.bs (l:=([UInt8.ofNat sx.size,UInt8.ofNat (sx.size / 256)]:List UInt8)) aP eD O O O O O (cp (eu ae) (cp (eu ae) fF)) O) fun b8=>?_
    refine D.k 14 O [] [] (q.kA (cI 0 O) O aP Tryz.underlying5 Tryz.underlying9) ?_
    refine D.l [15,17,18] [] [] O<|Dm.yy O O (q.cu O O) O<|Dm.yy O O (q.cu O O) O<|U ?_
    refine D.done<|R.rt ?_
    (rfl)
   refine Do.p [] [] (s.bs (l:=([UInt8.ofNat sx.size,UInt8.ofNat (sx.size / 256)]:List UInt8)) aP eD O O O O O (cp (eu ae) (cp (eu ae) fF)) O) fun b9=>?_
   refine D.two (i:=2) (j:=14) O O ?_ ?_
   .
    refine Do.k [] [] (q.kA (cI 1 O) O aP Tryz.underlying5 Tryz.underlying9) ?_
    refine D.l [5] [] [] O<|Dm.yy O O (q.cu O O) O<|U ?_
    refine D.k 14 O [] [] (q.kA (cI 0 O) O aP Tryz.underlying5 Tryz.underlying9) ?_
    refine D.l [15,17,18] [] [] O<|Dm.yy O O (q.cu O O) O<|Dm.yy O O (q.cu O O) O<|U ?_
    refine D.done<|R.rt ?_
    (rfl)
   refine Do.k [] [] (q.kA (cI 0 O) O aP Tryz.underlying5 Tryz.underlying9) ?_
   refine D.k 2 O [] [] (q.kA (cI 1 O) O aP Tryz.underlying5 Tryz.underlying9) ?_
   refine D.l lK [] [] O<|Dm.yy O O (q.cu O O) O<|Dm.yy O O (q.cu O O) O<|Dm.yy O O (q.cu O O) O<|U ?_
   refine D.done<|R.rt ?_
   (rfl)
  refine Do.p [] [] (s.bs (l:=([UInt8.ofNat sx.size,UInt8.ofNat (sx.size / 256)]:List UInt8)) aP eD O O O O O (cp (eu ae) (cp (eu ae) fF)) O) fun b10=>?_
  refine D.two (i:=1) (j:=14) O O ?_ ?_
  .
   refine Do.p [] [] (s.bs (l:=([u8 k]:List UInt8)) aP eD O O O O O (cp (fM ae) fF) O) fun b11=>?_
   refine D.two (i:=2) (j:=14) O O ?_ ?_
   .
    refine Do.k [] [] (q.kA (cI 0 O) O aP Tryz.underlying5 Tryz.underlying9) ?_
    refine D.l [5] [] [] O<|Dm.yy O O (q.cu O O) O<|U ?_
    refine D.k 14 O [] [] (q.kA (cI 1 O) O aP Tryz.underlying5 Tryz.underlying9) ?_
    refine D.l [15,17,18] [] [] O<|Dm.yy O O (q.cu O O) O<|Dm.yy O O (q.cu O O) O<|U ?_
    refine D.done<|R.rt ?_
    (rfl)
   refine Do.k [] [] (q.kA (cI 1 O) O aP Tryz.underlying5 Tryz.underlying9) ?_
   refine D.k 2 O [] [] (q.kA (cI 0 O) O aP Tryz.underlying5 Tryz.underlying9) ?_
   refine D.l lK [] [] O<|Dm.yy O O (q.cu O O) O<|Dm.yy O O (q.cu O O) O<|Dm.yy O O (q.cu O O) O<|U ?_
   refine D.done<|R.rt ?_
   (rfl)
  refine Do.k [] [] (q.kA (cI 0 O) O aP Tryz.underlying5 Tryz.underlying9) ?_
  refine D.p 1 O [] [] (s.bs (l:=([u8 k]:List UInt8)) aP eD O O O O O (cp (fM ae) fF) O) fun b12=>?_
  refine D.k 2 O [] [] (q.kA (cI 0 O) O aP Tryz.underlying5 Tryz.underlying9) ?_
  refine D.l lK [] [] O<|Dm.yy O O (q.cu O O) O<|Dm.yy O O (q.cu O O) O<|Dm.yy O O (q.cu O O) O<|U ?_
  refine D.done<|R.rt ?_
  (rfl)
 refine Do.p [] [] (s.bs (l:=([UInt8.ofNat sx.size,UInt8.ofNat (sx.size / 256)]:List UInt8)) aP eD O O O O O (cp (eu ae) (cp (eu ae) fF)) O) fun b13=>?_
 refine D.three (i:=1) (j:=4) (m:=14) O O O ?_ ?_ ?_
 .
  refine Do.p [] [] (s.bs (l:=([u8 k]:List UInt8)) aP eD O O O O O (cp (fM ae) fF) O) fun b14=>?_
  refine D.three (i:=2) (j:=4) (m:=14) O O O ?_ ?_ ?_
  .
   refine Do.k [] [] (q.kA (cI 0 O) O aP Tryz.underlying5 Tryz.underlying9) ?_
   refine D.two (i:=4) (j:=14) O O ?_ ?_
   .
    refine Do.p [] [] (s.c (q.call fZ O O (fun w hw=>dO n w ae)) O) fun _=>?_
    refine D.l [5] [] [] O<|Dm.yy O O (q.cu O O) O<|U ?_
    refine D.k 14 O [] [] (q.kA (cI 1 O) O aP Tryz.underlying5 Tryz.underlying9) ?_
    refine D.l [15,17,18] [] [] O<|Dm.yy O O (q.cu O O) O<|Dm.yy O O (q.cu O O) O<|U ?_
    refine D.done<|R.rt ?_
    (rfl)
   refine Do.k [] [] (q.kA (cI 1 O) O aP Tryz.underlying5 Tryz.underlying9) ?_
   refine D.p 4 O [] [] (s.c (q.call fZ O O (fun w hw=>dO n w ae)) O) fun _=>?_
   refine D.l lK [] [] O<|Dm.yy O O (q.cu O O) O<|Dm.yy O O (q.cu O O) O<|Dm.yy O O (q.cu O O) O<|U ?_
   refine D.done<|R.rt ?_
   (rfl)
  .
   refine Do.p [] [] (s.c (q.call fZ O O (fun w hw=>dO n w ae)) O) fun _=>?_
   refine D.two (i:=2) (j:=14) O O ?_ ?_
   .
    refine Do.k [] [] (q.kA (cI 0 O) O aP Tryz.underlying5 Tryz.underlying9) ?_
    refine D.l [5] [] [] O<|Dm.yy O O (q.cu O O) O<|U ?_
    refine D.k 14 O [] [] (q.kA (cI 1 O) O aP Tryz.underlying5 Tryz.underlying9) ?_
    refine D.l [15,17,18] [] [] O<|Dm.yy O O (q.cu O O) O<|Dm.yy O O (q.cu O O) O<|U ?_
    refine D.done<|R.rt ?_
    (rfl)
   refine Do.k [] [] (q.kA (cI 1 O) O aP Tryz.underlying5 Tryz.underlying9) ?_
   refine D.k 2 O [] [] (q.kA (cI 0 O) O aP Tryz.underlying5 Tryz.underlying9) ?_
   refine D.l lK [] [] O<|Dm.yy O O (q.cu O O) O<|Dm.yy O O (q.cu O O) O<|Dm.yy O O (q.cu O O) O<|U ?_
   refine D.done<|R.rt ?_
   (rfl)
  refine Do.k [] [] (q.kA (cI 1 O) O aP Tryz.underlying5 Tryz.underlying9) ?_
  refine D.two (i:=2) (j:=4) O O ?_ ?_
  .
   refine Do.k [] [] (q.kA (cI 0 O) O aP Tryz.underlying5 Tryz.underlying9) ?_
   refine D.p 4 O [] [] (s.c (q.call fZ O O (fun w hw=>dO n w ae)) O) fun _=>?_
   refine D.l lK [] [] O<|Dm.yy O O (q.cu O O) O<|Dm.yy O O (q.cu O O) O<|Dm.yy O O (q.cu O O) O<|U ?_
   refine D.done<|R.rt ?_
   (rfl)
  refine Do.p [] [] (s.c (q.call fZ O O (fun w hw=>dO n w ae)) O) fun _=>?_
  refine D.k 2 O [] [] (q.kA (cI 0 O) O aP Tryz.underlying5 Tryz.underlying9) ?_
  refine D.l lK [] [] O<|Dm.yy O O (q.cu O O) O<|Dm.yy O O (q.cu O O) O<|Dm.yy O O (q.cu O O) O<|U ?_
  refine D.done<|R.rt ?_
  (rfl)
 .
  refine Do.p [] [] (s.c (q.call fZ O O (fun w hw=>dO n w ae)) O) fun _=>?_
  refine D.two (i:=1) (j:=14) O O ?_ ?_
  .
   refine Do.p [] [] (s.bs (l:=([u8 k]:List UInt8)) aP eD O O O O O (cp (fM ae) fF) O) fun b15=>?_
   refine D.two (i:=2) (j:=14) O O ?_ ?_
   .
    refine Do.k [] [] (q.kA (cI 0 O) O aP Tryz.underlying5 Tryz.underlying9) ?_
    refine D.l [5] [] [] O<|Dm.yy O O (q.cu O O) O<|U ?_
    refine D.k 14 O [] [] (q.kA (cI 1 O) O aP Tryz.underlying5 Tryz.underlying9) ?_
    refine D.l [15,17,18] [] [] O<|Dm.yy O O (q.cu O O) O<|Dm.yy O O (q.cu O O) O<|U ?_
    refine D.done<|R.rt ?_
    (rfl)
   refine Do.k [] [] (q.kA (cI 1 O) O aP Tryz.underlying5 Tryz.underlying9) ?_
   refine D.k 2 O [] [] (q.kA (cI 0 O) O aP Tryz.underlying5 Tryz.underlying9) ?_
   refine D.l lK [] [] O<|Dm.yy O O (q.cu O O) O<|Dm.yy O O (q.cu O O) O<|Dm.yy O O (q.cu O O) O<|U ?_
   refine D.done<|R.rt ?_
   (rfl)
  refine Do.k [] [] (q.kA (cI 0 O) O aP Tryz.underlying5 Tryz.underlying9) ?_
  refine D.p 1 O [] [] (s.bs (l:=([u8 k]:List UInt8)) aP eD O O O O O (cp (fM ae) fF) O) fun b16=>?_
  refine D.k 2 O [] [] (q.kA (cI 0 O) O aP Tryz.underlying5 Tryz.underlying9) ?_
  refine D.l lK [] [] O<|Dm.yy O O (q.cu O O) O<|Dm.yy O O (q.cu O O) O<|Dm.yy O O (q.cu O O) O<|U ?_
  refine D.done<|R.rt ?_
  (rfl)
 refine Do.k [] [] (q.kA (cI 0 O) O aP Tryz.underlying5 Tryz.underlying9) ?_
 refine D.two (i:=1) (j:=4) O O ?_ ?_
 .
  refine Do.p [] [] (s.bs (l:=([u8 k]:List UInt8)) aP eD O O O O O (cp (fM ae) fF) O) fun b17=>?_
  refine D.two (i:=2) (j:=4) O O ?_ ?_
  .
   refine Do.k [] [] (q.kA (cI 0 O) O aP Tryz.underlying5 Tryz.underlying9) ?_
   refine D.p 4 O [] [] (s.c (q.call fZ O O (fun w hw=>dO n w ae)) O) fun _=>?_
   refine D.l lK [] [] O<|Dm.yy O O (q.cu O O) O<|Dm.yy O O (q.cu O O) O<|Dm.yy O O (q.cu O O) O<|U ?_
   refine D.done<|R.rt ?_
   (rfl)
  refine Do.p [] [] (s.c (q.call fZ O O (fun w hw=>dO n w ae)) O) fun _=>?_
  refine D.k 2 O [] [] (q.kA (cI 0 O) O aP Tryz.underlying5 Tryz.underlying9) ?_
  refine D.l lK [] [] O<|Dm.yy O O (q.cu O O) O<|Dm.yy O O (q.cu O O) O<|Dm.yy O O (q.cu O O) O<|U ?_
  refine D.done<|R.rt ?_
  (rfl)
 refine Do.p [] [] (s.c (q.call fZ O O (fun w hw=>dO n w ae)) O) fun _=>?_
 refine D.p 1 O [] [] (s.bs (l:=([u8 k]:List UInt8)) aP eD O O O O O (cp (fM ae) fF) O) fun b18=>?_
 refine D.k 2 O [] [] (q.kA (cI 0 O) O aP Tryz.underlying5 Tryz.underlying9) ?_
 refine D.l lK [] [] O<|Dm.yy O O (q.cu O O) O<|Dm.yy O O (q.cu O O) O<|Dm.yy O O (q.cu O O) O<|U ?_
 refine D.done<|R.rt ?_
 rfl
theorem AY (aZ:Nat)(AZ:Nat)(lg:Lg)(w:World)(G8:(ag.box aZ [pV AZ,iV lg.From,iV lg.Many,iV lg.First,iV lg.Next] 193).ok w)(hb:0<=lg.Many/\lg.Many<=1000000000/\0<=lg.Next/\lg.Next<=1000000000):Calls Tryz.prog 121 #[pV aZ] w fun e w'=>e = .returned (iV (lg.Many-lg.Next))/\Ext w w':=by
 refine R.enter [] [(0,pV aZ)] Tryz.func121 O O O O<|R.pH (r:=ag.box aZ [pV AZ,iV lg.From,iV lg.Many,iV lg.First,iV lg.Next] 193) G8 (kz G8)<|U ?_
 refine R.c6 O mixed ay<|U ?_
 refine Q.q (q.BS 0 O O eX O) O<|U ?_
 refine Q.q (q.BS 0 O O eX O) O<|Q.q (q.lG (r:=lg.Many-lg.Next) O O) O<|U ?_
 refine R.rt ?_
 rfl
theorem G9 (aZ:Nat)(AZ:Nat)(lg:Lg)(w:World)(G8:(ag.box aZ [pV AZ,iV lg.From,iV lg.Many,iV lg.First,iV lg.Next] 193).ok w)(hb:0<=lg.Many/\lg.Many<=1000000000/\0<=lg.First/\lg.First<=1000000000):Calls Tryz.prog 69 #[pV aZ] w fun e w'=>e = .returned (iV (lg.First+lg.Many))/\Ext w w':=by
 refine R.enter [] [(0,pV aZ)] Tryz.func69 O O O O<|R.pH (r:=ag.box aZ [pV AZ,iV lg.From,iV lg.Many,iV lg.First,iV lg.Next] 193) G8 (kz G8)<|U ?_
 refine R.c6 O mixed ay<|U ?_
 refine Q.q (q.BS 0 O O eX O) O<|U ?_
 refine Q.q (q.BS 0 O O eX O) O<|U ?_
 refine R.rt ?_
 rfl
theorem Pg (aZ:Nat)(lg:Lg)(i:Nat)(aF:Nat)(au av ao:Value)(dk:cq)(w:World)(G8:(ag.box aZ [pV aF,iV lg.From,iV lg.Many,iV lg.First,iV lg.Next] 193).ok w)(AU:(ag.box aF [au,av,ao,iV dk.Fuse,.bool dk.Down] 120).ok w)(kK:Sl w au (dk.Kept:List ByteArray))(l6:Sl w av (dk.Now:List ByteArray))(kL:Sl w ao (dk.Wait:List Turn))(hb : -1000000000<=lg.From/\lg.From<=1000000000/\0<=lg.First/\lg.First<=8000000000000000000/\i<=1000000000)(hr:(cW dk (lg.From+(i:Int))).2=0)(hs:(cW dk (lg.From+(i:Int))).1.size=48):Calls Tryz.prog 131 #[pV aZ,iV (i:Int)] w fun e w'=>e = .returned (.tuple #[.int .u8 (ru (cW dk (lg.From+(i:Int))).1 (lg.First+(i:Int)):Int),.string (lx (cW dk (lg.From+(i:Int))).1 (lg.First+(i:Int))),.bool (jM (cW dk (lg.From+(i:Int))).1 (lg.First+(i:Int)))])/\Ext w w':=by
 refine R.enter [] [(0,pV aZ),(1,iV (i:Int))] Tryz.func131 O O O O<|R.uz kK<|R.uz l6<|R.uz kL<|R.pH (r:=ag.box aZ [pV aF,iV lg.From,iV lg.Many,iV lg.First,iV lg.Next] 193) G8 (kz G8)<|R.pH (r:=ag.box aF [au,av,ao,iV dk.Fuse,.bool dk.Down] 120) AU (kz AU)<|U ?_
 refine R.c6 O mixed ay<|U ?_
 refine Q.q (q.BS 1 O O qH O) O<|U ?_
 refine Q.q (q.BS 1 O O eX O) O<|U ?_
 refine Q.c (q.call Y7 O O (fun w hw=>xe aF au av ao dk (lg.From+(i:Int)) w (hw.f 0 O) (hw.cy 4 O) (hw.cy 3 O) (hw.cy 2 O))) O<|U ?_
 refine C (((cW dk (lg.From+(i:Int))).1.extract 1 5)=cB (lg.First+(i:Int))) ?_ ?_ <;> intro h1
 .
  obtain ⟨y1,hy1⟩:∃z,(cW dk (lg.From+(i:Int))).1.data[0]? = some z:=⟨_,Array.getElem?_eq_getElem (show 0<(cW dk (lg.From+(i:Int))).1.size from by omega)⟩
  have Wt:=y1.toNat_lt
  refine C (y1.toNat=111) ?_ ?_ <;> intro h2
  .
   refine R.c6 O mixed ay<|U ?_
   refine Q.qg O (q.Fv (i:=1) (j:=5) O O O Tryz.underlying9 O O ae ae) O<|U ?_
   refine Q.qg O (q.BS 1 O O eX O) O<|U ?_
   refine Q.cg O (q.call fZ O O (fun w hw=>dO (lg.First+(i:Int)) w ae)) O<|Q.qg O (q.oO O O h1) O<|U ?_
   refine Q.qg O (q.gN (i:=0) O O Tryz.underlying9 O hy1) O<|U ?_
   obtain ⟨y2,hy2⟩:∃z,(cW dk (lg.From+(i:Int))).1.data[5]? = some z:=⟨_,Array.getElem?_eq_getElem (show 5<(cW dk (lg.From+(i:Int))).1.size from by omega)⟩
   have XK:=y2.toNat_lt
   obtain ⟨y3,hy3⟩:∃z,(cW dk (lg.From+(i:Int))).1.data[6]? = some z:=⟨_,Array.getElem?_eq_getElem (show 6<(cW dk (lg.From+(i:Int))).1.size from by omega)⟩
   have Zi:=y3.toNat_lt
   refine R.c6 O mixed ay<|U ?_
   refine Q.q (q.gN (i:=5) O O Tryz.underlying9 O hy2) O<|Q.q (q.ny (r:=((y2.toNat:Nat):Int)) O (by rw [Tryz.underlying5];rfl) Tryz.underlying3 (wr ae)) O<|U ?_
   refine Q.q (q.gN (i:=6) O O Tryz.underlying9 O hy3) O<|Q.q (q.ny (r:=((y3.toNat:Nat):Int)) O (by rw [Tryz.underlying5];rfl) Tryz.underlying3 (wr ae)) O<|Q.q (q.ut (r:=((256*y3.toNat:Nat):Int)) O O) O<|U ?_
   refine C (41<(y2.toNat+(256*y3.toNat))) ?_ ?_ <;> intro h3
   .exact R.XD O Tryz.results131 O O O (XF (by rw [(lh (pS (by unfold ck;rw [aK hy2,aK hy3];omega))).1];rfl)) (rS (by rw [(lh (pS (by unfold ck;rw [aK hy2,aK hy3];omega))).2])) (rB (by exact (pS (by unfold ck;rw [aK hy2,aK hy3];omega)).symm))
   refine R.c6 O mixed ay<|U ?_
   refine Q.q (q.gN (i:=0) O O Tryz.underlying9 O hy1) O<|U ?_
   refine Q.q (q.Fv (i:=7) (j:=(7+(y2.toNat+(256*y3.toNat)))) O O O Tryz.underlying9 O O ae ae) O<|U ?_
   exact R.XD O Tryz.results131 O O O (XF (by rw [(lj (mH af (by rw [aK hy1];omega) (by unfold ck;rw [aK hy2,aK hy3];omega))).1,aK hy1])) (rS (by rw [(lj (mH af (by rw [aK hy1];omega) (by unfold ck;rw [aK hy2,aK hy3];omega))).2];unfold su ck;rw [aK hy2,aK hy3])) (rB (by exact (mH af (by rw [aK hy1];omega) (by unfold ck;rw [aK hy2,aK hy3];omega)).symm))
  refine C (y1.toNat=99) ?_ ?_ <;> intro h4
  .
   refine R.c6 O mixed ay<|U ?_
   refine Q.qg O (q.Fv (i:=1) (j:=5) O O O Tryz.underlying9 O O ae ae) O<|U ?_
   refine Q.qg O (q.BS 1 O O eX O) O<|U ?_
   refine Q.cg O (q.call fZ O O (fun w hw=>dO (lg.First+(i:Int)) w ae)) O<|Q.qg O (q.oO O O h1) O<|U ?_
   refine Q.qg O (q.gN (i:=0) O O Tryz.underlying9 O hy1) O<|U ?_
   refine Q.qg O (q.gN (i:=0) O O Tryz.underlying9 O hy1) O<|U ?_
   obtain ⟨y4,hy4⟩:∃z,(cW dk (lg.From+(i:Int))).1.data[5]? = some z:=⟨_,Array.getElem?_eq_getElem (show 5<(cW dk (lg.From+(i:Int))).1.size from by omega)⟩
   have by4:=y4.toNat_lt
   obtain ⟨y5,Jh⟩:∃z,(cW dk (lg.From+(i:Int))).1.data[6]? = some z:=⟨_,Array.getElem?_eq_getElem (show 6<(cW dk (lg.From+(i:Int))).1.size from by omega)⟩
   have by5:=y5.toNat_lt
   refine R.c6 O mixed ay<|U ?_
   refine Q.q (q.gN (i:=5) O O Tryz.underlying9 O hy4) O<|Q.q (q.ny (r:=((y4.toNat:Nat):Int)) O (by rw [Tryz.underlying5];rfl) Tryz.underlying3 (wr ae)) O<|U ?_
   refine Q.q (q.gN (i:=6) O O Tryz.underlying9 O Jh) O<|Q.q (q.ny (r:=((y5.toNat:Nat):Int)) O (by rw [Tryz.underlying5];rfl) Tryz.underlying3 (wr ae)) O<|Q.q (q.ut (r:=((256*y5.toNat:Nat):Int)) O O) O<|U ?_
   refine C (41<(y4.toNat+(256*y5.toNat))) ?_ ?_ <;> intro h5
   .exact R.XD O Tryz.results131 O O O (XF (by rw [(lh (pS (by unfold ck;rw [aK hy4,aK Jh];omega))).1];rfl)) (rS (by rw [(lh (pS (by unfold ck;rw [aK hy4,aK Jh];omega))).2])) (rB (by exact (pS (by unfold ck;rw [aK hy4,aK Jh];omega)).symm))
   refine R.c6 O mixed ay<|U ?_
   refine Q.q (q.gN (i:=0) O O Tryz.underlying9 O hy1) O<|U ?_
   refine Q.q (q.Fv (i:=7) (j:=(7+(y4.toNat+(256*y5.toNat)))) O O O Tryz.underlying9 O O ae ae) O<|U ?_
   exact R.XD O Tryz.results131 O O O (XF (by rw [(lj (mH af (by rw [aK hy1];omega) (by unfold ck;rw [aK hy4,aK Jh];omega))).1,aK hy1])) (rS (by rw [(lj (mH af (by rw [aK hy1];omega) (by unfold ck;rw [aK hy4,aK Jh];omega))).2];unfold su ck;rw [aK hy4,aK Jh])) (rB (by exact (mH af (by rw [aK hy1];omega) (by unfold ck;rw [aK hy4,aK Jh];omega)).symm))
  refine R.c6 O mixed ay<|U ?_
  refine Q.qg O (q.Fv (i:=1) (j:=5) O O O Tryz.underlying9 O O ae ae) O<|U ?_
  refine Q.qg O (q.BS 1 O O eX O) O<|U ?_
  refine Q.cg O (q.call fZ O O (fun w hw=>dO (lg.First+(i:Int)) w ae)) O<|Q.qg O (q.oO O O h1) O<|U ?_
  refine Q.qg O (q.gN (i:=0) O O Tryz.underlying9 O hy1) O<|U ?_
  refine Q.qg O (q.gN (i:=0) O O Tryz.underlying9 O hy1) O<|U ?_
  exact R.XD O Tryz.results131 O O O (XF (by rw [(lh (Ay (by rw [aK hy1];omega) (by rw [aK hy1];omega))).1];rfl)) (rS (by rw [(lh (Ay (by rw [aK hy1];omega) (by rw [aK hy1];omega))).2])) (rB (by exact (Ay (by rw [aK hy1];omega) (by rw [aK hy1];omega)).symm))
 refine R.c6 O mixed ay<|U ?_
 refine Q.qg O (q.Fv (i:=1) (j:=5) O O O Tryz.underlying9 O O ae ae) O<|U ?_
 refine Q.qg O (q.BS 1 O O eX O) O<|U ?_
 refine Q.cg O (q.call fZ O O (fun w hw=>dO (lg.First+(i:Int)) w ae)) O<|Q.qg O (q.rh O O h1) O<|U ?_
 exact R.XD O Tryz.results131 O O O (XF (by rw [(lh (Ax af)).1];rfl)) (rS (by rw [(lh (Ax af)).2])) (rB (by exact (Ax af).symm))
theorem Ha (aF:Nat)(au av ao:Value)(dk:cq)(gS:Int)(many:Int)(first:Int)(w:World)(own:List Nat)(H:HN w own [ag.box aF [au,av,ao,iV dk.Fuse,.bool dk.Down] 120,ag.row 9 au dk.Kept,ag.row 9 av dk.Now,ag.row 196 ao dk.Wait] [])(hb:0<=gS/\1<=many/\gS+many<=(dk.Now.length:Int)/\1<=first/\first<=4000000000000000000)(hd:dk.Down=false)(hD:gw dk.Now.length 90000 dk/\dk.Now.length<=100000):RC Tryz.prog 74 #[pV aF,iV gS,iV many,iV first] H (fun z:Value×Value×Value×Nat×Value×List lr => .tuple #[pV z.2.2.2.1,z.2.2.2.2.1,.nilIface]) (fun z=>[ag.box aF [z.1,z.2.1,z.2.2.1,iV dk.Fuse,.bool dk.Down] 120,ag.row 9 z.1 dk.Kept,ag.row 9 z.2.1 dk.Now,ag.row 196 z.2.2.1 dk.Wait,ag.box z.2.2.2.1 [pV aF,iV (⟨gS,many,first,(fT dk gS (Int.toNat many) first:Int)⟩:Lg).From,iV (⟨gS,many,first,(fT dk gS (Int.toNat many) first:Int)⟩:Lg).Many,iV (⟨gS,many,first,(fT dk gS (Int.toNat many) first:Int)⟩:Lg).First,iV (⟨gS,many,first,(fT dk gS (Int.toNat many) first:Int)⟩:Lg).Next] 193]) (fun z=>[ag.ls z.2.2.2.2.1 z.2.2.2.2.2,ag.rX (z.2.2.2.2.2:List lr) (mI dk gS (Int.toNat many) first)]):=by
 have dD:=H.cap 1 rfl;have dE:=H.ck 1 rfl
 have ew:=H.cap 2 rfl;have ey:=H.ck 2 rfl
 have dF:=H.cap 3 rfl;have dG:=H.ck 3 rfl
 obtain ⟨manyN,Ji⟩:∃m:Nat,many=(m:Int):=⟨many.toNat,ae⟩;subst Ji
 refine R.eN H ?_
 refine R.kc O O (fun w hw=>gZ aF au av ao dk w (hw.b 0 O) (hw.row 1 O) (hw.row 2 O) (hw.row 3 O))<|U ?_
 refine R.kc O O (fun w hw=>gZ aF au av ao dk w (hw.b 0 O) (hw.row 1 O) (hw.row 2 O) (hw.row 3 O))<|U ?_
 refine R.qg O (q.lG (r:=(dk.Now.length:Int)-(manyN:Int)) O O) O<|U ?_
 refine R.kc O O (fun w hw=>cv (congrArg Value.bool hd) (Dj aF au av ao dk w (hw.b 0 O) (hw.row 1 O) (hw.row 2 O) (hw.row 3 O)))<|U ?_
 refine R.nb fun b1=>?_
 refine R.mp (fun _ hw=>hw.Yo)<|R.row0 (α:=lr) 34<|R.row0 (α:=Change) 115<|R.loop (fun g_:Nat×Nat×Value×(List lr)×Value×(List Change)=>[(11,pV b1),(12,g_.2.2.1),(13,g_.2.2.2.2.1),(54,iV (manyN:Int)),(55,iV (g_.1:Int))]) (fun g_=>[ag.row 115 g_.2.2.2.2.1 g_.2.2.2.2.2,ag.row 34 g_.2.2.1 g_.2.2.2.1,ag.box b1 [pV aF,iV gS,iV (manyN:Int),iV first,iV (g_.2.1:Int)] 193,ag.box aF [au,av,ao,iV dk.Fuse,.bool dk.Down] 120,ag.row 9 au dk.Kept,ag.row 9 av dk.Now,ag.row 196 ao dk.Wait,ag.held w own]) (fun g_=>[ag.nU (g_.2.2.2.1:List lr),ag.nU ([]:List lr)]) (fun g_=>g_.1<=manyN/\jv ((sA dk gS manyN).drop g_.1) (first+(g_.1:Int)) (g_.2.2.2.1.map lr.L) g_.2.2.2.2.2 g_.2.1 g_.1=scan (sA dk gS manyN) first/\g_.2.2.2.2.2.length<=g_.1/\g_.2.2.2.1.length<=g_.1/\g_.2.1<=g_.1) (fun g_=>manyN-g_.1) (0,0,nS,[],nS,[]) O (by (try dsimp only);exact ⟨ae,by show jv _ (first+0) _ _ _ _=_;rw [Int.add_zero];rfl,bA,bA,bA⟩) (sF O) (dX a8 [0,0] O) ?_
 rintro ⟨i,u,qo,ob,qd,dd⟩ ⟨hi,HS,hdl,hol,hui⟩
 dsimp only at *
 refine U ?_
 refine C (i<manyN) ?_ ?_ <;> intro h1
 .
  have hrd:=AA hD.1 hd (i:=gS+(i:Int)) ae ae;obtain ⟨hrd,hsz⟩:=hrd;have hlx:=I2 (n:=first+(i:Int)) hsz
  refine U ?_
  refine R.kc O O (fun w hw=>cv (show (.tuple #[.int .u8 (ru (cW dk ((⟨gS,(manyN:Int),first,(u:Int)⟩:Lg).From+(i:Int))).1 ((⟨gS,(manyN:Int),first,(u:Int)⟩:Lg).First+(i:Int)):Int),.string (lx (cW dk ((⟨gS,(manyN:Int),first,(u:Int)⟩:Lg).From+(i:Int))).1 ((⟨gS,(manyN:Int),first,(u:Int)⟩:Lg).First+(i:Int))),.bool (jM (cW dk ((⟨gS,(manyN:Int),first,(u:Int)⟩:Lg).From+(i:Int))).1 ((⟨gS,(manyN:Int),first,(u:Int)⟩:Lg).First+(i:Int)))]:Value) = .tuple #[.int .u8 (ru (cW dk (gS+(i:Int))).1 (first+(i:Int)):Int),.string (lx (cW dk (gS+(i:Int))).1 (first+(i:Int))),.bool (jM (cW dk (gS+(i:Int))).1 (first+(i:Int)))] from O) (Pg b1 (⟨gS,(manyN:Int),first,(u:Int)⟩:Lg) i aF au av ao dk w (hw.b 2 O) (hw.b 3 O) (hw.row 4 O) (hw.row 5 O) (hw.row 6 O) aJ af af))<|U ?_
  refine R.q (q.not O) O<|U ?_
  rcases Bool.eq_false_or_eq_true (jM (cW dk (gS+(i:Int))).1 (first+(i:Int))) with h2|h2
  .
   rw [h2]
   refine U ?_
   refine C (ru (cW dk (gS+(i:Int))).1 (first+(i:Int))=99) ?_ ?_ <;> intro h3
   .
    refine R.kc O O (fun w hw=>dO (dd.length:Int) w ae)<|C (lx (cW dk (gS+(i:Int))).1 (first+(i:Int))=cB (dd.length:Int)) ?_ ?_ <;> intro h4
    .
     refine R.qg O (q.oO O O h4) O<|U ?_
     refine R.s O (s.bsV (l:=([(⟨qd,dd⟩:lr)]:List lr)) Sc OA O O O O O (fun w hw=>Ls (hw.row 0 O)) O) fun b2=>?_
     refine R.ap fun v1=>?_
     refine R.mp (fun _ hw=>hw.aO 1 _ O O)<|R.mp (fun _ hw=>hw.Rp 1 0 O O)<|R.row0 (α:=Change) 115<|R.back (i+1,i+1,v1,ob++([(⟨qd,dd⟩:lr)]),nS,[]) O (by (try dsimp only);exact ⟨ae,by rw [List.map_append];exact Oo HS (tg ae) (Vn af af af),bA,aG,ae⟩) aJ (sF O) (cw [0,2,3,4,5,6,7,8] [0,3] O)
    refine R.qg O (q.rh O O h4) O<|U ?_
    refine R.mp (fun _ hw=>hw.Ed 0 O)<|R.mp (fun _ hw=>hw.aO 1 _ O O) ?_
    have hz:(dk,(⟨gS,((manyN:Nat):Int),first,(fT dk gS (Int.toNat ((manyN:Nat):Int)) first:Int)⟩:Lg),mI dk gS (Int.toNat ((manyN:Nat):Int)) first)=(dk,(⟨gS,(manyN:Int),first,(u:Int)⟩:Lg),(ob.map lr.L)):=by ((try dsimp only);have e:=EC HS (tg ae) (GI (k:=(dd.length:Int)) af af af).1 (GI (k:=(dd.length:Int)) af af af).2;unfold fT mI;rw [show Int.toNat ((manyN:Nat):Int)=manyN from rfl,e])
    have hz0:((manyN:Nat):Int)=(manyN:Int):=congrArg (fun t_=>t_.2.1.Many) hz
    rw [hz0]
    have hz1:(fT dk gS (Int.toNat ((manyN:Nat):Int)) first:Int)=(u:Int):=congrArg (fun t_=>t_.2.1.Next) hz
    rw [hz1]
    have hz2:mI dk gS (Int.toNat ((manyN:Nat):Int)) first=(ob.map lr.L):=congrArg (fun t_=>t_.2.2) hz
    rw [hz2]
    exact R.x3 (au,av,ao,b1,qo,ob) [2,3,4,5,1,6] [0,1]
   refine R.kc O O (fun w hw=>E3 (lx (cW dk (gS+(i:Int))).1 (first+(i:Int))) w ae)<|U ?_
   refine R.nb fun b3=>?_
   refine C ((uJ (lx (cW dk (gS+(i:Int))).1 (first+(i:Int)))).2=0) ?_ ?_ <;> intro h5
   .
    refine R.s O (s.bs (l:=([(uJ (lx (cW dk (gS+(i:Int))).1 (first+(i:Int)))).1]:List Change)) cD ct O O O O O O O) fun b4=>?_
    refine R.ap fun v2=>?_
    refine R.back (i+1,u,qo,ob,v2,(dd++([(uJ (lx (cW dk (gS+(i:Int))).1 (first+(i:Int)))).1]))) O (by ((try dsimp only);have e:=Vo (k:=(dd.length:Int)) af af af;exact ⟨ae,by rw [e.2.2];exact R5 HS (tg ae) e.1 e.2.1,aG,ae,ae⟩)) aJ (sF O) (cw Cp [0,1] O)
   refine R.mp (fun _ hw=>hw.Ed 0 O)<|R.mp (fun _ hw=>hw.aO 2 _ O O) ?_
   have hz:(dk,(⟨gS,((manyN:Nat):Int),first,(fT dk gS (Int.toNat ((manyN:Nat):Int)) first:Int)⟩:Lg),mI dk gS (Int.toNat ((manyN:Nat):Int)) first)=(dk,(⟨gS,(manyN:Int),first,(u:Int)⟩:Lg),(ob.map lr.L)):=by ((try dsimp only);have e:=EC HS (tg ae) (GJ (k:=(dd.length:Int)) af af af).1 (GJ (k:=(dd.length:Int)) af af af).2;unfold fT mI;rw [show Int.toNat ((manyN:Nat):Int)=manyN from rfl,e])
   have hz0:((manyN:Nat):Int)=(manyN:Int):=congrArg (fun t_=>t_.2.1.Many) hz
   rw [hz0]
   have hz1:(fT dk gS (Int.toNat ((manyN:Nat):Int)) first:Int)=(u:Int):=congrArg (fun t_=>t_.2.1.Next) hz
   rw [hz1]
   have hz2:mI dk gS (Int.toNat ((manyN:Nat):Int)) first=(ob.map lr.L):=congrArg (fun t_=>t_.2.2) hz
   rw [hz2]
   exact R.x3 (au,av,ao,b1,qo,ob) [3,4,5,6,2,7] [0,1]
  rw [h2]
  refine U ?_
  refine R.mp (fun _ hw=>hw.Ed 0 O)<|R.mp (fun _ hw=>hw.aO 1 _ O O) ?_
  have hz:(dk,(⟨gS,((manyN:Nat):Int),first,(fT dk gS (Int.toNat ((manyN:Nat):Int)) first:Int)⟩:Lg),mI dk gS (Int.toNat ((manyN:Nat):Int)) first)=(dk,(⟨gS,(manyN:Int),first,(u:Int)⟩:Lg),(ob.map lr.L)):=by ((try dsimp only);have e:=EC HS (tg ae) (GH (k:=(dd.length:Int)) af).1 (GH (k:=(dd.length:Int)) af).2;unfold fT mI;rw [show Int.toNat ((manyN:Nat):Int)=manyN from rfl,e])
  have hz0:((manyN:Nat):Int)=(manyN:Int):=congrArg (fun t_=>t_.2.1.Many) hz
  rw [hz0]
  have hz1:(fT dk gS (Int.toNat ((manyN:Nat):Int)) first:Int)=(u:Int):=congrArg (fun t_=>t_.2.1.Next) hz
  rw [hz1]
  have hz2:mI dk gS (Int.toNat ((manyN:Nat):Int)) first=(ob.map lr.L):=congrArg (fun t_=>t_.2.2) hz
  rw [hz2]
  exact R.x3 (au,av,ao,b1,qo,ob) [2,3,4,5,1,6] [0,1]
 refine R.mp (fun _ hw=>hw.Ed 0 O)<|R.mp (fun _ hw=>hw.aO 1 _ O O) ?_
 have hz:(dk,(⟨gS,((manyN:Nat):Int),first,(fT dk gS (Int.toNat ((manyN:Nat):Int)) first:Int)⟩:Lg),mI dk gS (Int.toNat ((manyN:Nat):Int)) first)=(dk,(⟨gS,(manyN:Int),first,(u:Int)⟩:Lg),(ob.map lr.L)):=by ((try dsimp only);have e:=Vm HS (by rw [sB];omega);unfold fT mI;rw [show Int.toNat ((manyN:Nat):Int)=manyN from rfl,e])
 have hz0:((manyN:Nat):Int)=(manyN:Int):=congrArg (fun t_=>t_.2.1.Many) hz
 rw [hz0]
 have hz1:(fT dk gS (Int.toNat ((manyN:Nat):Int)) first:Int)=(u:Int):=congrArg (fun t_=>t_.2.1.Next) hz
 rw [hz1]
 have hz2:mI dk gS (Int.toNat ((manyN:Nat):Int)) first=(ob.map lr.L):=congrArg (fun t_=>t_.2.2) hz
 rw [hz2]
 exact R.x3 (au,av,ao,b1,qo,ob) [2,3,4,5,1,6] [0,1]
theorem Sj (aZ:Nat)(lg:Lg)(Na:Value)(c:List Change)(aF:Nat)(au av ao:Value)(dk:cq)(w:World)(own:List Nat)(H:HN w own [ag.box aZ [pV aF,iV lg.From,iV lg.Many,iV lg.First,iV lg.Next] 193,ag.box aF [au,av,ao,iV dk.Fuse,.bool dk.Down] 120,ag.row 9 au dk.Kept,ag.row 9 av dk.Now,ag.row 196 ao dk.Wait] [ag.ls Na c])(hb:0<=lg.From/\lg.From<=1000000000/\0<=lg.Next/\lg.Next<=1000000000/\0<=lg.First/\lg.First<=4000000000000000000/\0<=lg.Many/\lg.Many<=1000000000)(hl:c.length<=62)(hf:∀x∈c,iT x=0)(hD:gw dk.Now.length 90000 dk/\dk.Now.length<=100000):RC Tryz.prog 188 #[pV aZ,Na] H (fun _:Value×Value×Value=>bQ (eC lg dk c).2) (fun z=>[ag.box aZ [pV aF,iV lg.From,iV lg.Many,iV lg.First,iV lg.Next] 193,ag.box aF [z.1,z.2.1,z.2.2,iV (eC lg dk c).1.Fuse,.bool (eC lg dk c).1.Down] 120,ag.row 9 z.1 (eC lg dk c).1.Kept,ag.row 9 z.2.1 (eC lg dk c).1.Now,ag.row 196 z.2.2 (eC lg dk c).1.Wait]) (fun _=>[]):=by
 have dD:=H.cap 2 rfl;have dE:=H.ck 2 rfl
 have ew:=H.cap 3 rfl;have ey:=H.ck 3 rfl
 have dF:=H.cap 4 rfl;have dG:=H.ck 4 rfl
 have m_c:=H.aL 0 rfl
 refine R.eN H ?_
 refine R.c6 O mixed ay<|U ?_
 refine R.loop (fun g_:Nat×cq×Value×Value×Value=>[(0,pV aZ),(1,Na),(5,iV (lg.From+lg.Next)),(20,Na),(21,iV (c.length:Int)),(22,iV (g_.1:Int))]) (fun g_=>[ag.box aZ [pV aF,iV lg.From,iV lg.Many,iV lg.First,iV lg.Next] 193,ag.box aF [g_.2.2.1,g_.2.2.2.1,g_.2.2.2.2,iV g_.2.1.Fuse,.bool g_.2.1.Down] 120,ag.row 9 g_.2.2.1 g_.2.1.Kept,ag.row 9 g_.2.2.2.1 g_.2.1.Now,ag.row 196 g_.2.2.2.2 g_.2.1.Wait,ag.held w own]) (fun g_=>[ag.ls Na c]) (fun g_=>g_.1<=c.length/\lZ lg g_.2.1 (c.drop g_.1) g_.1=lZ lg dk c 0/\gw dk.Now.length (90000+g_.1) g_.2.1) (fun g_=>c.length-g_.1) (0,dk,au,av,ao) O (by (try dsimp only);exact ⟨ae,rfl,hD.1⟩) (sF O) (dX fw [0] O) ?_
 rintro ⟨i,dm,eT,gh,eU⟩ ⟨hi,HL,hO⟩
 dsimp only at *
 have p1:=hO.fine ae ae
 refine U ?_
 refine C (i<c.length) ?_ ?_ <;> intro h1
 .
  obtain ⟨x1,hx1⟩:=gE c i
  have Sk:=EH (hf x1 (List.mem_of_getElem? hx1));obtain ⟨Sk,gx1⟩:=Sk
  refine U ?_
  refine R.nb fun b1=>?_
  refine R.kc O O (fun w hw=>E2 x1 w)<|U ?_
  refine R.cO (fuel:=22) [0,1,6] O O mixed O<|D.l Fx [0,1,6] [0] O<|U ?_
  refine D.p 19 O [0,1,6] [0] (s.c (q.call O3 O O (fun w hw=>G7 111 ((lg.First+lg.Next)+(i:Int)) (lI x1).1 w aC ae ae)) O) fun _=>?_
  refine D.p 20 O [4,5,6] [0] (s.aH [2,3,4,5,0,1,6] [] _ _ _ O O O xX O O (fun w own hw H=>jP aF eT gh eU dm ((lg.From+lg.Next)+(i:Int)) (eK 111 ((lg.First+lg.Next)+(i:Int)) (lI x1).1) w own H af) O) ?_
  rintro ⟨z4,z5,z6⟩
  dsimp only
  refine D.l [21] [4,5,6] [0] O<|U ?_
  refine D.done<|U ?_
  refine C ((aU dm ((lg.From+lg.Next)+(i:Int)) (eK 111 ((lg.First+lg.Next)+(i:Int)) (lI x1).1)).2=0) ?_ ?_ <;> intro h2
  .refine R.back (i+1,(aU dm ((lg.From+lg.Next)+(i:Int)) (eK 111 ((lg.First+lg.Next)+(i:Int)) (lI x1).1)).1,z4,z5,z6) O (by (try dsimp only);exact ⟨ae,Vp HL hx1 af,hO.write _ _⟩) aJ (sF O) (cw [5,0,1,2,3,6] [0] O)
  have hz:(lg,(eC lg dk c).1,(eC lg dk c).2)=(lg,(aU dm ((lg.From+lg.Next)+(i:Int)) (eK 111 ((lg.First+lg.Next)+(i:Int)) (lI x1).1)).1,(aU dm ((lg.From+lg.Next)+(i:Int)) (eK 111 ((lg.First+lg.Next)+(i:Int)) (lI x1).1)).2):=by (rw [LZ (Oq HL hx1 af).symm af])
  have hz0:(eC lg dk c).1=(aU dm ((lg.From+lg.Next)+(i:Int)) (eK 111 ((lg.First+lg.Next)+(i:Int)) (lI x1).1)).1:=congrArg (fun t_=>t_.2.1) hz
  rw [hz0]
  have hz1:(eC lg dk c).2=(aU dm ((lg.From+lg.Next)+(i:Int)) (eK 111 ((lg.First+lg.Next)+(i:Int)) (lI x1).1)).2:=congrArg (fun t_=>t_.2.2) hz
  rw [hz1]
  exact R.x1 (z4,z5,z6) [5,0,1,2,3,6] []
 refine C (((lg.Next+(c.length:Int))+1)<lg.Many) ?_ ?_ <;> intro h3
 .
  refine R.cO (fuel:=12) [0,5] O O mixed O<|D.l jH [0,5] [0] O<|U ?_
  refine D.p 10 O [4,5] [0] (s.aH [1,2,3,4,0,5] [] _ _ _ O O O xX O O (fun w own hw H=>jP aF eT gh eU dm (lg.From+((lg.Next+(c.length:Int))+1)) (⟨#[]⟩) w own H af) O) ?_
  rintro ⟨kM,lA,z12⟩
  dsimp only
  refine D.l [11] [4,5] [0] O<|U ?_
  refine D.done ?_
  have hz:(lg,(eC lg dk c).1,(eC lg dk c).2)=(lg,(aU dm (lg.From+((lg.Next+(c.length:Int))+1)) (⟨#[]⟩)).1,(aU dm (lg.From+((lg.Next+(c.length:Int))+1)) (⟨#[]⟩)).2):=by (have e:=Kz HL ae;(rw [Ot e af];done))
  have hz0:(eC lg dk c).1=(aU dm (lg.From+((lg.Next+(c.length:Int))+1)) (⟨#[]⟩)).1:=congrArg (fun t_=>t_.2.1) hz
  rw [hz0]
  have hz1:(eC lg dk c).2=(aU dm (lg.From+((lg.Next+(c.length:Int))+1)) (⟨#[]⟩)).2:=congrArg (fun t_=>t_.2.2) hz
  rw [hz1]
  exact R.x1 (kM,lA,z12) [4,0,1,2,3,5] []
 have hz:(lg,(eC lg dk c).1,(eC lg dk c).2)=(lg,dm,0):=by (have e:=Kz HL ae;(rw [L5 e ae];done))
 have hz0:(eC lg dk c).1=dm:=congrArg (fun t_=>t_.2.1) hz
 rw [hz0]
 have hz1:(eC lg dk c).2=0:=congrArg (fun t_=>t_.2.2) hz
 rw [hz1]
 exact R.x1 (eT,gh,eU) fw []
theorem Ph (Jj:Nat)(pl:Unit)(Jk:Nat)(xZ:Value)(pc:ChB)(aZ:Nat)(lg:Lg)(aF:Nat)(au av ao:Value)(dk:cq)(w:World)(own:List Nat)(H:HN w own [ag.box Jj [pV aZ] 130,ag.box Jk [xZ] 34,ag.box aZ [pV aF,iV lg.From,iV lg.Many,iV lg.First,iV lg.Next] 193,ag.box aF [au,av,ao,iV dk.Fuse,.bool dk.Down] 120,ag.row 9 au dk.Kept,ag.row 9 av dk.Now,ag.row 196 ao dk.Wait] [ag.ls xZ pc.C])(hb:0<=lg.From/\lg.From<=1000000000/\0<=lg.Next/\lg.Next<=1000000000/\0<=lg.First/\lg.First<=4000000000000000000/\0<=lg.Many/\lg.Many<=1000000000)(hl:pc.C.length<=62)(hf:∀x∈pc.C,iT x=0)(hD:gw dk.Now.length 90000 dk/\dk.Now.length<=100000):RC Tryz.prog 187 #[pV Jj,pV Jk] H (fun _:Value×Value×Value×Value=>bQ (eC lg dk pc.C).2) (fun z=>[ag.box Jj [pV aZ] 130,ag.box Jk [z.1] 34,ag.box aZ [pV aF,iV lg.From,iV lg.Many,iV lg.First,iV lg.Next] 193,ag.box aF [z.2.1,z.2.2.1,z.2.2.2,iV (eC lg dk pc.C).1.Fuse,.bool (eC lg dk pc.C).1.Down] 120,ag.row 9 z.2.1 (eC lg dk pc.C).1.Kept,ag.row 9 z.2.2.1 (eC lg dk pc.C).1.Now,ag.row 196 z.2.2.2 (eC lg dk pc.C).1.Wait]) (fun z=>[ag.ls z.1 pc.C]):=by
 have dD:=H.cap 4 rfl;have dE:=H.ck 4 rfl
 have ew:=H.cap 5 rfl;have ey:=H.ck 5 rfl
 have dF:=H.cap 6 rfl;have dG:=H.ck 6 rfl
 have Wv:=H.aL 0 rfl
 refine R.eN H ?_
 refine R.s O (s.aH [2,3,4,5,6,0,1,7] [0] _ _ _ O O O V0 O O (fun w own hw H=>Sj aZ lg xZ pc.C aF au av ao dk w own H af ae af af) O) ?_
 rintro ⟨z1,z2,z3⟩
 dsimp only
 refine U ?_
 have hz:((),pc,lg,(eC lg dk pc.C).1,(eC lg dk pc.C).2)=((),pc,lg,(eC lg dk pc.C).1,(eC lg dk pc.C).2):=by (rfl)
 exact R.x1 (xZ,z1,z2,z3) [5,6,0,1,2,3,4,7] [0]
theorem Pj (Jj:Nat)(pl:Unit)(Ww:Nat)(pe:YD)(Jk:Nat)(xZ:Value)(pc:ChB)(aZ:Nat)(lg:Lg)(aF:Nat)(au av ao:Value)(dk:cq)(w:World)(own:List Nat)(H:HN w own [ag.box Jj [pV aZ] 130,ag.box Ww [iV pe.E] 3,ag.box Jk [xZ] 34,ag.box aZ [pV aF,iV lg.From,iV lg.Many,iV lg.First,iV lg.Next] 193,ag.box aF [au,av,ao,iV dk.Fuse,.bool dk.Down] 120,ag.row 9 au dk.Kept,ag.row 9 av dk.Now,ag.row 196 ao dk.Wait] [ag.ls xZ pc.C])(hb:0<=lg.From/\lg.From<=1000000000/\0<=lg.Next/\lg.Next<=1000000000/\0<=lg.First/\lg.First<=4000000000000000000/\0<=lg.Many/\lg.Many<=1000000000)(he:0<=pe.E/\pe.E<=2000000000)(hl:pc.C.length<=62)(hD:gw dk.Now.length 91000 dk/\dk.Now.length<=100000):RC Tryz.prog 189 #[pV Jj,pV Ww,pV Jk] H (fun _:Value×Value×Value×Value=>bQ (aU dk (lg.From+pe.E) (eK 99 (lg.First+pe.E) (cB (pc.C.length:Int)))).2) (fun z=>[ag.box Jj [pV aZ] 130,ag.box Ww [iV pe.E] 3,ag.box Jk [z.1] 34,ag.box aZ [pV aF,iV lg.From,iV lg.Many,iV lg.First,iV lg.Next] 193,ag.box aF [z.2.1,z.2.2.1,z.2.2.2,iV (aU dk (lg.From+pe.E) (eK 99 (lg.First+pe.E) (cB (pc.C.length:Int)))).1.Fuse,.bool (aU dk (lg.From+pe.E) (eK 99 (lg.First+pe.E) (cB (pc.C.length:Int)))).1.Down] 120,ag.row 9 z.2.1 ((aU dk (lg.From+pe.E) (eK 99 (lg.First+pe.E) (cB (pc.C.length:Int)))).1.Kept:List ByteArray),ag.row 9 z.2.2.1 ((aU dk (lg.From+pe.E) (eK 99 (lg.First+pe.E) (cB (pc.C.length:Int)))).1.Now:List ByteArray),ag.row 196 z.2.2.2 ((aU dk (lg.From+pe.E) (eK 99 (lg.First+pe.E) (cB (pc.C.length:Int)))).1.Wait:List Turn)]) (fun z=>[ag.ls z.1 pc.C]):=by
 have dD:=H.cap 5 rfl;have dE:=H.ck 5 rfl
 have ew:=H.cap 6 rfl;have ey:=H.ck 6 rfl
 have dF:=H.cap 7 rfl;have dG:=H.ck 7 rfl
 have Wv:=H.aL 0 rfl
 have p1:=hD.1.fine ae ae
 refine R.eN H ?_
 refine R.cO (fuel:=22) [0,1,2,3,8] O O mixed O<|D.l [0,1,2,3,4,5,6,7,8,9,10,11,12,13,14,15,16,17] [0,1,2,3,8] [0] O<|U ?_
 refine D.p 18 O [0,1,2,3,8] [0] (s.c (q.call fZ O O (fun w hw=>dO (pc.C.length:Int) w ae)) O) fun _=>?_
 refine D.p 19 O [0,1,2,3,8] [0] (s.c (q.call O3 O O (fun w hw=>G7 99 (lg.First+pe.E) (cB (pc.C.length:Int)) w aC ae (by rw [kG];decide))) O) fun _=>?_
 refine D.p 20 O j5 [0] (s.aH ze [] _ _ _ O O O xX O O (fun w own hw H=>jP aF au av ao dk (lg.From+pe.E) (eK 99 (lg.First+pe.E) (cB (pc.C.length:Int))) w own H af) O) ?_
 rintro ⟨z4,z5,z6⟩
 dsimp only
 refine D.l [21] j5 [0] O<|U ?_
 refine D.done ?_
 have hz:((),pe,pc,lg,(aU dk (lg.From+pe.E) (eK 99 (lg.First+pe.E) (cB (pc.C.length:Int)))).1,(aU dk (lg.From+pe.E) (eK 99 (lg.First+pe.E) (cB (pc.C.length:Int)))).2)=((),pe,pc,lg,(aU dk (lg.From+pe.E) (eK 99 (lg.First+pe.E) (cB (pc.C.length:Int)))).1,(aU dk (lg.From+pe.E) (eK 99 (lg.First+pe.E) (cB (pc.C.length:Int)))).2):=by (rfl)
 exact R.x1 (xZ,z4,z5,z6) ze [0]
theorem KQ (aZ:Nat)(lg:Lg)(Na:Value)(c:List Change)(aF:Nat)(au av ao:Value)(dk:cq)(w:World)(own:List Nat)(H:HN w own [ag.box aZ [pV aF,iV lg.From,iV lg.Many,iV lg.First,iV lg.Next] 193,ag.box aF [au,av,ao,iV dk.Fuse,.bool dk.Down] 120,ag.row 9 au dk.Kept,ag.row 9 av dk.Now,ag.row 196 ao dk.Wait] [ag.ls Na c])(hb:0<=lg.From/\lg.From<=1000000000/\0<=lg.Next/\lg.Next<=1000000000/\0<=lg.First/\lg.First<=4000000000000000000/\0<=lg.Many/\lg.Many<=1000000000)(hD:gw dk.Now.length 80000 dk/\dk.Now.length<=100000):RS Tryz.prog 122 #[pV aZ,Na] H (cQ lg dk c) (fun s (_:Value×Value×Value)=>bQ s.2.2) (fun s z=>[ag.box aZ [pV aF,iV s.1.From,iV s.1.Many,iV s.1.First,iV s.1.Next] 193,ag.box aF [z.1,z.2.1,z.2.2,iV s.2.1.Fuse,.bool s.2.1.Down] 120,ag.row 9 z.1 s.2.1.Kept,ag.row 9 z.2.1 s.2.1.Now,ag.row 196 z.2.2 s.2.1.Wait]) (fun _ _=>[]):=by
 have dD:=H.cap 2 rfl;have dE:=H.ck 2 rfl
 have ew:=H.cap 3 rfl;have ey:=H.ck 3 rfl
 have dF:=H.cap 4 rfl;have dG:=H.ck 4 rfl
 have m_c:=H.aL 0 rfl
 refine R.eN H ?_
 refine R.nb fun b1=>?_
 refine R.s O (s.Yj O (fun w hw=>Sl.cL (hw.cy 0 O)) O) fun b2=>U ?_
 refine C (62<c.length) ?_ ?_ <;> intro h1
 .
  rw [show cQ lg dk c=_ from Ov af]
  exact R.x1 (au,av,ao) [2,3,4,5,6,7] []
 refine C (lg.Many-lg.Next<((c.length+1):Int)) ?_ ?_ <;> intro h2
 .
  refine R.c6 O mixed ay<|U ?_
  refine Q.c (q.call OT O O (fun w hw=>AY aZ aF lg w (hw.b 2 O) ae)) O<|U ?_
  rw [show cQ lg dk c=_ from Ow ae ae]
  exact R.x1 (au,av,ao) [2,3,4,5,6,7] []
 refine R.c6 O mixed ay<|U ?_
 refine Q.c (q.call OT O O (fun w hw=>AY aZ aF lg w (hw.b 2 O) ae)) O<|U ?_
 refine R.loop (fun i:Nat=>[(2,pV b1),(3,pV b2),(23,Na),(24,iV (c.length:Int)),(25,iV (i:Int))]) (fun i:Nat=>[ag.box b2 [Na] 34,ag.box b1 [pV aZ] 130,ag.box aZ [pV aF,iV lg.From,iV lg.Many,iV lg.First,iV lg.Next] 193,ag.box aF [au,av,ao,iV dk.Fuse,.bool dk.Down] 120,ag.row 9 au dk.Kept,ag.row 9 av dk.Now,ag.row 196 ao dk.Wait,ag.held w own]) (fun i:Nat=>[ag.ls Na c]) (fun i:Nat=>i<=c.length/\jh (c.drop i)=jh c) (fun i:Nat=>c.length-i) 0 O (by exact ⟨ae,rfl⟩) (sF O) (dX a8 [0] O) ?_
 rintro i ⟨hi,HL⟩
 refine U ?_
 refine C (i<c.length) ?_ ?_ <;> intro h3
 .
  obtain ⟨x1,hx1⟩:=gE c i
  have Sk:=ku x1
  refine U ?_
  refine R.nb fun b3=>?_
  refine R.kc O O (fun w hw=>jX x1 w)<|U ?_
  refine C (iT x1=0) ?_ ?_ <;> intro h4
  .refine R.back (i+1) O (by exact ⟨ae,Ou HL hx1 ae⟩) ae (sF O) (cw xE [0] O)
  rw [show cQ lg dk c=_ from L6 af ae (EJ HL hx1 af) af]
  exact R.x1 (au,av,ao) oM []
 have g0:jh c=0:=I3 HL ae;have g1:=KE (lg:=lg) af ae g0;have g2:=tj g0
 refine R.cO (fuel:=9) a8 O O mixed O<|D.l du a8 [0] O<|U ?_
 refine D.p 7 O xE [0] (s.alloc jW O O) fun b4=>?_
 refine D.p 8 O xE [0] (s.st 0 _ O O O O (.inr ⟨eX,rfl⟩) O O O O) fun _=>?_
 refine D.done ?_
 have a0:gw dk.Now.length 90000 dk/\dk.Now.length<=100000:=⟨hD.1.up ae,hD.2⟩;have a2:gw dk.Now.length 90000 (eC lg dk c).1:=(EI (lg:=lg) (c:=c) hD.1).up ae;have n2:=a2.nl;have q2:=a2.fine ae ae
 have a3:gw dk.Now.length 90000 (aQ (eC lg dk c).1).1:=a2.flush;have n3:(aQ (eC lg dk c).1).1.Now.length=dk.Now.length:=a3.nl;have q3:gw (aQ (eC lg dk c).1).1.Now.length 91000 (aQ (eC lg dk c).1).1/\(aQ (eC lg dk c).1).1.Now.length<=100000:=⟨n3▸a3.up ae,ae⟩
 have a4:gw dk.Now.length 90001 (aU (aQ (eC lg dk c).1).1 (lg.From+(lg.Next+(c.length:Int))) (eK 99 (lg.First+(lg.Next+(c.length:Int))) (cB (c.length:Int)))).1:=a3.write _ _;have n4:=a4.nl;have q4:=a4.fine ae ae
 refine R.cO (fuel:=15) bZ O O mixed O<|D.l [0,1,2,3,4,5,6,7,8,9,10,11,14] bZ [0] O<|Dm.yy O O (q.D3 (cap:=[pV b1,pV b2]) O O) O<|U ?_
 refine Dm.yy O O (q.Yp (bnd:=[pV aF]) (cap:=[]) O O) O<|Dm.yy O O (q.D3 (cap:=[pV b1,pV b4,pV b2]) O O) O<|U ?_
 refine Dm.yy O O (q.Yp (bnd:=[pV aF]) (cap:=[]) O O) O<|U ?_
 refine D.p 12 O iF [0] (s.bs (l:=(([(⟨.func 187,#[],#[pV b1,pV b2]⟩:BX),(⟨.func 72,#[pV aF],#[]⟩:BX),(⟨.func 189,#[],#[pV b1,pV b4,pV b2]⟩:BX),(⟨.func 72,#[pV aF],#[]⟩:BX)]):List BX)) vZ OC O O O O O O O) fun b5=>?_
 refine D.k 13 O iF [0] (q.Lq (v:=iV ((List.length ([(⟨.func 187,#[],#[pV b1,pV b2]⟩:BX),(⟨.func 72,#[pV aF],#[]⟩:BX),(⟨.func 189,#[],#[pV b1,pV b4,pV b2]⟩:BX),(⟨.func 72,#[pV aF],#[]⟩:BX)]):Nat):Int)) (v':=iV 4) O (q.len' (l:=([(⟨.func 187,#[],#[pV b1,pV b2]⟩:BX),(⟨.func 72,#[pV aF],#[]⟩:BX),(⟨.func 189,#[],#[pV b1,pV b4,pV b2]⟩:BX),(⟨.func 72,#[pV aF],#[]⟩:BX)])) (cI 0 O) O Tryz.underlying242)) ?_
 refine D.done<|R.Nr 4 O<|U ?_
 refine R.q (q.idx (i:=0) (cI 0 O) O O vZ O O) O<|R.q (q.Rr (x:=(⟨.func 187,#[],#[pV b1,pV b2]⟩:BX)) O (q.Rf (cI 0 O) O O yV O)) O<|U ?_
 refine R.s O (s.aH [3,2,4,5,6,7,8,0,1,9] [0] _ _ _ O O O VZ O O (fun w own hw H=>Ph b1 () b2 Na (⟨c⟩:ChB) aZ lg aF au av ao dk w own H af aJ af af) O) ?_
 rintro ⟨z1,z2,z3,z4⟩
 dsimp only
 refine U ?_
 refine C ((eC lg dk c).2=0) ?_ ?_ <;> intro h5
 .
  refine R.again O O<|U ?_
  refine R.q (q.idx (i:=1) (cI 7 O) O O vZ O O) O<|R.q (q.Rr (x:=(⟨.func 72,#[pV aF],#[]⟩:BX)) O (q.Rf (cI 7 O) O O yV O)) O<|U ?_
  refine R.s O (s.Ny [3,4,5,6,0,1,2,7,8,9] [] _ _ _ O O O Df O O (fun w own hw H=>l7 aF z2 z3 z4 (eC lg dk c).1 w own H af) O) ?_
  rintro ⟨z5,z6,z7⟩
  dsimp only
  refine U ?_
  refine C ((aQ (eC lg dk c).1).2=0) ?_ ?_ <;> intro h6
  .
   refine R.again O O<|U ?_
   refine R.q (q.idx (i:=2) (cI 7 O) O O vZ O O) O<|R.q (q.Rr (x:=(⟨.func 189,#[],#[pV b1,pV b4,pV b2]⟩:BX)) O (q.Rf (cI 7 O) O O yV O)) O<|U ?_
   refine R.s O (s.aH [4,8,5,6,0,1,2,3,7,9] [0] _ _ _ O O O V1 O O (fun w own hw H=>Pj b1 () b4 (⟨lg.Next+(c.length:Int)⟩:YD) b2 z1 (⟨c⟩:ChB) aZ lg aF z5 z6 z7 (aQ (eC lg dk c).1).1 w own H af aJ aJ af) O) ?_
   rintro ⟨z8,z9,kM,lA⟩
   dsimp only
   refine U ?_
   refine C ((aU (aQ (eC lg dk c).1).1 (lg.From+(lg.Next+(c.length:Int))) (eK 99 (lg.First+(lg.Next+(c.length:Int))) (cB (c.length:Int)))).2=0) ?_ ?_ <;> intro h7
   .
    refine R.again O O<|U ?_
    refine R.q (q.idx (i:=3) (cI 8 O) O O vZ O O) O<|R.q (q.Rr (x:=(⟨.func 72,#[pV aF],#[]⟩:BX)) O (q.Rf (cI 8 O) O O yV O)) O<|U ?_
    refine R.s O (s.Ny [4,5,6,7,0,1,2,3,8,9] [] _ _ _ O O O Df O O (fun w own hw H=>l7 aF z9 kM lA (aU (aQ (eC lg dk c).1).1 (lg.From+(lg.Next+(c.length:Int))) (eK 99 (lg.First+(lg.Next+(c.length:Int))) (cB (c.length:Int)))).1 w own H af) O) ?_
    rintro ⟨z12,mW,tQ⟩
    dsimp only
    refine U ?_
    refine C ((aQ (aU (aQ (eC lg dk c).1).1 (lg.From+(lg.Next+(c.length:Int))) (eK 99 (lg.First+(lg.Next+(c.length:Int))) (cB (c.length:Int)))).1).2=0) ?_ ?_ <;> intro h8
    .
     refine R.again O O<|U ?_
     rw [show cQ lg dk c=_ from I4 g1 af af af af]
     exact R.x1 (z12,mW,tQ) [7,0,1,2,3,9] []
    rw [show cQ lg dk c=_ from T5 g1 af af af af]
    exact R.x1 (z12,mW,tQ) [7,0,1,2,3,9] []
   rw [show cQ lg dk c=_ from T4 g1 af af af]
   exact R.x1 (z9,kM,lA) [3,4,5,6,7,9] []
  rw [show cQ lg dk c=_ from T3 g1 af af]
  exact R.x1 (z5,z6,z7) [6,0,1,2,3,9] []
 rw [show cQ lg dk c=_ from T2 g1 af]
 exact R.x1 (z2,z3,z4) [2,3,4,5,6,9] []
end Go.Proofs.YtnmpibjlnninjaaGreatDoor
