import Derived.Test.YtnmpibjlnninjaaGreatDoorKT13
namespace Go.Proofs.YtnmpibjlnninjaaGreatDoor
set_option linter.unusedVariables false
set_option linter.unusedSimpArgs false
set_option maxRecDepth 100000
set_option maxHeartbeats 90000000
open Go Go.RowKit
attribute [local irreducible] Run Rg Rq Qt Qa Stp Dg Do Dm bN
theorem q.bU {P:Program}{n:Nat}{we:World}{X:List Nat}{L:Fm}{B F:List ah}{x y:Operand}{xT yT ty:TypeId}{a b:ByteArray}(hx:ev L x=some (.string a))(hy:ev L y=some (.string b))(h:a.size+b.size<=9223372036854775807:=by (simp only [ByteArray.size_append,da,jm,List.length_cons,List.length_nil];omega)):Qt P n we X L B F (.binOp .add xT x y yT) ty (.string (a++b)):=q.cat hx hy h
theorem df (n:Int)(w:World)(hn:0<=n/\n<=9000000000000000000):Calls Tryz.prog 132 #[iV n] w fun e w'=>e = .returned (.string (bW n))/\Ext w w':=by
 refine R.eV ?_
 refine R.q (q.mJ O (by rw [Tryz.underlying3];rfl) Tryz.underlying5 pR) O<|U ?_
 refine R.q (q.shr (r:=n / 256) O O aD (IW (D:=256) aD aD)) O<|R.q (q.mJ O (by rw [Tryz.underlying3];rfl) Tryz.underlying5 pR) O<|U ?_
 refine R.q (q.shr (r:=n / 65536) O O aD (IW (D:=65536) aD aD)) O<|R.q (q.mJ O (by rw [Tryz.underlying3];rfl) Tryz.underlying5 pR) O<|U ?_
 refine R.q (q.shr (r:=n / 16777216) O O aD (IW (D:=16777216) aD aD)) O<|R.q (q.mJ O (by rw [Tryz.underlying3];rfl) Tryz.underlying5 pR) O<|R.s O (s.bs (l:=([u8 (n % 256),u8 ((n / 256) % 256),u8 ((n / 65536) % 256),u8 ((n / 16777216) % 256)]:List UInt8)) aM dH O O O O O (bO (eR ae) (bO (eR ae) (bO (eR ae) (bO (eR ae) eM)))) O) fun b1=>?_
 refine R.q (q.jg (cm 0 O) O aM Tryz.underlying5 Tryz.underlying9) O<|U ?_
 refine R.rt ?_
 rfl
theorem EP (k:Int)(n:Int)(sx:ByteArray)(w:World)(hk:0<=k/\k<=255)(hn:0<=n/\n<=9000000000000000000)(hs:sx.size<=41):Calls Tryz.prog 190 #[.int .u8 k,iV n,.string sx] w fun e w'=>e = .returned (.string (dN k n sx))/\Ext w w':=by
 refine R.eV ?_
 refine R.dC (fuel:=19) [] O O mixed O<|D.l [0,3,6,7,8,9,10,11,12,16] [] [] O<|U ?_
 refine Dm.yy O O (q.mJ (r:=((sx.size:Nat):Int)) O (by rw [Tryz.underlying3];rfl) Tryz.underlying5 (sZ ae)) O<|U ?_
 refine Dm.yy O O (q.shr (r:=(((sx.size / 256):Nat):Int)) O O aD (NR aD)) O<|Dm.yy O O (q.mJ (r:=(((sx.size / 256):Nat):Int)) O (by rw [Tryz.underlying3];rfl) Tryz.underlying5 (sZ ae)) O<|U ?_
 refine D.three (i:=1) (j:=4) (m:=13) O O O ?_ ?_ ?_
 .
  refine Do.p [] [] (s.bs (l:=([u8 k]:List UInt8)) aM dH O O O O O (bO (eR ae) eM) O) fun b1=>?_
  refine D.three (i:=2) (j:=4) (m:=13) O O O ?_ ?_ ?_
  .
   refine Do.k [] [] (q.jg (cm 0 O) O aM Tryz.underlying5 Tryz.underlying9) ?_
   refine D.two (i:=4) (j:=13) O O ?_ ?_
   .
    refine Do.p [] [] (s.c (q.call ff O O (fun w hw=>df n w ae)) O) fun _=>?_
    refine D.l [5] [] [] O<|Dm.yy O O (q.bU O O) O<|U ?_
    refine D.p 13 O [] [] (s.bs (l:=([UInt8.ofNat sx.size,UInt8.ofNat (sx.size / 256)]:List UInt8)) aM dH O O O O O (bO (dy ae) (bO (dy ae) eM)) O) fun b2=>?_
    refine D.k 14 O [] [] (q.jg (cm 0 O) O aM Tryz.underlying5 Tryz.underlying9) ?_
    refine D.l [15,17,18] [] [] O<|Dm.yy O O (q.bU O O) O<|Dm.yy O O (q.bU O O) O<|U ?_
    refine D.done<|R.rt ?_
    (rfl)
   refine Do.p [] [] (s.bs (l:=([UInt8.ofNat sx.size,UInt8.ofNat (sx.size / 256)]:List UInt8)) aM dH O O O O O (bO (dy ae) (bO (dy ae) eM)) O) fun b3=>?_
   refine D.two (i:=4) (j:=14) O O ?_ ?_
   .
    refine Do.p [] [] (s.c (q.call ff O O (fun w hw=>df n w ae)) O) fun _=>?_
    refine D.l [5] [] [] O<|Dm.yy O O (q.bU O O) O<|U ?_
    refine D.k 14 O [] [] (q.jg (cm 0 O) O aM Tryz.underlying5 Tryz.underlying9) ?_
    refine D.l [15,17,18] [] [] O<|Dm.yy O O (q.bU O O) O<|Dm.yy O O (q.bU O O) O<|U ?_
    refine D.done<|R.rt ?_
    (rfl)
   refine Do.k [] [] (q.jg (cm 0 O) O aM Tryz.underlying5 Tryz.underlying9) ?_
   refine D.p 4 O [] [] (s.c (q.call ff O O (fun w hw=>df n w ae)) O) fun _=>?_
   refine D.l j2 [] [] O<|Dm.yy O O (q.bU O O) O<|Dm.yy O O (q.bU O O) O<|Dm.yy O O (q.bU O O) O<|U ?_
   refine D.done<|R.rt ?_
   (rfl)
  .
   refine Do.p [] [] (s.c (q.call ff O O (fun w hw=>df n w ae)) O) fun _=>?_
   refine D.two (i:=2) (j:=13) O O ?_ ?_
   .
    refine Do.k [] [] (q.jg (cm 0 O) O aM Tryz.underlying5 Tryz.underlying9) ?_
    refine D.l [5] [] [] O<|Dm.yy O O (q.bU O O) O<|U ?_
    refine D.p 13 O [] [] (s.bs (l:=([UInt8.ofNat sx.size,UInt8.ofNat (sx.size / 256)]:List UInt8)) aM dH O O O O O (bO (dy ae) (bO (dy ae) eM)) O) fun b4=>?_
    refine D.k 14 O [] [] (q.jg (cm 0 O) O aM Tryz.underlying5 Tryz.underlying9) ?_
    refine D.l [15,17,18] [] [] O<|Dm.yy O O (q.bU O O) O<|Dm.yy O O (q.bU O O) O<|U ?_
    refine D.done<|R.rt ?_
    (rfl)
   refine Do.p [] [] (s.bs (l:=([UInt8.ofNat sx.size,UInt8.ofNat (sx.size / 256)]:List UInt8)) aM dH O O O O O (bO (dy ae) (bO (dy ae) eM)) O) fun b5=>?_
   refine D.two (i:=2) (j:=14) O O ?_ ?_
   .
    refine Do.k [] [] (q.jg (cm 1 O) O aM Tryz.underlying5 Tryz.underlying9) ?_
    refine D.l [5] [] [] O<|Dm.yy O O (q.bU O O) O<|U ?_
    refine D.k 14 O [] [] (q.jg (cm 0 O) O aM Tryz.underlying5 Tryz.underlying9) ?_
    refine D.l [15,17,18] [] [] O<|Dm.yy O O (q.bU O O) O<|Dm.yy O O (q.bU O O) O<|U ?_
    refine D.done<|R.rt ?_
    (rfl)
   refine Do.k [] [] (q.jg (cm 0 O) O aM Tryz.underlying5 Tryz.underlying9) ?_
   refine D.k 2 O [] [] (q.jg (cm 1 O) O aM Tryz.underlying5 Tryz.underlying9) ?_
   refine D.l j2 [] [] O<|Dm.yy O O (q.bU O O) O<|Dm.yy O O (q.bU O O) O<|Dm.yy O O (q.bU O O) O<|U ?_
   refine D.done<|R.rt ?_
   (rfl)
  refine Do.p [] [] (s.bs (l:=([UInt8.ofNat sx.size,UInt8.ofNat (sx.size / 256)]:List UInt8)) aM dH O O O O O (bO (dy ae) (bO (dy ae) eM)) O) fun b6=>?_
  refine D.three (i:=2) (j:=4) (m:=14) O O O ?_ ?_ ?_
  .
   refine Do.k [] [] (q.jg (cm 1 O) O aM Tryz.underlying5 Tryz.underlying9) ?_
   refine D.two (i:=4) (j:=14) O O ?_ ?_
   .
    refine Do.p [] [] (s.c (q.call ff O O (fun w hw=>df n w ae)) O) fun _=>?_
    refine D.l [5] [] [] O<|Dm.yy O O (q.bU O O) O<|U ?_
    refine D.k 14 O [] [] (q.jg (cm 0 O) O aM Tryz.underlying5 Tryz.underlying9) ?_
    refine D.l [15,17,18] [] [] O<|Dm.yy O O (q.bU O O) O<|Dm.yy O O (q.bU O O) O<|U ?_
    refine D.done<|R.rt ?_
    (rfl)
   refine Do.k [] [] (q.jg (cm 0 O) O aM Tryz.underlying5 Tryz.underlying9) ?_
   refine D.p 4 O [] [] (s.c (q.call ff O O (fun w hw=>df n w ae)) O) fun _=>?_
   refine D.l j2 [] [] O<|Dm.yy O O (q.bU O O) O<|Dm.yy O O (q.bU O O) O<|Dm.yy O O (q.bU O O) O<|U ?_
   refine D.done<|R.rt ?_
   (rfl)
  .
   refine Do.p [] [] (s.c (q.call ff O O (fun w hw=>df n w ae)) O) fun _=>?_
   refine D.two (i:=2) (j:=14) O O ?_ ?_
   .
    refine Do.k [] [] (q.jg (cm 1 O) O aM Tryz.underlying5 Tryz.underlying9) ?_
    refine D.l [5] [] [] O<|Dm.yy O O (q.bU O O) O<|U ?_
    refine D.k 14 O [] [] (q.jg (cm 0 O) O aM Tryz.underlying5 Tryz.underlying9) ?_
    refine D.l [15,17,18] [] [] O<|Dm.yy O O (q.bU O O) O<|Dm.yy O O (q.bU O O) O<|U ?_
    refine D.done<|R.rt ?_
    (rfl)
   refine Do.k [] [] (q.jg (cm 0 O) O aM Tryz.underlying5 Tryz.underlying9) ?_
   refine D.k 2 O [] [] (q.jg (cm 1 O) O aM Tryz.underlying5 Tryz.underlying9) ?_
   refine D.l j2 [] [] O<|Dm.yy O O (q.bU O O) O<|Dm.yy O O (q.bU O O) O<|Dm.yy O O (q.bU O O) O<|U ?_
   refine D.done<|R.rt ?_
   (rfl)
  refine Do.k [] [] (q.jg (cm 0 O) O aM Tryz.underlying5 Tryz.underlying9) ?_
  refine D.two (i:=2) (j:=4) O O ?_ ?_
  .
   refine Do.k [] [] (q.jg (cm 1 O) O aM Tryz.underlying5 Tryz.underlying9) ?_
   refine D.p 4 O [] [] (s.c (q.call ff O O (fun w hw=>df n w ae)) O) fun _=>?_
   refine D.l j2 [] [] O<|Dm.yy O O (q.bU O O) O<|Dm.yy O O (q.bU O O) O<|Dm.yy O O (q.bU O O) O<|U ?_
   refine D.done<|R.rt ?_
   (rfl)
  refine Do.p [] [] (s.c (q.call ff O O (fun w hw=>df n w ae)) O) fun _=>?_
  refine D.k 2 O [] [] (q.jg (cm 1 O) O aM Tryz.underlying5 Tryz.underlying9) ?_
  refine D.l j2 [] [] O<|Dm.yy O O (q.bU O O) O<|Dm.yy O O (q.bU O O) O<|Dm.yy O O (q.bU O O) O<|U ?_
  refine D.done<|R.rt ?_
  (rfl)
 .
  refine Do.p [] [] (s.c (q.call ff O O (fun w hw=>df n w ae)) O) fun _=>?_
  refine D.two (i:=1) (j:=13) O O ?_ ?_
  .
   refine Do.p [] [] (s.bs (l:=([u8 k]:List UInt8)) aM dH O O O O O (bO (eR ae) eM) O) fun b7=>?_
   refine D.two (i:=2) (j:=13) O O ?_ ?_
   .
    refine Do.k [] [] (q.jg (cm 0 O) O aM Tryz.underlying5 Tryz.underlying9) ?_
    refine D.l [5] [] [] O<|Dm.yy O O (q.bU O O) O<|U ?_
    refine D.p 13 O [] [] (s.bs (l:=([UInt8.ofNat sx.size,UInt8.ofNat (sx.size / 256)]:List UInt8)) aM dH O O O O O (bO (dy ae) (bO (dy ae) eM)) O) fun b8=>?_
    refine D.k 14 O [] [] (q.jg (cm 0 O) O aM Tryz.underlying5 Tryz.underlying9) ?_
    refine D.l [15,17,18] [] [] O<|Dm.yy O O (q.bU O O) O<|Dm.yy O O (q.bU O O) O<|U ?_
    refine D.done<|R.rt ?_
    (rfl)
   refine Do.p [] [] (s.bs (l:=([UInt8.ofNat sx.size,UInt8.ofNat (sx.size / 256)]:List UInt8)) aM dH O O O O O (bO (dy ae) (bO (dy ae) eM)) O) fun b9=>?_
   refine D.two (i:=2) (j:=14) O O ?_ ?_
   .
    refine Do.k [] [] (q.jg (cm 1 O) O aM Tryz.underlying5 Tryz.underlying9) ?_
    refine D.l [5] [] [] O<|Dm.yy O O (q.bU O O) O<|U ?_
    refine D.k 14 O [] [] (q.jg (cm 0 O) O aM Tryz.underlying5 Tryz.underlying9) ?_
    refine D.l [15,17,18] [] [] O<|Dm.yy O O (q.bU O O) O<|Dm.yy O O (q.bU O O) O<|U ?_
    refine D.done<|R.rt ?_
    (rfl)
   refine Do.k [] [] (q.jg (cm 0 O) O aM Tryz.underlying5 Tryz.underlying9) ?_
   refine D.k 2 O [] [] (q.jg (cm 1 O) O aM Tryz.underlying5 Tryz.underlying9) ?_
   refine D.l j2 [] [] O<|Dm.yy O O (q.bU O O) O<|Dm.yy O O (q.bU O O) O<|Dm.yy O O (q.bU O O) O<|U ?_
   refine D.done<|R.rt ?_
   (rfl)
  refine Do.p [] [] (s.bs (l:=([UInt8.ofNat sx.size,UInt8.ofNat (sx.size / 256)]:List UInt8)) aM dH O O O O O (bO (dy ae) (bO (dy ae) eM)) O) fun b10=>?_
  refine D.two (i:=1) (j:=14) O O ?_ ?_
  .
   refine Do.p [] [] (s.bs (l:=([u8 k]:List UInt8)) aM dH O O O O O (bO (eR ae) eM) O) fun b11=>?_
   refine D.two (i:=2) (j:=14) O O ?_ ?_
   .
    refine Do.k [] [] (q.jg (cm 0 O) O aM Tryz.underlying5 Tryz.underlying9) ?_
    refine D.l [5] [] [] O<|Dm.yy O O (q.bU O O) O<|U ?_
    refine D.k 14 O [] [] (q.jg (cm 1 O) O aM Tryz.underlying5 Tryz.underlying9) ?_
    refine D.l [15,17,18] [] [] O<|Dm.yy O O (q.bU O O) O<|Dm.yy O O (q.bU O O) O<|U ?_
    refine D.done<|R.rt ?_
    (rfl)
   refine Do.k [] [] (q.jg (cm 1 O) O aM Tryz.underlying5 Tryz.underlying9) ?_
   refine D.k 2 O [] [] (q.jg (cm 0 O) O aM Tryz.underlying5 Tryz.underlying9) ?_
   refine D.l j2 [] [] O<|Dm.yy O O (q.bU O O) O<|Dm.yy O O (q.bU O O) O<|Dm.yy O O (q.bU O O) O<|U ?_
   refine D.done<|R.rt ?_
   (rfl)
  refine Do.k [] [] (q.jg (cm 0 O) O aM Tryz.underlying5 Tryz.underlying9) ?_
  refine D.p 1 O [] [] (s.bs (l:=([u8 k]:List UInt8)) aM dH O O O O O (bO (eR ae) eM) O) fun b12=>?_
  refine D.k 2 O [] [] (q.jg (cm 0 O) O aM Tryz.underlying5 Tryz.underlying9) ?_
  refine D.l j2 [] [] O<|Dm.yy O O (q.bU O O) O<|Dm.yy O O (q.bU O O) O<|Dm.yy O O (q.bU O O) O<|U ?_
  refine D.done<|R.rt ?_
  (rfl)
 refine Do.p [] [] (s.bs (l:=([UInt8.ofNat sx.size,UInt8.ofNat (sx.size / 256)]:List UInt8)) aM dH O O O O O (bO (dy ae) (bO (dy ae) eM)) O) fun b13=>?_
 refine D.three (i:=1) (j:=4) (m:=14) O O O ?_ ?_ ?_
 .
  refine Do.p [] [] (s.bs (l:=([u8 k]:List UInt8)) aM dH O O O O O (bO (eR ae) eM) O) fun b14=>?_
  refine D.three (i:=2) (j:=4) (m:=14) O O O ?_ ?_ ?_
  .
   refine Do.k [] [] (q.jg (cm 0 O) O aM Tryz.underlying5 Tryz.underlying9) ?_
   refine D.two (i:=4) (j:=14) O O ?_ ?_
   .
    refine Do.p [] [] (s.c (q.call ff O O (fun w hw=>df n w ae)) O) fun _=>?_
    refine D.l [5] [] [] O<|Dm.yy O O (q.bU O O) O<|U ?_
    refine D.k 14 O [] [] (q.jg (cm 1 O) O aM Tryz.underlying5 Tryz.underlying9) ?_
    refine D.l [15,17,18] [] [] O<|Dm.yy O O (q.bU O O) O<|Dm.yy O O (q.bU O O) O<|U ?_
    refine D.done<|R.rt ?_
    (rfl)
   refine Do.k [] [] (q.jg (cm 1 O) O aM Tryz.underlying5 Tryz.underlying9) ?_
   refine D.p 4 O [] [] (s.c (q.call ff O O (fun w hw=>df n w ae)) O) fun _=>?_
   refine D.l j2 [] [] O<|Dm.yy O O (q.bU O O) O<|Dm.yy O O (q.bU O O) O<|Dm.yy O O (q.bU O O) O<|U ?_
   refine D.done<|R.rt ?_
   (rfl)
  .
   refine Do.p [] [] (s.c (q.call ff O O (fun w hw=>df n w ae)) O) fun _=>?_
   refine D.two (i:=2) (j:=14) O O ?_ ?_
   .
    refine Do.k [] [] (q.jg (cm 0 O) O aM Tryz.underlying5 Tryz.underlying9) ?_
    refine D.l [5] [] [] O<|Dm.yy O O (q.bU O O) O<|U ?_
    refine D.k 14 O [] [] (q.jg (cm 1 O) O aM Tryz.underlying5 Tryz.underlying9) ?_
    refine D.l [15,17,18] [] [] O<|Dm.yy O O (q.bU O O) O<|Dm.yy O O (q.bU O O) O<|U ?_
    refine D.done<|R.rt ?_
    (rfl)
   refine Do.k [] [] (q.jg (cm 1 O) O aM Tryz.underlying5 Tryz.underlying9) ?_
   refine D.k 2 O [] [] (q.jg (cm 0 O) O aM Tryz.underlying5 Tryz.underlying9) ?_
   refine D.l j2 [] [] O<|Dm.yy O O (q.bU O O) O<|Dm.yy O O (q.bU O O) O<|Dm.yy O O (q.bU O O) O<|U ?_
   refine D.done<|R.rt ?_
   (rfl)
  refine Do.k [] [] (q.jg (cm 1 O) O aM Tryz.underlying5 Tryz.underlying9) ?_
  refine D.two (i:=2) (j:=4) O O ?_ ?_
  .
   refine Do.k [] [] (q.jg (cm 0 O) O aM Tryz.underlying5 Tryz.underlying9) ?_
   refine D.p 4 O [] [] (s.c (q.call ff O O (fun w hw=>df n w ae)) O) fun _=>?_
   refine D.l j2 [] [] O<|Dm.yy O O (q.bU O O) O<|Dm.yy O O (q.bU O O) O<|Dm.yy O O (q.bU O O) O<|U ?_
   refine D.done<|R.rt ?_
   (rfl)
  refine Do.p [] [] (s.c (q.call ff O O (fun w hw=>df n w ae)) O) fun _=>?_
  refine D.k 2 O [] [] (q.jg (cm 0 O) O aM Tryz.underlying5 Tryz.underlying9) ?_
  refine D.l j2 [] [] O<|Dm.yy O O (q.bU O O) O<|Dm.yy O O (q.bU O O) O<|Dm.yy O O (q.bU O O) O<|U ?_
  refine D.done<|R.rt ?_
  (rfl)
 .
  refine Do.p [] [] (s.c (q.call ff O O (fun w hw=>df n w ae)) O) fun _=>?_
  refine D.two (i:=1) (j:=14) O O ?_ ?_
  .
   refine Do.p [] [] (s.bs (l:=([u8 k]:List UInt8)) aM dH O O O O O (bO (eR ae) eM) O) fun b15=>?_
   refine D.two (i:=2) (j:=14) O O ?_ ?_
   .
    refine Do.k [] [] (q.jg (cm 0 O) O aM Tryz.underlying5 Tryz.underlying9) ?_
    refine D.l [5] [] [] O<|Dm.yy O O (q.bU O O) O<|U ?_
    refine D.k 14 O [] [] (q.jg (cm 1 O) O aM Tryz.underlying5 Tryz.underlying9) ?_
    refine D.l [15,17,18] [] [] O<|Dm.yy O O (q.bU O O) O<|Dm.yy O O (q.bU O O) O<|U ?_
    refine D.done<|R.rt ?_
    (rfl)
   refine Do.k [] [] (q.jg (cm 1 O) O aM Tryz.underlying5 Tryz.underlying9) ?_
   refine D.k 2 O [] [] (q.jg (cm 0 O) O aM Tryz.underlying5 Tryz.underlying9) ?_
   refine D.l j2 [] [] O<|Dm.yy O O (q.bU O O) O<|Dm.yy O O (q.bU O O) O<|Dm.yy O O (q.bU O O) O<|U ?_
   refine D.done<|R.rt ?_
   (rfl)
  refine Do.k [] [] (q.jg (cm 0 O) O aM Tryz.underlying5 Tryz.underlying9) ?_
  refine D.p 1 O [] [] (s.bs (l:=([u8 k]:List UInt8)) aM dH O O O O O (bO (eR ae) eM) O) fun b16=>?_
  refine D.k 2 O [] [] (q.jg (cm 0 O) O aM Tryz.underlying5 Tryz.underlying9) ?_
  refine D.l j2 [] [] O<|Dm.yy O O (q.bU O O) O<|Dm.yy O O (q.bU O O) O<|Dm.yy O O (q.bU O O) O<|U ?_
  refine D.done<|R.rt ?_
  (rfl)
 refine Do.k [] [] (q.jg (cm 0 O) O aM Tryz.underlying5 Tryz.underlying9) ?_
 refine D.two (i:=1) (j:=4) O O ?_ ?_
 .
  refine Do.p [] [] (s.bs (l:=([u8 k]:List UInt8)) aM dH O O O O O (bO (eR ae) eM) O) fun b17=>?_
  refine D.two (i:=2) (j:=4) O O ?_ ?_
  .
   refine Do.k [] [] (q.jg (cm 0 O) O aM Tryz.underlying5 Tryz.underlying9) ?_
   refine D.p 4 O [] [] (s.c (q.call ff O O (fun w hw=>df n w ae)) O) fun _=>?_
   refine D.l j2 [] [] O<|Dm.yy O O (q.bU O O) O<|Dm.yy O O (q.bU O O) O<|Dm.yy O O (q.bU O O) O<|U ?_
   refine D.done<|R.rt ?_
   (rfl)
  refine Do.p [] [] (s.c (q.call ff O O (fun w hw=>df n w ae)) O) fun _=>?_
  refine D.k 2 O [] [] (q.jg (cm 0 O) O aM Tryz.underlying5 Tryz.underlying9) ?_
  refine D.l j2 [] [] O<|Dm.yy O O (q.bU O O) O<|Dm.yy O O (q.bU O O) O<|Dm.yy O O (q.bU O O) O<|U ?_
  refine D.done<|R.rt ?_
  (rfl)
 refine Do.p [] [] (s.c (q.call ff O O (fun w hw=>df n w ae)) O) fun _=>?_
 refine D.p 1 O [] [] (s.bs (l:=([u8 k]:List UInt8)) aM dH O O O O O (bO (eR ae) eM) O) fun b18=>?_
 refine D.k 2 O [] [] (q.jg (cm 0 O) O aM Tryz.underlying5 Tryz.underlying9) ?_
 refine D.l j2 [] [] O<|Dm.yy O O (q.bU O O) O<|Dm.yy O O (q.bU O O) O<|Dm.yy O O (q.bU O O) O<|U ?_
 refine D.done<|R.rt ?_
 rfl
theorem yH (bu:Nat)(yI:Nat)(lg:Lg)(w:World)(ER:(ah.box bu [pV yI,iV lg.From,iV lg.Many,iV lg.First,iV lg.Next] 193).ok w)(hb:0<=lg.Many/\lg.Many<=1000000000/\0<=lg.Next/\lg.Next<=1000000000):Calls Tryz.prog 121 #[pV bu] w fun e w'=>e = .returned (iV (lg.Many-lg.Next))/\Ext w w':=by
 refine R.enter [] [(0,pV bu)] Tryz.func121 O O O O<|R.nH (r:=ah.box bu [pV yI,iV lg.From,iV lg.Many,iV lg.First,iV lg.Next] 193) ER (jf ER)<|U ?_
 refine R.cG O mixed ao<|U ?_
 refine Q.q (q.zu 0 O O dX O) O<|U ?_
 refine Q.q (q.zu 0 O O dX O) O<|Q.q (q.jY (r:=lg.Many-lg.Next) O O) O<|U ?_
 refine R.rt ?_
 rfl
theorem ES (bu:Nat)(yI:Nat)(lg:Lg)(w:World)(ER:(ah.box bu [pV yI,iV lg.From,iV lg.Many,iV lg.First,iV lg.Next] 193).ok w)(hb:0<=lg.Many/\lg.Many<=1000000000/\0<=lg.First/\lg.First<=1000000000):Calls Tryz.prog 69 #[pV bu] w fun e w'=>e = .returned (iV (lg.First+lg.Many))/\Ext w w':=by
 refine R.enter [] [(0,pV bu)] Tryz.func69 O O O O<|R.nH (r:=ah.box bu [pV yI,iV lg.From,iV lg.Many,iV lg.First,iV lg.Next] 193) ER (jf ER)<|U ?_
 refine R.cG O mixed ao<|U ?_
 refine Q.q (q.zu 0 O O dX O) O<|U ?_
 refine Q.q (q.zu 0 O O dX O) O<|U ?_
 refine R.rt ?_
 rfl
theorem Mw (bu:Nat)(lg:Lg)(i:Nat)(aF:Nat)(ay aC az:Value)(dk:bZ)(w:World)(ER:(ah.box bu [pV aF,iV lg.From,iV lg.Many,iV lg.First,iV lg.Next] 193).ok w)(yD:(ah.box aF [ay,aC,az,iV dk.Fuse,.bool dk.Down] 120).ok w)(jq:Sl w ay (dk.Kept:List ByteArray))(kz:Sl w aC (dk.Now:List ByteArray))(jr:Sl w az (dk.Wait:List Turn))(hb : -1000000000<=lg.From/\lg.From<=1000000000/\0<=lg.First/\lg.First<=8000000000000000000/\i<=1000000000)(hr:(cC dk (lg.From+(i:Int))).2=0)(hs:(cC dk (lg.From+(i:Int))).1.size=48):Calls Tryz.prog 131 #[pV bu,iV (i:Int)] w fun e w'=>e = .returned (.tuple #[.int .u8 (pB (cC dk (lg.From+(i:Int))).1 (lg.First+(i:Int)):Int),.string (jP (cC dk (lg.From+(i:Int))).1 (lg.First+(i:Int))),.bool (iw (cC dk (lg.From+(i:Int))).1 (lg.First+(i:Int)))])/\Ext w w':=by
 refine R.enter [] [(0,pV bu),(1,iV (i:Int))] Tryz.func131 O O O O<|R.pQ jq<|R.pQ kz<|R.pQ jr<|R.nH (r:=ah.box bu [pV aF,iV lg.From,iV lg.Many,iV lg.First,iV lg.Next] 193) ER (jf ER)<|R.nH (r:=ah.box aF [ay,aC,az,iV dk.Fuse,.bool dk.Down] 120) yD (jf yD)<|U ?_
 refine R.cG O mixed ao<|U ?_
 refine Q.q (q.zu 1 O O oQ O) O<|U ?_
 refine Q.q (q.zu 1 O O dX O) O<|U ?_
 refine Q.c (q.call U3 O O (fun w hw=>uN aF ay aC az dk (lg.From+(i:Int)) w (hw.f 0 O) (hw.cq 4 O) (hw.cq 3 O) (hw.cq 2 O))) O<|U ?_
 refine C (((cC dk (lg.From+(i:Int))).1.extract 1 5)=bW (lg.First+(i:Int))) ?_ ?_ <;> intro h1
 .
  obtain ⟨y1,hy1⟩:∃z,(cC dk (lg.From+(i:Int))).1.data[0]? = some z:=⟨_,Array.getElem?_eq_getElem (show 0<(cC dk (lg.From+(i:Int))).1.size from by omega)⟩
  have Vi:=y1.toNat_lt
  refine C (y1.toNat=111) ?_ ?_ <;> intro h2
  .
   refine R.cG O mixed ao<|U ?_
   refine Q.qg O (q.Dq (i:=1) (j:=5) O O O Tryz.underlying9 O O ae ae) O<|U ?_
   refine Q.qg O (q.zu 1 O O dX O) O<|U ?_
   refine Q.cg O (q.call ff O O (fun w hw=>df (lg.First+(i:Int)) w ae)) O<|Q.qg O (q.pw O O h1) O<|U ?_
   refine Q.qg O (q.gW (i:=0) O O Tryz.underlying9 O hy1) O<|U ?_
   obtain ⟨y2,hy2⟩:∃z,(cC dk (lg.From+(i:Int))).1.data[5]? = some z:=⟨_,Array.getElem?_eq_getElem (show 5<(cC dk (lg.From+(i:Int))).1.size from by omega)⟩
   have Vj:=y2.toNat_lt
   obtain ⟨y3,hy3⟩:∃z,(cC dk (lg.From+(i:Int))).1.data[6]? = some z:=⟨_,Array.getElem?_eq_getElem (show 6<(cC dk (lg.From+(i:Int))).1.size from by omega)⟩
   have Wc:=y3.toNat_lt
   refine R.cG O mixed ao<|U ?_
   refine Q.q (q.gW (i:=5) O O Tryz.underlying9 O hy2) O<|Q.q (q.mJ (r:=((y2.toNat:Nat):Int)) O (by rw [Tryz.underlying5];rfl) Tryz.underlying3 (wr ae)) O<|U ?_
   refine Q.q (q.gW (i:=6) O O Tryz.underlying9 O hy3) O<|Q.q (q.mJ (r:=((y3.toNat:Nat):Int)) O (by rw [Tryz.underlying5];rfl) Tryz.underlying3 (wr ae)) O<|Q.q (q.ug (r:=((256*y3.toNat:Nat):Int)) O O) O<|U ?_
   refine C (41<(y2.toNat+(256*y3.toNat))) ?_ ?_ <;> intro h3
   .exact R.Te O Tryz.results131 O O O (Tq (by rw [(jC (nU (by unfold cz;rw [aH hy2,aH hy3];omega))).1];rfl)) (rS (by rw [(jC (nU (by unfold cz;rw [aH hy2,aH hy3];omega))).2])) (rB (by exact (nU (by unfold cz;rw [aH hy2,aH hy3];omega)).symm))
   refine R.cG O mixed ao<|U ?_
   refine Q.q (q.gW (i:=0) O O Tryz.underlying9 O hy1) O<|U ?_
   refine Q.q (q.Dq (i:=7) (j:=(7+(y2.toNat+(256*y3.toNat)))) O O O Tryz.underlying9 O O ae ae) O<|U ?_
   exact R.Te O Tryz.results131 O O O (Tq (by rw [(jD (kY af (by rw [aH hy1];omega) (by unfold cz;rw [aH hy2,aH hy3];omega))).1,aH hy1])) (rS (by rw [(jD (kY af (by rw [aH hy1];omega) (by unfold cz;rw [aH hy2,aH hy3];omega))).2];unfold ry cz;rw [aH hy2,aH hy3])) (rB (by exact (kY af (by rw [aH hy1];omega) (by unfold cz;rw [aH hy2,aH hy3];omega)).symm))
  refine C (y1.toNat=99) ?_ ?_ <;> intro h4
  .
   refine R.cG O mixed ao<|U ?_
   refine Q.qg O (q.Dq (i:=1) (j:=5) O O O Tryz.underlying9 O O ae ae) O<|U ?_
   refine Q.qg O (q.zu 1 O O dX O) O<|U ?_
   refine Q.cg O (q.call ff O O (fun w hw=>df (lg.First+(i:Int)) w ae)) O<|Q.qg O (q.pw O O h1) O<|U ?_
   refine Q.qg O (q.gW (i:=0) O O Tryz.underlying9 O hy1) O<|U ?_
   refine Q.qg O (q.gW (i:=0) O O Tryz.underlying9 O hy1) O<|U ?_
   obtain ⟨y4,hy4⟩:∃z,(cC dk (lg.From+(i:Int))).1.data[5]? = some z:=⟨_,Array.getElem?_eq_getElem (show 5<(cC dk (lg.From+(i:Int))).1.size from by omega)⟩
   have X3:=y4.toNat_lt
   obtain ⟨y5,Gw⟩:∃z,(cC dk (lg.From+(i:Int))).1.data[6]? = some z:=⟨_,Array.getElem?_eq_getElem (show 6<(cC dk (lg.From+(i:Int))).1.size from by omega)⟩
   have Y3:=y5.toNat_lt
   refine R.cG O mixed ao<|U ?_
   refine Q.q (q.gW (i:=5) O O Tryz.underlying9 O hy4) O<|Q.q (q.mJ (r:=((y4.toNat:Nat):Int)) O (by rw [Tryz.underlying5];rfl) Tryz.underlying3 (wr ae)) O<|U ?_
   refine Q.q (q.gW (i:=6) O O Tryz.underlying9 O Gw) O<|Q.q (q.mJ (r:=((y5.toNat:Nat):Int)) O (by rw [Tryz.underlying5];rfl) Tryz.underlying3 (wr ae)) O<|Q.q (q.ug (r:=((256*y5.toNat:Nat):Int)) O O) O<|U ?_
   refine C (41<(y4.toNat+(256*y5.toNat))) ?_ ?_ <;> intro h5
   .exact R.Te O Tryz.results131 O O O (Tq (by rw [(jC (nU (by unfold cz;rw [aH hy4,aH Gw];omega))).1];rfl)) (rS (by rw [(jC (nU (by unfold cz;rw [aH hy4,aH Gw];omega))).2])) (rB (by exact (nU (by unfold cz;rw [aH hy4,aH Gw];omega)).symm))
   refine R.cG O mixed ao<|U ?_
   refine Q.q (q.gW (i:=0) O O Tryz.underlying9 O hy1) O<|U ?_
   refine Q.q (q.Dq (i:=7) (j:=(7+(y4.toNat+(256*y5.toNat)))) O O O Tryz.underlying9 O O ae ae) O<|U ?_
   exact R.Te O Tryz.results131 O O O (Tq (by rw [(jD (kY af (by rw [aH hy1];omega) (by unfold cz;rw [aH hy4,aH Gw];omega))).1,aH hy1])) (rS (by rw [(jD (kY af (by rw [aH hy1];omega) (by unfold cz;rw [aH hy4,aH Gw];omega))).2];unfold ry cz;rw [aH hy4,aH Gw])) (rB (by exact (kY af (by rw [aH hy1];omega) (by unfold cz;rw [aH hy4,aH Gw];omega)).symm))
  refine R.cG O mixed ao<|U ?_
  refine Q.qg O (q.Dq (i:=1) (j:=5) O O O Tryz.underlying9 O O ae ae) O<|U ?_
  refine Q.qg O (q.zu 1 O O dX O) O<|U ?_
  refine Q.cg O (q.call ff O O (fun w hw=>df (lg.First+(i:Int)) w ae)) O<|Q.qg O (q.pw O O h1) O<|U ?_
  refine Q.qg O (q.gW (i:=0) O O Tryz.underlying9 O hy1) O<|U ?_
  refine Q.qg O (q.gW (i:=0) O O Tryz.underlying9 O hy1) O<|U ?_
  exact R.Te O Tryz.results131 O O O (Tq (by rw [(jC (yh (by rw [aH hy1];omega) (by rw [aH hy1];omega))).1];rfl)) (rS (by rw [(jC (yh (by rw [aH hy1];omega) (by rw [aH hy1];omega))).2])) (rB (by exact (yh (by rw [aH hy1];omega) (by rw [aH hy1];omega)).symm))
 refine R.cG O mixed ao<|U ?_
 refine Q.qg O (q.Dq (i:=1) (j:=5) O O O Tryz.underlying9 O O ae ae) O<|U ?_
 refine Q.qg O (q.zu 1 O O dX O) O<|U ?_
 refine Q.cg O (q.call ff O O (fun w hw=>df (lg.First+(i:Int)) w ae)) O<|Q.qg O (q.rG O O h1) O<|U ?_
 exact R.Te O Tryz.results131 O O O (Tq (by rw [(jC (yg af)).1];rfl)) (rS (by rw [(jC (yg af)).2])) (rB (by exact (yg af).symm))
theorem ET (aF:Nat)(ay aC az:Value)(dk:bZ)(fI:Int)(many:Int)(first:Int)(w:World)(own:List Nat)(H:HN w own [ah.box aF [ay,aC,az,iV dk.Fuse,.bool dk.Down] 120,ah.row 9 ay dk.Kept,ah.row 9 aC dk.Now,ah.row 196 az dk.Wait] [])(hb:0<=fI/\1<=many/\fI+many<=(dk.Now.length:Int)/\1<=first/\first<=4000000000000000000)(hd:dk.Down=false)(hD:fx dk.Now.length 90000 dk/\dk.Now.length<=100000):RC Tryz.prog 74 #[pV aF,iV fI,iV many,iV first] H (fun z:Value×Value×Value×Nat×Value×List jO => .tuple #[pV z.2.2.2.1,z.2.2.2.2.1,.nilIface]) (fun z=>[ah.box aF [z.1,z.2.1,z.2.2.1,iV dk.Fuse,.bool dk.Down] 120,ah.row 9 z.1 dk.Kept,ah.row 9 z.2.1 dk.Now,ah.row 196 z.2.2.1 dk.Wait,ah.box z.2.2.2.1 [pV aF,iV (⟨fI,many,first,(eZ dk fI (Int.toNat many) first:Int)⟩:Lg).From,iV (⟨fI,many,first,(eZ dk fI (Int.toNat many) first:Int)⟩:Lg).Many,iV (⟨fI,many,first,(eZ dk fI (Int.toNat many) first:Int)⟩:Lg).First,iV (⟨fI,many,first,(eZ dk fI (Int.toNat many) first:Int)⟩:Lg).Next] 193]) (fun z=>[ah.ls z.2.2.2.2.1 z.2.2.2.2.2,ah.qi (z.2.2.2.2.2:List jO) (kZ dk fI (Int.toNat many) first)]):=by
 have eo:=H.cap 1 rfl;have eu:=H.cz 1 rfl
 have e8:=H.cap 2 rfl;have e9:=H.cz 2 rfl
 have ew:=H.cap 3 rfl;have ey:=H.cz 3 rfl
 obtain ⟨manyN,Gx⟩:∃m:Nat,many=(m:Int):=⟨many.toNat,ae⟩;subst Gx
 refine R.eN H ?_
 refine R.kc O O (fun w hw=>fN aF ay aC az dk w (hw.b 0 O) (hw.row 1 O) (hw.row 2 O) (hw.row 3 O))<|U ?_
 refine R.kc O O (fun w hw=>fN aF ay aC az dk w (hw.b 0 O) (hw.row 1 O) (hw.row 2 O) (hw.row 3 O))<|U ?_
 refine R.qg O (q.jY (r:=(dk.Now.length:Int)-(manyN:Int)) O O) O<|U ?_
 refine R.kc O O (fun w hw=>cv (congrArg Value.bool hd) (AP aF ay aC az dk w (hw.b 0 O) (hw.row 1 O) (hw.row 2 O) (hw.row 3 O)))<|U ?_
 refine R.nb fun b1=>?_
 refine R.mp (fun _ hw=>hw.Ut)<|R.row0 (α:=jO) 34<|R.row0 (α:=Change) 115<|R.loop (fun g_:Nat×Nat×Value×(List jO)×Value×(List Change)=>[(11,pV b1),(12,g_.2.2.1),(13,g_.2.2.2.2.1),(54,iV (manyN:Int)),(55,iV (g_.1:Int))]) (fun g_=>[ah.row 115 g_.2.2.2.2.1 g_.2.2.2.2.2,ah.row 34 g_.2.2.1 g_.2.2.2.1,ah.box b1 [pV aF,iV fI,iV (manyN:Int),iV first,iV (g_.2.1:Int)] 193,ah.box aF [ay,aC,az,iV dk.Fuse,.bool dk.Down] 120,ah.row 9 ay dk.Kept,ah.row 9 aC dk.Now,ah.row 196 az dk.Wait,ah.held w own]) (fun g_=>[ah.mb (g_.2.2.2.1:List jO),ah.mb ([]:List jO)]) (fun g_=>g_.1<=manyN/\gS ((qj dk fI manyN).drop g_.1) (first+(g_.1:Int)) (g_.2.2.2.1.map jO.L) g_.2.2.2.2.2 g_.2.1 g_.1=scan (qj dk fI manyN) first/\g_.2.2.2.2.2.length<=g_.1/\g_.2.2.2.1.length<=g_.1/\g_.2.1<=g_.1) (fun g_=>manyN-g_.1) (0,0,nS,[],nS,[]) O (by (try dsimp only);exact ⟨ae,by show gS _ (first+0) _ _ _ _=_;rw [Int.add_zero];rfl,bC,bC,bC⟩) (sF O) (dE bL [0,0] O) ?_
 rintro ⟨i,u,qo,ob,qd,dd⟩ ⟨hi,HS,hdl,hol,YF⟩
 dsimp only at *
 refine U ?_
 refine C (i<manyN) ?_ ?_ <;> intro h1
 .
  have hrd:=yj hD.1 hd (i:=fI+(i:Int)) ae ae;obtain ⟨hrd,hsz⟩:=hrd;have hlx:=Gh (n:=first+(i:Int)) hsz
  refine U ?_
  refine R.kc O O (fun w hw=>cv (show (.tuple #[.int .u8 (pB (cC dk ((⟨fI,(manyN:Int),first,(u:Int)⟩:Lg).From+(i:Int))).1 ((⟨fI,(manyN:Int),first,(u:Int)⟩:Lg).First+(i:Int)):Int),.string (jP (cC dk ((⟨fI,(manyN:Int),first,(u:Int)⟩:Lg).From+(i:Int))).1 ((⟨fI,(manyN:Int),first,(u:Int)⟩:Lg).First+(i:Int))),.bool (iw (cC dk ((⟨fI,(manyN:Int),first,(u:Int)⟩:Lg).From+(i:Int))).1 ((⟨fI,(manyN:Int),first,(u:Int)⟩:Lg).First+(i:Int)))]:Value) = .tuple #[.int .u8 (pB (cC dk (fI+(i:Int))).1 (first+(i:Int)):Int),.string (jP (cC dk (fI+(i:Int))).1 (first+(i:Int))),.bool (iw (cC dk (fI+(i:Int))).1 (first+(i:Int)))] from O) (Mw b1 (⟨fI,(manyN:Int),first,(u:Int)⟩:Lg) i aF ay aC az dk w (hw.b 2 O) (hw.b 3 O) (hw.row 4 O) (hw.row 5 O) (hw.row 6 O) aG af af))<|U ?_
  refine R.q (q.not O) O<|U ?_
  rcases Bool.eq_false_or_eq_true (iw (cC dk (fI+(i:Int))).1 (first+(i:Int))) with h2|h2
  .
   rw [h2]
   refine U ?_
   refine C (pB (cC dk (fI+(i:Int))).1 (first+(i:Int))=99) ?_ ?_ <;> intro h3
   .
    refine R.kc O O (fun w hw=>df (dd.length:Int) w ae)<|C (jP (cC dk (fI+(i:Int))).1 (first+(i:Int))=bW (dd.length:Int)) ?_ ?_ <;> intro h4
    .
     refine R.qg O (q.pw O O h4) O<|U ?_
     refine R.s O (s.YT (l:=([(⟨qd,dd⟩:jO)]:List jO)) OB LU O O O O O (fun w hw=>Jt (hw.row 0 O)) O) fun b2=>?_
     refine R.ap fun v1=>?_
     refine R.mp (fun _ hw=>hw.aR 1 _ O O)<|R.mp (fun _ hw=>hw.Ox 1 0 O O)<|R.row0 (α:=Change) 115<|R.back (i+1,i+1,v1,ob++([(⟨qd,dd⟩:jO)]),nS,[]) O (by (try dsimp only);exact ⟨ae,by rw [List.map_append];exact LG HS (qQ ae) (Rw af af af),bC,aE,ae⟩) aG (sF O) (ck [0,2,3,4,5,6,7,8] [0,3] O)
    refine R.qg O (q.rG O O h4) O<|U ?_
    refine R.mp (fun _ hw=>hw.Cd 0 O)<|R.mp (fun _ hw=>hw.aR 1 _ O O) ?_
    have hz:(dk,(⟨fI,((manyN:Nat):Int),first,(eZ dk fI (Int.toNat ((manyN:Nat):Int)) first:Int)⟩:Lg),kZ dk fI (Int.toNat ((manyN:Nat):Int)) first)=(dk,(⟨fI,(manyN:Int),first,(u:Int)⟩:Lg),(ob.map jO.L)):=by ((try dsimp only);have e:=B3 HS (qQ ae) (Ew (k:=(dd.length:Int)) af af af).1 (Ew (k:=(dd.length:Int)) af af af).2;unfold eZ kZ;rw [show Int.toNat ((manyN:Nat):Int)=manyN from rfl,e])
    have hz0:((manyN:Nat):Int)=(manyN:Int):=congrArg (fun t_=>t_.2.1.Many) hz
    rw [hz0]
    have hz1:(eZ dk fI (Int.toNat ((manyN:Nat):Int)) first:Int)=(u:Int):=congrArg (fun t_=>t_.2.1.Next) hz
    rw [hz1]
    have hz2:kZ dk fI (Int.toNat ((manyN:Nat):Int)) first=(ob.map jO.L):=congrArg (fun t_=>t_.2.2) hz
    rw [hz2]
    exact R.x3 (ay,aC,az,b1,qo,ob) [2,3,4,5,1,6] [0,1]
   refine R.kc O O (fun w hw=>CB (jP (cC dk (fI+(i:Int))).1 (first+(i:Int))) w ae)<|U ?_
   refine R.nb fun b3=>?_
   refine C ((sh (jP (cC dk (fI+(i:Int))).1 (first+(i:Int)))).2=0) ?_ ?_ <;> intro h5
   .
    refine R.s O (s.bs (l:=([(sh (jP (cC dk (fI+(i:Int))).1 (first+(i:Int)))).1]:List Change)) bX bR O O O O O O O) fun b4=>?_
    refine R.ap fun v2=>?_
    refine R.back (i+1,u,qo,ob,v2,(dd++([(sh (jP (cC dk (fI+(i:Int))).1 (first+(i:Int)))).1]))) O (by ((try dsimp only);have e:=Rx (k:=(dd.length:Int)) af af af;exact ⟨ae,by rw [e.2.2];exact Oo HS (qQ ae) e.1 e.2.1,aE,ae,ae⟩)) aG (sF O) (ck zW [0,1] O)
   refine R.mp (fun _ hw=>hw.Cd 0 O)<|R.mp (fun _ hw=>hw.aR 2 _ O O) ?_
   have hz:(dk,(⟨fI,((manyN:Nat):Int),first,(eZ dk fI (Int.toNat ((manyN:Nat):Int)) first:Int)⟩:Lg),kZ dk fI (Int.toNat ((manyN:Nat):Int)) first)=(dk,(⟨fI,(manyN:Int),first,(u:Int)⟩:Lg),(ob.map jO.L)):=by ((try dsimp only);have e:=B3 HS (qQ ae) (Ex (k:=(dd.length:Int)) af af af).1 (Ex (k:=(dd.length:Int)) af af af).2;unfold eZ kZ;rw [show Int.toNat ((manyN:Nat):Int)=manyN from rfl,e])
   have hz0:((manyN:Nat):Int)=(manyN:Int):=congrArg (fun t_=>t_.2.1.Many) hz
   rw [hz0]
   have hz1:(eZ dk fI (Int.toNat ((manyN:Nat):Int)) first:Int)=(u:Int):=congrArg (fun t_=>t_.2.1.Next) hz
   rw [hz1]
   have hz2:kZ dk fI (Int.toNat ((manyN:Nat):Int)) first=(ob.map jO.L):=congrArg (fun t_=>t_.2.2) hz
   rw [hz2]
   exact R.x3 (ay,aC,az,b1,qo,ob) [3,4,5,6,2,7] [0,1]
  rw [h2]
  refine U ?_
  refine R.mp (fun _ hw=>hw.Cd 0 O)<|R.mp (fun _ hw=>hw.aR 1 _ O O) ?_
  have hz:(dk,(⟨fI,((manyN:Nat):Int),first,(eZ dk fI (Int.toNat ((manyN:Nat):Int)) first:Int)⟩:Lg),kZ dk fI (Int.toNat ((manyN:Nat):Int)) first)=(dk,(⟨fI,(manyN:Int),first,(u:Int)⟩:Lg),(ob.map jO.L)):=by ((try dsimp only);have e:=B3 HS (qQ ae) (Ev (k:=(dd.length:Int)) af).1 (Ev (k:=(dd.length:Int)) af).2;unfold eZ kZ;rw [show Int.toNat ((manyN:Nat):Int)=manyN from rfl,e])
  have hz0:((manyN:Nat):Int)=(manyN:Int):=congrArg (fun t_=>t_.2.1.Many) hz
  rw [hz0]
  have hz1:(eZ dk fI (Int.toNat ((manyN:Nat):Int)) first:Int)=(u:Int):=congrArg (fun t_=>t_.2.1.Next) hz
  rw [hz1]
  have hz2:kZ dk fI (Int.toNat ((manyN:Nat):Int)) first=(ob.map jO.L):=congrArg (fun t_=>t_.2.2) hz
  rw [hz2]
  exact R.x3 (ay,aC,az,b1,qo,ob) [2,3,4,5,1,6] [0,1]
 refine R.mp (fun _ hw=>hw.Cd 0 O)<|R.mp (fun _ hw=>hw.aR 1 _ O O) ?_
 have hz:(dk,(⟨fI,((manyN:Nat):Int),first,(eZ dk fI (Int.toNat ((manyN:Nat):Int)) first:Int)⟩:Lg),kZ dk fI (Int.toNat ((manyN:Nat):Int)) first)=(dk,(⟨fI,(manyN:Int),first,(u:Int)⟩:Lg),(ob.map jO.L)):=by ((try dsimp only);have e:=Rt HS (by rw [qk];omega);unfold eZ kZ;rw [show Int.toNat ((manyN:Nat):Int)=manyN from rfl,e])
 have hz0:((manyN:Nat):Int)=(manyN:Int):=congrArg (fun t_=>t_.2.1.Many) hz
 rw [hz0]
 have hz1:(eZ dk fI (Int.toNat ((manyN:Nat):Int)) first:Int)=(u:Int):=congrArg (fun t_=>t_.2.1.Next) hz
 rw [hz1]
 have hz2:kZ dk fI (Int.toNat ((manyN:Nat):Int)) first=(ob.map jO.L):=congrArg (fun t_=>t_.2.2) hz
 rw [hz2]
 exact R.x3 (ay,aC,az,b1,qo,ob) [2,3,4,5,1,6] [0,1]
theorem OI (bu:Nat)(lg:Lg)(Kq:Value)(c:List Change)(aF:Nat)(ay aC az:Value)(dk:bZ)(w:World)(own:List Nat)(H:HN w own [ah.box bu [pV aF,iV lg.From,iV lg.Many,iV lg.First,iV lg.Next] 193,ah.box aF [ay,aC,az,iV dk.Fuse,.bool dk.Down] 120,ah.row 9 ay dk.Kept,ah.row 9 aC dk.Now,ah.row 196 az dk.Wait] [ah.ls Kq c])(hb:0<=lg.From/\lg.From<=1000000000/\0<=lg.Next/\lg.Next<=1000000000/\0<=lg.First/\lg.First<=4000000000000000000/\0<=lg.Many/\lg.Many<=1000000000)(hl:c.length<=62)(hf:∀x∈c,gu x=0)(hD:fx dk.Now.length 90000 dk/\dk.Now.length<=100000):RC Tryz.prog 188 #[pV bu,Kq] H (fun _:Value×Value×Value=>bN (dG lg dk c).2) (fun z=>[ah.box bu [pV aF,iV lg.From,iV lg.Many,iV lg.First,iV lg.Next] 193,ah.box aF [z.1,z.2.1,z.2.2,iV (dG lg dk c).1.Fuse,.bool (dG lg dk c).1.Down] 120,ah.row 9 z.1 (dG lg dk c).1.Kept,ah.row 9 z.2.1 (dG lg dk c).1.Now,ah.row 196 z.2.2 (dG lg dk c).1.Wait]) (fun _=>[]):=by
 have eo:=H.cap 2 rfl;have eu:=H.cz 2 rfl
 have e8:=H.cap 3 rfl;have e9:=H.cz 3 rfl
 have ew:=H.cap 4 rfl;have ey:=H.cz 4 rfl
 have Y4:=H.aZ 0 rfl
 refine R.eN H ?_
 refine R.cG O mixed ao<|U ?_
 refine R.loop (fun g_:Nat×bZ×Value×Value×Value=>[(0,pV bu),(1,Kq),(5,iV (lg.From+lg.Next)),(20,Kq),(21,iV (c.length:Int)),(22,iV (g_.1:Int))]) (fun g_=>[ah.box bu [pV aF,iV lg.From,iV lg.Many,iV lg.First,iV lg.Next] 193,ah.box aF [g_.2.2.1,g_.2.2.2.1,g_.2.2.2.2,iV g_.2.1.Fuse,.bool g_.2.1.Down] 120,ah.row 9 g_.2.2.1 g_.2.1.Kept,ah.row 9 g_.2.2.2.1 g_.2.1.Now,ah.row 196 g_.2.2.2.2 g_.2.1.Wait,ah.held w own]) (fun g_=>[ah.ls Kq c]) (fun g_=>g_.1<=c.length/\ku lg g_.2.1 (c.drop g_.1) g_.1=ku lg dk c 0/\fx dk.Now.length (90000+g_.1) g_.2.1) (fun g_=>c.length-g_.1) (0,dk,ay,aC,az) O (by (try dsimp only);exact ⟨ae,rfl,hD.1⟩) (sF O) (dE mH [0] O) ?_
 rintro ⟨i,dm,dU,fh,dV⟩ ⟨hi,HL,hO⟩
 dsimp only at *
 have p1:=hO.fine ae ae
 refine U ?_
 refine C (i<c.length) ?_ ?_ <;> intro h1
 .
  obtain ⟨x1,hx1⟩:=gE c i
  have OJ:=Cg (hf x1 (List.mem_of_getElem? hx1));obtain ⟨OJ,X4⟩:=OJ
  refine U ?_
  refine R.nb fun b1=>?_
  refine R.kc O O (fun w hw=>Cz x1 w)<|U ?_
  refine R.dC (fuel:=22) [0,1,6] O O mixed O<|D.l Db [0,1,6] [0] O<|U ?_
  refine D.p 19 O [0,1,6] [0] (s.c (q.call Ml O O (fun w hw=>EP 111 ((lg.First+lg.Next)+(i:Int)) (jZ x1).1 w aD ae ae)) O) fun _=>?_
  refine D.p 20 O [4,5,6] [0] (s.aJ [2,3,4,5,0,1,6] [] _ _ _ O O O vF O O (fun w own hw H=>iA aF dU fh dV dm ((lg.From+lg.Next)+(i:Int)) (dN 111 ((lg.First+lg.Next)+(i:Int)) (jZ x1).1) w own H af) O) ?_
  rintro ⟨z4,z5,z6⟩
  dsimp only
  refine D.l [21] [4,5,6] [0] O<|U ?_
  refine D.done<|U ?_
  refine C ((aP dm ((lg.From+lg.Next)+(i:Int)) (dN 111 ((lg.First+lg.Next)+(i:Int)) (jZ x1).1)).2=0) ?_ ?_ <;> intro h2
  .refine R.back (i+1,(aP dm ((lg.From+lg.Next)+(i:Int)) (dN 111 ((lg.First+lg.Next)+(i:Int)) (jZ x1).1)).1,z4,z5,z6) O (by (try dsimp only);exact ⟨ae,Ry HL hx1 af,hO.write _ _⟩) aG (sF O) (ck [5,0,1,2,3,6] [0] O)
  have hz:(lg,(dG lg dk c).1,(dG lg dk c).2)=(lg,(aP dm ((lg.From+lg.Next)+(i:Int)) (dN 111 ((lg.First+lg.Next)+(i:Int)) (jZ x1).1)).1,(aP dm ((lg.From+lg.Next)+(i:Int)) (dN 111 ((lg.First+lg.Next)+(i:Int)) (jZ x1).1)).2):=by (rw [Jv (LK HL hx1 af).symm af])
  have hz0:(dG lg dk c).1=(aP dm ((lg.From+lg.Next)+(i:Int)) (dN 111 ((lg.First+lg.Next)+(i:Int)) (jZ x1).1)).1:=congrArg (fun t_=>t_.2.1) hz
  rw [hz0]
  have hz1:(dG lg dk c).2=(aP dm ((lg.From+lg.Next)+(i:Int)) (dN 111 ((lg.First+lg.Next)+(i:Int)) (jZ x1).1)).2:=congrArg (fun t_=>t_.2.2) hz
  rw [hz1]
  exact R.x1 (z4,z5,z6) [5,0,1,2,3,6] []
 refine C (((lg.Next+(c.length:Int))+1)<lg.Many) ?_ ?_ <;> intro h3
 .
  refine R.dC (fuel:=12) [0,5] O O mixed O<|D.l j1 [0,5] [0] O<|U ?_
  refine D.p 10 O [4,5] [0] (s.aJ [1,2,3,4,0,5] [] _ _ _ O O O vF O O (fun w own hw H=>iA aF dU fh dV dm (lg.From+((lg.Next+(c.length:Int))+1)) (⟨#[]⟩) w own H af) O) ?_
  rintro ⟨lu,mG,z12⟩
  dsimp only
  refine D.l [11] [4,5] [0] O<|U ?_
  refine D.done ?_
  have hz:(lg,(dG lg dk c).1,(dG lg dk c).2)=(lg,(aP dm (lg.From+((lg.Next+(c.length:Int))+1)) (⟨#[]⟩)).1,(aP dm (lg.From+((lg.Next+(c.length:Int))+1)) (⟨#[]⟩)).2):=by (have e:=Ib HL ae;(rw [LL e af];done))
  have hz0:(dG lg dk c).1=(aP dm (lg.From+((lg.Next+(c.length:Int))+1)) (⟨#[]⟩)).1:=congrArg (fun t_=>t_.2.1) hz
  rw [hz0]
  have hz1:(dG lg dk c).2=(aP dm (lg.From+((lg.Next+(c.length:Int))+1)) (⟨#[]⟩)).2:=congrArg (fun t_=>t_.2.2) hz
  rw [hz1]
  exact R.x1 (lu,mG,z12) [4,0,1,2,3,5] []
 have hz:(lg,(dG lg dk c).1,(dG lg dk c).2)=(lg,dm,0):=by (have e:=Ib HL ae;(rw [Jw e ae];done))
 have hz0:(dG lg dk c).1=dm:=congrArg (fun t_=>t_.2.1) hz
 rw [hz0]
 have hz1:(dG lg dk c).2=0:=congrArg (fun t_=>t_.2.2) hz
 rw [hz1]
 exact R.x1 (dU,fh,dV) mH []
theorem Mx (Gy:Nat)(pl:Unit)(Gz:Nat)(vH:Value)(pc:Wa)(bu:Nat)(lg:Lg)(aF:Nat)(ay aC az:Value)(dk:bZ)(w:World)(own:List Nat)(H:HN w own [ah.box Gy [pV bu] 130,ah.box Gz [vH] 34,ah.box bu [pV aF,iV lg.From,iV lg.Many,iV lg.First,iV lg.Next] 193,ah.box aF [ay,aC,az,iV dk.Fuse,.bool dk.Down] 120,ah.row 9 ay dk.Kept,ah.row 9 aC dk.Now,ah.row 196 az dk.Wait] [ah.ls vH pc.C])(hb:0<=lg.From/\lg.From<=1000000000/\0<=lg.Next/\lg.Next<=1000000000/\0<=lg.First/\lg.First<=4000000000000000000/\0<=lg.Many/\lg.Many<=1000000000)(hl:pc.C.length<=62)(hf:∀x∈pc.C,gu x=0)(hD:fx dk.Now.length 90000 dk/\dk.Now.length<=100000):RC Tryz.prog 187 #[pV Gy,pV Gz] H (fun _:Value×Value×Value×Value=>bN (dG lg dk pc.C).2) (fun z=>[ah.box Gy [pV bu] 130,ah.box Gz [z.1] 34,ah.box bu [pV aF,iV lg.From,iV lg.Many,iV lg.First,iV lg.Next] 193,ah.box aF [z.2.1,z.2.2.1,z.2.2.2,iV (dG lg dk pc.C).1.Fuse,.bool (dG lg dk pc.C).1.Down] 120,ah.row 9 z.2.1 (dG lg dk pc.C).1.Kept,ah.row 9 z.2.2.1 (dG lg dk pc.C).1.Now,ah.row 196 z.2.2.2 (dG lg dk pc.C).1.Wait]) (fun z=>[ah.ls z.1 pc.C]):=by
 have eo:=H.cap 4 rfl;have eu:=H.cz 4 rfl
 have e8:=H.cap 5 rfl;have e9:=H.cz 5 rfl
 have ew:=H.cap 6 rfl;have ey:=H.cz 6 rfl
 have Sr:=H.aZ 0 rfl
 refine R.eN H ?_
 refine R.s O (s.aJ [2,3,4,5,6,0,1,7] [0] _ _ _ O O O R5 O O (fun w own hw H=>OI bu lg vH pc.C aF ay aC az dk w own H af ae af af) O) ?_
 rintro ⟨z1,z2,z3⟩
 dsimp only
 refine U ?_
 have hz:((),pc,lg,(dG lg dk pc.C).1,(dG lg dk pc.C).2)=((),pc,lg,(dG lg dk pc.C).1,(dG lg dk pc.C).2):=by (rfl)
 exact R.x1 (vH,z1,z2,z3) [5,6,0,1,2,3,4,7] [0]
theorem My (Gy:Nat)(pl:Unit)(Ss:Nat)(pe:Uv)(Gz:Nat)(vH:Value)(pc:Wa)(bu:Nat)(lg:Lg)(aF:Nat)(ay aC az:Value)(dk:bZ)(w:World)(own:List Nat)(H:HN w own [ah.box Gy [pV bu] 130,ah.box Ss [iV pe.E] 3,ah.box Gz [vH] 34,ah.box bu [pV aF,iV lg.From,iV lg.Many,iV lg.First,iV lg.Next] 193,ah.box aF [ay,aC,az,iV dk.Fuse,.bool dk.Down] 120,ah.row 9 ay dk.Kept,ah.row 9 aC dk.Now,ah.row 196 az dk.Wait] [ah.ls vH pc.C])(hb:0<=lg.From/\lg.From<=1000000000/\0<=lg.Next/\lg.Next<=1000000000/\0<=lg.First/\lg.First<=4000000000000000000/\0<=lg.Many/\lg.Many<=1000000000)(he:0<=pe.E/\pe.E<=2000000000)(hl:pc.C.length<=62)(hD:fx dk.Now.length 91000 dk/\dk.Now.length<=100000):RC Tryz.prog 189 #[pV Gy,pV Ss,pV Gz] H (fun _:Value×Value×Value×Value=>bN (aP dk (lg.From+pe.E) (dN 99 (lg.First+pe.E) (bW (pc.C.length:Int)))).2) (fun z=>[ah.box Gy [pV bu] 130,ah.box Ss [iV pe.E] 3,ah.box Gz [z.1] 34,ah.box bu [pV aF,iV lg.From,iV lg.Many,iV lg.First,iV lg.Next] 193,ah.box aF [z.2.1,z.2.2.1,z.2.2.2,iV (aP dk (lg.From+pe.E) (dN 99 (lg.First+pe.E) (bW (pc.C.length:Int)))).1.Fuse,.bool (aP dk (lg.From+pe.E) (dN 99 (lg.First+pe.E) (bW (pc.C.length:Int)))).1.Down] 120,ah.row 9 z.2.1 ((aP dk (lg.From+pe.E) (dN 99 (lg.First+pe.E) (bW (pc.C.length:Int)))).1.Kept:List ByteArray),ah.row 9 z.2.2.1 ((aP dk (lg.From+pe.E) (dN 99 (lg.First+pe.E) (bW (pc.C.length:Int)))).1.Now:List ByteArray),ah.row 196 z.2.2.2 ((aP dk (lg.From+pe.E) (dN 99 (lg.First+pe.E) (bW (pc.C.length:Int)))).1.Wait:List Turn)]) (fun z=>[ah.ls z.1 pc.C]):=by
 have eo:=H.cap 5 rfl;have eu:=H.cz 5 rfl
 have e8:=H.cap 6 rfl;have e9:=H.cz 6 rfl
 have ew:=H.cap 7 rfl;have ey:=H.cz 7 rfl
 have Sr:=H.aZ 0 rfl
 have p1:=hD.1.fine ae ae
 refine R.eN H ?_
 refine R.dC (fuel:=22) [0,1,2,3,8] O O mixed O<|D.l [0,1,2,3,4,5,6,7,8,9,10,11,12,13,14,15,16,17] [0,1,2,3,8] [0] O<|U ?_
 refine D.p 18 O [0,1,2,3,8] [0] (s.c (q.call ff O O (fun w hw=>df (pc.C.length:Int) w ae)) O) fun _=>?_
 refine D.p 19 O [0,1,2,3,8] [0] (s.c (q.call Ml O O (fun w hw=>EP 99 (lg.First+pe.E) (bW (pc.C.length:Int)) w aD ae (by rw [jm];decide))) O) fun _=>?_
 refine D.p 20 O [4,5,6,7,8] [0] (s.aJ [4,5,6,7,0,1,2,3,8] [] _ _ _ O O O vF O O (fun w own hw H=>iA aF ay aC az dk (lg.From+pe.E) (dN 99 (lg.First+pe.E) (bW (pc.C.length:Int))) w own H af) O) ?_
 rintro ⟨z4,z5,z6⟩
 dsimp only
 refine D.l [21] [4,5,6,7,8] [0] O<|U ?_
 refine D.done ?_
 have hz:((),pe,pc,lg,(aP dk (lg.From+pe.E) (dN 99 (lg.First+pe.E) (bW (pc.C.length:Int)))).1,(aP dk (lg.From+pe.E) (dN 99 (lg.First+pe.E) (bW (pc.C.length:Int)))).2)=((),pe,pc,lg,(aP dk (lg.From+pe.E) (dN 99 (lg.First+pe.E) (bW (pc.C.length:Int)))).1,(aP dk (lg.From+pe.E) (dN 99 (lg.First+pe.E) (bW (pc.C.length:Int)))).2):=by (rfl)
 exact R.x1 (vH,z4,z5,z6) [4,5,6,7,0,1,2,3,8] [0]
theorem Iv (bu:Nat)(lg:Lg)(Kq:Value)(c:List Change)(aF:Nat)(ay aC az:Value)(dk:bZ)(w:World)(own:List Nat)(H:HN w own [ah.box bu [pV aF,iV lg.From,iV lg.Many,iV lg.First,iV lg.Next] 193,ah.box aF [ay,aC,az,iV dk.Fuse,.bool dk.Down] 120,ah.row 9 ay dk.Kept,ah.row 9 aC dk.Now,ah.row 196 az dk.Wait] [ah.ls Kq c])(hb:0<=lg.From/\lg.From<=1000000000/\0<=lg.Next/\lg.Next<=1000000000/\0<=lg.First/\lg.First<=4000000000000000000/\0<=lg.Many/\lg.Many<=1000000000)(hD:fx dk.Now.length 80000 dk/\dk.Now.length<=100000):RS Tryz.prog 122 #[pV bu,Kq] H (cw lg dk c) (fun s (_:Value×Value×Value)=>bN s.2.2) (fun s z=>[ah.box bu [pV aF,iV s.1.From,iV s.1.Many,iV s.1.First,iV s.1.Next] 193,ah.box aF [z.1,z.2.1,z.2.2,iV s.2.1.Fuse,.bool s.2.1.Down] 120,ah.row 9 z.1 s.2.1.Kept,ah.row 9 z.2.1 s.2.1.Now,ah.row 196 z.2.2 s.2.1.Wait]) (fun _ _=>[]):=by
 have eo:=H.cap 2 rfl;have eu:=H.cz 2 rfl
 have e8:=H.cap 3 rfl;have e9:=H.cz 3 rfl
 have ew:=H.cap 4 rfl;have ey:=H.cz 4 rfl
 have Y4:=H.aZ 0 rfl
 refine R.eN H ?_
 refine R.nb fun b1=>?_
 refine R.s O (s.T7 O (fun w hw=>Sl.cL (hw.cq 0 O)) O) fun b2=>U ?_
 refine C (62<c.length) ?_ ?_ <;> intro h1
 .
  rw [show cw lg dk c=_ from LN af]
  exact R.x1 (ay,aC,az) [2,3,4,5,6,7] []
 refine C (lg.Many-lg.Next<((c.length+1):Int)) ?_ ?_ <;> intro h2
 .
  refine R.cG O mixed ao<|U ?_
  refine Q.c (q.call Mc O O (fun w hw=>yH bu aF lg w (hw.b 2 O) ae)) O<|U ?_
  rw [show cw lg dk c=_ from LO ae ae]
  exact R.x1 (ay,aC,az) [2,3,4,5,6,7] []
 refine R.cG O mixed ao<|U ?_
 refine Q.c (q.call Mc O O (fun w hw=>yH bu aF lg w (hw.b 2 O) ae)) O<|U ?_
 refine R.loop (fun i:Nat=>[(2,pV b1),(3,pV b2),(23,Kq),(24,iV (c.length:Int)),(25,iV (i:Int))]) (fun i:Nat=>[ah.box b2 [Kq] 34,ah.box b1 [pV bu] 130,ah.box bu [pV aF,iV lg.From,iV lg.Many,iV lg.First,iV lg.Next] 193,ah.box aF [ay,aC,az,iV dk.Fuse,.bool dk.Down] 120,ah.row 9 ay dk.Kept,ah.row 9 aC dk.Now,ah.row 196 az dk.Wait,ah.held w own]) (fun i:Nat=>[ah.ls Kq c]) (fun i:Nat=>i<=c.length/\gI (c.drop i)=gI c) (fun i:Nat=>c.length-i) 0 O (by exact ⟨ae,rfl⟩) (sF O) (dE bL [0] O) ?_
 rintro i ⟨hi,HL⟩
 refine U ?_
 refine C (i<c.length) ?_ ?_ <;> intro h3
 .
  obtain ⟨x1,hx1⟩:=gE c i
  have OJ:=i7 x1
  refine U ?_
  refine R.nb fun b3=>?_
  refine R.kc O O (fun w hw=>iG x1 w)<|U ?_
  refine C (gu x1=0) ?_ ?_ <;> intro h4
  .refine R.back (i+1) O (by exact ⟨ae,LM HL hx1 ae⟩) ae (sF O) (ck sI [0] O)
  rw [show cw lg dk c=_ from Jx af ae (Ci HL hx1 af) af]
  exact R.x1 (ay,aC,az) mL []
 have g0:gI c=0:=Gi HL ae;have g1:=Ii (lg:=lg) af ae g0;have g2:=qR g0
 refine R.dC (fuel:=9) bL O O mixed O<|D.l jF bL [0] O<|U ?_
 refine D.p 7 O sI [0] (s.alloc jQ O O) fun b4=>?_
 refine D.p 8 O sI [0] (s.st 0 _ O O O O (.inr ⟨dX,rfl⟩) O O O O) fun _=>?_
 refine D.done ?_
 have a0:fx dk.Now.length 90000 dk/\dk.Now.length<=100000:=⟨hD.1.up ae,hD.2⟩;have a2:fx dk.Now.length 90000 (dG lg dk c).1:=(Ch (lg:=lg) (c:=c) hD.1).up ae;have n2:=a2.nl;have q2:=a2.fine ae ae
 have a3:fx dk.Now.length 90000 (aN (dG lg dk c).1).1:=a2.flush;have n3:(aN (dG lg dk c).1).1.Now.length=dk.Now.length:=a3.nl;have q3:fx (aN (dG lg dk c).1).1.Now.length 91000 (aN (dG lg dk c).1).1/\(aN (dG lg dk c).1).1.Now.length<=100000:=⟨n3▸a3.up ae,ae⟩
 have a4:fx dk.Now.length 90001 (aP (aN (dG lg dk c).1).1 (lg.From+(lg.Next+(c.length:Int))) (dN 99 (lg.First+(lg.Next+(c.length:Int))) (bW (c.length:Int)))).1:=a3.write _ _;have n4:=a4.nl;have q4:=a4.fine ae ae
 refine R.dC (fuel:=15) cy O O mixed O<|D.l [0,1,2,3,4,5,6,7,8,9,10,11,14] cy [0] O<|Dm.yy O O (q.NA (cap:=[pV b1,pV b2]) O O) O<|U ?_
 refine Dm.yy O O (q.Uu (bnd:=[pV aF]) (cap:=[]) O O) O<|Dm.yy O O (q.NA (cap:=[pV b1,pV b4,pV b2]) O O) O<|U ?_
 refine Dm.yy O O (q.Uu (bnd:=[pV aF]) (cap:=[]) O O) O<|U ?_
 refine D.p 12 O ly [0] (s.bs (l:=(([(⟨.func 187,#[],#[pV b1,pV b2]⟩:zF),(⟨.func 72,#[pV aF],#[]⟩:zF),(⟨.func 189,#[],#[pV b1,pV b4,pV b2]⟩:zF),(⟨.func 72,#[pV aF],#[]⟩:zF)]):List zF)) tP LW O O O O O O O) fun b5=>?_
 refine D.k 13 O ly [0] (q.IX (v:=iV ((List.length ([(⟨.func 187,#[],#[pV b1,pV b2]⟩:zF),(⟨.func 72,#[pV aF],#[]⟩:zF),(⟨.func 189,#[],#[pV b1,pV b4,pV b2]⟩:zF),(⟨.func 72,#[pV aF],#[]⟩:zF)]):Nat):Int)) (v':=iV 4) O (q.len' (l:=([(⟨.func 187,#[],#[pV b1,pV b2]⟩:zF),(⟨.func 72,#[pV aF],#[]⟩:zF),(⟨.func 189,#[],#[pV b1,pV b4,pV b2]⟩:zF),(⟨.func 72,#[pV aF],#[]⟩:zF)])) (cm 0 O) O Tryz.underlying242)) ?_
 refine D.done<|R.KG 4 O<|U ?_
 refine R.q (q.idx (i:=0) (cm 0 O) O O tP O O) O<|R.q (q.Oy (x:=(⟨.func 187,#[],#[pV b1,pV b2]⟩:zF)) O (q.NJ (cm 0 O) O O wI O)) O<|U ?_
 refine R.s O (s.aJ [3,2,4,5,6,7,8,0,1,9] [0] _ _ _ O O O R4 O O (fun w own hw H=>Mx b1 () b2 Kq (⟨c⟩:Wa) bu lg aF ay aC az dk w own H af aG af af) O) ?_
 rintro ⟨z1,z2,z3,z4⟩
 dsimp only
 refine U ?_
 refine C ((dG lg dk c).2=0) ?_ ?_ <;> intro h5
 .
  refine R.again O O<|U ?_
  refine R.q (q.idx (i:=1) (cm 7 O) O O tP O O) O<|R.q (q.Oy (x:=(⟨.func 72,#[pV aF],#[]⟩:zF)) O (q.NJ (cm 7 O) O O wI O)) O<|U ?_
  refine R.s O (s.LJ [3,4,5,6,0,1,2,7,8,9] [] _ _ _ O O O AL O O (fun w own hw H=>kA aF z2 z3 z4 (dG lg dk c).1 w own H af) O) ?_
  rintro ⟨z5,z6,z7⟩
  dsimp only
  refine U ?_
  refine C ((aN (dG lg dk c).1).2=0) ?_ ?_ <;> intro h6
  .
   refine R.again O O<|U ?_
   refine R.q (q.idx (i:=2) (cm 7 O) O O tP O O) O<|R.q (q.Oy (x:=(⟨.func 189,#[],#[pV b1,pV b4,pV b2]⟩:zF)) O (q.NJ (cm 7 O) O O wI O)) O<|U ?_
   refine R.s O (s.aJ [4,8,5,6,0,1,2,3,7,9] [0] _ _ _ O O O R6 O O (fun w own hw H=>My b1 () b4 (⟨lg.Next+(c.length:Int)⟩:Uv) b2 z1 (⟨c⟩:Wa) bu lg aF z5 z6 z7 (aN (dG lg dk c).1).1 w own H af aG aG af) O) ?_
   rintro ⟨z8,z9,lu,mG⟩
   dsimp only
   refine U ?_
   refine C ((aP (aN (dG lg dk c).1).1 (lg.From+(lg.Next+(c.length:Int))) (dN 99 (lg.First+(lg.Next+(c.length:Int))) (bW (c.length:Int)))).2=0) ?_ ?_ <;> intro h7
   .
    refine R.again O O<|U ?_
    refine R.q (q.idx (i:=3) (cm 8 O) O O tP O O) O<|R.q (q.Oy (x:=(⟨.func 72,#[pV aF],#[]⟩:zF)) O (q.NJ (cm 8 O) O O wI O)) O<|U ?_
    refine R.s O (s.LJ [4,5,6,7,0,1,2,3,8,9] [] _ _ _ O O O AL O O (fun w own hw H=>kA aF z9 lu mG (aP (aN (dG lg dk c).1).1 (lg.From+(lg.Next+(c.length:Int))) (dN 99 (lg.First+(lg.Next+(c.length:Int))) (bW (c.length:Int)))).1 w own H af) O) ?_
    rintro ⟨z12,nX,zA⟩
    dsimp only
    refine U ?_
    refine C ((aN (aP (aN (dG lg dk c).1).1 (lg.From+(lg.Next+(c.length:Int))) (dN 99 (lg.First+(lg.Next+(c.length:Int))) (bW (c.length:Int)))).1).2=0) ?_ ?_ <;> intro h8
    .
     refine R.again O O<|U ?_
     rw [show cw lg dk c=_ from Gj g1 af af af af]
     exact R.x1 (z12,nX,zA) [7,0,1,2,3,9] []
    rw [show cw lg dk c=_ from Ql g1 af af af af]
    exact R.x1 (z12,nX,zA) [7,0,1,2,3,9] []
   rw [show cw lg dk c=_ from Qk g1 af af af]
   exact R.x1 (z9,lu,mG) [3,4,5,6,7,9] []
  rw [show cw lg dk c=_ from Qj g1 af af]
  exact R.x1 (z5,z6,z7) [6,0,1,2,3,9] []
 rw [show cw lg dk c=_ from Qi g1 af]
 exact R.x1 (z2,z3,z4) [2,3,4,5,6,9] []
end Go.Proofs.YtnmpibjlnninjaaGreatDoor
