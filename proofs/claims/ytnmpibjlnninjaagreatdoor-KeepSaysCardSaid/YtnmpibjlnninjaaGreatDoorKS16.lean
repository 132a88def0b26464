import Derived.Test.YtnmpibjlnninjaaGreatDoorKS15
namespace Go.Proofs.YtnmpibjlnninjaaGreatDoor
set_option linter.unusedVariables false
set_option linter.unusedSimpArgs false
set_option maxRecDepth 100000
set_option maxHeartbeats 90000000
open Go Go.RowKit
attribute [local irreducible] Run Rg Rq Qt Qa Stp Dg Do Dm cD
theorem q.cJ {P:Program}{n:Nat}{we:World}{X:List Nat}{L:Fm}{B F:List aj}{x y:Operand}{xT yT ty:TypeId}{a b:ByteArray}(hx:ev L x=some (.string a))(hy:ev L y=some (.string b))(h:a.size+b.size<=9223372036854775807:=by (simp only [ByteArray.size_append,dW,jX,List.length_cons,List.length_nil];omega)):Qt P n we X L B F (.binOp .add xT x y yT) ty (.string (a++b)):=q.cat hx hy h
theorem dX (n:Int)(w:World)(hn:0<=n/\n<=9000000000000000000):Calls Tryz.prog 132 #[iV n] w fun e w'=>e = .returned (.string (cz n))/\Ext w w':=by
 refine R.enter [] [(0,iV n)] Tryz.func132 O O O O<|U ?_
 refine R.q (q.nG O (by rw [Tryz.underlying3];rfl) Tryz.underlying5 qJ) O<|U ?_
 refine R.q (q.shr (r:=n / 256) O O aD (Ku (D:=256) aD aD)) O<|R.q (q.nG O (by rw [Tryz.underlying3];rfl) Tryz.underlying5 qJ) O<|U ?_
 refine R.q (q.shr (r:=n / 65536) O O aD (Ku (D:=65536) aD aD)) O<|R.q (q.nG O (by rw [Tryz.underlying3];rfl) Tryz.underlying5 qJ) O<|U ?_
 refine R.q (q.shr (r:=n / 16777216) O O aD (Ku (D:=16777216) aD aD)) O<|R.q (q.nG O (by rw [Tryz.underlying3];rfl) Tryz.underlying5 qJ) O<|R.s O (s.bs (l:=([u8 (n % 256),u8 ((n / 256) % 256),u8 ((n / 65536) % 256),u8 ((n / 16777216) % 256)]:List UInt8)) bf eE O O O O O (cy (fO ae) (cy (fO ae) (cy (fO ae) (cy (fO ae) fI)))) O) fun b1=>?_
 refine R.q (q.jR (bH 0 O) O bf Tryz.underlying5 Tryz.underlying9) O<|U ?_
 exact R.rv O Tryz.results132 O (rS ck)
theorem Gg (k:Int)(n:Int)(sx:ByteArray)(w:World)(hk:0<=k/\k<=255)(hn:0<=n/\n<=9000000000000000000)(hs:sx.size<=41):Calls Tryz.prog 190 #[.int .u8 k,iV n,.string sx] w fun e w'=>e = .returned (.string (eB k n sx))/\Ext w w':=by
 refine R.enter [] [(0,.int .u8 k),(1,iV n),(2,.string sx)] Tryz.func190 O O O O<|U ?_
 refine R.eA (fuel:=19) [] O O mixed O<|D.l [0,3,6,7,8,9,10,11,12,16] [] [] O<|U ?_
 refine Dm.yy O O (q.nG (r:=((sx.size:Nat):Int)) O (by rw [Tryz.underlying3];rfl) Tryz.underlying5 (uk ae)) O<|U ?_
 refine Dm.yy O O (q.shr (r:=(((sx.size / 256):Nat):Int)) O O aD (P1 aD)) O<|Dm.yy O O (q.nG (r:=(((sx.size / 256):Nat):Int)) O (by rw [Tryz.underlying3];rfl) Tryz.underlying5 (uk ae)) O<|U ?_
 refine D.three (i:=1) (j:=4) (m:=13) O O O ?_ ?_ ?_
 .
  refine Do.s (s.bs (l:=([u8 k]:List UInt8)) bf eE O O O O O (cy (fO ae) fI) O) (fun _=>(aN [] [] O)) O fun b1=>?_
  refine D.three (i:=2) (j:=4) (m:=13) O O O ?_ ?_ ?_
  .
   refine Do.s (s.c (Qt.a (q.jR (bH 0 O) O bf Tryz.underlying5 Tryz.underlying9)) O) (fun _=>(aN [] [] O)) O fun _=>?_
   refine D.two (i:=4) (j:=13) O O ?_ ?_
   .
    refine Do.s (s.c (q.call fR O O (fun w hw=>(dX n w ae))) O) (fun _=>(aN [] [] O)) O fun _=>?_
    refine D.l [5] [] [] O<|Dm.yy O O (q.cJ O O) O<|U ?_
    refine D.one (i:=13) O<|Do.s (s.bs (l:=([UInt8.ofNat sx.size,UInt8.ofNat (sx.size / 256)]:List UInt8)) bf eE O O O O O (cy (eu ae) (cy (eu ae) fI)) O) (fun _=>(aN [] [] O)) O fun b2=>?_
    refine D.one (i:=14) O<|Do.s (s.c (Qt.a (q.jR (bH 0 O) O bf Tryz.underlying5 Tryz.underlying9)) O) (fun _=>(aN [] [] O)) O fun _=>?_
    refine D.l [15,17,18] [] [] O<|Dm.yy O O (q.cJ O O) O<|Dm.yy O O (q.cJ O O) O<|U ?_
    exact D.done<|R.rv O Tryz.results190 O (rS ck)
   refine Do.s (s.bs (l:=([UInt8.ofNat sx.size,UInt8.ofNat (sx.size / 256)]:List UInt8)) bf eE O O O O O (cy (eu ae) (cy (eu ae) fI)) O) (fun _=>(aN [] [] O)) O fun b3=>?_
   refine D.two (i:=4) (j:=14) O O ?_ ?_
   .
    refine Do.s (s.c (q.call fR O O (fun w hw=>(dX n w ae))) O) (fun _=>(aN [] [] O)) O fun _=>?_
    refine D.l [5] [] [] O<|Dm.yy O O (q.cJ O O) O<|U ?_
    refine D.one (i:=14) O<|Do.s (s.c (Qt.a (q.jR (bH 0 O) O bf Tryz.underlying5 Tryz.underlying9)) O) (fun _=>(aN [] [] O)) O fun _=>?_
    refine D.l [15,17,18] [] [] O<|Dm.yy O O (q.cJ O O) O<|Dm.yy O O (q.cJ O O) O<|U ?_
    exact D.done<|R.rv O Tryz.results190 O (rS ck)
   refine Do.s (s.c (Qt.a (q.jR (bH 0 O) O bf Tryz.underlying5 Tryz.underlying9)) O) (fun _=>(aN [] [] O)) O fun _=>?_
   refine D.one (i:=4) O<|Do.s (s.c (q.call fR O O (fun w hw=>(dX n w ae))) O) (fun _=>(aN [] [] O)) O fun _=>?_
   refine D.l kP [] [] O<|Dm.yy O O (q.cJ O O) O<|Dm.yy O O (q.cJ O O) O<|Dm.yy O O (q.cJ O O) O<|U ?_
   exact D.done<|R.rv O Tryz.results190 O (rS ck)
  .
   refine Do.s (s.c (q.call fR O O (fun w hw=>(dX n w ae))) O) (fun _=>(aN [] [] O)) O fun _=>?_
   refine D.two (i:=2) (j:=13) O O ?_ ?_
   .
    refine Do.s (s.c (Qt.a (q.jR (bH 0 O) O bf Tryz.underlying5 Tryz.underlying9)) O) (fun _=>(aN [] [] O)) O fun _=>?_
    refine D.l [5] [] [] O<|Dm.yy O O (q.cJ O O) O<|U ?_
    refine D.one (i:=13) O<|Do.s (s.bs (l:=([UInt8.ofNat sx.size,UInt8.ofNat (sx.size / 256)]:List UInt8)) bf eE O O O O O (cy (eu ae) (cy (eu ae) fI)) O) (fun _=>(aN [] [] O)) O fun b4=>?_
    refine D.one (i:=14) O<|Do.s (s.c (Qt.a (q.jR (bH 0 O) O bf Tryz.underlying5 Tryz.underlying9)) O) (fun _=>(aN [] [] O)) O fun _=>?_
    refine D.l [15,17,18] [] [] O<|Dm.yy O O (q.cJ O O) O<|Dm.yy O O (q.cJ O O) O<|U ?_
    exact D.done<|R.rv O Tryz.results190 O (rS ck)
   refine Do.s (s.bs (l:=([UInt8.ofNat sx.size,UInt8.ofNat (sx.size / 256)]:List UInt8)) bf eE O O O O O (cy (eu ae) (cy (eu ae) fI)) O) (fun _=>(aN [] [] O)) O fun b5=>?_
   refine D.two (i:=2) (j:=14) O O ?_ ?_
   .
    refine Do.s (s.c (Qt.a (q.jR (bH 1 O) O bf Tryz.underlying5 Tryz.underlying9)) O) (fun _=>(aN [] [] O)) O fun _=>?_
    refine D.l [5] [] [] O<|Dm.yy O O (q.cJ O O) O<|U ?_
    refine D.one (i:=14) O<|Do.s (s.c (Qt.a (q.jR (bH 0 O) O bf Tryz.underlying5 Tryz.underlying9)) O) (fun _=>(aN [] [] O)) O fun _=>?_
    refine D.l [15,17,18] [] [] O<|Dm.yy O O (q.cJ O O) O<|Dm.yy O O (q.cJ O O) O<|U ?_
    exact D.done<|R.rv O Tryz.results190 O (rS ck)
   refine Do.s (s.c (Qt.a (q.jR (bH 0 O) O bf Tryz.underlying5 Tryz.underlying9)) O) (fun _=>(aN [] [] O)) O fun _=>?_
   refine D.one (i:=2) O<|Do.s (s.c (Qt.a (q.jR (bH 1 O) O bf Tryz.underlying5 Tryz.underlying9)) O) (fun _=>(aN [] [] O)) O fun _=>?_
   refine D.l kP [] [] O<|Dm.yy O O (q.cJ O O) O<|Dm.yy O O (q.cJ O O) O<|Dm.yy O O (q.cJ O O) O<|U ?_
   exact D.done<|R.rv O Tryz.results190 O (rS ck)
  refine Do.s (s.bs (l:=([UInt8.ofNat sx.size,UInt8.ofNat (sx.size / 256)]:List UInt8)) bf eE O O O O O (cy (eu ae) (cy (eu ae) fI)) O) (fun _=>(aN [] [] O)) O fun b6=>?_
  refine D.three (i:=2) (j:=4) (m:=14) O O O ?_ ?_ ?_
  .
   refine Do.s (s.c (Qt.a (q.jR (bH 1 O) O bf Tryz.underlying5 Tryz.underlying9)) O) (fun _=>(aN [] [] O)) O fun _=>?_
   refine D.two (i:=4) (j:=14) O O ?_ ?_
   .
    refine Do.s (s.c (q.call fR O O (fun w hw=>(dX n w ae))) O) (fun _=>(aN [] [] O)) O fun _=>?_
    refine D.l [5] [] [] O<|Dm.yy O O (q.cJ O O) O<|U ?_
    refine D.one (i:=14) O<|Do.s (s.c (Qt.a (q.jR (bH 0 O) O bf Tryz.underlying5 Tryz.underlying9)) O) (fun _=>(aN [] [] O)) O fun _=>?_
    refine D.l [15,17,18] [] [] O<|Dm.yy O O (q.cJ O O) O<|Dm.yy O O (q.cJ O O) O<|U ?_
    exact D.done<|R.rv O Tryz.results190 O (rS ck)
   refine Do.s (s.c (Qt.a (q.jR (bH 0 O) O bf Tryz.underlying5 Tryz.underlying9)) O) (fun _=>(aN [] [] O)) O fun _=>?_
   refine D.one (i:=4) O<|Do.s (s.c (q.call fR O O (fun w hw=>(dX n w ae))) O) (fun _=>(aN [] [] O)) O fun _=>?_
   refine D.l kP [] [] O<|Dm.yy O O (q.cJ O O) O<|Dm.yy O O (q.cJ O O) O<|Dm.yy O O (q.cJ O O) O<|U ?_
   exact D.done<|R.rv O Tryz.results190 O (rS ck)
  .
   refine Do.s (s.c (q.call fR O O (fun w hw=>(dX n w ae))) O) (fun _=>(aN [] [] O)) O fun _=>?_
   refine D.two (i:=2) (j:=14) O O ?_ ?_
   .
    refine Do.s (s.c (Qt.a (q.jR (bH 1 O) O bf Tryz.underlying5 Tryz.underlying9)) O) (fun _=>(aN [] [] O)) O fun _=>?_
    refine D.l [5] [] [] O<|Dm.yy O O (q.cJ O O) O<|U ?_
    refine D.one (i:=14) O<|Do.s (s.c (Qt.a (q.jR (bH 0 O) O bf Tryz.underlying5 Tryz.underlying9)) O) (fun _=>(aN [] [] O)) O fun _=>?_
    refine D.l [15,17,18] [] [] O<|Dm.yy O O (q.cJ O O) O<|Dm.yy O O (q.cJ O O) O<|U ?_
    exact D.done<|R.rv O Tryz.results190 O (rS ck)
   refine Do.s (s.c (Qt.a (q.jR (bH 0 O) O bf Tryz.underlying5 Tryz.underlying9)) O) (fun _=>(aN [] [] O)) O fun _=>?_
   refine D.one (i:=2) O<|Do.s (s.c (Qt.a (q.jR (bH 1 O) O bf Tryz.underlying5 Tryz.underlying9)) O) (fun _=>(aN [] [] O)) O fun _=>?_
   refine D.l kP [] [] O<|Dm.yy O O (q.cJ O O) O<|Dm.yy O O (q.cJ O O) O<|Dm.yy O O (q.cJ O O) O<|U ?_
   exact D.done<|R.rv O Tryz.results190 O (rS ck)
  refine Do.s (s.c (Qt.a (q.jR (bH 0 O) O bf Tryz.underlying5 Tryz.underlying9)) O) (fun _=>(aN [] [] O)) O fun _=>?_
  refine D.two (i:=2) (j:=4) O O ?_ ?_
  .
   refine Do.s (s.c (Qt.a (q.jR (bH 1 O) O bf Tryz.underlying5 Tryz.underlying9)) O) (fun _=>(aN [] [] O)) O fun _=>?_
   refine D.one (i:=4) O<|Do.s (s.c (q.call fR O O (fun w hw=>(dX n w ae))) O) (fun _=>(aN [] [] O)) O fun _=>?_
   refine D.l kP [] [] O<|Dm.yy O O (q.cJ O O) O<|Dm.yy O O (q.cJ O O) O<|Dm.yy O O (q.cJ O O) O<|U ?_
   exact D.done<|R.rv O Tryz.results190 O (rS ck)
  refine Do.s (s.c (q.call fR O O (fun w hw=>(dX n w ae))) O) (fun _=>(aN [] [] O)) O fun _=>?_
  refine D.one (i:=2) O<|Do.s (s.c (Qt.a (q.jR (bH 1 O) O bf Tryz.underlying5 Tryz.underlying9)) O) (fun _=>(aN [] [] O)) O fun _=>?_
  refine D.l kP [] [] O<|Dm.yy O O (q.cJ O O) O<|Dm.yy O O (q.cJ O O) O<|Dm.yy O O (q.cJ O O) O<|U ?_
  exact D.done<|R.rv O Tryz.results190 O (rS ck)
 .
  refine Do.s (s.c (q.call fR O O (fun w hw=>(dX n w ae))) O) (fun _=>(aN [] [] O)) O fun _=>?_
  refine D.two (i:=1) (j:=13) O O ?_ ?_
  .
   refine Do.s (s.bs (l:=([u8 k]:List UInt8)) bf eE O O O O O (cy (fO ae) fI) O) (fun _=>(aN [] [] O)) O fun b7=>?_
   refine D.two (i:=2) (j:=13) O O ?_ ?_
   .
    refine Do.s (s.c (Qt.a (q.jR (bH 0 O) O bf Tryz.underlying5 Tryz.underlying9)) O) (fun _=>(aN [] [] O)) O fun _=>?_
    refine D.l [5] [] [] O<|Dm.yy O O (q.cJ O O) O<|U ?_
    refine D.one (i:=13) O<|Do.s (s.bs (l:=([UInt8.ofNat sx.size,UInt8.ofNat (sx.size / 256)]:List UInt8)) bf eE O O O O O (cy (eu ae) (cy (eu ae) fI)) O) (fun _=>(aN [] [] O)) O fun b8=>?_
    refine D.one (i:=14) O<|Do.s (s.c (Qt.a (q.jR (bH 0 O) O bf Tryz.underlying5 Tryz.underlying9)) O) (fun _=>(aN [] [] O)) O fun _=>?_
    refine D.l [15,17,18] [] [] O<|Dm.yy O O (q.cJ O O) O<|Dm.yy O O (q.cJ O O) O<|U ?_
    exact D.done<|R.rv O Tryz.results190 O (rS ck)
   refine Do.s (s.bs (l:=([UInt8.ofNat sx.size,UInt8.ofNat (sx.size / 256)]:List UInt8)) bf eE O O O O O (cy (eu ae) (cy (eu ae) fI)) O) (fun _=>(aN [] [] O)) O fun b9=>?_
   refine D.two (i:=2) (j:=14) O O ?_ ?_
   .
    refine Do.s (s.c (Qt.a (q.jR (bH 1 O) O bf Tryz.underlying5 Tryz.underlying9)) O) (fun _=>(aN [] [] O)) O fun _=>?_
    refine D.l [5] [] [] O<|Dm.yy O O (q.cJ O O) O<|U ?_
    refine D.one (i:=14) O<|Do.s (s.c (Qt.a (q.jR (bH 0 O) O bf Tryz.underlying5 Tryz.underlying9)) O) (fun _=>(aN [] [] O)) O fun _=>?_
    refine D.l [15,17,18] [] [] O<|Dm.yy O O (q.cJ O O) O<|Dm.yy O O (q.cJ O O) O<|U ?_
    exact D.done<|R.rv O Tryz.results190 O (rS ck)
   refine Do.s (s.c (Qt.a (q.jR (bH 0 O) O bf Tryz.underlying5 Tryz.underlying9)) O) (fun _=>(aN [] [] O)) O fun _=>?_
   refine D.one (i:=2) O<|Do.s (s.c (Qt.a (q.jR (bH 1 O) O bf Tryz.underlying5 Tryz.underlying9)) O) (fun _=>(aN [] [] O)) O fun _=>?_
   refine D.l kP [] [] O<|Dm.yy O O (q.cJ O O) O<|Dm.yy O O (q.cJ O O) O<|Dm.yy O O (q.cJ O O) O<|U ?_
   exact D.done<|R.rv O Tryz.results190 O (rS ck)
  refine Do.s (s.bs (l:=([UInt8.ofNat sx.size,UInt8.ofNat (sx.size / 256)]:List UInt8)) bf eE O O O O O (cy (eu ae) (cy (eu ae) fI)) O) (fun _=>(aN [] [] O)) O fun b10=>?_
  refine D.two (i:=1) (j:=14) O O ?_ ?_
  .
   refine Do.s (s.bs (l:=([u8 k]:List UInt8)) bf eE O O O O O (cy (fO ae) fI) O) (fun _=>(aN [] [] O)) O fun b11=>?_
   refine D.two (i:=2) (j:=14) O O ?_ ?_
   .
    refine Do.s (s.c (Qt.a (q.jR (bH 0 O) O bf Tryz.underlying5 Tryz.underlying9)) O) (fun _=>(aN [] [] O)) O fun _=>?_
    refine D.l [5] [] [] O<|Dm.yy O O (q.cJ O O) O<|U ?_
    refine D.one (i:=14) O<|Do.s (s.c (Qt.a (q.jR (bH 1 O) O bf Tryz.underlying5 Tryz.underlying9)) O) (fun _=>(aN [] [] O)) O fun _=>?_
    refine D.l [15,17,18] [] [] O<|Dm.yy O O (q.cJ O O) O<|Dm.yy O O (q.cJ O O) O<|U ?_
    exact D.done<|R.rv O Tryz.results190 O (rS ck)
   refine Do.s (s.c (Qt.a (q.jR (bH 1 O) O bf Tryz.underlying5 Tryz.underlying9)) O) (fun _=>(aN [] [] O)) O fun _=>?_
   refine D.one (i:=2) O<|Do.s (s.c (Qt.a (q.jR (bH 0 O) O bf Tryz.underlying5 Tryz.underlying9)) O) (fun _=>(aN [] [] O)) O fun _=>?_
   refine D.l kP [] [] O<|Dm.yy O O (q.cJ O O) O<|Dm.yy O O (q.cJ O O) O<|Dm.yy O O (q.cJ O O) O<|U ?_
   exact D.done<|R.rv O Tryz.results190 O (rS ck)
  refine Do.s (s.c (Qt.a (q.jR (bH 0 O) O bf Tryz.underlying5 Tryz.underlying9)) O) (fun _=>(aN [] [] O)) O fun _=>?_
  refine D.one (i:=1) O<|Do.s (s.bs (l:=([u8 k]:List UInt8)) bf eE O O O O O (cy (fO ae) fI) O) (fun _=>(aN [] [] O)) O fun b12=>?_
  refine D.one (i:=2) O<|Do.s (s.c (Qt.a (q.jR (bH 0 O) O bf Tryz.underlying5 Tryz.underlying9)) O) (fun _=>(aN [] [] O)) O fun _=>?_
  refine D.l kP [] [] O<|Dm.yy O O (q.cJ O O) O<|Dm.yy O O (q.cJ O O) O<|Dm.yy O O (q.cJ O O) O<|U ?_
  exact D.done<|R.rv O Tryz.results190 O (rS ck)
 refine Do.s (s.bs (l:=([UInt8.ofNat sx.size,UInt8.ofNat (sx.size / 256)]:List UInt8)) bf eE O O O O O (cy (eu ae) (cy (eu ae) fI)) O) (fun _=>(aN [] [] O)) O fun b13=>?_
 refine D.three (i:=1) (j:=4) (m:=14) O O O ?_ ?_ ?_
 .
  refine Do.s (s.bs (l:=([u8 k]:List UInt8)) bf eE O O O O O (cy (fO ae) fI) O) (fun _=>(aN [] [] O)) O fun b14=>?_
  refine D.three (i:=2) (j:=4) (m:=14) O O O ?_ ?_ ?_
  .
   refine Do.s (s.c (Qt.a (q.jR (bH 0 O) O bf Tryz.underlying5 Tryz.underlying9)) O) (fun _=>(aN [] [] O)) O fun _=>?_
   refine D.two (i:=4) (j:=14) O O ?_ ?_
   .
    refine Do.s (s.c (q.call fR O O (fun w hw=>(dX n w ae))) O) (fun _=>(aN [] [] O)) O fun _=>?_
    refine D.l [5] [] [] O<|Dm.yy O O (q.cJ O O) O<|U ?_
    refine D.one (i:=14) O<|Do.s (s.c (Qt.a (q.jR (bH 1 O) O bf Tryz.underlying5 Tryz.underlying9)) O) (fun _=>(aN [] [] O)) O fun _=>?_
    refine D.l [15,17,18] [] [] O<|Dm.yy O O (q.cJ O O) O<|Dm.yy O O (q.cJ O O) O<|U ?_
    exact D.done<|R.rv O Tryz.results190 O (rS ck)
   refine Do.s (s.c (Qt.a (q.jR (bH 1 O) O bf Tryz.underlying5 Tryz.underlying9)) O) (fun _=>(aN [] [] O)) O fun _=>?_
   refine D.one (i:=4) O<|Do.s (s.c (q.call fR O O (fun w hw=>(dX n w ae))) O) (fun _=>(aN [] [] O)) O fun _=>?_
   refine D.l kP [] [] O<|Dm.yy O O (q.cJ O O) O<|Dm.yy O O (q.cJ O O) O<|Dm.yy O O (q.cJ O O) O<|U ?_
   exact D.done<|R.rv O Tryz.results190 O (rS ck)
  .
   refine Do.s (s.c (q.call fR O O (fun w hw=>(dX n w ae))) O) (fun _=>(aN [] [] O)) O fun _=>?_
   refine D.two (i:=2) (j:=14) O O ?_ ?_
   .
    refine Do.s (s.c (Qt.a (q.jR (bH 0 O) O bf Tryz.underlying5 Tryz.underlying9)) O) (fun _=>(aN [] [] O)) O fun _=>?_
    refine D.l [5] [] [] O<|Dm.yy O O (q.cJ O O) O<|U ?_
    refine D.one (i:=14) O<|Do.s (s.c (Qt.a (q.jR (bH 1 O) O bf Tryz.underlying5 Tryz.underlying9)) O) (fun _=>(aN [] [] O)) O fun _=>?_
    refine D.l [15,17,18] [] [] O<|Dm.yy O O (q.cJ O O) O<|Dm.yy O O (q.cJ O O) O<|U ?_
    exact D.done<|R.rv O Tryz.results190 O (rS ck)
   refine Do.s (s.c (Qt.a (q.jR (bH 1 O) O bf Tryz.underlying5 Tryz.underlying9)) O) (fun _=>(aN [] [] O)) O fun _=>?_
   refine D.one (i:=2) O<|Do.s (s.c (Qt.a (q.jR (bH 0 O) O bf Tryz.underlying5 Tryz.underlying9)) O) (fun _=>(aN [] [] O)) O fun _=>?_
   refine D.l kP [] [] O<|Dm.yy O O (q.cJ O O) O<|Dm.yy O O (q.cJ O O) O<|Dm.yy O O (q.cJ O O) O<|U ?_
   exact D.done<|R.rv O Tryz.results190 O (rS ck)
  refine Do.s (s.c (Qt.a (q.jR (bH 1 O) O bf Tryz.underlying5 Tryz.underlying9)) O) (fun _=>(aN [] [] O)) O fun _=>?_
  refine D.two (i:=2) (j:=4) O O ?_ ?_
  .
   refine Do.s (s.c (Qt.a (q.jR (bH 0 O) O bf Tryz.underlying5 Tryz.underlying9)) O) (fun _=>(aN [] [] O)) O fun _=>?_
   refine D.one (i:=4) O<|Do.s (s.c (q.call fR O O (fun w hw=>(dX n w ae))) O) (fun _=>(aN [] [] O)) O fun _=>?_
   refine D.l kP [] [] O<|Dm.yy O O (q.cJ O O) O<|Dm.yy O O (q.cJ O O) O<|Dm.yy O O (q.cJ O O) O<|U ?_
   exact D.done<|R.rv O Tryz.results190 O (rS ck)
  refine Do.s (s.c (q.call fR O O (fun w hw=>(dX n w ae))) O) (fun _=>(aN [] [] O)) O fun _=>?_
  refine D.one (i:=2) O<|Do.s (s.c (Qt.a (q.jR (bH 0 O) O bf Tryz.underlying5 Tryz.underlying9)) O) (fun _=>(aN [] [] O)) O fun _=>?_
  refine D.l kP [] [] O<|Dm.yy O O (q.cJ O O) O<|Dm.yy O O (q.cJ O O) O<|Dm.yy O O (q.cJ O O) O<|U ?_
  exact D.done<|R.rv O Tryz.results190 O (rS ck)
 .
  refine Do.s (s.c (q.call fR O O (fun w hw=>(dX n w ae))) O) (fun _=>(aN [] [] O)) O fun _=>?_
  refine D.two (i:=1) (j:=14) O O ?_ ?_
  .
   refine Do.s (s.bs (l:=([u8 k]:List UInt8)) bf eE O O O O O (cy (fO ae) fI) O) (fun _=>(aN [] [] O)) O fun b15=>?_
   refine D.two (i:=2) (j:=14) O O ?_ ?_
   .
    refine Do.s (s.c (Qt.a (q.jR (bH 0 O) O bf Tryz.underlying5 Tryz.underlying9)) O) (fun _=>(aN [] [] O)) O fun _=>?_
    refine D.l [5] [] [] O<|Dm.yy O O (q.cJ O O) O<|U ?_
    refine D.one (i:=14) O<|Do.s (s.c (Qt.a (q.jR (bH 1 O) O bf Tryz.underlying5 Tryz.underlying9)) O) (fun _=>(aN [] [] O)) O fun _=>?_
    refine D.l [15,17,18] [] [] O<|Dm.yy O O (q.cJ O O) O<|Dm.yy O O (q.cJ O O) O<|U ?_
    exact D.done<|R.rv O Tryz.results190 O (rS ck)
   refine Do.s (s.c (Qt.a (q.jR (bH 1 O) O bf Tryz.underlying5 Tryz.underlying9)) O) (fun _=>(aN [] [] O)) O fun _=>?_
   refine D.one (i:=2) O<|Do.s (s.c (Qt.a (q.jR (bH 0 O) O bf Tryz.underlying5 Tryz.underlying9)) O) (fun _=>(aN [] [] O)) O fun _=>?_
   refine D.l kP [] [] O<|Dm.yy O O (q.cJ O O) O<|Dm.yy O O (q.cJ O O) O<|Dm.yy O O (q.cJ O O) O<|U ?_
   exact D.done<|R.rv O Tryz.results190 O (rS ck)
  refine Do.s (s.c (Qt.a (q.jR (bH 0 O) O bf Tryz.underlying5 Tryz.underlying9)) O) (fun _=>(aN [] [] O)) O fun _=>?_
  refine D.one (i:=1) O<|Do.s (s.bs (l:=([u8 k]:List UInt8)) bf eE O O O O O (cy (fO ae) fI) O) (fun _=>(aN [] [] O)) O fun b16=>?_
  refine D.one (i:=2) O<|Do.s (s.c (Qt.a (q.jR (bH 0 O) O bf Tryz.underlying5 Tryz.underlying9)) O) (fun _=>(aN [] [] O)) O fun _=>?_
  refine D.l kP [] [] O<|Dm.yy O O (q.cJ O O) O<|Dm.yy O O (q.cJ O O) O<|Dm.yy O O (q.cJ O O) O<|U ?_
  exact D.done<|R.rv O Tryz.results190 O (rS ck)
 refine Do.s (s.c (Qt.a (q.jR (bH 0 O) O bf Tryz.underlying5 Tryz.underlying9)) O) (fun _=>(aN [] [] O)) O fun _=>?_
 refine D.two (i:=1) (j:=4) O O ?_ ?_
 .
  refine Do.s (s.bs (l:=([u8 k]:List UInt8)) bf eE O O O O O (cy (fO ae) fI) O) (fun _=>(aN [] [] O)) O fun b17=>?_
  refine D.two (i:=2) (j:=4) O O ?_ ?_
  .
   refine Do.s (s.c (Qt.a (q.jR (bH 0 O) O bf Tryz.underlying5 Tryz.underlying9)) O) (fun _=>(aN [] [] O)) O fun _=>?_
   refine D.one (i:=4) O<|Do.s (s.c (q.call fR O O (fun w hw=>(dX n w ae))) O) (fun _=>(aN [] [] O)) O fun _=>?_
   refine D.l kP [] [] O<|Dm.yy O O (q.cJ O O) O<|Dm.yy O O (q.cJ O O) O<|Dm.yy O O (q.cJ O O) O<|U ?_
   exact D.done<|R.rv O Tryz.results190 O (rS ck)
  refine Do.s (s.c (q.call fR O O (fun w hw=>(dX n w ae))) O) (fun _=>(aN [] [] O)) O fun _=>?_
  refine D.one (i:=2) O<|Do.s (s.c (Qt.a (q.jR (bH 0 O) O bf Tryz.underlying5 Tryz.underlying9)) O) (fun _=>(aN [] [] O)) O fun _=>?_
  refine D.l kP [] [] O<|Dm.yy O O (q.cJ O O) O<|Dm.yy O O (q.cJ O O) O<|Dm.yy O O (q.cJ O O) O<|U ?_
  exact D.done<|R.rv O Tryz.results190 O (rS ck)
 refine Do.s (s.c (q.call fR O O (fun w hw=>(dX n w ae))) O) (fun _=>(aN [] [] O)) O fun _=>?_
 refine D.one (i:=1) O<|Do.s (s.bs (l:=([u8 k]:List UInt8)) bf eE O O O O O (cy (fO ae) fI) O) (fun _=>(aN [] [] O)) O fun b18=>?_
 refine D.one (i:=2) O<|Do.s (s.c (Qt.a (q.jR (bH 0 O) O bf Tryz.underlying5 Tryz.underlying9)) O) (fun _=>(aN [] [] O)) O fun _=>?_
 refine D.l kP [] [] O<|Dm.yy O O (q.cJ O O) O<|Dm.yy O O (q.cJ O O) O<|Dm.yy O O (q.cJ O O) O<|U ?_
 exact D.done<|R.rv O Tryz.results190 O (rS ck)
theorem zT (bS:Nat)(zU:Nat)(lg:Lg)(w:World)(Gh:(aj.box bS [.pointer (some ⟨zU,0,none⟩),iV lg.From,iV lg.Many,iV lg.First,iV lg.Next] 193).ok w)(hb:0<=lg.Many/\lg.Many<=1000000000/\0<=lg.Next/\lg.Next<=1000000000):Calls Tryz.prog 121 #[.pointer (some ⟨bS,0,none⟩)] w fun e w'=>e = .returned (iV (lg.Many-lg.Next))/\Ext w w':=by
 refine R.enter [] [(0,.pointer (some ⟨bS,0,none⟩))] Tryz.func121 O O O O<|R.oN (r:=aj.box bS [.pointer (some ⟨zU,0,none⟩),iV lg.From,iV lg.Many,iV lg.First,iV lg.Next] 193) Gh (jQ Gh)<|U ?_
 refine R.dA O mixed ai<|U ?_
 refine Q.q (q.AL 0 O O bg O) O<|U ?_
 refine Q.q (q.AL 0 O O bg O) O<|Q.q (q.kL (r:=lg.Many-lg.Next) O O) O<|U ?_
 exact R.rv O Tryz.results121 O (rI ck)
theorem Gi (bS:Nat)(zU:Nat)(lg:Lg)(w:World)(Gh:(aj.box bS [.pointer (some ⟨zU,0,none⟩),iV lg.From,iV lg.Many,iV lg.First,iV lg.Next] 193).ok w)(hb:0<=lg.Many/\lg.Many<=1000000000/\0<=lg.First/\lg.First<=1000000000):Calls Tryz.prog 69 #[.pointer (some ⟨bS,0,none⟩)] w fun e w'=>e = .returned (iV (lg.First+lg.Many))/\Ext w w':=by
 refine R.enter [] [(0,.pointer (some ⟨bS,0,none⟩))] Tryz.func69 O O O O<|R.oN (r:=aj.box bS [.pointer (some ⟨zU,0,none⟩),iV lg.From,iV lg.Many,iV lg.First,iV lg.Next] 193) Gh (jQ Gh)<|U ?_
 refine R.dA O mixed ai<|U ?_
 refine Q.q (q.AL 0 O O bg O) O<|U ?_
 refine Q.q (q.AL 0 O O bg O) O<|Q.q (q.aL (r:=lg.First+lg.Many) O O) O<|U ?_
 exact R.rv O Tryz.results69 O (rI ck)
theorem Oh (bS:Nat)(lg:Lg)(i:Nat)(aI:Nat)(aE aG aF:Value)(dk:cU)(w:World)(Gh:(aj.box bS [.pointer (some ⟨aI,0,none⟩),iV lg.From,iV lg.Many,iV lg.First,iV lg.Next] 193).ok w)(zP:(aj.box aI [aE,aG,aF,iV dk.Fuse,.bool dk.Down] 120).ok w)(j0:Sl w aE (dk.Kept:List ByteArray))(ly:Sl w aG (dk.Now:List ByteArray))(j1:Sl w aF (dk.Wait:List Turn))(hb : -1000000000<=lg.From/\lg.From<=1000000000/\0<=lg.First/\lg.First<=8000000000000000000/\i<=1000000000)(hr:(cx dk (lg.From+(i:Int))).2=0)(hs:(cx dk (lg.From+(i:Int))).1.size=48):Calls Tryz.prog 131 #[.pointer (some ⟨bS,0,none⟩),iV (i:Int)] w fun e w'=>e = .returned (.tuple #[.int .u8 (qt (cx dk (lg.From+(i:Int))).1 (lg.First+(i:Int)):Int),.string (kB (cx dk (lg.From+(i:Int))).1 (lg.First+(i:Int))),.bool (jl (cx dk (lg.From+(i:Int))).1 (lg.First+(i:Int)))])/\Ext w w':=by
 refine R.enter [] [(0,.pointer (some ⟨bS,0,none⟩)),(1,iV (i:Int))] Tryz.func131 O O O O<|R.qH j0<|R.qH ly<|R.qH j1<|R.oN (r:=aj.box bS [.pointer (some ⟨aI,0,none⟩),iV lg.From,iV lg.Many,iV lg.First,iV lg.Next] 193) Gh (jQ Gh)<|R.oN (r:=aj.box aI [aE,aG,aF,iV dk.Fuse,.bool dk.Down] 120) zP (jQ zP)<|U ?_
 refine R.dA O mixed ai<|U ?_
 refine Q.q (q.AL 1 O O mB O) O<|U ?_
 refine Q.q (q.AL 1 O O bg O) O<|U ?_
 refine Q.q (q.aL (r:=lg.From+(i:Int)) O O) O<|Q.c (q.call NK O O (fun w hw=>(wj aI aE aG aF dk (lg.From+(i:Int)) w (hw.f 0 O) (hw.bz 4 O) (hw.bz 3 O) (hw.bz 2 O) ))) O<|U ?_
 by_cases h1:((cx dk (lg.From+(i:Int))).1.extract 1 5)=cz (lg.First+(i:Int))
 .
  obtain ⟨y1,hy1⟩:∃z,(cx dk (lg.From+(i:Int))).1.data[0]? = some z:=⟨_,Array.getElem?_eq_getElem (show 0<(cx dk (lg.From+(i:Int))).1.size from by omega)⟩
  have Xs:=y1.toNat_lt
  by_cases h2:y1.toNat=111
  .
   refine R.dA O mixed ai<|U ?_
   refine Q.qg O (q.EO (i:=1) (j:=5) O O O Tryz.underlying9 O O ae ae) O<|U ?_
   refine Q.qg O (q.AL 1 O O bg O) O<|U ?_
   refine Q.qg O (q.aL (r:=lg.First+(i:Int)) O O) O<|Q.cg O (q.call fR O O (fun w hw=>(dX (lg.First+(i:Int)) w ae))) O<|Q.qg O (q.ql O O h1) O<|U ?_
   refine Q.qg O (q.iU (i:=0) O O Tryz.underlying9 O hy1) O<|U ?_
   obtain ⟨y2,hy2⟩:∃z,(cx dk (lg.From+(i:Int))).1.data[5]? = some z:=⟨_,Array.getElem?_eq_getElem (show 5<(cx dk (lg.From+(i:Int))).1.size from by omega)⟩
   have Xt:=y2.toNat_lt
   obtain ⟨y3,hy3⟩:∃z,(cx dk (lg.From+(i:Int))).1.data[6]? = some z:=⟨_,Array.getElem?_eq_getElem (show 6<(cx dk (lg.From+(i:Int))).1.size from by omega)⟩
   have Yu:=y3.toNat_lt
   refine R.dA O mixed ai<|U ?_
   refine Q.q (q.iU (i:=5) O O Tryz.underlying9 O hy2) O<|Q.q (q.nG (r:=((y2.toNat:Nat):Int)) O (by rw [Tryz.underlying5];rfl) Tryz.underlying3 (wr ae)) O<|U ?_
   refine Q.q (q.iU (i:=6) O O Tryz.underlying9 O hy3) O<|Q.q (q.nG (r:=((y3.toNat:Nat):Int)) O (by rw [Tryz.underlying5];rfl) Tryz.underlying3 (wr ae)) O<|Q.q (q.vm (r:=((256*y3.toNat:Nat):Int)) O O) O<|Q.q (q.aL (r:=((y2.toNat+(256*y3.toNat):Nat):Int)) O O) O<|U ?_
   by_cases h3:41<(y2.toNat+(256*y3.toNat))
   .
    refine U ?_
    exact R.Vv O Tryz.results131 O O O (VF (by (rw [(ke (oX (by unfold dr;rw [aQ hy2,aQ hy3];omega))).1];rfl))) (rS (by (rw [(ke (oX (by unfold dr;rw [aQ hy2,aQ hy3];omega))).2]))) (rB (by (exact (oX (by unfold dr;rw [aQ hy2,aQ hy3];omega)).symm)))
   refine U ?_
   refine R.dA O mixed ai<|U ?_
   refine Q.q (q.iU (i:=0) O O Tryz.underlying9 O hy1) O<|U ?_
   refine Q.q (q.aL (r:=((7+(y2.toNat+(256*y3.toNat)):Nat):Int)) O O) O<|Q.q (q.EO (i:=7) (j:=(7+(y2.toNat+(256*y3.toNat)))) O O O Tryz.underlying9 O O ae ae) O<|U ?_
   exact R.Vv O Tryz.results131 O O O (VF (by (rw [(kf (lV af (by rw [aQ hy1];omega) (by unfold dr;rw [aQ hy2,aQ hy3];omega))).1,aQ hy1]))) (rS (by (rw [(kf (lV af (by rw [aQ hy1];omega) (by unfold dr;rw [aQ hy2,aQ hy3];omega))).2];unfold sH dr;rw [aQ hy2,aQ hy3]))) (rB (by (exact (lV af (by rw [aQ hy1];omega) (by unfold dr;rw [aQ hy2,aQ hy3];omega)).symm)))
  by_cases h4:y1.toNat=99
  .
   refine R.dA O mixed ai<|U ?_
   refine Q.qg O (q.EO (i:=1) (j:=5) O O O Tryz.underlying9 O O ae ae) O<|U ?_
   refine Q.qg O (q.AL 1 O O bg O) O<|U ?_
   refine Q.qg O (q.aL (r:=lg.First+(i:Int)) O O) O<|Q.cg O (q.call fR O O (fun w hw=>(dX (lg.First+(i:Int)) w ae))) O<|Q.qg O (q.ql O O h1) O<|U ?_
   refine Q.qg O (q.iU (i:=0) O O Tryz.underlying9 O hy1) O<|U ?_
   refine Q.qg O (q.iU (i:=0) O O Tryz.underlying9 O hy1) O<|U ?_
   obtain ⟨y4,hy4⟩:∃z,(cx dk (lg.From+(i:Int))).1.data[5]? = some z:=⟨_,Array.getElem?_eq_getElem (show 5<(cx dk (lg.From+(i:Int))).1.size from by omega)⟩
   have ZW:=y4.toNat_lt
   obtain ⟨y5,IC⟩:∃z,(cx dk (lg.From+(i:Int))).1.data[6]? = some z:=⟨_,Array.getElem?_eq_getElem (show 6<(cx dk (lg.From+(i:Int))).1.size from by omega)⟩
   have by5:=y5.toNat_lt
   refine R.dA O mixed ai<|U ?_
   refine Q.q (q.iU (i:=5) O O Tryz.underlying9 O hy4) O<|Q.q (q.nG (r:=((y4.toNat:Nat):Int)) O (by rw [Tryz.underlying5];rfl) Tryz.underlying3 (wr ae)) O<|U ?_
   refine Q.q (q.iU (i:=6) O O Tryz.underlying9 O IC) O<|Q.q (q.nG (r:=((y5.toNat:Nat):Int)) O (by rw [Tryz.underlying5];rfl) Tryz.underlying3 (wr ae)) O<|Q.q (q.vm (r:=((256*y5.toNat:Nat):Int)) O O) O<|Q.q (q.aL (r:=((y4.toNat+(256*y5.toNat):Nat):Int)) O O) O<|U ?_
   by_cases h5:41<(y4.toNat+(256*y5.toNat))
   .
    refine U ?_
    exact R.Vv O Tryz.results131 O O O (VF (by (rw [(ke (oX (by unfold dr;rw [aQ hy4,aQ IC];omega))).1];rfl))) (rS (by (rw [(ke (oX (by unfold dr;rw [aQ hy4,aQ IC];omega))).2]))) (rB (by (exact (oX (by unfold dr;rw [aQ hy4,aQ IC];omega)).symm)))
   refine U ?_
   refine R.dA O mixed ai<|U ?_
   refine Q.q (q.iU (i:=0) O O Tryz.underlying9 O hy1) O<|U ?_
   refine Q.q (q.aL (r:=((7+(y4.toNat+(256*y5.toNat)):Nat):Int)) O O) O<|Q.q (q.EO (i:=7) (j:=(7+(y4.toNat+(256*y5.toNat)))) O O O Tryz.underlying9 O O ae ae) O<|U ?_
   exact R.Vv O Tryz.results131 O O O (VF (by (rw [(kf (lV af (by rw [aQ hy1];omega) (by unfold dr;rw [aQ hy4,aQ IC];omega))).1,aQ hy1]))) (rS (by (rw [(kf (lV af (by rw [aQ hy1];omega) (by unfold dr;rw [aQ hy4,aQ IC];omega))).2];unfold sH dr;rw [aQ hy4,aQ IC]))) (rB (by (exact (lV af (by rw [aQ hy1];omega) (by unfold dr;rw [aQ hy4,aQ IC];omega)).symm)))
  refine R.dA O mixed ai<|U ?_
  refine Q.qg O (q.EO (i:=1) (j:=5) O O O Tryz.underlying9 O O ae ae) O<|U ?_
  refine Q.qg O (q.AL 1 O O bg O) O<|U ?_
  refine Q.qg O (q.aL (r:=lg.First+(i:Int)) O O) O<|Q.cg O (q.call fR O O (fun w hw=>(dX (lg.First+(i:Int)) w ae))) O<|Q.qg O (q.ql O O h1) O<|U ?_
  refine Q.qg O (q.iU (i:=0) O O Tryz.underlying9 O hy1) O<|U ?_
  refine Q.qg O (q.iU (i:=0) O O Tryz.underlying9 O hy1) O<|U ?_
  exact R.Vv O Tryz.results131 O O O (VF (by (rw [(ke (zt (by rw [aQ hy1];omega) (by rw [aQ hy1];omega))).1];rfl))) (rS (by (rw [(ke (zt (by rw [aQ hy1];omega) (by rw [aQ hy1];omega))).2]))) (rB (by (exact (zt (by rw [aQ hy1];omega) (by rw [aQ hy1];omega)).symm)))
 refine R.dA O mixed ai<|U ?_
 refine Q.qg O (q.EO (i:=1) (j:=5) O O O Tryz.underlying9 O O ae ae) O<|U ?_
 refine Q.qg O (q.AL 1 O O bg O) O<|U ?_
 refine Q.qg O (q.aL (r:=lg.First+(i:Int)) O O) O<|Q.cg O (q.call fR O O (fun w hw=>(dX (lg.First+(i:Int)) w ae))) O<|Q.qg O (q.sL O O h1) O<|U ?_
 exact R.Vv O Tryz.results131 O O O (VF (by (rw [(ke (zr af)).1];rfl))) (rS (by (rw [(ke (zr af)).2]))) (rB (by (exact (zr af).symm)))
theorem Gj (aI:Nat)(aE aG aF:Value)(dk:cU)(gF:Int)(many:Int)(first:Int)(w:World)(own:List Nat)(H:HN w own [aj.box aI [aE,aG,aF,iV dk.Fuse,.bool dk.Down] 120,aj.row 9 aE dk.Kept,aj.row 9 aG dk.Now,aj.row 196 aF dk.Wait] [])(hb:0<=gF/\1<=many/\gF+many<=(dk.Now.length:Int)/\1<=first/\first<=4000000000000000000)(hd:dk.Down=false)(hD:gy dk.Now.length 90000 dk/\dk.Now.length<=100000):RC Tryz.prog 74 #[.pointer (some ⟨aI,0,none⟩),iV gF,iV many,iV first] H (fun z:Value×Value×Value×Nat×Value×List kJ => .tuple #[.pointer (some ⟨z.2.2.2.1,0,none⟩),z.2.2.2.2.1,.nilIface]) (fun z=>[aj.box aI [z.1,z.2.1,z.2.2.1,iV dk.Fuse,.bool dk.Down] 120,aj.row 9 z.1 dk.Kept,aj.row 9 z.2.1 dk.Now,aj.row 196 z.2.2.1 dk.Wait,aj.box z.2.2.2.1 [.pointer (some ⟨aI,0,none⟩),iV (⟨gF,many,first,(fT dk gF (Int.toNat many) first:Int)⟩:Lg).From,iV (⟨gF,many,first,(fT dk gF (Int.toNat many) first:Int)⟩:Lg).Many,iV (⟨gF,many,first,(fT dk gF (Int.toNat many) first:Int)⟩:Lg).First,iV (⟨gF,many,first,(fT dk gF (Int.toNat many) first:Int)⟩:Lg).Next] 193]) (fun z=>[aj.ls z.2.2.2.2.1 z.2.2.2.2.2,aj.sP (z.2.2.2.2.2:List kJ) (lW dk gF (Int.toNat many) first)]):=by
 have fc:=H.cap 1 rfl;have fe:=H.dr 1 rfl
 have fV:=H.cap 2 rfl;have fW:=H.dr 2 rfl
 have ff:=H.cap 3 rfl;have fh:=H.dr 3 rfl
 obtain ⟨manyN,IE⟩:∃m:Nat,many=(m:Int):=⟨many.toNat,ae⟩;subst IE
 refine R.bE [(0,.pointer (some ⟨aI,0,none⟩)),(1,iV gF),(2,iV (manyN:Int)),(3,iV first)] Tryz.func74 O O O O H<|U ?_
 refine R.cg O (q.call xd O O (fun w hw=>(gM aI aE aG aF dk w (hw.b 0 O) (hw.row 1 O) (hw.row 2 O) (hw.row 3 O) ))) O<|U ?_
 refine R.cg O (q.call xd O O (fun w hw=>(gM aI aE aG aF dk w (hw.b 0 O) (hw.row 1 O) (hw.row 2 O) (hw.row 3 O) ))) O<|U ?_
 refine R.qg O (q.kL (r:=(dk.Now.length:Int)-(manyN:Int)) O O) O<|U ?_
 refine R.c (q.call SC O O (fun w hw=>(cv (congrArg Value.bool hd) (Cq aI aE aG aF dk w (hw.b 0 O) (hw.row 1 O) (hw.row 2 O) (hw.row 3 O) )))) O<|U ?_
 refine R.s O (s.box O O O) fun b1=>U ?_
 refine R.mp (fun _ hw=>hw.Wz)<|R.row0 (α:=kJ) 34<|R.row0 (α:=Change) 115<|R.loop (fun g_:Nat×Nat×Value×(List kJ)×Value×(List Change)=>[(11,.pointer (some ⟨b1,0,none⟩)),(12,g_.2.2.1),(13,g_.2.2.2.2.1),(54,iV (manyN:Int)),(55,iV (g_.1:Int))]) (fun g_=>[aj.row 115 g_.2.2.2.2.1 g_.2.2.2.2.2,aj.row 34 g_.2.2.1 g_.2.2.2.1,aj.box b1 [.pointer (some ⟨aI,0,none⟩),iV gF,iV (manyN:Int),iV first,iV (g_.2.1:Int)] 193,aj.box aI [aE,aG,aF,iV dk.Fuse,.bool dk.Down] 120,aj.row 9 aE dk.Kept,aj.row 9 aG dk.Now,aj.row 196 aF dk.Wait,aj.held w own]) (fun g_=>[aj.nJ (g_.2.2.2.1:List kJ),aj.nJ ([]:List kJ)]) (fun g_=>g_.1<=manyN/\iP ((ra dk gF manyN).drop g_.1) (first+(g_.1:Int)) (g_.2.2.2.1.map kJ.L) g_.2.2.2.2.2 g_.2.1 g_.1=scan (ra dk gF manyN) first/\g_.2.2.2.2.2.length<=g_.1/\g_.2.2.2.1.length<=g_.1/\g_.2.1<=g_.1) (fun g_=>manyN-g_.1) (0,0,nS,[],nS,[]) O (by (try dsimp only);exact ⟨ae,by show iP _ (first+0) _ _ _ _=_;rw [Int.add_zero];rfl,bW,bW,bW⟩) (sF O) (eI cu [0,0] O) ?_
 rintro ⟨i,u,qo,ob,qd,dd⟩ ⟨hi,HS,hdl,hol,hui⟩
 dsimp only at *
 refine U ?_
 by_cases h1:i<manyN
 .
  refine U ?_
  have hrd:=zw hD.1 hd (i:=gF+(i:Int)) ae ae;obtain ⟨hrd,hsz⟩:=hrd;have hlx:=HZ (n:=first+(i:Int)) hsz
  refine U ?_
  refine R.c (q.call T6 O O (fun w hw=>(cv (show (.tuple #[.int .u8 (qt (cx dk ((⟨gF,(manyN:Int),first,(u:Int)⟩:Lg).From+(i:Int))).1 ((⟨gF,(manyN:Int),first,(u:Int)⟩:Lg).First+(i:Int)):Int),.string (kB (cx dk ((⟨gF,(manyN:Int),first,(u:Int)⟩:Lg).From+(i:Int))).1 ((⟨gF,(manyN:Int),first,(u:Int)⟩:Lg).First+(i:Int))),.bool (jl (cx dk ((⟨gF,(manyN:Int),first,(u:Int)⟩:Lg).From+(i:Int))).1 ((⟨gF,(manyN:Int),first,(u:Int)⟩:Lg).First+(i:Int)))]:Value) = .tuple #[.int .u8 (qt (cx dk (gF+(i:Int))).1 (first+(i:Int)):Int),.string (kB (cx dk (gF+(i:Int))).1 (first+(i:Int))),.bool (jl (cx dk (gF+(i:Int))).1 (first+(i:Int)))] from O) (Oh b1 (⟨gF,(manyN:Int),first,(u:Int)⟩:Lg) i aI aE aG aF dk w (hw.b 2 O) (hw.b 3 O) (hw.row 4 O) (hw.row 5 O) (hw.row 6 O) aO af af)))) O<|U ?_
  refine R.q (q.not O) O<|U ?_
  rcases Bool.eq_false_or_eq_true (jl (cx dk (gF+(i:Int))).1 (first+(i:Int))) with h2|h2
  .
   rw [h2]
   refine U ?_
   by_cases h3:qt (cx dk (gF+(i:Int))).1 (first+(i:Int))=99
   .
    refine U ?_
    refine R.cg O (q.call fR O O (fun w hw=>(dX (dd.length:Int) w ae))) O ?_
    by_cases h4:kB (cx dk (gF+(i:Int))).1 (first+(i:Int))=cz (dd.length:Int)
    .
     refine R.qg O (q.ql O O h4) O<|U ?_
     refine R.s O (s.bsV (l:=([(⟨qd,dd⟩:kJ)]:List kJ)) JZ Nx O O O O O (fun w hw=>K0 (hw.row 0 O)) O) fun b2=>?_
     refine R.s O (s.app 2 _ O O O (bH 0 O) ND az az (fun _=>rfl) O) fun v1=>U ?_
     refine R.q (q.aL (r:=((i+1:Nat):Int)) O O) O<|U ?_
     refine R.s O (s.st 3 _ O O O O (.inr ⟨bg,rfl⟩) O O O O) fun _=>U ?_
     refine R.q (q.aL (r:=((i+1:Nat):Int)) O O) O<|U ?_
     refine R.mp (fun _ hw=>hw.bu 1 _ O O)<|R.mp (fun _ hw=>hw.QE 1 0 O O)<|R.row0 (α:=Change) 115<|R.back (i+1,i+1,v1,ob++([(⟨qd,dd⟩:kJ)]),nS,[]) O (by ((try dsimp only);exact ⟨ae,by rw [List.map_append];exact Nk HS (rZ ae) (TE af af af),bW,az,ae⟩)) aO (sF O) (aN [0,2,3,4,5,6,7,8] [0,3] O)
    refine R.qg O (q.sL O O h4) O<|U ?_
    refine R.mp (fun _ hw=>hw.Dw 0 O)<|R.mp (fun _ hw=>hw.bu 1 _ O O) ?_
    have hz:(dk,(⟨gF,((manyN:Nat):Int),first,(fT dk gF (Int.toNat ((manyN:Nat):Int)) first:Int)⟩:Lg),lW dk gF (Int.toNat ((manyN:Nat):Int)) first)=(dk,(⟨gF,(manyN:Int),first,(u:Int)⟩:Lg),(ob.map kJ.L)):=by ((try dsimp only);have e:=Dk HS (rZ ae) (FQ (k:=(dd.length:Int)) af af af).1 (FQ (k:=(dd.length:Int)) af af af).2;unfold fT lW;rw [show Int.toNat ((manyN:Nat):Int)=manyN from rfl,e])
    have hz0:((manyN:Nat):Int)=(manyN:Int):=congrArg (fun t_=>t_.2.1.Many) hz
    rw [hz0]
    have hz1:(fT dk gF (Int.toNat ((manyN:Nat):Int)) first:Int)=(u:Int):=congrArg (fun t_=>t_.2.1.Next) hz
    rw [hz1]
    have hz2:lW dk gF (Int.toNat ((manyN:Nat):Int)) first=(ob.map kJ.L):=congrArg (fun t_=>t_.2.2) hz
    rw [hz2]
    exact R.w3 (aE,aG,aF,b1,qo,ob) [2,3,4,5,1,6] [0,1] O Tryz.results74 (RV.tmp O) (RV.tmp O) (RV.tmp O) O O O (Mk O O O)
   refine U ?_
   refine R.c (q.call T7 O O (fun w hw=>(D9 (kB (cx dk (gF+(i:Int))).1 (first+(i:Int))) w ae))) O<|U ?_
   refine R.s O (s.alloc bR O O) fun b3=>?_
   refine R.s O (s.st 0 _ O O O O (.inl bK) O O O O) fun _=>U ?_
   by_cases h5:(tA (kB (cx dk (gF+(i:Int))).1 (first+(i:Int)))).2=0
   .
    refine U ?_
    refine R.s O (s.bs (l:=([(tA (kB (cx dk (gF+(i:Int))).1 (first+(i:Int)))).1]:List Change)) bj bR O O O O O O O) fun b4=>?_
    refine R.s O (s.app 2 _ O O O (bH 0 O) d9 az az (fun _=>rfl) O) fun v2=>U ?_
    refine R.q (q.aL (r:=((i+1:Nat):Int)) O O) O<|U ?_
    refine R.back (i+1,u,qo,ob,v2,(dd++([(tA (kB (cx dk (gF+(i:Int))).1 (first+(i:Int)))).1]))) O (by ((try dsimp only);have e:=TF (k:=(dd.length:Int)) af af af;exact ⟨ae,by rw [e.2.2];exact Qy HS (rZ ae) e.1 e.2.1,az,ae,ae⟩)) aO (sF O) (aN Bo [0,1] O)
   refine U ?_
   refine R.mp (fun _ hw=>hw.Dw 0 O)<|R.mp (fun _ hw=>hw.bu 2 _ O O) ?_
   have hz:(dk,(⟨gF,((manyN:Nat):Int),first,(fT dk gF (Int.toNat ((manyN:Nat):Int)) first:Int)⟩:Lg),lW dk gF (Int.toNat ((manyN:Nat):Int)) first)=(dk,(⟨gF,(manyN:Int),first,(u:Int)⟩:Lg),(ob.map kJ.L)):=by ((try dsimp only);have e:=Dk HS (rZ ae) (FR (k:=(dd.length:Int)) af af af).1 (FR (k:=(dd.length:Int)) af af af).2;unfold fT lW;rw [show Int.toNat ((manyN:Nat):Int)=manyN from rfl,e])
   have hz0:((manyN:Nat):Int)=(manyN:Int):=congrArg (fun t_=>t_.2.1.Many) hz
   rw [hz0]
   have hz1:(fT dk gF (Int.toNat ((manyN:Nat):Int)) first:Int)=(u:Int):=congrArg (fun t_=>t_.2.1.Next) hz
   rw [hz1]
   have hz2:lW dk gF (Int.toNat ((manyN:Nat):Int)) first=(ob.map kJ.L):=congrArg (fun t_=>t_.2.2) hz
   rw [hz2]
   exact R.w3 (aE,aG,aF,b1,qo,ob) [3,4,5,6,2,7] [0,1] O Tryz.results74 (RV.tmp O) (RV.tmp O) (RV.tmp O) O O O (Mk O O O)
  rw [h2]
  refine U ?_
  refine R.mp (fun _ hw=>hw.Dw 0 O)<|R.mp (fun _ hw=>hw.bu 1 _ O O) ?_
  have hz:(dk,(⟨gF,((manyN:Nat):Int),first,(fT dk gF (Int.toNat ((manyN:Nat):Int)) first:Int)⟩:Lg),lW dk gF (Int.toNat ((manyN:Nat):Int)) first)=(dk,(⟨gF,(manyN:Int),first,(u:Int)⟩:Lg),(ob.map kJ.L)):=by ((try dsimp only);have e:=Dk HS (rZ ae) (FP (k:=(dd.length:Int)) af).1 (FP (k:=(dd.length:Int)) af).2;unfold fT lW;rw [show Int.toNat ((manyN:Nat):Int)=manyN from rfl,e])
  have hz0:((manyN:Nat):Int)=(manyN:Int):=congrArg (fun t_=>t_.2.1.Many) hz
  rw [hz0]
  have hz1:(fT dk gF (Int.toNat ((manyN:Nat):Int)) first:Int)=(u:Int):=congrArg (fun t_=>t_.2.1.Next) hz
  rw [hz1]
  have hz2:lW dk gF (Int.toNat ((manyN:Nat):Int)) first=(ob.map kJ.L):=congrArg (fun t_=>t_.2.2) hz
  rw [hz2]
  exact R.w3 (aE,aG,aF,b1,qo,ob) [2,3,4,5,1,6] [0,1] O Tryz.results74 (RV.tmp O) (RV.tmp O) (RV.tmp O) O O O (Mk O O O)
 refine U ?_
 refine R.mp (fun _ hw=>hw.Dw 0 O)<|R.mp (fun _ hw=>hw.bu 1 _ O O) ?_
 have hz:(dk,(⟨gF,((manyN:Nat):Int),first,(fT dk gF (Int.toNat ((manyN:Nat):Int)) first:Int)⟩:Lg),lW dk gF (Int.toNat ((manyN:Nat):Int)) first)=(dk,(⟨gF,(manyN:Int),first,(u:Int)⟩:Lg),(ob.map kJ.L)):=by ((try dsimp only);have e:=TB HS (by rw [rh];omega);unfold fT lW;rw [show Int.toNat ((manyN:Nat):Int)=manyN from rfl,e])
 have hz0:((manyN:Nat):Int)=(manyN:Int):=congrArg (fun t_=>t_.2.1.Many) hz
 rw [hz0]
 have hz1:(fT dk gF (Int.toNat ((manyN:Nat):Int)) first:Int)=(u:Int):=congrArg (fun t_=>t_.2.1.Next) hz
 rw [hz1]
 have hz2:lW dk gF (Int.toNat ((manyN:Nat):Int)) first=(ob.map kJ.L):=congrArg (fun t_=>t_.2.2) hz
 rw [hz2]
 exact R.w3 (aE,aG,aF,b1,qo,ob) [2,3,4,5,1,6] [0,1] O Tryz.results74 (RV.tmp O) (RV.tmp O) (RV.tmp O) O O O (Mk O O O)
theorem QM (bS:Nat)(lg:Lg)(J8:Value)(c:List Change)(aI:Nat)(aE aG aF:Value)(dk:cU)(w:World)(own:List Nat)(H:HN w own [aj.box bS [.pointer (some ⟨aI,0,none⟩),iV lg.From,iV lg.Many,iV lg.First,iV lg.Next] 193,aj.box aI [aE,aG,aF,iV dk.Fuse,.bool dk.Down] 120,aj.row 9 aE dk.Kept,aj.row 9 aG dk.Now,aj.row 196 aF dk.Wait] [aj.ls J8 c])(hb:0<=lg.From/\lg.From<=1000000000/\0<=lg.Next/\lg.Next<=1000000000/\0<=lg.First/\lg.First<=4000000000000000000/\0<=lg.Many/\lg.Many<=1000000000)(hl:c.length<=62)(hf:∀x∈c,gY x=0)(hD:gy dk.Now.length 90000 dk/\dk.Now.length<=100000):RC Tryz.prog 188 #[.pointer (some ⟨bS,0,none⟩),J8] H (fun _:Value×Value×Value=>cD (dY lg dk c).2) (fun z=>[aj.box bS [.pointer (some ⟨aI,0,none⟩),iV lg.From,iV lg.Many,iV lg.First,iV lg.Next] 193,aj.box aI [z.1,z.2.1,z.2.2,iV (dY lg dk c).1.Fuse,.bool (dY lg dk c).1.Down] 120,aj.row 9 z.1 (dY lg dk c).1.Kept,aj.row 9 z.2.1 (dY lg dk c).1.Now,aj.row 196 z.2.2 (dY lg dk c).1.Wait]) (fun _=>[]):=by
 have fc:=H.cap 2 rfl;have fe:=H.dr 2 rfl
 have fV:=H.cap 3 rfl;have fW:=H.dr 3 rfl
 have ff:=H.cap 4 rfl;have fh:=H.dr 4 rfl
 have m_c:=H.bD 0 rfl
 refine R.bE [(0,.pointer (some ⟨bS,0,none⟩)),(1,J8)] Tryz.func188 O O O O H<|U ?_
 refine R.dA O mixed ai<|U ?_
 refine Q.q (q.aL (r:=lg.From+lg.Next) O O) O<|U ?_
 refine R.loop (fun g_:Nat×cU×Value×Value×Value=>[(0,.pointer (some ⟨bS,0,none⟩)),(1,J8),(5,iV (lg.From+lg.Next)),(20,J8),(21,iV (c.length:Int)),(22,iV (g_.1:Int))]) (fun g_=>[aj.box bS [.pointer (some ⟨aI,0,none⟩),iV lg.From,iV lg.Many,iV lg.First,iV lg.Next] 193,aj.box aI [g_.2.2.1,g_.2.2.2.1,g_.2.2.2.2,iV g_.2.1.Fuse,.bool g_.2.1.Down] 120,aj.row 9 g_.2.2.1 g_.2.1.Kept,aj.row 9 g_.2.2.2.1 g_.2.1.Now,aj.row 196 g_.2.2.2.2 g_.2.1.Wait,aj.held w own]) (fun g_=>[aj.ls J8 c]) (fun g_=>g_.1<=c.length/\lv lg g_.2.1 (c.drop g_.1) g_.1=lv lg dk c 0/\gy dk.Now.length (90000+g_.1) g_.2.1) (fun g_=>c.length-g_.1) (0,dk,aE,aG,aF) O (by (try dsimp only);exact ⟨ae,rfl,hD.1⟩) (sF O) (eI nE [0] O) ?_
 rintro ⟨i,dm,eR,gk,eS⟩ ⟨hi,HL,hO⟩
 dsimp only at *
 have p1:=hO.fine ae ae
 refine U ?_
 by_cases h1:i<c.length
 .
  refine U ?_
  obtain ⟨x1,hx1⟩:=gE c i
  have QN:=Dx (hf x1 (List.mem_of_getElem? hx1));obtain ⟨QN,ZX⟩:=QN
  refine R.q (q.idx (i:=i) (cb 0 O) O O bj O hx1) O<|R.q (q.dj (ds:=dS x1) (cb 0 O) hx1 O bK O) O<|R.s O (s.alloc bR O O) fun b1=>U ?_
  refine R.s O (s.st 0 _ O O O O (.inl bK) O O O O) fun _=>U ?_
  refine R.c (q.call Uy O O (fun w hw=>(D8 x1 w ))) O<|U ?_
  refine R.eA (fuel:=22) [0,1,6] O O mixed O<|D.l Ey [0,1,6] [0] O<|U ?_
  refine Dm.yy O O (q.aL (r:=(lg.From+lg.Next)+(i:Int)) O O) O<|U ?_
  refine Dm.yy O O (q.aL (r:=lg.First+lg.Next) O O) O<|U ?_
  refine Dm.yy O O (q.aL (r:=(lg.First+lg.Next)+(i:Int)) O O) O<|U ?_
  refine D.one (i:=19) O<|Do.s (s.c (q.call N0 O O (fun w hw=>(Gg 111 ((lg.First+lg.Next)+(i:Int)) (kM x1).1 w aD ae ae))) O) (fun _=>(aN [0,1,6] [0] O)) O fun _=>?_
  refine D.one (i:=20) O<|Do.s (s.aT [2,3,4,5,0,1,6] [] _ _ _ O O O xc O O (fun w own hw H=>jo aI eR gk eS dm ((lg.From+lg.Next)+(i:Int)) (eB 111 ((lg.First+lg.Next)+(i:Int)) (kM x1).1) w own H af) O) (fun _=>(aN [4,5,6] [0] O)) O ?_
  rintro ⟨z4,z5,z6⟩
  dsimp only
  refine D.l [21] [4,5,6] [0] O<|U ?_
  refine D.done<|U ?_
  by_cases h2:(aC dm ((lg.From+lg.Next)+(i:Int)) (eB 111 ((lg.First+lg.Next)+(i:Int)) (kM x1).1)).2=0
  .
   refine U ?_
   refine R.q (q.aL (r:=((i+1:Nat):Int)) O O) O<|U ?_
   refine R.back (i+1,(aC dm ((lg.From+lg.Next)+(i:Int)) (eB 111 ((lg.First+lg.Next)+(i:Int)) (kM x1).1)).1,z4,z5,z6) O (by ((try dsimp only);exact ⟨ae,TG HL hx1 af,hO.write _ _⟩)) aO (sF O) (aN [5,0,1,2,3,6] [0] O)
  refine U ?_
  have hz:(lg,(dY lg dk c).1,(dY lg dk c).2)=(lg,(aC dm ((lg.From+lg.Next)+(i:Int)) (eB 111 ((lg.First+lg.Next)+(i:Int)) (kM x1).1)).1,(aC dm ((lg.From+lg.Next)+(i:Int)) (eB 111 ((lg.First+lg.Next)+(i:Int)) (kM x1).1)).2):=by (rw [K2 (Nq HL hx1 af).symm af])
  have hz0:(dY lg dk c).1=(aC dm ((lg.From+lg.Next)+(i:Int)) (eB 111 ((lg.First+lg.Next)+(i:Int)) (kM x1).1)).1:=congrArg (fun t_=>t_.2.1) hz
  rw [hz0]
  have hz1:(dY lg dk c).2=(aC dm ((lg.From+lg.Next)+(i:Int)) (eB 111 ((lg.First+lg.Next)+(i:Int)) (kM x1).1)).2:=congrArg (fun t_=>t_.2.2) hz
  rw [hz1]
  exact R.w1 (z4,z5,z6) [5,0,1,2,3,6] [] O Tryz.results188 (RV.tmp O) O O O O
 refine U ?_
 refine R.q (q.aL (r:=lg.Next+(c.length:Int)) O O) O<|R.q (q.aL (r:=(lg.Next+(c.length:Int))+1) O O) O<|U ?_
 by_cases h3:((lg.Next+(c.length:Int))+1)<lg.Many
 .
  refine U ?_
  refine R.eA (fuel:=12) [0,5] O O mixed O<|D.l nD [0,5] [0] O<|U ?_
  refine Dm.yy O O (q.aL (r:=lg.From+((lg.Next+(c.length:Int))+1)) O O) O<|U ?_
  refine D.one (i:=10) O<|Do.s (s.aT [1,2,3,4,0,5] [] _ _ _ O O O xc O O (fun w own hw H=>jo aI eR gk eS dm (lg.From+((lg.Next+(c.length:Int))+1)) (⟨#[]⟩) w own H af) O) (fun _=>(aN [4,5] [0] O)) O ?_
  rintro ⟨l7,mh,z12⟩
  dsimp only
  refine D.l [11] [4,5] [0] O<|U ?_
  refine D.done ?_
  have hz:(lg,(dY lg dk c).1,(dY lg dk c).2)=(lg,(aC dm (lg.From+((lg.Next+(c.length:Int))+1)) (⟨#[]⟩)).1,(aC dm (lg.From+((lg.Next+(c.length:Int))+1)) (⟨#[]⟩)).2):=by (have e:=JN HL ae;(rw [Nr e af];done))
  have hz0:(dY lg dk c).1=(aC dm (lg.From+((lg.Next+(c.length:Int))+1)) (⟨#[]⟩)).1:=congrArg (fun t_=>t_.2.1) hz
  rw [hz0]
  have hz1:(dY lg dk c).2=(aC dm (lg.From+((lg.Next+(c.length:Int))+1)) (⟨#[]⟩)).2:=congrArg (fun t_=>t_.2.2) hz
  rw [hz1]
  exact R.w1 (l7,mh,z12) [4,0,1,2,3,5] [] O Tryz.results188 (RV.tmp O) O O O O
 refine U ?_
 have hz:(lg,(dY lg dk c).1,(dY lg dk c).2)=(lg,dm,0):=by (have e:=JN HL ae;(rw [K3 e ae];done))
 have hz0:(dY lg dk c).1=dm:=congrArg (fun t_=>t_.2.1) hz
 rw [hz0]
 have hz1:(dY lg dk c).2=0:=congrArg (fun t_=>t_.2.2) hz
 rw [hz1]
 exact R.w1 (eR,gk,eS) nE [] O Tryz.results188 (RV.tmp O) O O O (iT O)
theorem Oi (Ea:Nat)(pl:Unit)(Eb:Nat)(xh:Value)(pc:Yr)(bS:Nat)(lg:Lg)(aI:Nat)(aE aG aF:Value)(dk:cU)(w:World)(own:List Nat)(H:HN w own [aj.box Ea [.pointer (some ⟨bS,0,none⟩)] 130,aj.box Eb [xh] 34,aj.box bS [.pointer (some ⟨aI,0,none⟩),iV lg.From,iV lg.Many,iV lg.First,iV lg.Next] 193,aj.box aI [aE,aG,aF,iV dk.Fuse,.bool dk.Down] 120,aj.row 9 aE dk.Kept,aj.row 9 aG dk.Now,aj.row 196 aF dk.Wait] [aj.ls xh pc.C])(hb:0<=lg.From/\lg.From<=1000000000/\0<=lg.Next/\lg.Next<=1000000000/\0<=lg.First/\lg.First<=4000000000000000000/\0<=lg.Many/\lg.Many<=1000000000)(hl:pc.C.length<=62)(hf:∀x∈pc.C,gY x=0)(hD:gy dk.Now.length 90000 dk/\dk.Now.length<=100000):RC Tryz.prog 187 #[.pointer (some ⟨Ea,0,none⟩),.pointer (some ⟨Eb,0,none⟩)] H (fun _:Value×Value×Value×Value=>cD (dY lg dk pc.C).2) (fun z=>[aj.box Ea [.pointer (some ⟨bS,0,none⟩)] 130,aj.box Eb [z.1] 34,aj.box bS [.pointer (some ⟨aI,0,none⟩),iV lg.From,iV lg.Many,iV lg.First,iV lg.Next] 193,aj.box aI [z.2.1,z.2.2.1,z.2.2.2,iV (dY lg dk pc.C).1.Fuse,.bool (dY lg dk pc.C).1.Down] 120,aj.row 9 z.2.1 (dY lg dk pc.C).1.Kept,aj.row 9 z.2.2.1 (dY lg dk pc.C).1.Now,aj.row 196 z.2.2.2 (dY lg dk pc.C).1.Wait]) (fun z=>[aj.ls z.1 pc.C]):=by
 have fc:=H.cap 4 rfl;have fe:=H.dr 4 rfl
 have fV:=H.cap 5 rfl;have fW:=H.dr 5 rfl
 have ff:=H.cap 6 rfl;have fh:=H.dr 6 rfl
 have UJ:=H.bD 0 rfl
 refine R.bE [(0,.pointer (some ⟨Ea,0,none⟩)),(1,.pointer (some ⟨Eb,0,none⟩))] Tryz.func187 O O O O H<|U ?_
 refine R.s O (s.aT [2,3,4,5,6,0,1,7] [0] _ _ _ O O O Uj O O (fun w own hw H=>QM bS lg xh pc.C aI aE aG aF dk w own H af ae af af) O) ?_
 rintro ⟨z1,z2,z3⟩
 dsimp only
 refine U ?_
 have hz:((),pc,lg,(dY lg dk pc.C).1,(dY lg dk pc.C).2)=((),pc,lg,(dY lg dk pc.C).1,(dY lg dk pc.C).2):=by (rfl)
 exact R.w1 (xh,z1,z2,z3) [5,6,0,1,2,3,4,7] [0] O Tryz.results187 (RV.tmp O) O O O O
theorem Oj (Ea:Nat)(pl:Unit)(QO:Nat)(pe:WC)(Eb:Nat)(xh:Value)(pc:Yr)(bS:Nat)(lg:Lg)(aI:Nat)(aE aG aF:Value)(dk:cU)(w:World)(own:List Nat)(H:HN w own [aj.box Ea [.pointer (some ⟨bS,0,none⟩)] 130,aj.box QO [iV pe.E] 3,aj.box Eb [xh] 34,aj.box bS [.pointer (some ⟨aI,0,none⟩),iV lg.From,iV lg.Many,iV lg.First,iV lg.Next] 193,aj.box aI [aE,aG,aF,iV dk.Fuse,.bool dk.Down] 120,aj.row 9 aE dk.Kept,aj.row 9 aG dk.Now,aj.row 196 aF dk.Wait] [aj.ls xh pc.C])(hb:0<=lg.From/\lg.From<=1000000000/\0<=lg.Next/\lg.Next<=1000000000/\0<=lg.First/\lg.First<=4000000000000000000/\0<=lg.Many/\lg.Many<=1000000000)(he:0<=pe.E/\pe.E<=2000000000)(hl:pc.C.length<=62)(hD:gy dk.Now.length 91000 dk/\dk.Now.length<=100000):RC Tryz.prog 189 #[.pointer (some ⟨Ea,0,none⟩),.pointer (some ⟨QO,0,none⟩),.pointer (some ⟨Eb,0,none⟩)] H (fun _:Value×Value×Value×Value=>cD (aC dk (lg.From+pe.E) (eB 99 (lg.First+pe.E) (cz (pc.C.length:Int)))).2) (fun z=>[aj.box Ea [.pointer (some ⟨bS,0,none⟩)] 130,aj.box QO [iV pe.E] 3,aj.box Eb [z.1] 34,aj.box bS [.pointer (some ⟨aI,0,none⟩),iV lg.From,iV lg.Many,iV lg.First,iV lg.Next] 193,aj.box aI [z.2.1,z.2.2.1,z.2.2.2,iV (aC dk (lg.From+pe.E) (eB 99 (lg.First+pe.E) (cz (pc.C.length:Int)))).1.Fuse,.bool (aC dk (lg.From+pe.E) (eB 99 (lg.First+pe.E) (cz (pc.C.length:Int)))).1.Down] 120,aj.row 9 z.2.1 ((aC dk (lg.From+pe.E) (eB 99 (lg.First+pe.E) (cz (pc.C.length:Int)))).1.Kept:List ByteArray),aj.row 9 z.2.2.1 ((aC dk (lg.From+pe.E) (eB 99 (lg.First+pe.E) (cz (pc.C.length:Int)))).1.Now:List ByteArray),aj.row 196 z.2.2.2 ((aC dk (lg.From+pe.E) (eB 99 (lg.First+pe.E) (cz (pc.C.length:Int)))).1.Wait:List Turn)]) (fun z=>[aj.ls z.1 pc.C]):=by
 have fc:=H.cap 5 rfl;have fe:=H.dr 5 rfl
 have fV:=H.cap 6 rfl;have fW:=H.dr 6 rfl
 have ff:=H.cap 7 rfl;have fh:=H.dr 7 rfl
 have UJ:=H.bD 0 rfl
 have p1:=hD.1.fine ae ae
 refine R.bE [(0,.pointer (some ⟨Ea,0,none⟩)),(1,.pointer (some ⟨QO,0,none⟩)),(2,.pointer (some ⟨Eb,0,none⟩))] Tryz.func189 O O O O H<|U ?_
 refine R.eA (fuel:=22) [0,1,2,3,8] O O mixed O<|D.l [0,1,2,3,4,5,6,7,8,9,10,11,12,13,14,15,16,17] [0,1,2,3,8] [0] O<|U ?_
 refine Dm.yy O O (q.aL (r:=lg.From+pe.E) O O) O<|U ?_
 refine Dm.yy O O (q.aL (r:=lg.First+pe.E) O O) O<|U ?_
 refine D.one (i:=18) O<|Do.s (s.c (q.call fR O O (fun w hw=>(dX (pc.C.length:Int) w ae))) O) (fun _=>(aN [0,1,2,3,8] [0] O)) O fun _=>?_
 refine D.one (i:=19) O<|Do.s (s.c (q.call N0 O O (fun w hw=>(Gg 99 (lg.First+pe.E) (cz (pc.C.length:Int)) w aD ae (by (rw [jX];decide))))) O) (fun _=>(aN [0,1,2,3,8] [0] O)) O fun _=>?_
 refine D.one (i:=20) O<|Do.s (s.aT [4,5,6,7,0,1,2,3,8] [] _ _ _ O O O xc O O (fun w own hw H=>jo aI aE aG aF dk (lg.From+pe.E) (eB 99 (lg.First+pe.E) (cz (pc.C.length:Int))) w own H af) O) (fun _=>(aN [4,5,6,7,8] [0] O)) O ?_
 rintro ⟨z4,z5,z6⟩
 dsimp only
 refine D.l [21] [4,5,6,7,8] [0] O<|U ?_
 refine D.done ?_
 have hz:((),pe,pc,lg,(aC dk (lg.From+pe.E) (eB 99 (lg.First+pe.E) (cz (pc.C.length:Int)))).1,(aC dk (lg.From+pe.E) (eB 99 (lg.First+pe.E) (cz (pc.C.length:Int)))).2)=((),pe,pc,lg,(aC dk (lg.From+pe.E) (eB 99 (lg.First+pe.E) (cz (pc.C.length:Int)))).1,(aC dk (lg.From+pe.E) (eB 99 (lg.First+pe.E) (cz (pc.C.length:Int)))).2):=by (rfl)
 exact R.w1 (xh,z4,z5,z6) [4,5,6,7,0,1,2,3,8] [0] O Tryz.results189 (RV.tmp O) O O O O
theorem J9 (bS:Nat)(lg:Lg)(J8:Value)(c:List Change)(aI:Nat)(aE aG aF:Value)(dk:cU)(w:World)(own:List Nat)(H:HN w own [aj.box bS [.pointer (some ⟨aI,0,none⟩),iV lg.From,iV lg.Many,iV lg.First,iV lg.Next] 193,aj.box aI [aE,aG,aF,iV dk.Fuse,.bool dk.Down] 120,aj.row 9 aE dk.Kept,aj.row 9 aG dk.Now,aj.row 196 aF dk.Wait] [aj.ls J8 c])(hb:0<=lg.From/\lg.From<=1000000000/\0<=lg.Next/\lg.Next<=1000000000/\0<=lg.First/\lg.First<=4000000000000000000/\0<=lg.Many/\lg.Many<=1000000000)(hD:gy dk.Now.length 80000 dk/\dk.Now.length<=100000):RC Tryz.prog 122 #[.pointer (some ⟨bS,0,none⟩),J8] H (fun _:Value×Value×Value=>cD (cW lg dk c).2.2) (fun z=>[aj.box bS [.pointer (some ⟨aI,0,none⟩),iV (cW lg dk c).1.From,iV (cW lg dk c).1.Many,iV (cW lg dk c).1.First,iV (cW lg dk c).1.Next] 193,aj.box aI [z.1,z.2.1,z.2.2,iV (cW lg dk c).2.1.Fuse,.bool (cW lg dk c).2.1.Down] 120,aj.row 9 z.1 (cW lg dk c).2.1.Kept,aj.row 9 z.2.1 (cW lg dk c).2.1.Now,aj.row 196 z.2.2 (cW lg dk c).2.1.Wait]) (fun _=>[]):=by
 have fc:=H.cap 2 rfl;have fe:=H.dr 2 rfl
 have fV:=H.cap 3 rfl;have fW:=H.dr 3 rfl
 have ff:=H.cap 4 rfl;have fh:=H.dr 4 rfl
 have m_c:=H.bD 0 rfl
 refine R.bE [(0,.pointer (some ⟨bS,0,none⟩)),(1,J8)] Tryz.func122 O O O O H<|U ?_
 refine R.s O (s.box O O O) fun b1=>?_
 refine R.s O (s.Wk O (fun w hw=>Sl.bF (hw.bz 0 O)) O) fun b2=>U ?_
 by_cases h1:62<c.length
 .
  refine U ?_
  have hz:cW lg dk c=(lg,dk,2):=by (exact Nt af)
  rw [hz]
  exact R.w1 (aE,aG,aF) [2,3,4,5,6,7] [] O Tryz.results122 (RV.tmp O) O O O (dU aD O)
 refine U ?_
 by_cases h2:lg.Many-lg.Next<((c.length+1):Int)
 .
  refine R.dA O mixed ai<|U ?_
  refine Q.q (q.aL (r:=((c.length+1:Nat):Int)) O O) O<|U ?_
  refine Q.c (q.call Ip O O (fun w hw=>(zT bS aI lg w (hw.b 2 O) ae))) O<|U ?_
  have hz:cW lg dk c=(lg,dk,9):=by (exact Nu ae ae)
  rw [hz]
  exact R.w1 (aE,aG,aF) [2,3,4,5,6,7] [] O Tryz.results122 (RV.tmp O) O O O (dU aD O)
 refine R.dA O mixed ai<|U ?_
 refine Q.q (q.aL (r:=((c.length+1:Nat):Int)) O O) O<|U ?_
 refine Q.c (q.call Ip O O (fun w hw=>(zT bS aI lg w (hw.b 2 O) ae))) O<|U ?_
 refine R.loop (fun i:Nat=>[(2,.pointer (some ⟨b1,0,none⟩)),(3,.pointer (some ⟨b2,0,none⟩)),(23,J8),(24,iV (c.length:Int)),(25,iV (i:Int))]) (fun i:Nat=>[aj.box b2 [J8] 34,aj.box b1 [.pointer (some ⟨bS,0,none⟩)] 130,aj.box bS [.pointer (some ⟨aI,0,none⟩),iV lg.From,iV lg.Many,iV lg.First,iV lg.Next] 193,aj.box aI [aE,aG,aF,iV dk.Fuse,.bool dk.Down] 120,aj.row 9 aE dk.Kept,aj.row 9 aG dk.Now,aj.row 196 aF dk.Wait,aj.held w own]) (fun i:Nat=>[aj.ls J8 c]) (fun i:Nat=>i<=c.length/\iF (c.drop i)=iF c) (fun i:Nat=>c.length-i) 0 O (by exact ⟨ae,rfl⟩) (sF O) (eI cu [0] O) ?_
 rintro i ⟨hi,HL⟩
 refine U ?_
 by_cases h3:i<c.length
 .
  refine U ?_
  obtain ⟨x1,hx1⟩:=gE c i
  have QN:=jP x1
  refine R.q (q.idx (i:=i) (cb 0 O) O O bj O hx1) O<|R.q (q.dj (ds:=dS x1) (cb 0 O) hx1 O bK O) O<|R.s O (s.alloc bR O O) fun b3=>?_
  refine R.s O (s.st 0 _ O O O O (.inl bK) O O O O) fun _=>U ?_
  refine R.c (q.call vV O O (fun w hw=>(jx x1 w ))) O<|U ?_
  by_cases h4:gY x1=0
  .
   refine U ?_
   refine R.q (q.aL (r:=((i+1:Nat):Int)) O O) O<|U ?_
   refine R.back (i+1) O (by (exact ⟨ae,Ns HL hx1 ae⟩)) ae (sF O) (aN tU [0] O)
  refine U ?_
  have hz:cW lg dk c=(lg,dk,gY x1):=by (exact K4 af ae (Dz HL hx1 af) af)
  rw [hz]
  exact R.w1 (aE,aG,aF) nQ [] O Tryz.results122 (RV.tmp O) O O O O
 refine U ?_
 have g0:iF c=0:=H0 HL ae;have g1:=JV (lg:=lg) af ae g0;have g2:=r5 g0
 refine R.eA (fuel:=9) cu O O mixed O<|D.l kj cu [0] O<|U ?_
 refine Dm.yy O O (q.aL (r:=lg.Next+(c.length:Int)) O O) O<|U ?_
 refine D.one (i:=7) O<|Do.s (s.alloc kC O O) (fun _=>(aN tU [0] O)) O fun b4=>?_
 refine D.one (i:=8) O<|Do.s (s.st 0 _ O O O O (.inr ⟨bg,rfl⟩) O O O O) (fun _=>(aN tU [0] O)) O fun _=>?_
 refine D.done ?_
 have a0:gy dk.Now.length 90000 dk/\dk.Now.length<=100000:=⟨hD.1.up ae,hD.2⟩;have a2:gy dk.Now.length 90000 (dY lg dk c).1:=(Dy (lg:=lg) (c:=c) hD.1).up ae;have n2:=a2.nl;have q2:=a2.fine ae ae
 have a3:gy dk.Now.length 90000 (au (dY lg dk c).1).1:=a2.flush;have n3:(au (dY lg dk c).1).1.Now.length=dk.Now.length:=a3.nl;have q3:gy (au (dY lg dk c).1).1.Now.length 91000 (au (dY lg dk c).1).1/\(au (dY lg dk c).1).1.Now.length<=100000:=⟨n3▸a3.up ae,ae⟩
 have a4:gy dk.Now.length 90001 (aC (au (dY lg dk c).1).1 (lg.From+(lg.Next+(c.length:Int))) (eB 99 (lg.First+(lg.Next+(c.length:Int))) (cz (c.length:Int)))).1:=a3.write _ _;have n4:=a4.nl;have q4:=a4.fine ae ae
 refine R.eA (fuel:=15) dQ O O mixed O<|D.l [0,1,2,3,4,5,6,7,8,9,10,11,14] dQ [0] O<|Dm.yy O O (q.PN (cap:=[.pointer (some ⟨b1,0,none⟩),.pointer (some ⟨b2,0,none⟩)]) O O) O<|U ?_
 refine Dm.yy O O (q.WB (bnd:=[.pointer (some ⟨aI,0,none⟩)]) (cap:=[]) O O) O<|Dm.yy O O (q.PN (cap:=[.pointer (some ⟨b1,0,none⟩),.pointer (some ⟨b4,0,none⟩),.pointer (some ⟨b2,0,none⟩)]) O O) O<|U ?_
 refine Dm.yy O O (q.WB (bnd:=[.pointer (some ⟨aI,0,none⟩)]) (cap:=[]) O O) O<|U ?_
 refine D.one (i:=12) O<|Do.s (s.bs (l:=(([(⟨.func 187,#[],#[.pointer (some ⟨b1,0,none⟩),.pointer (some ⟨b2,0,none⟩)]⟩:AU),(⟨.func 72,#[.pointer (some ⟨aI,0,none⟩)],#[]⟩:AU),(⟨.func 189,#[],#[.pointer (some ⟨b1,0,none⟩),.pointer (some ⟨b4,0,none⟩),.pointer (some ⟨b2,0,none⟩)]⟩:AU),(⟨.func 72,#[.pointer (some ⟨aI,0,none⟩)],#[]⟩:AU)]):List AU)) uR NA O O O O O O O) (fun _=>(aN nU [0] O)) O fun b5=>?_
 refine D.one (i:=13) O<|Do.s (s.c (Qt.a (q.Kv (v:=iV ((List.length ([(⟨.func 187,#[],#[.pointer (some ⟨b1,0,none⟩),.pointer (some ⟨b2,0,none⟩)]⟩:AU),(⟨.func 72,#[.pointer (some ⟨aI,0,none⟩)],#[]⟩:AU),(⟨.func 189,#[],#[.pointer (some ⟨b1,0,none⟩),.pointer (some ⟨b4,0,none⟩),.pointer (some ⟨b2,0,none⟩)]⟩:AU),(⟨.func 72,#[.pointer (some ⟨aI,0,none⟩)],#[]⟩:AU)]):Nat):Int)) (v':=iV 4) O (q.len' (l:=([(⟨.func 187,#[],#[.pointer (some ⟨b1,0,none⟩),.pointer (some ⟨b2,0,none⟩)]⟩:AU),(⟨.func 72,#[.pointer (some ⟨aI,0,none⟩)],#[]⟩:AU),(⟨.func 189,#[],#[.pointer (some ⟨b1,0,none⟩),.pointer (some ⟨b4,0,none⟩),.pointer (some ⟨b2,0,none⟩)]⟩:AU),(⟨.func 72,#[.pointer (some ⟨aI,0,none⟩)],#[]⟩:AU)])) (bH 0 O) O Tryz.underlying242))) O) (fun _=>(aN nU [0] O)) O fun _=>?_
 refine D.done<|R.Mm 4 O<|U ?_
 refine R.q (q.idx (i:=0) (bH 0 O) O O uR O O) O<|R.q (q.QF (x:=(⟨.func 187,#[],#[.pointer (some ⟨b1,0,none⟩),.pointer (some ⟨b2,0,none⟩)]⟩:AU)) O (q.gh (bH 0 O) O O xV O)) O<|U ?_
 refine R.s O (s.aT [3,2,4,5,6,7,8,0,1,9] [0] _ _ _ O O O Ui O O (fun w own hw H=>Oi b1 () b2 J8 (⟨c⟩:Yr) bS lg aI aE aG aF dk w own H af aO af af) O) ?_
 rintro ⟨z1,z2,z3,z4⟩
 dsimp only
 refine U ?_
 by_cases h5:(dY lg dk c).2=0
 .
  refine U ?_
  refine R.q (q.add (r:=1) O O aD) O<|U ?_
  refine R.again O O<|U ?_
  refine R.q (q.idx (i:=1) (bH 7 O) O O uR O O) O<|R.q (q.QF (x:=(⟨.func 72,#[.pointer (some ⟨aI,0,none⟩)],#[]⟩:AU)) O (q.gh (bH 7 O) O O xV O)) O<|U ?_
  refine R.s O (s.Np [3,4,5,6,0,1,2,7,8,9] [] _ _ _ O O O Cn O O (fun w own hw H=>lz aI z2 z3 z4 (dY lg dk c).1 w own H af) O) ?_
  rintro ⟨z5,z6,z7⟩
  dsimp only
  refine U ?_
  by_cases h6:(au (dY lg dk c).1).2=0
  .
   refine U ?_
   refine R.q (q.add (r:=2) O O aD) O<|U ?_
   refine R.again O O<|U ?_
   refine R.q (q.idx (i:=2) (bH 7 O) O O uR O O) O<|R.q (q.QF (x:=(⟨.func 189,#[],#[.pointer (some ⟨b1,0,none⟩),.pointer (some ⟨b4,0,none⟩),.pointer (some ⟨b2,0,none⟩)]⟩:AU)) O (q.gh (bH 7 O) O O xV O)) O<|U ?_
   refine R.s O (s.aT [4,8,5,6,0,1,2,3,7,9] [0] _ _ _ O O O Uk O O (fun w own hw H=>Oj b1 () b4 (⟨lg.Next+(c.length:Int)⟩:WC) b2 z1 (⟨c⟩:Yr) bS lg aI z5 z6 z7 (au (dY lg dk c).1).1 w own H af aO aO af) O) ?_
   rintro ⟨z8,z9,l7,mh⟩
   dsimp only
   refine U ?_
   by_cases h7:(aC (au (dY lg dk c).1).1 (lg.From+(lg.Next+(c.length:Int))) (eB 99 (lg.First+(lg.Next+(c.length:Int))) (cz (c.length:Int)))).2=0
   .
    refine U ?_
    refine R.q (q.add (r:=3) O O aD) O<|U ?_
    refine R.again O O<|U ?_
    refine R.q (q.idx (i:=3) (bH 8 O) O O uR O O) O<|R.q (q.QF (x:=(⟨.func 72,#[.pointer (some ⟨aI,0,none⟩)],#[]⟩:AU)) O (q.gh (bH 8 O) O O xV O)) O<|U ?_
    refine R.s O (s.Np [4,5,6,7,0,1,2,3,8,9] [] _ _ _ O O O Cn O O (fun w own hw H=>lz aI z9 l7 mh (aC (au (dY lg dk c).1).1 (lg.From+(lg.Next+(c.length:Int))) (eB 99 (lg.First+(lg.Next+(c.length:Int))) (cz (c.length:Int)))).1 w own H af) O) ?_
    rintro ⟨z12,o6,xX⟩
    dsimp only
    refine U ?_
    by_cases h8:(au (aC (au (dY lg dk c).1).1 (lg.From+(lg.Next+(c.length:Int))) (eB 99 (lg.First+(lg.Next+(c.length:Int))) (cz (c.length:Int)))).1).2=0
    .
     refine U ?_
     refine R.q (q.add (r:=4) O O aD) O<|U ?_
     refine R.again O O<|U ?_
     refine R.q (q.aL (r:=(lg.Next+(c.length:Int))+1) O O) O<|U ?_
     refine R.s O (s.st 7 _ O O O O (.inr ⟨bg,rfl⟩) O O O O) fun _=>U ?_
     have hz:cW lg dk c=((⟨lg.From,lg.Many,lg.First,(lg.Next+(c.length:Int))+1⟩:Lg),(au (aC (au (dY lg dk c).1).1 (lg.From+(lg.Next+(c.length:Int))) (eB 99 (lg.First+(lg.Next+(c.length:Int))) (cz (c.length:Int)))).1).1,0):=by (exact H2 g1 af af af af)
     rw [hz]
     exact R.w1 (z12,o6,xX) [7,0,1,2,3,9] [] O Tryz.results122 (RV.tmp O) O O O (iT O)
    refine U ?_
    have hz:cW lg dk c=(lg,(au (aC (au (dY lg dk c).1).1 (lg.From+(lg.Next+(c.length:Int))) (eB 99 (lg.First+(lg.Next+(c.length:Int))) (cz (c.length:Int)))).1).1,(au (aC (au (dY lg dk c).1).1 (lg.From+(lg.Next+(c.length:Int))) (eB 99 (lg.First+(lg.Next+(c.length:Int))) (cz (c.length:Int)))).1).2):=by (exact Sg g1 af af af af)
    rw [hz]
    exact R.w1 (z12,o6,xX) [7,0,1,2,3,9] [] O Tryz.results122 (RV.tmp O) O O O O
   refine U ?_
   have hz:cW lg dk c=(lg,(aC (au (dY lg dk c).1).1 (lg.From+(lg.Next+(c.length:Int))) (eB 99 (lg.First+(lg.Next+(c.length:Int))) (cz (c.length:Int)))).1,(aC (au (dY lg dk c).1).1 (lg.From+(lg.Next+(c.length:Int))) (eB 99 (lg.First+(lg.Next+(c.length:Int))) (cz (c.length:Int)))).2):=by (exact Sf g1 af af af)
   rw [hz]
   exact R.w1 (z9,l7,mh) [3,4,5,6,7,9] [] O Tryz.results122 (RV.tmp O) O O O O
  refine U ?_
  have hz:cW lg dk c=(lg,(au (dY lg dk c).1).1,(au (dY lg dk c).1).2):=by (exact Se g1 af af)
  rw [hz]
  exact R.w1 (z5,z6,z7) [6,0,1,2,3,9] [] O Tryz.results122 (RV.tmp O) O O O O
 refine U ?_
 have hz:cW lg dk c=(lg,(dY lg dk c).1,(dY lg dk c).2):=by (exact Sd g1 af)
 rw [hz]
 exact R.w1 (z2,z3,z4) [2,3,4,5,6,9] [] O Tryz.results122 (RV.tmp O) O O O O
end Go.Proofs.YtnmpibjlnninjaaGreatDoor
