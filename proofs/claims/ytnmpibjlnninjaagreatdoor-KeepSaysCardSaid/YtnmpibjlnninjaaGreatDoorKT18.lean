import Derived.Test.YtnmpibjlnninjaaGreatDoorKT17
namespace Go.Proofs.YtnmpibjlnninjaaGreatDoor
set_option linter.unusedVariables false
set_option linter.unusedSimpArgs false
set_option maxRecDepth 100000
set_option maxHeartbeats 90000000
open Go Go.RowKit
theorem JN (bA:Value)(l:List UInt8)(n:Nat)(w:World)(own:List Nat)(H:HN w own [] [ah.ls bA l])(hn:1<=n):RC Tryz.prog 70 #[bA,iV (n:Int)] H (fun z:Nat×Nat => .func (.func 128) #[] #[pV z.1,pV z.2]) (fun z=>[ah.box z.1 [bA] 137,ah.box z.2 [iV (n:Int)] 3]) (fun _=>[]):=by
 have zy:=H.aZ 0 rfl
 refine R.uk [(0,bA),(1,iV (n:Int))] Tryz.func70 O O O O H<|R.reg O<|R.s O (s.T7 O (fun w hw=>Sl.cL (hw.cq 0 O)) O) fun b1=>?_
 refine R.s O (s.box O O O) fun b2=>?_
 exact R.ur 1 O O<|R.q (q.ld 0 O O dX O) O<|R.q (q.NI O O) O<|R.nB O O O<|R.q (q.NA (cap:=[pV b1,pV b2]) O O) O<|R.un 1 O<|R.w1 (b1,b2) [1,0,2] [] O Tryz.results70 (RV.tmp O) O O O O
def mkS (st:gZ)(lg:Lg):oW:=⟨st.Epoch,st.Side,st.Size,st.First,lg,st.Rows⟩
theorem E2 (t:ByteArray)(a m:Nat)(h:a+m<=t.size):(⟨((t.data.toList.drop a).take m).toArray⟩:ByteArray)=t.extract a (a+m):=by
 apply ByteArray.ext
 rw [ByteArray.data_extract]
 apply Array.ext'
 rw [Array.toList_extract]
 simp
theorem E3 {t:ByteArray}{k:Nat}{E:Int}(hk:k*48<t.size)(hE:E=((48*k:Nat):Int)+min 48 (((t.data.toList.drop (48*k)).length:Nat):Int)) :
 (⟨((t.data.toList.drop (48*k)).take (E.toNat-48*k)).toArray⟩:ByteArray)=t.extract (k*48) (k*48+min 48 (t.size-k*48)):=by
 rw [Nat.mul_comm 48 k] at hE ⊢
 have hl:(t.data.toList.drop (k*48)).length=t.size-k*48:=by rw [List.length_drop,Array.length_toList];rfl
 have e:E.toNat-k*48=min 48 (t.size-k*48):=by rw [hE,hl];omega
 rw [e]
 exact E2 t _ _ ae
section
variable {f:Int} {t:ByteArray} {n k:Nat} {d m:bZ} {Z:bZ×Int} {e:Int}
theorem OY (h:gY f t n k d=Z)(hn:0<n)(hk:k*48<t.size)(he:(aP d (f+(k:Int)) (t.extract (k*48) (k*48+min 48 (t.size-k*48)))).2=0) :
 gY f t (n-1) (k+1) (aP d (f+(k:Int)) (t.extract (k*48) (k*48+min 48 (t.size-k*48)))).1=Z:=by
 cases n with
 | zero=>omega
 | succ n=>rw [gY,if_pos hk,if_pos he] at h;exact h
theorem SJ (h:gY f t n k d=Z)(hn:0<n)(hk:k*48<t.size)(he:¬ (aP d (f+(k:Int)) (t.extract (k*48) (k*48+min 48 (t.size-k*48)))).2=0) :
 Z=aP d (f+(k:Int)) (t.extract (k*48) (k*48+min 48 (t.size-k*48))):=by
 cases n with
 | zero=>omega
 | succ n=>rw [gY,if_pos hk,if_neg he] at h;exact h.symm
theorem SK (h:gY f t n k d=Z)(hk:¬ k*48<t.size):Z=(d,0):=by
 cases n with
 | zero=>rw [gY] at h;exact h.symm
 | succ n=>rw [gY,if_neg hk] at h;exact h.symm
end
abbrev Wh (st:gZ)(lg:Lg):zB:=⟨st.Epoch+1,1-st.Side,((bB st.Rows).size:Int),lg.First+lg.Many⟩
abbrev vJ (st:gZ)(lg:Lg)(dm:bZ):bZ×Int:=aP (aN dm).1 ((st.Epoch+1) % 2) (cK (Wh st lg))
abbrev fV (st:gZ)(lg:Lg)(dm:bZ):bZ×Int:=aN (vJ st lg dm).1
abbrev Wi (st:gZ)(k:Nat):ByteArray:=(⟨(((bB st.Rows).data.toList.drop (48*k)).take (((((48*k:Nat):Int)+(min 48 (((bB st.Rows).data.toList.drop (48*k)).length:Int))).toNat)-(48*k))).toArray⟩:ByteArray)
abbrev rz (st:gZ)(dm:bZ)(k:Nat):bZ×Int:=aP dm ((2+((1-st.Side)*50))+(k:Int)) (Wi st k)
theorem E4 (cr:Nat)(aI:Value)(st:gZ)(aF:Nat)(ay aC az:Value)(dk:bZ)(bu:Nat)(lg:Lg)(w:World)(own:List Nat)(H:HN w own [ah.box cr [pV aF,iV st.Epoch,iV st.Side,iV st.Size,iV st.First,pV bu,aI] 132,ah.box aF [ay,aC,az,iV dk.Fuse,.bool dk.Down] 120,ah.row 9 ay dk.Kept,ah.row 9 aC dk.Now,ah.row 196 az dk.Wait,ah.box bu [pV aF,iV lg.From,iV lg.Many,iV lg.First,iV lg.Next] 193] [ah.ls aI st.Rows])(hD:fx dk.Now.length 70000 dk/\dk.Now.length<=200/\166<=dk.Now.length)(hS:0<=st.Epoch/\st.Epoch<=1000000000/\0<=st.Side/\st.Side<=1/\0<=lg.Many/\lg.Many<=1000000000/\1<=lg.First/\lg.First<=1000000000)(hl:st.Rows.length<=60)(hF:∀c∈st.Rows,gu c=0):RC Tryz.prog 28 #[pV cr] H (fun _:Value×Value×Value×Value×Nat=>bN (cj (mkS st lg) dk).2.2) (fun z=>[ah.box cr [pV aF,iV (cj (mkS st lg) dk).1.c.Epoch,iV (cj (mkS st lg) dk).1.c.Side,iV (cj (mkS st lg) dk).1.c.Size,iV (cj (mkS st lg) dk).1.c.First,pV z.2.2.2.2,z.1] 132,ah.box aF [z.2.1,z.2.2.1,z.2.2.2.1,iV (cj (mkS st lg) dk).2.1.Fuse,.bool (cj (mkS st lg) dk).2.1.Down] 120,ah.row 9 z.2.1 (cj (mkS st lg) dk).2.1.Kept,ah.row 9 z.2.2.1 (cj (mkS st lg) dk).2.1.Now,ah.row 196 z.2.2.2.1 (cj (mkS st lg) dk).2.1.Wait,ah.box z.2.2.2.2 [pV aF,iV (cj (mkS st lg) dk).1.L.From,iV (cj (mkS st lg) dk).1.L.Many,iV (cj (mkS st lg) dk).1.L.First,iV (cj (mkS st lg) dk).1.L.Next] 193]) (fun z=>[ah.ls z.1 (cj (mkS st lg) dk).1.c.Rows]):=by
 have eo:=H.cap 2 rfl;have eu:=H.cz 2 rfl
 have e8:=H.cap 3 rfl;have e9:=H.cz 3 rfl
 have ew:=H.cap 4 rfl;have ey:=H.cz 4 rfl
 have qY:=H.aZ 0 rfl
 have hal:=wL hF
 refine R.SI (n:=113) (vs:=[pV cr]) (B:=[ah.box cr [pV aF,iV st.Epoch,iV st.Side,iV st.Size,iV st.First,pV bu,aI] 132,ah.box aF [ay,aC,az,iV dk.Fuse,.bool dk.Down] 120,ah.row 9 ay dk.Kept,ah.row 9 aC dk.Now,ah.row 196 az dk.Wait,ah.box bu [pV aF,iV lg.From,iV lg.Many,iV lg.First,iV lg.Next] 193,ah.held w own]) [(0,pV cr)] Tryz.func28 O O O O H ?_
 refine R.reg O<|?_
 refine R.s O (s.box (cs:=[pV cr]) O O O) fun b1=>?_
 refine R.s O (s.alloc (cs:=[.nilIface]) LV O O) fun b2=>?_
 refine R.nil ?_
 refine R.reg O<|R.q (q.ld 1 O O jd O) O<|R.q (q.ui O) O<|R.q (q.vp O Gm O) O<|R.q (q.ld 2 O O Im O) O<|R.c (q.call U0 O O (fun w hw=>OP _ st.Rows w (hw.cq 0 O) ae af)) O<|R.un 1 O ?_
 refine R.cut 1 (fun b3:Nat=>[(1,pV b1),(2,pV b2),(3,.string (bB st.Rows)),(4,pV b3)]) (fun b3:Nat=>[ah.box b3 [iV (st.Epoch+1),iV (1-st.Side),iV ((bB st.Rows).size:Int),iV (lg.First+lg.Many)] 129,ah.box b2 [.nilIface] 38,ah.box b1 [pV cr] 76,ah.box cr [pV aF,iV st.Epoch,iV st.Side,iV st.Size,iV st.First,pV bu,aI] 132,ah.box aF [ay,aC,az,iV dk.Fuse,.bool dk.Down] 120,ah.row 9 ay dk.Kept,ah.row 9 aC dk.Now,ah.row 196 az dk.Wait,ah.box bu [pV aF,iV lg.From,iV lg.Many,iV lg.First,iV lg.Next] 193,ah.held w own]) (fun b3:Nat=>[ah.ls aI st.Rows]) (fun b3:Nat=>True) O O O ?_ ?_
 .
  refine R.dC (fuel:=22) cy O O mixed O ?_
  refine D.q (i:=0) O (ck cy [0] O) O (q.ld 1 O O jd O) O<|D.q (i:=1) O (ck cy [0] O) O (q.ui O) O<|D.q (i:=2) O (ck cy [0] O) O (q.vp O su O) O<|D.q (i:=3) O (ck cy [0] O) O (q.vp O yn O) O<|D.q (i:=4) O (ck cy [0] O) O (q.ld 2 O O dX O) O<|D.q (i:=5) O (ck cy [0] O) O (q.fX (r:=st.Epoch+1) O O) O<|D.q (i:=6) O (ck cy [0] O) O (q.ld 1 O O jd O) O<|D.q (i:=7) O (ck cy [0] O) O (q.ui O) O<|D.q (i:=8) O (ck cy [0] O) O (q.vp O su O) O<|D.q (i:=9) O (ck cy [0] O) O (q.vp O yo O) O<|D.q (i:=10) O (ck cy [0] O) O (q.ld 2 O O dX O) O<|D.q (i:=11) O (ck cy [0] O) O (q.jY (r:=1-st.Side) O O) O<|D.q (i:=12) O (ck cy [0] O) O (q.mv O) O<|D.q (i:=13) O (ck cy [0] O) O (q.TN O Tryz.underlying9) O<|D.q (i:=14) O (ck cy [0] O) O (q.ld 1 O O jd O) O<|D.q (i:=15) O (ck cy [0] O) O (q.ui O) O<|D.q (i:=16) O (ck cy [0] O) O (q.vp O yp O) O<|D.q (i:=17) O (ck cy [0] O) O (q.ld 2 O O EA O) O<|?_
  refine D.two (i:=18) (j:=20) O O ?_ ?_
  .
   refine Do.p cy [0] (s.c (q.call Qw O O (fun w hw=>ES bu aF lg w (hw.b 7 O) ae)) O) fun _=>?_
   refine D.q (i:=19) O (ck cy [0] O) O (q.build (cs:=[iV (st.Epoch+1),iV (1-st.Side),iV ((bB st.Rows).size:Int),iV (lg.First+lg.Many)]) LZ O O) O<|?_
   refine D.p 20 O ly [0] (s.alloc (cs:=[iV 0,iV 0,iV 0,iV 0]) kx O O) fun b3=>?_
   refine D.p 21 O ly [0] (s.st (us:=[iV (st.Epoch+1),iV (1-st.Side),iV ((bB st.Rows).size:Int),iV (lg.First+lg.Many)]) (cs':=[iV (st.Epoch+1),iV (1-st.Side),iV ((bB st.Rows).size:Int),iV (lg.First+lg.Many)]) 0 _ O O O O (.inl iW) O O O O) fun _=>?_
   refine D.done<|?_
   exact R.meet b3 O G6 (sF O) (dE j1 [0] O)
  refine Do.p ly [0] (s.alloc (cs:=[iV 0,iV 0,iV 0,iV 0]) kx O O) fun b4=>?_
  refine D.p 18 O ly [0] (s.c (q.call Qw O O (fun w hw=>ES bu aF lg w (hw.b 8 O) ae)) O) fun _=>?_
  refine D.q (i:=19) O (ck ly [0] O) O (q.build (cs:=[iV (st.Epoch+1),iV (1-st.Side),iV ((bB st.Rows).size:Int),iV (lg.First+lg.Many)]) LZ O O) O<|?_
  refine D.p 21 O ly [0] (s.st (us:=[iV (st.Epoch+1),iV (1-st.Side),iV ((bB st.Rows).size:Int),iV (lg.First+lg.Many)]) (cs':=[iV (st.Epoch+1),iV (1-st.Side),iV ((bB st.Rows).size:Int),iV (lg.First+lg.Many)]) 0 _ O O O O (.inl iW) O O O O) fun _=>?_
  refine D.done<|?_
  exact R.meet b4 O G6 (sF O) (dE j1 [0] O)
 rintro b3 _
 refine R.reg O<|?_
 refine R.s O (s.alloc (cs:=[iV 0]) jQ O O) fun b5=>?_
 refine R.s O (s.st (us:=[iV 0]) (cs':=[iV 0]) 0 _ O O O O (.inr ⟨dX,rfl⟩) O O O O) fun _=>?_
 refine R.nil ?_
 refine R.reg O<|R.u 1 O<|?_
 refine R.s O (s.Y9 O Tryz.underlying9 Tryz.underlying137 Tryz.underlying5 ae O) fun z1=>?_
 refine R.s (B':=(fun g_:Nat×Nat=>[ah.box g_.1 [z1] 137,ah.box g_.2 [iV (48:Int)] 3,ah.box b5 [iV 0] 3,ah.box b3 [iV (st.Epoch+1),iV (1-st.Side),iV ((bB st.Rows).size:Int),iV (lg.First+lg.Many)] 129,ah.box b2 [.nilIface] 38,ah.box b1 [pV cr] 76,ah.box cr [pV aF,iV st.Epoch,iV st.Side,iV st.Size,iV st.First,pV bu,aI] 132,ah.box aF [ay,aC,az,iV dk.Fuse,.bool dk.Down] 120,ah.row 9 ay dk.Kept,ah.row 9 aC dk.Now,ah.row 196 az dk.Wait,ah.box bu [pV aF,iV lg.From,iV lg.Many,iV lg.First,iV lg.Next] 193,ah.held w own])) (F':=(fun g_:Nat×Nat=>[ah.ls z1 (bB st.Rows).data.toList,ah.ls aI st.Rows])) O (s.aJ (B0:=[]) (Br:=[ah.box b5 [iV 0] 3,ah.box b3 [iV (st.Epoch+1),iV (1-st.Side),iV ((bB st.Rows).size:Int),iV (lg.First+lg.Many)] 129,ah.box b2 [.nilIface] 38,ah.box b1 [pV cr] 76,ah.box cr [pV aF,iV st.Epoch,iV st.Side,iV st.Size,iV st.First,pV bu,aI] 132,ah.box aF [ay,aC,az,iV dk.Fuse,.bool dk.Down] 120,ah.row 9 ay dk.Kept,ah.row 9 aC dk.Now,ah.row 196 az dk.Wait,ah.box bu [pV aF,iV lg.From,iV lg.Many,iV lg.First,iV lg.Next] 193,ah.held w own]) (F0:=[ah.ls z1 (bB st.Rows).data.toList]) sJ [0] (fun g_:Nat×Nat => .func (.func 128) #[] #[pV g_.1,pV g_.2]) (fun g_:Nat×Nat=>[ah.box g_.1 [z1] 137,ah.box g_.2 [iV (48:Int)] 3]) (fun g_:Nat×Nat=>[]) O O O U1 O O (fun w own hw H=>JN z1 (bB st.Rows).data.toList 48 w own H ae) O) ?_
 rintro ⟨z2,z3⟩
 dsimp only
 refine R.nil ?_
 refine R.range O O RR (fun g_:Bool×Value×Value×Value×bZ×Int=>g_.1) (fun g_:Bool×Value×Value×Value×bZ×Int=>g_.1=decide (¬ g_.2.2.2.2.2=0)/\ck1 (mkS st lg) dk=(g_.2.2.2.2.1,g_.2.2.2.2.2)/\fx dk.Now.length 70050 g_.2.2.2.2.1) (fun (D_:Nat)=>(fun g_:Bool×Value×Value×Value×bZ×Int=>[ah.cE D_ (.deferred (some [])),ah.box b3 [iV (st.Epoch+1),iV (1-st.Side),iV ((bB st.Rows).size:Int),iV (lg.First+lg.Many)] 129,ah.box b2 [bN g_.2.2.2.2.2] 38,ah.box b1 [pV cr] 76,ah.box cr [pV aF,iV st.Epoch,iV st.Side,iV st.Size,iV st.First,pV bu,aI] 132,ah.box aF [g_.2.1,g_.2.2.1,g_.2.2.2.1,iV g_.2.2.2.2.1.Fuse,.bool g_.2.2.2.2.1.Down] 120,ah.row 9 g_.2.1 g_.2.2.2.2.1.Kept,ah.row 9 g_.2.2.1 g_.2.2.2.2.1.Now,ah.row 196 g_.2.2.2.1 g_.2.2.2.2.1.Wait,ah.box bu [pV aF,iV lg.From,iV lg.Many,iV lg.First,iV lg.Next] 193,ah.held w own])) (fun (D_:Nat)=>(fun g_:Bool×Value×Value×Value×bZ×Int=>[ah.ls z1 (bB st.Rows).data.toList,ah.ls aI st.Rows])) ?_ ?_ ?_
 .
  intro CG a_ D_ w1 Yb Za Zb VA Xb Xc Yc
  refine CallsIn.mono (I.uk (n:=31) (vs:=[.func (.yield (D_+1)) #[] #[],pV z2,pV z3]) (X:=(blks [ah.cE (D_+1) (.loop (zM CG false)),ah.cE D_ (.deferred (some [])),ah.box z2 [z1] 137,ah.box z3 [iV 48] 3,ah.box b5 [iV 0] 3,ah.box b3 [iV (st.Epoch+1),iV (1-st.Side),iV ((bB st.Rows).size:Int),iV (lg.First+lg.Many)] 129,ah.box b2 [.nilIface] 38,ah.box b1 [pV cr] 76,ah.box cr [pV aF,iV st.Epoch,iV st.Side,iV st.Size,iV st.First,pV bu,aI] 132,ah.box aF [ay,aC,az,iV dk.Fuse,.bool dk.Down] 120,ah.row 9 ay dk.Kept,ah.row 9 aC dk.Now,ah.row 196 az dk.Wait,ah.box bu [pV aF,iV lg.From,iV lg.Many,iV lg.First,iV lg.Next] 193,ah.held w own])) (B:=[ah.cE (D_+1) (.loop (zM CG false)),ah.cE D_ (.deferred (some [])),ah.box z2 [z1] 137,ah.box z3 [iV 48] 3,ah.box b5 [iV 0] 3,ah.box b3 [iV (st.Epoch+1),iV (1-st.Side),iV ((bB st.Rows).size:Int),iV (lg.First+lg.Many)] 129,ah.box b2 [.nilIface] 38,ah.box b1 [pV cr] 76,ah.box cr [pV aF,iV st.Epoch,iV st.Side,iV st.Size,iV st.First,pV bu,aI] 132,ah.box aF [ay,aC,az,iV dk.Fuse,.bool dk.Down] 120,ah.row 9 ay dk.Kept,ah.row 9 aC dk.Now,ah.row 196 az dk.Wait,ah.box bu [pV aF,iV lg.From,iV lg.Many,iV lg.First,iV lg.Next] 193,ah.held w own]) (F:=[ah.ls z1 (bB st.Rows).data.toList,ah.ls aI st.Rows]) (R:=fun Zc w3 => ∃z_:Bool×Value×Value×Value×bZ×Int,Zc = .returned (.tuple #[])/\(fun g_:Bool×Value×Value×Value×bZ×Int=>g_.1=decide (¬ g_.2.2.2.2.2=0)/\ck1 (mkS st lg) dk=(g_.2.2.2.2.1,g_.2.2.2.2.2)/\fx dk.Now.length 70050 g_.2.2.2.2.1) z_/\Wd w1 (blks [ah.cE (D_+1) (.loop (zM CG false)),ah.cE D_ (.deferred (some [])),ah.box z2 [z1] 137,ah.box z3 [iV 48] 3,ah.box b5 [iV 0] 3,ah.box b3 [iV (st.Epoch+1),iV (1-st.Side),iV ((bB st.Rows).size:Int),iV (lg.First+lg.Many)] 129,ah.box b2 [.nilIface] 38,ah.box b1 [pV cr] 76,ah.box cr [pV aF,iV st.Epoch,iV st.Side,iV st.Size,iV st.First,pV bu,aI] 132,ah.box aF [ay,aC,az,iV dk.Fuse,.bool dk.Down] 120,ah.row 9 ay dk.Kept,ah.row 9 aC dk.Now,ah.row 196 az dk.Wait,ah.box bu [pV aF,iV lg.From,iV lg.Many,iV lg.First,iV lg.Next] 193,ah.held w own]) (ah.cE (D_+1) (.loop (zM CG ((fun g_:Bool×Value×Value×Value×bZ×Int=>g_.1) z_)))::(fun (D_:Nat)=>(fun g_:Bool×Value×Value×Value×bZ×Int=>[ah.cE D_ (.deferred (some [])),ah.box b3 [iV (st.Epoch+1),iV (1-st.Side),iV ((bB st.Rows).size:Int),iV (lg.First+lg.Many)] 129,ah.box b2 [bN g_.2.2.2.2.2] 38,ah.box b1 [pV cr] 76,ah.box cr [pV aF,iV st.Epoch,iV st.Side,iV st.Size,iV st.First,pV bu,aI] 132,ah.box aF [g_.2.1,g_.2.2.1,g_.2.2.2.1,iV g_.2.2.2.2.1.Fuse,.bool g_.2.2.2.2.1.Down] 120,ah.row 9 g_.2.1 g_.2.2.2.2.1.Kept,ah.row 9 g_.2.2.1 g_.2.2.2.2.1.Now,ah.row 196 g_.2.2.2.1 g_.2.2.2.2.1.Wait,ah.box bu [pV aF,iV lg.From,iV lg.Many,iV lg.First,iV lg.Next] 193,ah.held w own])) D_ z_) ((fun (D_:Nat)=>(fun g_:Bool×Value×Value×Value×bZ×Int=>[ah.ls z1 (bB st.Rows).data.toList,ah.ls aI st.Rows])) D_ z_) w3) [(0,.func (.yield (D_+1)) #[] #[]),(1,pV z2),(2,pV z3)] Tryz.func128 O O O O (Wd.sub Yc) ?_) (fun e_ w3 OZ=>?_)
  .
   refine I.reg O O (by intro _ _ h;(obtain ⟨_,h,_⟩:=h;cases h))<|R.un 1 O<|I.nil ?_
   refine I.loop (fun g_:Nat×bZ×Value×Value×Value=>[(0,.func (.yield (D_+1)) #[] #[]),(1,pV z2),(2,pV z3),(4,iV ((48*g_.1:Nat):Int))]) (fun g_:Nat×bZ×Value×Value×Value=>[ah.cE (D_+1) (.loop (zM CG false)),ah.cE D_ (.deferred (some [])),ah.box z2 [z1] 137,ah.box z3 [iV 48] 3,ah.box b5 [iV (g_.1:Int)] 3,ah.box b3 [iV (st.Epoch+1),iV (1-st.Side),iV ((bB st.Rows).size:Int),iV (lg.First+lg.Many)] 129,ah.box b2 [.nilIface] 38,ah.box b1 [pV cr] 76,ah.box cr [pV aF,iV st.Epoch,iV st.Side,iV st.Size,iV st.First,pV bu,aI] 132,ah.box aF [g_.2.2.1,g_.2.2.2.1,g_.2.2.2.2,iV g_.2.1.Fuse,.bool g_.2.1.Down] 120,ah.row 9 g_.2.2.1 g_.2.1.Kept,ah.row 9 g_.2.2.2.1 g_.2.1.Now,ah.row 196 g_.2.2.2.2 g_.2.1.Wait,ah.box bu [pV aF,iV lg.From,iV lg.Many,iV lg.First,iV lg.Next] 193,ah.held w own]) (fun g_:Nat×bZ×Value×Value×Value=>[ah.ls z1 (bB st.Rows).data.toList,ah.ls aI st.Rows]) (fun g_:Nat×bZ×Value×Value×Value=>g_.1<=44/\gY (2+(1-st.Side)*50) (bB st.Rows) ((bB st.Rows).size+1-g_.1) g_.1 g_.2.1=ck1 (mkS st lg) dk/\fx dk.Now.length (70000+g_.1) g_.2.1) (fun g_:Nat×bZ×Value×Value×Value=>50-g_.1) (0,dk,ay,aC,az) O (by exact ⟨ae,rfl,hD.1⟩) (sF O) (dE vj [0,1] O) ?_
   rintro ⟨k,dm,dU,fh,dV⟩ ⟨hk,HC,hO⟩
   dsimp only at *
   have hnl:=hO.nl;have p1:=hO.fine ae ae;have hll:(bB st.Rows).data.toList.length=(bB st.Rows).size:=by rw [Array.length_toList];rfl
   have hdl:((bB st.Rows).data.toList.drop (48*k)).length=(bB st.Rows).size-48*k:=by rw [List.length_drop,hll]
   refine I.reg O O (by intro _ _ h;(obtain ⟨_,h,_⟩:=h;cases h))<|R.u 1 O<|R.q (q.ld 2 O O yq O) O<|R.q (q.len' (zw 0 O) O Tryz.underlying137) O<|?_
   by_cases h1:48*k<(bB st.Rows).data.toList.length
   .
    refine R.q (q.Q6 O O) O<|R.nil<|I.nil ?_
    refine I.nC O O ?_
    have hks:k*48<(bB st.Rows).size:=ae
    refine I.FP (fuel:=7) (Wd w1 (blks [ah.cE (D_+1) (.loop (zM CG false)),ah.cE D_ (.deferred (some [])),ah.box z2 [z1] 137,ah.box z3 [iV 48] 3,ah.box b5 [iV 0] 3,ah.box b3 [iV (st.Epoch+1),iV (1-st.Side),iV ((bB st.Rows).size:Int),iV (lg.First+lg.Many)] 129,ah.box b2 [.nilIface] 38,ah.box b1 [pV cr] 76,ah.box cr [pV aF,iV st.Epoch,iV st.Side,iV st.Size,iV st.First,pV bu,aI] 132,ah.box aF [ay,aC,az,iV dk.Fuse,.bool dk.Down] 120,ah.row 9 ay dk.Kept,ah.row 9 aC dk.Now,ah.row 196 az dk.Wait,ah.box bu [pV aF,iV lg.From,iV lg.Many,iV lg.First,iV lg.Next] 193,ah.held w own]) [ah.cE (D_+1) (.loop (zM CG false)),ah.cE D_ (.deferred (some [])),ah.box z2 [z1] 137,ah.box z3 [iV 48] 3,ah.box b5 [iV (k:Int)] 3,ah.box b3 [iV (st.Epoch+1),iV (1-st.Side),iV ((bB st.Rows).size:Int),iV (lg.First+lg.Many)] 129,ah.box b2 [.nilIface] 38,ah.box b1 [pV cr] 76,ah.box cr [pV aF,iV st.Epoch,iV st.Side,iV st.Size,iV st.First,pV bu,aI] 132,ah.box aF [dU,fh,dV,iV dm.Fuse,.bool dm.Down] 120,ah.row 9 dU dm.Kept,ah.row 9 fh dm.Now,ah.row 196 dV dm.Wait,ah.box bu [pV aF,iV lg.From,iV lg.Many,iV lg.First,iV lg.Next] 193,ah.held w own] [ah.ls z1 (bB st.Rows).data.toList,ah.ls aI st.Rows]) O O (by intro _ _ h;(obtain ⟨_,h,_⟩:=h;cases h)) mixed O ?_
    refine D.q (i:=0) O (ck vj [0,1] O) O (q.ld 3 O O dX O) O<|D.q (i:=1) O (ck vj [0,1] O) O (q.ld 2 O O yq O) O<|D.q (i:=2) O (ck vj [0,1] O) O (q.mv O) O<|D.q (i:=3) O (ck vj [0,1] O) O (q.cR (i:=48*k) (zw 0 O) O O aM O ae) O<|D.q (i:=4) O (ck vj [0,1] O) O (q.len' (fun w hw=>Sl.from (hw.cq 0 O) ae) O Tryz.underlying137) O<|D.q (i:=5) O (ck vj [0,1] O) O (q.min (r:=min 48 (((bB st.Rows).data.toList.drop (48*k)).length:Int)) O O O) O<|D.q (i:=6) O (ck vj [0,1] O) O (q.as O) O<|D.done<|?_
    refine I.W9 O ?_
    refine I.q (q.mv O) O O ?_
    refine I.q (q.ld 2 O O yq O) O O ?_
    refine I.q (q.mv O) O O ?_
    refine I.q (q.mv O) O O ?_
    refine I.q (q.mv O) O O ?_
    refine I.q (q.fX (r:=((48*k:Nat):Int)+(min 48 (((bB st.Rows).data.toList.drop (48*k)).length:Int))) O O) O O ?_
    refine I.q (q.mv O) O O ?_
    refine I.q (q.mv O) O O ?_
    refine I.q (q.fX (r:=((48*k:Nat):Int)+(min 48 (((bB st.Rows).data.toList.drop (48*k)).length:Int))) O O) O O ?_
    refine I.q (q.FK (i:=48*k) (j:=(((48*k:Nat):Int)+(min 48 (((bB st.Rows).data.toList.drop (48*k)).length:Int))).toNat) (q':=(((48*k:Nat):Int)+(min 48 (((bB st.Rows).data.toList.drop (48*k)).length:Int))).toNat) (zw 0 O) O O O O aM O ae ae ae ae ae) O O ?_
    refine I.y (i:=0) (rc:=zM CG false) (xv:=(FK z1 (48*k) (((48*k:Nat):Int)+(min 48 (((bB st.Rows).data.toList.drop (48*k)).length:Int))).toNat (((48*k:Nat):Int)+(min 48 (((bB st.Rows).data.toList.drop (48*k)).length:Int))).toNat 1)) O (by show CG.params.size=1;rw [VA];rfl) O O (fun g_:Bool×Value×Value×Value => !g_.1) (fun g_:Bool×Value×Value×Value=>g_.1=decide (¬ (rz st dm k).2=0)) (fun g_:Bool×Value×Value×Value=>(bif g_.1 then [ah.box aF [g_.2.1,g_.2.2.1,g_.2.2.2,iV (rz st dm k).1.Fuse,.bool (rz st dm k).1.Down] 120,ah.row 9 g_.2.1 (rz st dm k).1.Kept,ah.row 9 g_.2.2.1 (rz st dm k).1.Now,ah.row 196 g_.2.2.2 (rz st dm k).1.Wait,ah.cE (D_+1) (.loop (zM CG true)),ah.cE D_ (.deferred (some [])),ah.box z2 [z1] 137,ah.box z3 [iV 48] 3,ah.box b5 [iV (k:Int)] 3,ah.box b3 [iV (st.Epoch+1),iV (1-st.Side),iV ((bB st.Rows).size:Int),iV (lg.First+lg.Many)] 129,ah.box b2 [bN (rz st dm k).2] 38,ah.box b1 [pV cr] 76,ah.box cr [pV aF,iV st.Epoch,iV st.Side,iV st.Size,iV st.First,pV bu,aI] 132,ah.box bu [pV aF,iV lg.From,iV lg.Many,iV lg.First,iV lg.Next] 193,ah.held w own] else [ah.box aF [g_.2.1,g_.2.2.1,g_.2.2.2,iV (rz st dm k).1.Fuse,.bool (rz st dm k).1.Down] 120,ah.row 9 g_.2.1 (rz st dm k).1.Kept,ah.row 9 g_.2.2.1 (rz st dm k).1.Now,ah.row 196 g_.2.2.2 (rz st dm k).1.Wait,ah.cE (D_+1) (.loop (zM CG false)),ah.cE D_ (.deferred (some [])),ah.box z2 [z1] 137,ah.box z3 [iV 48] 3,ah.box b5 [iV ((k+1):Int)] 3,ah.box b3 [iV (st.Epoch+1),iV (1-st.Side),iV ((bB st.Rows).size:Int),iV (lg.First+lg.Many)] 129,ah.box b2 [.nilIface] 38,ah.box b1 [pV cr] 76,ah.box cr [pV aF,iV st.Epoch,iV st.Side,iV st.Size,iV st.First,pV bu,aI] 132,ah.box bu [pV aF,iV lg.From,iV lg.Many,iV lg.First,iV lg.Next] 193,ah.held w own])) (fun g_:Bool×Value×Value×Value=>[ah.ls z1 (bB st.Rows).data.toList,ah.ls aI st.Rows]) (fun w2 hw2=>?_) O ?_
    .
     rw [show (zM CG false).assign=_ from Xb,show (zM CG false).body=_ from Xc]
     refine I.round (i:=0) (rc:=zM CG false) (L0:=[(1,pV b1),(2,pV b2),(3,.string (bB st.Rows)),(4,pV b3),(5,pV b5),(36,.string (bB st.Rows)),(37,z1),(38,.func (.func 128) #[] #[pV z2,pV z3]),(39,(FK z1 (48*k) (((48*k:Nat):Int)+(min 48 (((bB st.Rows).data.toList.drop (48*k)).length:Int))).toNat (((48*k:Nat):Int)+(min 48 (((bB st.Rows).data.toList.drop (48*k)).length:Int))).toNat 1))]) (L1:=[(1,pV b1),(2,pV b2),(3,.string (bB st.Rows)),(4,pV b3),(5,pV b5),(36,.string (bB st.Rows)),(37,z1),(38,.func (.func 128) #[] #[pV z2,pV z3]),(39,(FK z1 (48*k) (((48*k:Nat):Int)+(min 48 (((bB st.Rows).data.toList.drop (48*k)).length:Int))).toNat (((48*k:Nat):Int)+(min 48 (((bB st.Rows).data.toList.drop (48*k)).length:Int))).toNat 1)),(6,(FK z1 (48*k) (((48*k:Nat):Int)+(min 48 (((bB st.Rows).data.toList.drop (48*k)).length:Int))).toNat (((48*k:Nat):Int)+(min 48 (((bB st.Rows).data.toList.drop (48*k)).length:Int))).toNat 1))]) O O ((Fr.yield (xv:=(FK z1 (48*k) (((48*k:Nat):Int)+(min 48 (((bB st.Rows).data.toList.drop (48*k)).length:Int))).toNat (((48*k:Nat):Int)+(min 48 (((bB st.Rows).data.toList.drop (48*k)).length:Int))).toNat 1)) Za Zb VA O).sub (sF O)) hw2 ?_ ?_
     .
      refine I.reg O O (by intro _ _ h;exact h)<|R.un 1 O<|I.nil ?_
      exact I.assigned rfl (sF rfl)
     refine I.mp (B':=[ah.cE (D_+1) (.loop { zM CG false with state:= .busy}),ah.cE D_ (.deferred (some [])),ah.box z2 [z1] 137,ah.box z3 [iV 48] 3,ah.box b5 [iV (k:Int)] 3,ah.box b3 [iV (st.Epoch+1),iV (1-st.Side),iV ((bB st.Rows).size:Int),iV (lg.First+lg.Many)] 129,ah.box b2 [.nilIface] 38,ah.box b1 [pV cr] 76,ah.box cr [pV aF,iV st.Epoch,iV st.Side,iV st.Size,iV st.First,pV bu,aI] 132,ah.box aF [dU,fh,dV,iV dm.Fuse,.bool dm.Down] 120,ah.row 9 dU dm.Kept,ah.row 9 fh dm.Now,ah.row 196 dV dm.Wait,ah.box bu [pV aF,iV lg.From,iV lg.Many,iV lg.First,iV lg.Next] 193,ah.held w own]) (F':=[ah.ls z1 (bB st.Rows).data.toList,ah.ls aI st.Rows]) (fun _ h=>h) ?_
     refine I.FP (fuel:=14) (Wd w1 (blks [ah.cE (D_+1) (.loop (zM CG false)),ah.cE D_ (.deferred (some [])),ah.box z2 [z1] 137,ah.box z3 [iV 48] 3,ah.box b5 [iV 0] 3,ah.box b3 [iV (st.Epoch+1),iV (1-st.Side),iV ((bB st.Rows).size:Int),iV (lg.First+lg.Many)] 129,ah.box b2 [.nilIface] 38,ah.box b1 [pV cr] 76,ah.box cr [pV aF,iV st.Epoch,iV st.Side,iV st.Size,iV st.First,pV bu,aI] 132,ah.box aF [ay,aC,az,iV dk.Fuse,.bool dk.Down] 120,ah.row 9 ay dk.Kept,ah.row 9 aC dk.Now,ah.row 196 az dk.Wait,ah.box bu [pV aF,iV lg.From,iV lg.Many,iV lg.First,iV lg.Next] 193,ah.held w own]) [ah.cE (D_+1) (.loop { zM CG false with state:= .busy}),ah.cE D_ (.deferred (some [])),ah.box z2 [z1] 137,ah.box z3 [iV 48] 3,ah.box b5 [iV (k:Int)] 3,ah.box b3 [iV (st.Epoch+1),iV (1-st.Side),iV ((bB st.Rows).size:Int),iV (lg.First+lg.Many)] 129,ah.box b2 [.nilIface] 38,ah.box b1 [pV cr] 76,ah.box cr [pV aF,iV st.Epoch,iV st.Side,iV st.Size,iV st.First,pV bu,aI] 132,ah.box bu [pV aF,iV lg.From,iV lg.Many,iV lg.First,iV lg.Next] 193,ah.held w own] [ah.ls z1 (bB st.Rows).data.toList,ah.ls aI st.Rows]) O O (by intro _ _ h;exact h) mixed O ?_
     refine D.q (i:=0) O (ck pj [0,1] O) O (q.ld 7 O O jd O) O<|D.q (i:=1) O (ck pj [0,1] O) O (q.ui O) O<|D.q (i:=2) O (ck pj [0,1] O) O (q.vp O ky O) O<|D.q (i:=3) O (ck pj [0,1] O) O (q.ld 8 O O oQ O) O<|D.q (i:=4) O (ck pj [0,1] O) O (q.vp O yo O) O<|D.q (i:=5) O (ck pj [0,1] O) O (q.ld 5 O O dX O) O<|D.q (i:=6) O (ck pj [0,1] O) O (q.ug (r:=(1-st.Side)*50) O O) O<|D.q (i:=7) O (ck pj [0,1] O) O (q.fX (r:=2+((1-st.Side)*50)) O O) O<|D.q (i:=8) O (ck pj [0,1] O) O (q.ld 4 O O dX O) O<|D.q (i:=9) O (ck pj [0,1] O) O (q.fX (r:=(2+((1-st.Side)*50))+(k:Int)) O O) O<|D.q (i:=10) O (ck pj [0,1] O) O (q.mv O) O<|D.q (i:=11) O (ck pj [0,1] O) O (q.jg (fun w hw=>Sl.FK (hw.cq 0 O) ae ae ae) O aM Tryz.underlying5 Tryz.underlying9) O<|?_
     refine D.one (i:=12) O ?_
     refine Do.s (B':=(fun g_:Value×Value×Value=>[ah.box aF [g_.1,g_.2.1,g_.2.2,iV (rz st dm k).1.Fuse,.bool (rz st dm k).1.Down] 120,ah.row 9 g_.1 (rz st dm k).1.Kept,ah.row 9 g_.2.1 (rz st dm k).1.Now,ah.row 196 g_.2.2 (rz st dm k).1.Wait,ah.cE (D_+1) (.loop { zM CG false with state:= .busy}),ah.cE D_ (.deferred (some [])),ah.box z2 [z1] 137,ah.box z3 [iV 48] 3,ah.box b5 [iV (k:Int)] 3,ah.box b3 [iV (st.Epoch+1),iV (1-st.Side),iV ((bB st.Rows).size:Int),iV (lg.First+lg.Many)] 129,ah.box b2 [.nilIface] 38,ah.box b1 [pV cr] 76,ah.box cr [pV aF,iV st.Epoch,iV st.Side,iV st.Size,iV st.First,pV bu,aI] 132,ah.box bu [pV aF,iV lg.From,iV lg.Many,iV lg.First,iV lg.Next] 193,ah.held w own])) (F':=(fun g_:Value×Value×Value=>[ah.ls z1 (bB st.Rows).data.toList,ah.ls aI st.Rows])) (s.aJ (B0:=[ah.box aF [dU,fh,dV,iV dm.Fuse,.bool dm.Down] 120,ah.row 9 dU dm.Kept,ah.row 9 fh dm.Now,ah.row 196 dV dm.Wait]) (Br:=[ah.cE (D_+1) (.loop { zM CG false with state:= .busy}),ah.cE D_ (.deferred (some [])),ah.box z2 [z1] 137,ah.box z3 [iV 48] 3,ah.box b5 [iV (k:Int)] 3,ah.box b3 [iV (st.Epoch+1),iV (1-st.Side),iV ((bB st.Rows).size:Int),iV (lg.First+lg.Many)] 129,ah.box b2 [.nilIface] 38,ah.box b1 [pV cr] 76,ah.box cr [pV aF,iV st.Epoch,iV st.Side,iV st.Size,iV st.First,pV bu,aI] 132,ah.box bu [pV aF,iV lg.From,iV lg.Many,iV lg.First,iV lg.Next] 193,ah.held w own]) (F0:=[]) [9,10,11,12,0,1,2,3,4,5,6,7,8,13,14] [] (fun g_:Value×Value×Value=>bN (rz st dm k).2) (fun g_:Value×Value×Value=>[ah.box aF [g_.1,g_.2.1,g_.2.2,iV (rz st dm k).1.Fuse,.bool (rz st dm k).1.Down] 120,ah.row 9 g_.1 (rz st dm k).1.Kept,ah.row 9 g_.2.1 (rz st dm k).1.Now,ah.row 196 g_.2.2 (rz st dm k).1.Wait]) (fun g_:Value×Value×Value=>[]) O O O vF O O (fun w own hw H=>iA aF dU fh dV dm ((2+((1-st.Side)*50))+(k:Int)) (Wi st k) w own H af) O) (fun _=>ck [4,5,6,7,8,9,10,11,12,13,14] [0,1] O) O ?_
     rintro ⟨z7,z8,z9⟩
     dsimp only
     refine D.q (i:=13) O (ck [4,5,6,7,8,9,10,11,12,13,14] [0,1] O) O (q.as O) O<|D.done<|?_
     refine I.reg O O (by intro _ _ h;exact h)<|R.u 1 O<|?_
     by_cases h2:(rz st dm k).2=0
     .
      refine R.q (q.Hc O O Tryz.underlying38) O<|R.nil<|I.nil ?_
      refine I.pK O O ?_
      refine I.reg O O (by intro _ _ h;exact h)<|R.q (q.ld 8 O O dX O) O<|R.q (q.fX (r:=((k+1:Nat):Int)) O O) O<|?_
      refine R.s O (s.st (us:=[iV ((k+1):Int)]) (cs':=[iV ((k+1):Int)]) 8 _ O O O O (.inr ⟨dX,rfl⟩) O O O O) fun _=>?_
      refine R.nil<|I.nil ?_
      exact I.Y8 (i:=4) (false,z7,z8,z9) (by exact (decide_eq_false ae).symm) rfl rfl rfl (fun _=>Wd.pk [0,1,2,3,4,5,6,7,8,9,10,11,12,13,14] [0,1] rfl)
     refine R.q (q.Dl O O Tryz.underlying38) O<|R.nil<|I.nil ?_
     refine I.nC O O ?_
     refine I.reg O O (by intro _ _ h;exact h)<|R.u 1 O<|?_
     refine R.s O (s.st (us:=[bN (rz st dm k).2]) (cs':=[bN (rz st dm k).2]) 10 _ O O O (oY _) (.inr ⟨kF,rfl⟩) (tV _) O O O) fun _=>?_
     refine R.nil<|I.nil ?_
     exact I.Xa (i:=4) (true,z7,z8,z9) (by exact (decide_eq_true ae).symm) rfl rfl rfl (fun _=>Wd.pk [0,1,2,3,4,5,6,7,8,9,10,11,12,13,14] [0,1] rfl)
    rintro ⟨stop,MW,QJ,MX⟩ Wj
    cases stop
    .
     have OZ:(rz st dm k).2=0:=by simpa using Wj
     refine I.q (q.not O) O O ?_
     refine I.Vy ?_
     refine I.pK O O ?_
     refine I.reg O O (by intro _ _ h;(obtain ⟨_,h,_⟩:=h;cases h))<|R.u 1 O<|R.q (q.ld 7 O O dX O) O<|R.q (q.fX (r:=((48*k+48:Nat):Int)) O O) O<|R.un 1 O<|I.nil ?_
     refine I.back (k+1,(rz st dm k).1,MW,QJ,MX) O (by (have hce:=E3 (t:=bB st.Rows) (k:=k) hks O;(try dsimp only);exact ⟨ae,by dsimp only [rz,Wi] at OZ ⊢;rw [hce] at OZ ⊢;have g:=OY HC ae hks OZ;rwa [show (bB st.Rows).size+1-(k+1)=(bB st.Rows).size+1-k-1 by omega],hO.write _ _⟩)) aG (sF O) (ck [4,5,6,7,8,9,10,11,12,0,1,2,3,13,14] [0,1] O)
    have OZ:¬ (rz st dm k).2=0:=by simpa using Wj
    refine I.q (q.not O) O O ?_
    refine I.Vy ?_
    refine I.nC O O ?_
    exact I.w0 (true,MW,QJ,MX,(rz st dm k).1,(rz st dm k).2) (by have hce:=E3 (t:=bB st.Rows) (k:=k) hks rfl;dsimp only;exact ⟨(decide_eq_true ae).symm,by dsimp only [rz,Wi] at OZ ⊢;rw [hce] at OZ ⊢;exact SJ HC ae hks OZ,(hO.write _ _).up ae⟩) [4,5,9,10,11,12,0,1,2,3,13,14] [0,1] (by exact .inr ⟨_,rfl⟩) Tryz.results128 rfl rfl rfl rfl
   refine R.q (q.NI O O) O<|R.nil<|I.nil ?_
   refine I.pK O O ?_
   exact I.w0 (false,dU,fh,dV,dm,0) (by dsimp only;exact ⟨rfl,SK HC ae,hO.up ae⟩) [0,1,5,6,7,8,9,10,11,12,13,14] [0,1] (by exact .inl rfl) Tryz.results128 rfl rfl rfl rfl
  obtain ⟨z_,rfl,Zd,Wj⟩:=OZ
  exact ⟨_,z_,rfl,Zd,Wd.over Yc Wj⟩
 .
  rintro D_ ⟨stop,dU,fh,dV,dm,er⟩ Yb MY hs_
  dsimp only at MY hs_
  subst hs_
  obtain ⟨hp1,hp2,hp3⟩:=MY;have he0:er=0:=by simpa using hp1.symm
  have n0:=hp3.nl;have q0:=hp3.fine ae ae;have hf1:=hp3.flush;have n1:=hf1.nl;have q1:=hf1.fine ae ae
  have hw1:=hf1.write ((st.Epoch+1) % 2) (cK (Wh st lg));have n2:(vJ st lg dm).1.Now.length=_:=hw1.nl;have q2:=hw1.fine ae ae;have hf2:=hw1.flush;have n3:(fV st lg dm).1.Now.length=_:=hf2.nl;have q3:=hf2.fine ae ae
  refine I.reg O O (by intro _ _ h;(obtain ⟨_,h,_⟩:=h;cases h))<|R.q (q.ld 3 O O jd O) O<|R.q (q.ui O) O<|R.q (q.vp O ky O) O<|R.q (q.ld 4 O O oQ O) O<|?_
  refine R.s (B':=(fun g_:Value×Value×Value=>[ah.box aF [g_.1,g_.2.1,g_.2.2,iV (aN dm).1.Fuse,.bool (aN dm).1.Down] 120,ah.row 9 g_.1 (aN dm).1.Kept,ah.row 9 g_.2.1 (aN dm).1.Now,ah.row 196 g_.2.2 (aN dm).1.Wait,ah.cE D_ (.deferred (some [])),ah.box b3 [iV (st.Epoch+1),iV (1-st.Side),iV ((bB st.Rows).size:Int),iV (lg.First+lg.Many)] 129,ah.box b2 [bN er] 38,ah.box b1 [pV cr] 76,ah.box cr [pV aF,iV st.Epoch,iV st.Side,iV st.Size,iV st.First,pV bu,aI] 132,ah.box bu [pV aF,iV lg.From,iV lg.Many,iV lg.First,iV lg.Next] 193,ah.held w own])) (F':=(fun g_:Value×Value×Value=>[ah.ls z1 (bB st.Rows).data.toList,ah.ls aI st.Rows])) O (s.aJ (B0:=[ah.box aF [dU,fh,dV,iV dm.Fuse,.bool dm.Down] 120,ah.row 9 dU dm.Kept,ah.row 9 fh dm.Now,ah.row 196 dV dm.Wait]) (Br:=[ah.cE D_ (.deferred (some [])),ah.box b3 [iV (st.Epoch+1),iV (1-st.Side),iV ((bB st.Rows).size:Int),iV (lg.First+lg.Many)] 129,ah.box b2 [bN er] 38,ah.box b1 [pV cr] 76,ah.box cr [pV aF,iV st.Epoch,iV st.Side,iV st.Size,iV st.First,pV bu,aI] 132,ah.box bu [pV aF,iV lg.From,iV lg.Many,iV lg.First,iV lg.Next] 193,ah.held w own]) (F0:=[]) [5,6,7,8,0,1,2,3,4,9,10] [] (fun g_:Value×Value×Value=>bN (aN dm).2) (fun g_:Value×Value×Value=>[ah.box aF [g_.1,g_.2.1,g_.2.2,iV (aN dm).1.Fuse,.bool (aN dm).1.Down] 120,ah.row 9 g_.1 (aN dm).1.Kept,ah.row 9 g_.2.1 (aN dm).1.Now,ah.row 196 g_.2.2 (aN dm).1.Wait]) (fun g_:Value×Value×Value=>[]) O O O AL O O (fun w own hw H=>kA aF dU fh dV dm w own H af) O) ?_
  rintro ⟨lu,mG,z12⟩
  dsimp only
  refine R.un 1 O<|I.nil ?_
  refine I.reg O O (by intro _ _ h;(obtain ⟨_,h,_⟩:=h;cases h))<|R.u 1 O<|?_
  by_cases h3:(aN dm).2=0
  .
   refine R.q (q.KE O O Tryz.underlying38) O<|R.nil<|I.nil ?_
   refine I.nC O O ?_
   refine I.FP (fuel:=11) (Wd w (blks [ah.box cr [pV aF,iV st.Epoch,iV st.Side,iV st.Size,iV st.First,pV bu,aI] 132,ah.box aF [ay,aC,az,iV dk.Fuse,.bool dk.Down] 120,ah.row 9 ay dk.Kept,ah.row 9 aC dk.Now,ah.row 196 az dk.Wait,ah.box bu [pV aF,iV lg.From,iV lg.Many,iV lg.First,iV lg.Next] 193]++own) [ah.cE D_ (.deferred (some [])),ah.box b3 [iV (st.Epoch+1),iV (1-st.Side),iV ((bB st.Rows).size:Int),iV (lg.First+lg.Many)] 129,ah.box b2 [bN er] 38,ah.box b1 [pV cr] 76,ah.box cr [pV aF,iV st.Epoch,iV st.Side,iV st.Size,iV st.First,pV bu,aI] 132,ah.box bu [pV aF,iV lg.From,iV lg.Many,iV lg.First,iV lg.Next] 193,ah.held w own] [ah.ls z1 (bB st.Rows).data.toList,ah.ls aI st.Rows]) O O (by intro _ _ h;(obtain ⟨_,h,_⟩:=h;cases h)) mixed O ?_
   refine D.q (i:=0) O (ck lT [0,1] O) O (q.ld 3 O O jd O) O<|D.q (i:=1) O (ck lT [0,1] O) O (q.ui O) O<|D.q (i:=2) O (ck lT [0,1] O) O (q.vp O ky O) O<|D.q (i:=3) O (ck lT [0,1] O) O (q.ld 4 O O oQ O) O<|D.q (i:=4) O (ck lT [0,1] O) O (q.vp O yn O) O<|D.q (i:=5) O (ck lT [0,1] O) O (q.ld 1 O O dX O) O<|D.q (i:=6) O (ck lT [0,1] O) O (q.rem (r:=(st.Epoch+1) % 2) O O ae (rm ae)) O<|D.q (i:=7) O (ck lT [0,1] O) O (q.TP 1 O O iW) O<|?_
   refine D.p 8 O lT [0,1] (s.c (q.call U2 O O (fun w hw=>AX (Wh st lg) w aG)) O) fun _=>?_
   refine D.one (i:=9) O ?_
   refine Do.s (B':=(fun g_:Value×Value×Value=>[ah.box aF [g_.1,g_.2.1,g_.2.2,iV (vJ st lg dm).1.Fuse,.bool (vJ st lg dm).1.Down] 120,ah.row 9 g_.1 (vJ st lg dm).1.Kept,ah.row 9 g_.2.1 (vJ st lg dm).1.Now,ah.row 196 g_.2.2 (vJ st lg dm).1.Wait,ah.cE D_ (.deferred (some [])),ah.box b3 [iV (st.Epoch+1),iV (1-st.Side),iV ((bB st.Rows).size:Int),iV (lg.First+lg.Many)] 129,ah.box b2 [bN er] 38,ah.box b1 [pV cr] 76,ah.box cr [pV aF,iV st.Epoch,iV st.Side,iV st.Size,iV st.First,pV bu,aI] 132,ah.box bu [pV aF,iV lg.From,iV lg.Many,iV lg.First,iV lg.Next] 193,ah.held w own])) (F':=(fun g_:Value×Value×Value=>[ah.ls z1 (bB st.Rows).data.toList,ah.ls aI st.Rows])) (s.aJ (B0:=[ah.box aF [lu,mG,z12,iV (aN dm).1.Fuse,.bool (aN dm).1.Down] 120,ah.row 9 lu (aN dm).1.Kept,ah.row 9 mG (aN dm).1.Now,ah.row 196 z12 (aN dm).1.Wait]) (Br:=[ah.cE D_ (.deferred (some [])),ah.box b3 [iV (st.Epoch+1),iV (1-st.Side),iV ((bB st.Rows).size:Int),iV (lg.First+lg.Many)] 129,ah.box b2 [bN er] 38,ah.box b1 [pV cr] 76,ah.box cr [pV aF,iV st.Epoch,iV st.Side,iV st.Size,iV st.First,pV bu,aI] 132,ah.box bu [pV aF,iV lg.From,iV lg.Many,iV lg.First,iV lg.Next] 193,ah.held w own]) (F0:=[]) sJ [] (fun g_:Value×Value×Value=>bN (vJ st lg dm).2) (fun g_:Value×Value×Value=>[ah.box aF [g_.1,g_.2.1,g_.2.2,iV (vJ st lg dm).1.Fuse,.bool (vJ st lg dm).1.Down] 120,ah.row 9 g_.1 (vJ st lg dm).1.Kept,ah.row 9 g_.2.1 (vJ st lg dm).1.Now,ah.row 196 g_.2.2 (vJ st lg dm).1.Wait]) (fun g_:Value×Value×Value=>[]) O O O vF O O (fun w own hw H=>iA aF lu mG z12 (aN dm).1 ((st.Epoch+1) % 2) (cK (Wh st lg)) w own H af) O) (fun _=>ck lT [0,1] O) O ?_
   rintro ⟨Ba,z17,vK⟩
   dsimp only
   refine D.q (i:=10) O (ck lT [0,1] O) O (q.as O) O<|D.done<|?_
   refine I.reg O O (by intro _ _ h;(obtain ⟨_,h,_⟩:=h;cases h))<|R.u 1 O<|?_
   by_cases h4:(vJ st lg dm).2=0
   .
    refine R.q (q.KE O O Tryz.underlying38) O<|R.nil<|I.nil ?_
    refine I.nC O O ?_
    refine I.reg O O (by intro _ _ h;(obtain ⟨_,h,_⟩:=h;cases h))<|R.q (q.ld 7 O O jd O) O<|R.q (q.ui O) O<|R.q (q.vp O ky O) O<|R.q (q.ld 8 O O oQ O) O<|?_
    refine R.s (B':=(fun g_:Value×Value×Value=>[ah.box aF [g_.1,g_.2.1,g_.2.2,iV (fV st lg dm).1.Fuse,.bool (fV st lg dm).1.Down] 120,ah.row 9 g_.1 (fV st lg dm).1.Kept,ah.row 9 g_.2.1 (fV st lg dm).1.Now,ah.row 196 g_.2.2 (fV st lg dm).1.Wait,ah.cE D_ (.deferred (some [])),ah.box b3 [iV (st.Epoch+1),iV (1-st.Side),iV ((bB st.Rows).size:Int),iV (lg.First+lg.Many)] 129,ah.box b2 [bN er] 38,ah.box b1 [pV cr] 76,ah.box cr [pV aF,iV st.Epoch,iV st.Side,iV st.Size,iV st.First,pV bu,aI] 132,ah.box bu [pV aF,iV lg.From,iV lg.Many,iV lg.First,iV lg.Next] 193,ah.held w own])) (F':=(fun g_:Value×Value×Value=>[ah.ls z1 (bB st.Rows).data.toList,ah.ls aI st.Rows])) O (s.aJ (B0:=[ah.box aF [Ba,z17,vK,iV (vJ st lg dm).1.Fuse,.bool (vJ st lg dm).1.Down] 120,ah.row 9 Ba (vJ st lg dm).1.Kept,ah.row 9 z17 (vJ st lg dm).1.Now,ah.row 196 vK (vJ st lg dm).1.Wait]) (Br:=[ah.cE D_ (.deferred (some [])),ah.box b3 [iV (st.Epoch+1),iV (1-st.Side),iV ((bB st.Rows).size:Int),iV (lg.First+lg.Many)] 129,ah.box b2 [bN er] 38,ah.box b1 [pV cr] 76,ah.box cr [pV aF,iV st.Epoch,iV st.Side,iV st.Size,iV st.First,pV bu,aI] 132,ah.box bu [pV aF,iV lg.From,iV lg.Many,iV lg.First,iV lg.Next] 193,ah.held w own]) (F0:=[]) sJ [] (fun g_:Value×Value×Value=>bN (fV st lg dm).2) (fun g_:Value×Value×Value=>[ah.box aF [g_.1,g_.2.1,g_.2.2,iV (fV st lg dm).1.Fuse,.bool (fV st lg dm).1.Down] 120,ah.row 9 g_.1 (fV st lg dm).1.Kept,ah.row 9 g_.2.1 (fV st lg dm).1.Now,ah.row 196 g_.2.2 (fV st lg dm).1.Wait]) (fun g_:Value×Value×Value=>[]) O O O AL O O (fun w own hw H=>kA aF Ba z17 vK (vJ st lg dm).1 w own H af) O) ?_
    rintro ⟨zN,z20,z21⟩
    dsimp only
    refine R.un 1 O<|I.nil ?_
    refine I.reg O O (by intro _ _ h;(obtain ⟨_,h,_⟩:=h;cases h))<|R.u 1 O<|?_
    by_cases h5:(fV st lg dm).2=0
    .
     refine R.q (q.Hc O O Tryz.underlying38) O<|R.nil<|I.nil ?_
     refine I.pK O O ?_
     have hdn:=MF (by assumption:(fV st lg dm).2=0)
     refine I.FP (fuel:=20) (Wd w (blks [ah.box cr [pV aF,iV st.Epoch,iV st.Side,iV st.Size,iV st.First,pV bu,aI] 132,ah.box aF [ay,aC,az,iV dk.Fuse,.bool dk.Down] 120,ah.row 9 ay dk.Kept,ah.row 9 aC dk.Now,ah.row 196 az dk.Wait,ah.box bu [pV aF,iV lg.From,iV lg.Many,iV lg.First,iV lg.Next] 193]++own) [ah.cE D_ (.deferred (some [])),ah.box b3 [iV (st.Epoch+1),iV (1-st.Side),iV ((bB st.Rows).size:Int),iV (lg.First+lg.Many)] 129,ah.box b2 [bN er] 38,ah.box b1 [pV cr] 76,ah.box cr [pV aF,iV st.Epoch,iV st.Side,iV st.Size,iV st.First,pV bu,aI] 132,ah.box bu [pV aF,iV lg.From,iV lg.Many,iV lg.First,iV lg.Next] 193,ah.held w own] [ah.ls z1 (bB st.Rows).data.toList,ah.ls aI st.Rows]) O O (by intro _ _ h;(obtain ⟨_,h,_⟩:=h;cases h)) mixed O ?_
     refine D.q (i:=0) O (ck lT [0,1] O) O (q.ld 3 O O jd O) O<|D.q (i:=1) O (ck lT [0,1] O) O (q.ui O) O<|D.q (i:=2) O (ck lT [0,1] O) O (q.vp O ky O) O<|D.q (i:=3) O (ck lT [0,1] O) O (q.ld 4 O O oQ O) O<|D.q (i:=4) O (ck lT [0,1] O) O (q.ld 3 O O jd O) O<|D.q (i:=5) O (ck lT [0,1] O) O (q.ui O) O<|D.q (i:=6) O (ck lT [0,1] O) O (q.vp O ky O) O<|D.q (i:=7) O (ck lT [0,1] O) O (q.ld 4 O O oQ O) O<|D.q (i:=10) O (ck lT [0,1] O) O (q.vp O Gl O) O<|D.q (i:=11) O (ck lT [0,1] O) O (q.ld 1 O O dX O) O<|?_
     refine D.p 8 O lT [0,1] (s.c (q.call Qy O O (fun w hw=>fN aF zN z20 z21 (fV st lg dm).1 w (hw.b 0 O) (hw.row 1 O) (hw.row 2 O) (hw.row 3 O))) O) fun _=>?_
     refine D.q (i:=9) O (ck lT [0,1] O) O (q.jY (r:=(((fV st lg dm).1.Now.length-102:Nat):Int)) O O) O<|?_
     refine D.one (i:=12) O ?_
     refine Do.s (B':=(fun g_:Value×Value×Value×Nat×Value×List jO=>[ah.box aF [g_.1,g_.2.1,g_.2.2.1,iV (fV st lg dm).1.Fuse,.bool (fV st lg dm).1.Down] 120,ah.row 9 g_.1 (fV st lg dm).1.Kept,ah.row 9 g_.2.1 (fV st lg dm).1.Now,ah.row 196 g_.2.2.1 (fV st lg dm).1.Wait,ah.box g_.2.2.2.1 [pV aF,iV (⟨102,((((fV st lg dm).1.Now.length-102):Nat):Int),lg.First+lg.Many,(eZ (fV st lg dm).1 102 (Int.toNat ((((fV st lg dm).1.Now.length-102):Nat):Int)) (lg.First+lg.Many):Int)⟩:Lg).From,iV (⟨102,((((fV st lg dm).1.Now.length-102):Nat):Int),lg.First+lg.Many,(eZ (fV st lg dm).1 102 (Int.toNat ((((fV st lg dm).1.Now.length-102):Nat):Int)) (lg.First+lg.Many):Int)⟩:Lg).Many,iV (⟨102,((((fV st lg dm).1.Now.length-102):Nat):Int),lg.First+lg.Many,(eZ (fV st lg dm).1 102 (Int.toNat ((((fV st lg dm).1.Now.length-102):Nat):Int)) (lg.First+lg.Many):Int)⟩:Lg).First,iV (⟨102,((((fV st lg dm).1.Now.length-102):Nat):Int),lg.First+lg.Many,(eZ (fV st lg dm).1 102 (Int.toNat ((((fV st lg dm).1.Now.length-102):Nat):Int)) (lg.First+lg.Many):Int)⟩:Lg).Next] 193,ah.cE D_ (.deferred (some [])),ah.box b3 [iV (st.Epoch+1),iV (1-st.Side),iV ((bB st.Rows).size:Int),iV (lg.First+lg.Many)] 129,ah.box b2 [bN er] 38,ah.box b1 [pV cr] 76,ah.box cr [pV aF,iV st.Epoch,iV st.Side,iV st.Size,iV st.First,pV bu,aI] 132,ah.box bu [pV aF,iV lg.From,iV lg.Many,iV lg.First,iV lg.Next] 193,ah.held w own])) (F':=(fun g_:Value×Value×Value×Nat×Value×List jO=>[ah.ls g_.2.2.2.2.1 g_.2.2.2.2.2,ah.qi (g_.2.2.2.2.2:List jO) (kZ (fV st lg dm).1 102 (Int.toNat ((((fV st lg dm).1.Now.length-102):Nat):Int)) (lg.First+lg.Many)),ah.ls z1 (bB st.Rows).data.toList,ah.ls aI st.Rows])) (s.aJ (B0:=[ah.box aF [zN,z20,z21,iV (fV st lg dm).1.Fuse,.bool (fV st lg dm).1.Down] 120,ah.row 9 zN (fV st lg dm).1.Kept,ah.row 9 z20 (fV st lg dm).1.Now,ah.row 196 z21 (fV st lg dm).1.Wait]) (Br:=[ah.cE D_ (.deferred (some [])),ah.box b3 [iV (st.Epoch+1),iV (1-st.Side),iV ((bB st.Rows).size:Int),iV (lg.First+lg.Many)] 129,ah.box b2 [bN er] 38,ah.box b1 [pV cr] 76,ah.box cr [pV aF,iV st.Epoch,iV st.Side,iV st.Size,iV st.First,pV bu,aI] 132,ah.box bu [pV aF,iV lg.From,iV lg.Many,iV lg.First,iV lg.Next] 193,ah.held w own]) (F0:=[]) sJ [] (fun g_:Value×Value×Value×Nat×Value×List jO => .tuple #[pV g_.2.2.2.1,g_.2.2.2.2.1,.nilIface]) (fun g_:Value×Value×Value×Nat×Value×List jO=>[ah.box aF [g_.1,g_.2.1,g_.2.2.1,iV (fV st lg dm).1.Fuse,.bool (fV st lg dm).1.Down] 120,ah.row 9 g_.1 (fV st lg dm).1.Kept,ah.row 9 g_.2.1 (fV st lg dm).1.Now,ah.row 196 g_.2.2.1 (fV st lg dm).1.Wait,ah.box g_.2.2.2.1 [pV aF,iV (⟨102,((((fV st lg dm).1.Now.length-102):Nat):Int),lg.First+lg.Many,(eZ (fV st lg dm).1 102 (Int.toNat ((((fV st lg dm).1.Now.length-102):Nat):Int)) (lg.First+lg.Many):Int)⟩:Lg).From,iV (⟨102,((((fV st lg dm).1.Now.length-102):Nat):Int),lg.First+lg.Many,(eZ (fV st lg dm).1 102 (Int.toNat ((((fV st lg dm).1.Now.length-102):Nat):Int)) (lg.First+lg.Many):Int)⟩:Lg).Many,iV (⟨102,((((fV st lg dm).1.Now.length-102):Nat):Int),lg.First+lg.Many,(eZ (fV st lg dm).1 102 (Int.toNat ((((fV st lg dm).1.Now.length-102):Nat):Int)) (lg.First+lg.Many):Int)⟩:Lg).First,iV (⟨102,((((fV st lg dm).1.Now.length-102):Nat):Int),lg.First+lg.Many,(eZ (fV st lg dm).1 102 (Int.toNat ((((fV st lg dm).1.Now.length-102):Nat):Int)) (lg.First+lg.Many):Int)⟩:Lg).Next] 193]) (fun g_:Value×Value×Value×Nat×Value×List jO=>[ah.ls g_.2.2.2.2.1 g_.2.2.2.2.2,ah.qi (g_.2.2.2.2.2:List jO) (kZ (fV st lg dm).1 102 (Int.toNat ((((fV st lg dm).1.Now.length-102):Nat):Int)) (lg.First+lg.Many))]) O O O Qx O O (fun w own hw H=>ET aF zN z20 z21 (fV st lg dm).1 102 ((((fV st lg dm).1.Now.length-102):Nat):Int) (lg.First+lg.Many) w own H (by refine ⟨aD,?_,?_,?_,?_⟩ <;> omega) hdn (⟨n3.symm▸hf2.up ae,ae⟩)) O) (fun _=>ck vm [2,3] O) O ?_
     rintro ⟨z28,z29,z30,z31,z32,z33⟩
     dsimp only
     refine D.q (i:=13) O (ck vm [2,3] O) O (q.mv O) O<|D.q (i:=14) O (ck vm [2,3] O) O (q.ext O O) O<|D.q (i:=15) O (ck vm [2,3] O) O (q.ext O O) O<|D.q (i:=16) O (ck vm [2,3] O) O (q.ext O O) O<|D.q (i:=17) O (ck vm [2,3] O) O (q.as O) O<|D.q (i:=18) O (ck vm [2,3] O) O (q.as O) O<|D.q (i:=19) O (ck vm [2,3] O) O (q.as O) O<|D.done<|?_
     refine I.reg O O (by intro _ _ h;(obtain ⟨_,h,_⟩:=h;cases h))<|R.u 1 O<|R.q (q.KD O O Tryz.underlying38) O<|R.nil<|I.nil ?_
     refine I.nC O O ?_
     refine I.FP (fuel:=10) (Wd w (blks [ah.box cr [pV aF,iV st.Epoch,iV st.Side,iV st.Size,iV st.First,pV bu,aI] 132,ah.box aF [ay,aC,az,iV dk.Fuse,.bool dk.Down] 120,ah.row 9 ay dk.Kept,ah.row 9 aC dk.Now,ah.row 196 az dk.Wait,ah.box bu [pV aF,iV lg.From,iV lg.Many,iV lg.First,iV lg.Next] 193]++own) [ah.box aF [z28,z29,z30,iV (fV st lg dm).1.Fuse,.bool (fV st lg dm).1.Down] 120,ah.row 9 z28 (fV st lg dm).1.Kept,ah.row 9 z29 (fV st lg dm).1.Now,ah.row 196 z30 (fV st lg dm).1.Wait,ah.box z31 [pV aF,iV 102,iV ((((fV st lg dm).1.Now.length-102):Nat):Int),iV (lg.First+lg.Many),iV (eZ (fV st lg dm).1 102 (Int.toNat ((((fV st lg dm).1.Now.length-102):Nat):Int)) (lg.First+lg.Many):Int)] 193,ah.cE D_ (.deferred (some [])),ah.box b3 [iV (st.Epoch+1),iV (1-st.Side),iV ((bB st.Rows).size:Int),iV (lg.First+lg.Many)] 129,ah.box b2 [bN er] 38,ah.box b1 [pV cr] 76,ah.box bu [pV aF,iV lg.From,iV lg.Many,iV lg.First,iV lg.Next] 193,ah.held w own] [ah.ls z32 z33,ah.qi (z33:List jO) (kZ (fV st lg dm).1 102 (Int.toNat ((((fV st lg dm).1.Now.length-102):Nat):Int)) (lg.First+lg.Many)),ah.ls z1 (bB st.Rows).data.toList,ah.ls aI st.Rows]) O O (by intro _ _ h;(obtain ⟨_,h,_⟩:=h;cases h)) mixed O ?_
     refine D.q (i:=0) O (ck rC aX O) O (q.ld 8 O O jd O) O<|D.q (i:=1) O (ck rC aX O) O (q.ld 8 O O jd O) O<|D.q (i:=2) O (ck rC aX O) O (q.TP 6 O O iW) O<|D.q (i:=3) O (ck rC aX O) O (q.mv O) O<|D.q (i:=4) O (ck rC aX O) O (q.ui O) O<|D.q (i:=5) O (ck rC aX O) O (q.vp O su O) O<|?_
     refine D.p 6 O rC aX (s.st (us:=[iV (st.Epoch+1),iV (1-st.Side),iV ((bB st.Rows).size:Int),iV (lg.First+lg.Many)]) (cs':=[pV aF,iV (st.Epoch+1),iV (1-st.Side),iV ((bB st.Rows).size:Int),iV (lg.First+lg.Many),pV bu,aI]) 9 _ O O O O (.inl iW) O O O O) fun _=>?_
     refine D.q (i:=7) O (ck rC aX O) O (q.ui O) O<|D.q (i:=8) O (ck rC aX O) O (q.vp O yp O) O<|?_
     refine D.p 9 O rC aX (s.st (us:=[pV z31]) (cs':=[pV aF,iV (st.Epoch+1),iV (1-st.Side),iV ((bB st.Rows).size:Int),iV (lg.First+lg.Many),pV z31,aI]) 9 _ O O O O (.inr ⟨EA,rfl⟩) O O O O) fun _=>?_
     refine D.done<|?_
     refine I.reg O O (by intro _ _ h;(obtain ⟨_,h,_⟩:=h;cases h))<|R.u 1 O<|?_
     refine R.s O (s.st (us:=[.nilIface]) (cs':=[.nilIface]) 7 _ O O O O (.inr ⟨kF,rfl⟩) O O O O) fun _=>?_
     refine Rg.Rv (F':=[ah.mb (z33:List jO),ah.ls z32 z33,ah.ls z1 (bB st.Rows).data.toList,ah.ls aI st.Rows]) 1 O O fun hE1=>?_
     refine R.nil<|I.nil ?_
     have hz:((cj (mkS st lg) dk).1.c,(cj (mkS st lg) dk).2.1,(cj (mkS st lg) dk).1.L,(cj (mkS st lg) dk).2.2)=((⟨st.Epoch+1,1-st.Side,((bB st.Rows).size:Int),lg.First+lg.Many,st.Rows⟩:gZ),(fV st lg dm).1,(⟨102,((((fV st lg dm).1.Now.length-102):Nat):Int),lg.First+lg.Many,(eZ (fV st lg dm).1 102 (Int.toNat ((((fV st lg dm).1.Now.length-102):Nat):Int)) (lg.First+lg.Many):Int)⟩:Lg),0):=by (rw [Vr hp2 he0 af af af,show (((fV st lg dm).1.Now.length-102:Nat):Int)=((fV st lg dm).1.Now.length:Int)-102 by omega];rfl)
     have hz0:(cj (mkS st lg) dk).1.c=(⟨st.Epoch+1,1-st.Side,((bB st.Rows).size:Int),lg.First+lg.Many,st.Rows⟩:gZ):=congrArg (fun t_=>t_.1) hz
     rw [hz0]
     have hz1:(cj (mkS st lg) dk).2.1=(fV st lg dm).1:=congrArg (fun t_=>t_.2.1) hz
     rw [hz1]
     have hz2:(cj (mkS st lg) dk).1.L=(⟨102,((((fV st lg dm).1.Now.length-102):Nat):Int),lg.First+lg.Many,(eZ (fV st lg dm).1 102 (Int.toNat ((((fV st lg dm).1.Now.length-102):Nat):Int)) (lg.First+lg.Many):Int)⟩:Lg):=congrArg (fun t_=>t_.2.2.1) hz
     rw [hz2]
     have hz3:(cj (mkS st lg) dk).2.2=0:=congrArg (fun t_=>t_.2.2.2) hz
     rw [hz3]
     exact I.Vz (D:=D_) (i:=5) (aI,z28,z29,z30,z31) [9,0,1,2,3,4,11] [3] rfl Tryz.results28 rfl (RV.cell1 7 rfl rfl kF rfl) rfl rfl rfl (uh rfl)
    refine R.q (q.Dl O O Tryz.underlying38) O<|R.nil<|I.nil ?_
    refine I.nC O O ?_
    refine I.reg O O (by intro _ _ h;(obtain ⟨_,h,_⟩:=h;cases h))<|R.u 1 O<|?_
    refine R.s O (s.st (us:=[bN (fV st lg dm).2]) (cs':=[bN (fV st lg dm).2]) 6 _ O O O (oY _) (.inr ⟨kF,rfl⟩) (tV _) O O O) fun _=>?_
    refine R.nil<|I.nil ?_
    have hz:((cj (mkS st lg) dk).1.c,(cj (mkS st lg) dk).2.1,(cj (mkS st lg) dk).1.L,(cj (mkS st lg) dk).2.2)=(st,(fV st lg dm).1,lg,(fV st lg dm).2):=by (rw [Vq hp2 he0 af af af];rfl)
    have hz0:(cj (mkS st lg) dk).1.c=st:=congrArg (fun t_=>t_.1) hz
    rw [hz0]
    have hz1:(cj (mkS st lg) dk).2.1=(fV st lg dm).1:=congrArg (fun t_=>t_.2.1) hz
    rw [hz1]
    have hz2:(cj (mkS st lg) dk).1.L=lg:=congrArg (fun t_=>t_.2.2.1) hz
    rw [hz2]
    have hz3:(cj (mkS st lg) dk).2.2=(fV st lg dm).2:=congrArg (fun t_=>t_.2.2.2) hz
    rw [hz3]
    exact I.Vz (D:=D_) (i:=4) (aI,zN,z20,z21,bu) [8,0,1,2,3,9,10] [1] rfl Tryz.results28 rfl (RV.cell1 6 rfl rfl kF rfl) rfl rfl rfl rfl
   refine R.q (q.He O O Tryz.underlying38) O<|R.nil<|I.nil ?_
   refine I.pK O O ?_
   refine I.reg O O (by intro _ _ h;(obtain ⟨_,h,_⟩:=h;cases h))<|R.u 1 O<|R.q (q.Dl O O Tryz.underlying38) O<|R.nil<|I.nil ?_
   refine I.nC O O ?_
   refine I.reg O O (by intro _ _ h;(obtain ⟨_,h,_⟩:=h;cases h))<|R.u 1 O<|?_
   refine R.s O (s.st (us:=[bN (vJ st lg dm).2]) (cs':=[bN (vJ st lg dm).2]) 6 _ O O O (oY _) (.inr ⟨kF,rfl⟩) (tV _) O O O) fun _=>?_
   refine R.nil<|I.nil ?_
   have hz:((cj (mkS st lg) dk).1.c,(cj (mkS st lg) dk).2.1,(cj (mkS st lg) dk).1.L,(cj (mkS st lg) dk).2.2)=(st,(vJ st lg dm).1,lg,(vJ st lg dm).2):=by (rw [Vp hp2 he0 af af];rfl)
   have hz0:(cj (mkS st lg) dk).1.c=st:=congrArg (fun t_=>t_.1) hz
   rw [hz0]
   have hz1:(cj (mkS st lg) dk).2.1=(vJ st lg dm).1:=congrArg (fun t_=>t_.2.1) hz
   rw [hz1]
   have hz2:(cj (mkS st lg) dk).1.L=lg:=congrArg (fun t_=>t_.2.2.1) hz
   rw [hz2]
   have hz3:(cj (mkS st lg) dk).2.2=(vJ st lg dm).2:=congrArg (fun t_=>t_.2.2.2) hz
   rw [hz3]
   exact I.Vz (D:=D_) (i:=4) (aI,Ba,z17,vK,bu) [8,0,1,2,3,9,10] [1] rfl Tryz.results28 rfl (RV.cell1 6 rfl rfl kF rfl) rfl rfl rfl rfl
  refine R.q (q.He O O Tryz.underlying38) O<|R.nil<|I.nil ?_
  refine I.pK O O ?_
  refine I.reg O O (by intro _ _ h;(obtain ⟨_,h,_⟩:=h;cases h))<|R.u 1 O<|R.q (q.He O O Tryz.underlying38) O<|R.nil<|I.nil ?_
  refine I.pK O O ?_
  refine I.reg O O (by intro _ _ h;(obtain ⟨_,h,_⟩:=h;cases h))<|R.u 1 O<|R.q (q.Dl O O Tryz.underlying38) O<|R.nil<|I.nil ?_
  refine I.nC O O ?_
  refine I.reg O O (by intro _ _ h;(obtain ⟨_,h,_⟩:=h;cases h))<|R.u 1 O<|?_
  refine R.s O (s.st (us:=[bN (aN dm).2]) (cs':=[bN (aN dm).2]) 6 _ O O O (oY _) (.inr ⟨kF,rfl⟩) (tV _) O O O) fun _=>?_
  refine R.nil<|I.nil ?_
  have hz:((cj (mkS st lg) dk).1.c,(cj (mkS st lg) dk).2.1,(cj (mkS st lg) dk).1.L,(cj (mkS st lg) dk).2.2)=(st,(aN dm).1,lg,(aN dm).2):=by (rw [Vo hp2 he0 af];rfl)
  have hz0:(cj (mkS st lg) dk).1.c=st:=congrArg (fun t_=>t_.1) hz
  rw [hz0]
  have hz1:(cj (mkS st lg) dk).2.1=(aN dm).1:=congrArg (fun t_=>t_.2.1) hz
  rw [hz1]
  have hz2:(cj (mkS st lg) dk).1.L=lg:=congrArg (fun t_=>t_.2.2.1) hz
  rw [hz2]
  have hz3:(cj (mkS st lg) dk).2.2=(aN dm).2:=congrArg (fun t_=>t_.2.2.2) hz
  rw [hz3]
  exact I.Vz (D:=D_) (i:=4) (aI,lu,mG,z12,bu) [8,0,1,2,3,9,10] [1] rfl Tryz.results28 rfl (RV.cell1 6 rfl rfl kF rfl) rfl rfl rfl rfl
 rintro D_ ⟨stop,dU,fh,dV,dm,er⟩ Yb MY hs_
 dsimp only at MY hs_
 subst hs_
 obtain ⟨hp1,hp2,hp3⟩:=MY;have he0:¬ er=0:=by simpa using hp1.symm
 have hz:((cj (mkS st lg) dk).1.c,(cj (mkS st lg) dk).2.1,(cj (mkS st lg) dk).1.L,(cj (mkS st lg) dk).2.2)=(st,dm,lg,er):=by (rw [Vn hp2 he0];rfl)
 have hz0:(cj (mkS st lg) dk).1.c=st:=congrArg (fun t_=>t_.1) hz
 rw [hz0]
 have hz1:(cj (mkS st lg) dk).2.1=dm:=congrArg (fun t_=>t_.2.1) hz
 rw [hz1]
 have hz2:(cj (mkS st lg) dk).1.L=lg:=congrArg (fun t_=>t_.2.2.1) hz
 rw [hz2]
 have hz3:(cj (mkS st lg) dk).2.2=er:=congrArg (fun t_=>t_.2.2.2) hz
 rw [hz3]
 exact I.Vz (D:=D_) (i:=0) (aI,dU,fh,dV,bu) [4,5,6,7,8,9,10] [1] rfl Tryz.results28 rfl (RV.cell1 2 rfl rfl kF rfl) rfl rfl rfl rfl
end Go.Proofs.YtnmpibjlnninjaaGreatDoor
