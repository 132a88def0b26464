import Derived.Test.YtnmpibjlnninjaaGreatDoorCT16
namespace Go.Proofs.YtnmpibjlnninjaaGreatDoor
set_option linter.unusedVariables false
set_option linter.unusedSimpArgs false
set_option maxRecDepth 100000
set_option maxHeartbeats 90000000
open Go Go.RowKit
theorem Mm (bR:Value)(l:List UInt8)(n:Nat)(w:World)(own:List Nat)(H:HN w own [] [ag.ls bR l])(hn:1<=n):RC Tryz.prog 70 #[bR,iV (n:Int)] H (fun z:Nat×Nat => .func (.func 128) #[] #[pV z.1,pV z.2]) (fun z=>[ag.box z.1 [bR] 137,ag.box z.2 [iV (n:Int)] 3]) (fun _=>[]):=by
 have BV:=H.aL 0 rfl
 refine R.wL [(0,bR),(1,iV (n:Int))] Tryz.func70 O O O O H<|R.reg O<|R.s O (s.Yj O (fun w hw=>Sl.cL (hw.cy 0 O)) O) fun b1=>?_
 refine R.s O (s.box O O O) fun b2=>?_
 exact R.ur 1 O O<|R.q (q.ld 0 O O eX O) O<|R.q (q.Rb O O) O<|R.nB O O O<|R.q (q.D3 (cap:=[pV b1,pV b2]) O O) O<|R.un 1 O<|R.w1 (b1,b2) [1,0,2] [] O Tryz.results70 (RV.tmp O) O O O O
def mkS (st:fu)(lg:Lg):qN:=⟨st.Epoch,st.Side,st.Size,st.First,lg,st.Rows⟩
theorem Hm (t:ByteArray)(a m:Nat)(h:a+m<=t.size):(⟨((t.data.toList.drop a).take m).toArray⟩:ByteArray)=t.extract a (a+m):=by
 apply ByteArray.ext
 rw [ByteArray.data_extract]
 apply Array.ext'
 rw [Array.toList_extract]
 simp
theorem Hn {t:ByteArray}{k:Nat}{E:Int}(hk:k*48<t.size)(hE:E=((48*k:Nat):Int)+min 48 (((t.data.toList.drop (48*k)).length:Nat):Int)) :
 (⟨((t.data.toList.drop (48*k)).take (E.toNat-48*k)).toArray⟩:ByteArray)=t.extract (k*48) (k*48+min 48 (t.size-k*48)):=by
 rw [Nat.mul_comm 48 k] at hE ⊢
 have hl:(t.data.toList.drop (k*48)).length=t.size-k*48:=by rw [List.length_drop,Array.length_toList];rfl
 have e:E.toNat-k*48=min 48 (t.size-k*48):=by rw [hE,hl];omega
 rw [e]
 exact Hm t _ _ ae
section
variable {f:Int} {t:ByteArray} {n k:Nat} {d m:cq} {Z:cq×Int} {e:Int}
theorem Sy (h:jz f t n k d=Z)(hn:0<n)(hk:k*48<t.size)(he:(aU d (f+(k:Int)) (t.extract (k*48) (k*48+min 48 (t.size-k*48)))).2=0) :
 jz f t (n-1) (k+1) (aU d (f+(k:Int)) (t.extract (k*48) (k*48+min 48 (t.size-k*48)))).1=Z:=by
 cases n with
 | zero=>omega
 | succ n=>rw [jz,if_pos hk,if_pos he] at h;exact h
theorem WM (h:jz f t n k d=Z)(hn:0<n)(hk:k*48<t.size)(he:¬ (aU d (f+(k:Int)) (t.extract (k*48) (k*48+min 48 (t.size-k*48)))).2=0) :
 Z=aU d (f+(k:Int)) (t.extract (k*48) (k*48+min 48 (t.size-k*48))):=by
 cases n with
 | zero=>omega
 | succ n=>rw [jz,if_pos hk,if_neg he] at h;exact h.symm
theorem WN (h:jz f t n k d=Z)(hk:¬ k*48<t.size):Z=(d,0):=by
 cases n with
 | zero=>rw [jz] at h;exact h.symm
 | succ n=>rw [jz,if_neg hk] at h;exact h.symm
end
abbrev nxH (st:fu)(lg:Lg):BW:=⟨st.Epoch+1,1-st.Side,((bM st.Rows).size:Int),lg.First+lg.Many⟩
abbrev yb (st:fu)(lg:Lg)(dm:cq):cq×Int:=aU (aQ dm).1 ((st.Epoch+1) % 2) (c8 (nxH st lg))
abbrev im (st:fu)(lg:Lg)(dm:cq):cq×Int:=aQ (yb st lg dm).1
abbrev ckB (st:fu)(k:Nat):ByteArray:=(⟨(((bM st.Rows).data.toList.drop (48*k)).take (((((48*k:Nat):Int)+(min 48 (((bM st.Rows).data.toList.drop (48*k)).length:Int))).toNat)-(48*k))).toArray⟩:ByteArray)
abbrev tT (st:fu)(dm:cq)(k:Nat):cq×Int:=aU dm ((2+((1-st.Side)*50))+(k:Int)) (ckB st k)
theorem Ho (bB:Nat)(aE:Value)(st:fu)(aF:Nat)(au av ao:Value)(dk:cq)(aZ:Nat)(lg:Lg)(w:World)(own:List Nat)(H:HN w own [ag.box bB [pV aF,iV st.Epoch,iV st.Side,iV st.Size,iV st.First,pV aZ,aE] 132,ag.box aF [au,av,ao,iV dk.Fuse,.bool dk.Down] 120,ag.row 9 au dk.Kept,ag.row 9 av dk.Now,ag.row 196 ao dk.Wait,ag.box aZ [pV aF,iV lg.From,iV lg.Many,iV lg.First,iV lg.Next] 193] [ag.ls aE st.Rows])(hD:gw dk.Now.length 70000 dk/\dk.Now.length<=200/\166<=dk.Now.length)(hS:0<=st.Epoch/\st.Epoch<=1000000000/\0<=st.Side/\st.Side<=1/\0<=lg.Many/\lg.Many<=1000000000/\1<=lg.First/\lg.First<=1000000000)(hl:st.Rows.length<=60)(hF:∀c∈st.Rows,iT c=0):RC Tryz.prog 28 #[pV bB] H (fun _:Value×Value×Value×Value×Nat=>bQ (cC (mkS st lg) dk).2.2) (fun z=>[ag.box bB [pV aF,iV (cC (mkS st lg) dk).1.c.Epoch,iV (cC (mkS st lg) dk).1.c.Side,iV (cC (mkS st lg) dk).1.c.Size,iV (cC (mkS st lg) dk).1.c.First,pV z.2.2.2.2,z.1] 132,ag.box aF [z.2.1,z.2.2.1,z.2.2.2.1,iV (cC (mkS st lg) dk).2.1.Fuse,.bool (cC (mkS st lg) dk).2.1.Down] 120,ag.row 9 z.2.1 (cC (mkS st lg) dk).2.1.Kept,ag.row 9 z.2.2.1 (cC (mkS st lg) dk).2.1.Now,ag.row 196 z.2.2.2.1 (cC (mkS st lg) dk).2.1.Wait,ag.box z.2.2.2.2 [pV aF,iV (cC (mkS st lg) dk).1.L.From,iV (cC (mkS st lg) dk).1.L.Many,iV (cC (mkS st lg) dk).1.L.First,iV (cC (mkS st lg) dk).1.L.Next] 193]) (fun z=>[ag.ls z.1 (cC (mkS st lg) dk).1.c.Rows]):=by
 have dD:=H.cap 2 rfl;have dE:=H.ck 2 rfl
 have ew:=H.cap 3 rfl;have ey:=H.ck 3 rfl
 have dF:=H.cap 4 rfl;have dG:=H.ck 4 rfl
 have j1:=H.aL 0 rfl
 have hal:=yX hF
 refine R.WL (n:=113) (vs:=[pV bB]) (B:=[ag.box bB [pV aF,iV st.Epoch,iV st.Side,iV st.Size,iV st.First,pV aZ,aE] 132,ag.box aF [au,av,ao,iV dk.Fuse,.bool dk.Down] 120,ag.row 9 au dk.Kept,ag.row 9 av dk.Now,ag.row 196 ao dk.Wait,ag.box aZ [pV aF,iV lg.From,iV lg.Many,iV lg.First,iV lg.Next] 193,ag.held w own]) [(0,pV bB)] Tryz.func28 O O O O H ?_
 refine R.reg O<|?_
 refine R.s O (s.box (cs:=[pV bB]) O O O) fun b1=>?_
 refine R.s O (s.alloc (cs:=[.nilIface]) OB O O) fun b2=>?_
 refine R.nil ?_
 refine R.reg O<|R.q (q.ld 1 O O kv O) O<|R.q (q.wJ O) O<|R.q (q.xI O I7 O) O<|R.q (q.ld 2 O O KH O) O<|R.c (q.call Y4 O O (fun w hw=>Sq _ st.Rows w (hw.cy 0 O) ae af)) O<|R.un 1 O ?_
 refine R.cut 1 (fun b3:Nat=>[(1,pV b1),(2,pV b2),(3,.string (bM st.Rows)),(4,pV b3)]) (fun b3:Nat=>[ag.box b3 [iV (st.Epoch+1),iV (1-st.Side),iV ((bM st.Rows).size:Int),iV (lg.First+lg.Many)] 129,ag.box b2 [.nilIface] 38,ag.box b1 [pV bB] 76,ag.box bB [pV aF,iV st.Epoch,iV st.Side,iV st.Size,iV st.First,pV aZ,aE] 132,ag.box aF [au,av,ao,iV dk.Fuse,.bool dk.Down] 120,ag.row 9 au dk.Kept,ag.row 9 av dk.Now,ag.row 196 ao dk.Wait,ag.box aZ [pV aF,iV lg.From,iV lg.Many,iV lg.First,iV lg.Next] 193,ag.held w own]) (fun b3:Nat=>[ag.ls aE st.Rows]) (fun b3:Nat=>True) O O O ?_ ?_
 .
  refine R.cO (fuel:=22) bZ O O mixed O ?_
  refine D.q (i:=0) O (cw bZ [0] O) O (q.ld 1 O O kv O) O<|D.q (i:=1) O (cw bZ [0] O) O (q.wJ O) O<|D.q (i:=2) O (cw bZ [0] O) O (q.xI O uO O) O<|D.q (i:=3) O (cw bZ [0] O) O (q.xI O AF O) O<|D.q (i:=4) O (cw bZ [0] O) O (q.ld 2 O O eX O) O<|D.q (i:=5) O (cw bZ [0] O) O (q.iA (r:=st.Epoch+1) O O) O<|D.q (i:=6) O (cw bZ [0] O) O (q.ld 1 O O kv O) O<|D.q (i:=7) O (cw bZ [0] O) O (q.wJ O) O<|D.q (i:=8) O (cw bZ [0] O) O (q.xI O uO O) O<|D.q (i:=9) O (cw bZ [0] O) O (q.xI O AG O) O<|D.q (i:=10) O (cw bZ [0] O) O (q.ld 2 O O eX O) O<|D.q (i:=11) O (cw bZ [0] O) O (q.lG (r:=1-st.Side) O O) O<|D.q (i:=12) O (cw bZ [0] O) O (q.mv O) O<|D.q (i:=13) O (cw bZ [0] O) O (q.X2 O Tryz.underlying9) O<|D.q (i:=14) O (cw bZ [0] O) O (q.ld 1 O O kv O) O<|D.q (i:=15) O (cw bZ [0] O) O (q.wJ O) O<|D.q (i:=16) O (cw bZ [0] O) O (q.xI O AH O) O<|D.q (i:=17) O (cw bZ [0] O) O (q.ld 2 O O GL O) O<|?_
  refine D.two (i:=18) (j:=20) O O ?_ ?_
  .
   refine Do.p bZ [0] (s.c (q.call Uh O O (fun w hw=>G9 aZ aF lg w (hw.b 7 O) ae)) O) fun _=>?_
   refine D.q (i:=19) O (cw bZ [0] O) O (q.build (cs:=[iV (st.Epoch+1),iV (1-st.Side),iV ((bM st.Rows).size:Int),iV (lg.First+lg.Many)]) OH O O) O<|?_
   refine D.p 20 O iF [0] (s.alloc (cs:=[iV 0,iV 0,iV 0,iV 0]) l4 O O) fun b3=>?_
   refine D.p 21 O iF [0] (s.st (us:=[iV (st.Epoch+1),iV (1-st.Side),iV ((bM st.Rows).size:Int),iV (lg.First+lg.Many)]) (cs':=[iV (st.Epoch+1),iV (1-st.Side),iV ((bM st.Rows).size:Int),iV (lg.First+lg.Many)]) 0 _ O O O O (.inl ki) O O O O) fun _=>?_
   refine D.done<|?_
   exact R.meet b3 O kP (sF O) (dX jH [0] O)
  refine Do.p iF [0] (s.alloc (cs:=[iV 0,iV 0,iV 0,iV 0]) l4 O O) fun b4=>?_
  refine D.p 18 O iF [0] (s.c (q.call Uh O O (fun w hw=>G9 aZ aF lg w (hw.b 8 O) ae)) O) fun _=>?_
  refine D.q (i:=19) O (cw iF [0] O) O (q.build (cs:=[iV (st.Epoch+1),iV (1-st.Side),iV ((bM st.Rows).size:Int),iV (lg.First+lg.Many)]) OH O O) O<|?_
  refine D.p 21 O iF [0] (s.st (us:=[iV (st.Epoch+1),iV (1-st.Side),iV ((bM st.Rows).size:Int),iV (lg.First+lg.Many)]) (cs':=[iV (st.Epoch+1),iV (1-st.Side),iV ((bM st.Rows).size:Int),iV (lg.First+lg.Many)]) 0 _ O O O O (.inl ki) O O O O) fun _=>?_
  refine D.done<|?_
  exact R.meet b4 O kP (sF O) (dX jH [0] O)
 rintro b3 _
 refine R.reg O<|?_
 refine R.s O (s.alloc (cs:=[iV 0]) jW O O) fun b5=>?_
 refine R.s O (s.st (us:=[iV 0]) (cs':=[iV 0]) 0 _ O O O O (.inr ⟨eX,rfl⟩) O O O O) fun _=>?_
 refine R.nil ?_
 refine R.reg O<|R.u 1 O<|?_
 refine R.s O (s.s2b O Tryz.underlying9 Tryz.underlying137 Tryz.underlying5 ae O) fun z1=>?_
 refine R.s (B':=(fun g_:Nat×Nat=>[ag.box g_.1 [z1] 137,ag.box g_.2 [iV (48:Int)] 3,ag.box b5 [iV 0] 3,ag.box b3 [iV (st.Epoch+1),iV (1-st.Side),iV ((bM st.Rows).size:Int),iV (lg.First+lg.Many)] 129,ag.box b2 [.nilIface] 38,ag.box b1 [pV bB] 76,ag.box bB [pV aF,iV st.Epoch,iV st.Side,iV st.Size,iV st.First,pV aZ,aE] 132,ag.box aF [au,av,ao,iV dk.Fuse,.bool dk.Down] 120,ag.row 9 au dk.Kept,ag.row 9 av dk.Now,ag.row 196 ao dk.Wait,ag.box aZ [pV aF,iV lg.From,iV lg.Many,iV lg.First,iV lg.Next] 193,ag.held w own])) (F':=(fun g_:Nat×Nat=>[ag.ls z1 (bM st.Rows).data.toList,ag.ls aE st.Rows])) O (s.aH (B0:=[]) (Br:=[ag.box b5 [iV 0] 3,ag.box b3 [iV (st.Epoch+1),iV (1-st.Side),iV ((bM st.Rows).size:Int),iV (lg.First+lg.Many)] 129,ag.box b2 [.nilIface] 38,ag.box b1 [pV bB] 76,ag.box bB [pV aF,iV st.Epoch,iV st.Side,iV st.Size,iV st.First,pV aZ,aE] 132,ag.box aF [au,av,ao,iV dk.Fuse,.bool dk.Down] 120,ag.row 9 au dk.Kept,ag.row 9 av dk.Now,ag.row 196 ao dk.Wait,ag.box aZ [pV aF,iV lg.From,iV lg.Many,iV lg.First,iV lg.Next] 193,ag.held w own]) (F0:=[ag.ls z1 (bM st.Rows).data.toList]) uZ [0] (fun g_:Nat×Nat => .func (.func 128) #[] #[pV g_.1,pV g_.2]) (fun g_:Nat×Nat=>[ag.box g_.1 [z1] 137,ag.box g_.2 [iV (48:Int)] 3]) (fun g_:Nat×Nat=>[]) O O O Y5 O O (fun w own hw H=>Mm z1 (bM st.Rows).data.toList 48 w own H ae) O) ?_
 rintro ⟨z2,z3⟩
 dsimp only
 refine R.nil ?_
 refine R.range O O VI (fun g_:Bool×Value×Value×Value×cq×Int=>g_.1) (fun g_:Bool×Value×Value×Value×cq×Int=>g_.1=decide (¬ g_.2.2.2.2.2=0)/\ck1 (mkS st lg) dk=(g_.2.2.2.2.1,g_.2.2.2.2.2)/\gw dk.Now.length 70050 g_.2.2.2.2.1) (fun (D_:Nat)=>(fun g_:Bool×Value×Value×Value×cq×Int=>[ag.cY D_ (.deferred (some [])),ag.box b3 [iV (st.Epoch+1),iV (1-st.Side),iV ((bM st.Rows).size:Int),iV (lg.First+lg.Many)] 129,ag.box b2 [bQ g_.2.2.2.2.2] 38,ag.box b1 [pV bB] 76,ag.box bB [pV aF,iV st.Epoch,iV st.Side,iV st.Size,iV st.First,pV aZ,aE] 132,ag.box aF [g_.2.1,g_.2.2.1,g_.2.2.2.1,iV g_.2.2.2.2.1.Fuse,.bool g_.2.2.2.2.1.Down] 120,ag.row 9 g_.2.1 g_.2.2.2.2.1.Kept,ag.row 9 g_.2.2.1 g_.2.2.2.2.1.Now,ag.row 196 g_.2.2.2.1 g_.2.2.2.2.1.Wait,ag.box aZ [pV aF,iV lg.From,iV lg.Many,iV lg.First,iV lg.Next] 193,ag.held w own])) (fun (D_:Nat)=>(fun g_:Bool×Value×Value×Value×cq×Int=>[ag.ls z1 (bM st.Rows).data.toList,ag.ls aE st.Rows])) ?_ ?_ ?_
 .
  intro E6 a_ D_ w1 hD_ ha_ hT_ Zz aa3 aa4 hw_
  refine CallsIn.mono (I.wL (n:=31) (vs:=[.func (.yield (D_+1)) #[] #[],pV z2,pV z3]) (X:=(blks [ag.cY (D_+1) (.loop (Cg E6 false)),ag.cY D_ (.deferred (some [])),ag.box z2 [z1] 137,ag.box z3 [iV 48] 3,ag.box b5 [iV 0] 3,ag.box b3 [iV (st.Epoch+1),iV (1-st.Side),iV ((bM st.Rows).size:Int),iV (lg.First+lg.Many)] 129,ag.box b2 [.nilIface] 38,ag.box b1 [pV bB] 76,ag.box bB [pV aF,iV st.Epoch,iV st.Side,iV st.Size,iV st.First,pV aZ,aE] 132,ag.box aF [au,av,ao,iV dk.Fuse,.bool dk.Down] 120,ag.row 9 au dk.Kept,ag.row 9 av dk.Now,ag.row 196 ao dk.Wait,ag.box aZ [pV aF,iV lg.From,iV lg.Many,iV lg.First,iV lg.Next] 193,ag.held w own])) (B:=[ag.cY (D_+1) (.loop (Cg E6 false)),ag.cY D_ (.deferred (some [])),ag.box z2 [z1] 137,ag.box z3 [iV 48] 3,ag.box b5 [iV 0] 3,ag.box b3 [iV (st.Epoch+1),iV (1-st.Side),iV ((bM st.Rows).size:Int),iV (lg.First+lg.Many)] 129,ag.box b2 [.nilIface] 38,ag.box b1 [pV bB] 76,ag.box bB [pV aF,iV st.Epoch,iV st.Side,iV st.Size,iV st.First,pV aZ,aE] 132,ag.box aF [au,av,ao,iV dk.Fuse,.bool dk.Down] 120,ag.row 9 au dk.Kept,ag.row 9 av dk.Now,ag.row 196 ao dk.Wait,ag.box aZ [pV aF,iV lg.From,iV lg.Many,iV lg.First,iV lg.Next] 193,ag.held w own]) (F:=[ag.ls z1 (bM st.Rows).data.toList,ag.ls aE st.Rows]) (R:=fun en_ w3 => ∃z_:Bool×Value×Value×Value×cq×Int,en_ = .returned (.tuple #[])/\(fun g_:Bool×Value×Value×Value×cq×Int=>g_.1=decide (¬ g_.2.2.2.2.2=0)/\ck1 (mkS st lg) dk=(g_.2.2.2.2.1,g_.2.2.2.2.2)/\gw dk.Now.length 70050 g_.2.2.2.2.1) z_/\Wd w1 (blks [ag.cY (D_+1) (.loop (Cg E6 false)),ag.cY D_ (.deferred (some [])),ag.box z2 [z1] 137,ag.box z3 [iV 48] 3,ag.box b5 [iV 0] 3,ag.box b3 [iV (st.Epoch+1),iV (1-st.Side),iV ((bM st.Rows).size:Int),iV (lg.First+lg.Many)] 129,ag.box b2 [.nilIface] 38,ag.box b1 [pV bB] 76,ag.box bB [pV aF,iV st.Epoch,iV st.Side,iV st.Size,iV st.First,pV aZ,aE] 132,ag.box aF [au,av,ao,iV dk.Fuse,.bool dk.Down] 120,ag.row 9 au dk.Kept,ag.row 9 av dk.Now,ag.row 196 ao dk.Wait,ag.box aZ [pV aF,iV lg.From,iV lg.Many,iV lg.First,iV lg.Next] 193,ag.held w own]) (ag.cY (D_+1) (.loop (Cg E6 ((fun g_:Bool×Value×Value×Value×cq×Int=>g_.1) z_)))::(fun (D_:Nat)=>(fun g_:Bool×Value×Value×Value×cq×Int=>[ag.cY D_ (.deferred (some [])),ag.box b3 [iV (st.Epoch+1),iV (1-st.Side),iV ((bM st.Rows).size:Int),iV (lg.First+lg.Many)] 129,ag.box b2 [bQ g_.2.2.2.2.2] 38,ag.box b1 [pV bB] 76,ag.box bB [pV aF,iV st.Epoch,iV st.Side,iV st.Size,iV st.First,pV aZ,aE] 132,ag.box aF [g_.2.1,g_.2.2.1,g_.2.2.2.1,iV g_.2.2.2.2.1.Fuse,.bool g_.2.2.2.2.1.Down] 120,ag.row 9 g_.2.1 g_.2.2.2.2.1.Kept,ag.row 9 g_.2.2.1 g_.2.2.2.2.1.Now,ag.row 196 g_.2.2.2.1 g_.2.2.2.2.1.Wait,ag.box aZ [pV aF,iV lg.From,iV lg.Many,iV lg.First,iV lg.Next] 193,ag.held w own])) D_ z_) ((fun (D_:Nat)=>(fun g_:Bool×Value×Value×Value×cq×Int=>[ag.ls z1 (bM st.Rows).data.toList,ag.ls aE st.Rows])) D_ z_) w3) [(0,.func (.yield (D_+1)) #[] #[]),(1,pV z2),(2,pV z3)] Tryz.func128 O O O O (Wd.sub hw_) ?_) (fun e_ w3 SA=>?_)
  .
   refine I.reg O O (by intro _ _ h;(obtain ⟨_,h,_⟩:=h;cases h))<|R.un 1 O<|I.nil ?_
   refine I.loop (fun g_:Nat×cq×Value×Value×Value=>[(0,.func (.yield (D_+1)) #[] #[]),(1,pV z2),(2,pV z3),(4,iV ((48*g_.1:Nat):Int))]) (fun g_:Nat×cq×Value×Value×Value=>[ag.cY (D_+1) (.loop (Cg E6 false)),ag.cY D_ (.deferred (some [])),ag.box z2 [z1] 137,ag.box z3 [iV 48] 3,ag.box b5 [iV (g_.1:Int)] 3,ag.box b3 [iV (st.Epoch+1),iV (1-st.Side),iV ((bM st.Rows).size:Int),iV (lg.First+lg.Many)] 129,ag.box b2 [.nilIface] 38,ag.box b1 [pV bB] 76,ag.box bB [pV aF,iV st.Epoch,iV st.Side,iV st.Size,iV st.First,pV aZ,aE] 132,ag.box aF [g_.2.2.1,g_.2.2.2.1,g_.2.2.2.2,iV g_.2.1.Fuse,.bool g_.2.1.Down] 120,ag.row 9 g_.2.2.1 g_.2.1.Kept,ag.row 9 g_.2.2.2.1 g_.2.1.Now,ag.row 196 g_.2.2.2.2 g_.2.1.Wait,ag.box aZ [pV aF,iV lg.From,iV lg.Many,iV lg.First,iV lg.Next] 193,ag.held w own]) (fun g_:Nat×cq×Value×Value×Value=>[ag.ls z1 (bM st.Rows).data.toList,ag.ls aE st.Rows]) (fun g_:Nat×cq×Value×Value×Value=>g_.1<=44/\jz (2+(1-st.Side)*50) (bM st.Rows) ((bM st.Rows).size+1-g_.1) g_.1 g_.2.1=ck1 (mkS st lg) dk/\gw dk.Now.length (70000+g_.1) g_.2.1) (fun g_:Nat×cq×Value×Value×Value=>50-g_.1) (0,dk,au,av,ao) O (by exact ⟨ae,rfl,hD.1⟩) (sF O) (dX m4 [0,1] O) ?_
   rintro ⟨k,dm,eT,gh,eU⟩ ⟨hk,HC,hO⟩
   dsimp only at *
   have hnl:=hO.nl;have p1:=hO.fine ae ae;have hll:(bM st.Rows).data.toList.length=(bM st.Rows).size:=by rw [Array.length_toList];rfl
   have hdl:((bM st.Rows).data.toList.drop (48*k)).length=(bM st.Rows).size-48*k:=by rw [List.length_drop,hll]
   refine I.reg O O (by intro _ _ h;(obtain ⟨_,h,_⟩:=h;cases h))<|R.u 1 O<|R.q (q.ld 2 O O AJ O) O<|R.q (q.len' (vu 0 O) O Tryz.underlying137) O<|?_
   by_cases h1:48*k<(bM st.Rows).data.toList.length
   .
    refine R.q (q.UW O O) O<|R.nil<|I.nil ?_
    refine I.pE O O ?_
    have hks:k*48<(bM st.Rows).size:=ae
    refine I.Ix (fuel:=7) (Wd w1 (blks [ag.cY (D_+1) (.loop (Cg E6 false)),ag.cY D_ (.deferred (some [])),ag.box z2 [z1] 137,ag.box z3 [iV 48] 3,ag.box b5 [iV 0] 3,ag.box b3 [iV (st.Epoch+1),iV (1-st.Side),iV ((bM st.Rows).size:Int),iV (lg.First+lg.Many)] 129,ag.box b2 [.nilIface] 38,ag.box b1 [pV bB] 76,ag.box bB [pV aF,iV st.Epoch,iV st.Side,iV st.Size,iV st.First,pV aZ,aE] 132,ag.box aF [au,av,ao,iV dk.Fuse,.bool dk.Down] 120,ag.row 9 au dk.Kept,ag.row 9 av dk.Now,ag.row 196 ao dk.Wait,ag.box aZ [pV aF,iV lg.From,iV lg.Many,iV lg.First,iV lg.Next] 193,ag.held w own]) [ag.cY (D_+1) (.loop (Cg E6 false)),ag.cY D_ (.deferred (some [])),ag.box z2 [z1] 137,ag.box z3 [iV 48] 3,ag.box b5 [iV (k:Int)] 3,ag.box b3 [iV (st.Epoch+1),iV (1-st.Side),iV ((bM st.Rows).size:Int),iV (lg.First+lg.Many)] 129,ag.box b2 [.nilIface] 38,ag.box b1 [pV bB] 76,ag.box bB [pV aF,iV st.Epoch,iV st.Side,iV st.Size,iV st.First,pV aZ,aE] 132,ag.box aF [eT,gh,eU,iV dm.Fuse,.bool dm.Down] 120,ag.row 9 eT dm.Kept,ag.row 9 gh dm.Now,ag.row 196 eU dm.Wait,ag.box aZ [pV aF,iV lg.From,iV lg.Many,iV lg.First,iV lg.Next] 193,ag.held w own] [ag.ls z1 (bM st.Rows).data.toList,ag.ls aE st.Rows]) O O (by intro _ _ h;(obtain ⟨_,h,_⟩:=h;cases h)) mixed O ?_
    refine D.q (i:=0) O (cw m4 [0,1] O) O (q.ld 3 O O eX O) O<|D.q (i:=1) O (cw m4 [0,1] O) O (q.ld 2 O O AJ O) O<|D.q (i:=2) O (cw m4 [0,1] O) O (q.mv O) O<|D.q (i:=3) O (cw m4 [0,1] O) O (q.cz (i:=48*k) (vu 0 O) O O aP O ae) O<|D.q (i:=4) O (cw m4 [0,1] O) O (q.len' (fun w hw=>Sl.from (hw.cy 0 O) ae) O Tryz.underlying137) O<|D.q (i:=5) O (cw m4 [0,1] O) O (q.min (r:=min 48 (((bM st.Rows).data.toList.drop (48*k)).length:Int)) O O O) O<|D.q (i:=6) O (cw m4 [0,1] O) O (q.as O) O<|D.done<|?_
    refine I.aa1 O ?_
    refine I.q (q.mv O) O O ?_
    refine I.q (q.ld 2 O O AJ O) O O ?_
    refine I.q (q.mv O) O O ?_
    refine I.q (q.mv O) O O ?_
    refine I.q (q.mv O) O O ?_
    refine I.q (q.iA (r:=((48*k:Nat):Int)+(min 48 (((bM st.Rows).data.toList.drop (48*k)).length:Int))) O O) O O ?_
    refine I.q (q.mv O) O O ?_
    refine I.q (q.mv O) O O ?_
    refine I.q (q.iA (r:=((48*k:Nat):Int)+(min 48 (((bM st.Rows).data.toList.drop (48*k)).length:Int))) O O) O O ?_
    refine I.q (q.Iu (i:=48*k) (j:=(((48*k:Nat):Int)+(min 48 (((bM st.Rows).data.toList.drop (48*k)).length:Int))).toNat) (q':=(((48*k:Nat):Int)+(min 48 (((bM st.Rows).data.toList.drop (48*k)).length:Int))).toNat) (vu 0 O) O O O O aP O ae ae ae ae ae) O O ?_
    refine I.y (i:=0) (rc:=Cg E6 false) (xv:=(Iu z1 (48*k) (((48*k:Nat):Int)+(min 48 (((bM st.Rows).data.toList.drop (48*k)).length:Int))).toNat (((48*k:Nat):Int)+(min 48 (((bM st.Rows).data.toList.drop (48*k)).length:Int))).toNat 1)) O (by show E6.params.size=1;rw [Zz];rfl) O O (fun g_:Bool×Value×Value×Value => !g_.1) (fun g_:Bool×Value×Value×Value=>g_.1=decide (¬ (tT st dm k).2=0)) (fun g_:Bool×Value×Value×Value=>(bif g_.1 then [ag.box aF [g_.2.1,g_.2.2.1,g_.2.2.2,iV (tT st dm k).1.Fuse,.bool (tT st dm k).1.Down] 120,ag.row 9 g_.2.1 (tT st dm k).1.Kept,ag.row 9 g_.2.2.1 (tT st dm k).1.Now,ag.row 196 g_.2.2.2 (tT st dm k).1.Wait,ag.cY (D_+1) (.loop (Cg E6 true)),ag.cY D_ (.deferred (some [])),ag.box z2 [z1] 137,ag.box z3 [iV 48] 3,ag.box b5 [iV (k:Int)] 3,ag.box b3 [iV (st.Epoch+1),iV (1-st.Side),iV ((bM st.Rows).size:Int),iV (lg.First+lg.Many)] 129,ag.box b2 [bQ (tT st dm k).2] 38,ag.box b1 [pV bB] 76,ag.box bB [pV aF,iV st.Epoch,iV st.Side,iV st.Size,iV st.First,pV aZ,aE] 132,ag.box aZ [pV aF,iV lg.From,iV lg.Many,iV lg.First,iV lg.Next] 193,ag.held w own] else [ag.box aF [g_.2.1,g_.2.2.1,g_.2.2.2,iV (tT st dm k).1.Fuse,.bool (tT st dm k).1.Down] 120,ag.row 9 g_.2.1 (tT st dm k).1.Kept,ag.row 9 g_.2.2.1 (tT st dm k).1.Now,ag.row 196 g_.2.2.2 (tT st dm k).1.Wait,ag.cY (D_+1) (.loop (Cg E6 false)),ag.cY D_ (.deferred (some [])),ag.box z2 [z1] 137,ag.box z3 [iV 48] 3,ag.box b5 [iV ((k+1):Int)] 3,ag.box b3 [iV (st.Epoch+1),iV (1-st.Side),iV ((bM st.Rows).size:Int),iV (lg.First+lg.Many)] 129,ag.box b2 [.nilIface] 38,ag.box b1 [pV bB] 76,ag.box bB [pV aF,iV st.Epoch,iV st.Side,iV st.Size,iV st.First,pV aZ,aE] 132,ag.box aZ [pV aF,iV lg.From,iV lg.Many,iV lg.First,iV lg.Next] 193,ag.held w own])) (fun g_:Bool×Value×Value×Value=>[ag.ls z1 (bM st.Rows).data.toList,ag.ls aE st.Rows]) (fun w2 hw2=>?_) O ?_
    .
     rw [show (Cg E6 false).assign=_ from aa3,show (Cg E6 false).body=_ from aa4]
     refine I.round (i:=0) (rc:=Cg E6 false) (L0:=[(1,pV b1),(2,pV b2),(3,.string (bM st.Rows)),(4,pV b3),(5,pV b5),(36,.string (bM st.Rows)),(37,z1),(38,.func (.func 128) #[] #[pV z2,pV z3]),(39,(Iu z1 (48*k) (((48*k:Nat):Int)+(min 48 (((bM st.Rows).data.toList.drop (48*k)).length:Int))).toNat (((48*k:Nat):Int)+(min 48 (((bM st.Rows).data.toList.drop (48*k)).length:Int))).toNat 1))]) (L1:=[(1,pV b1),(2,pV b2),(3,.string (bM st.Rows)),(4,pV b3),(5,pV b5),(36,.string (bM st.Rows)),(37,z1),(38,.func (.func 128) #[] #[pV z2,pV z3]),(39,(Iu z1 (48*k) (((48*k:Nat):Int)+(min 48 (((bM st.Rows).data.toList.drop (48*k)).length:Int))).toNat (((48*k:Nat):Int)+(min 48 (((bM st.Rows).data.toList.drop (48*k)).length:Int))).toNat 1)),(6,(Iu z1 (48*k) (((48*k:Nat):Int)+(min 48 (((bM st.Rows).data.toList.drop (48*k)).length:Int))).toNat (((48*k:Nat):Int)+(min 48 (((bM st.Rows).data.toList.drop (48*k)).length:Int))).toNat 1))]) O O ((Fr.yield (xv:=(Iu z1 (48*k) (((48*k:Nat):Int)+(min 48 (((bM st.Rows).data.toList.drop (48*k)).length:Int))).toNat (((48*k:Nat):Int)+(min 48 (((bM st.Rows).data.toList.drop (48*k)).length:Int))).toNat 1)) ha_ hT_ Zz O).sub (sF O)) hw2 ?_ ?_
     .
      refine I.reg O O (by intro _ _ h;exact h)<|R.un 1 O<|I.nil ?_
      exact I.assigned rfl (sF rfl)
     refine I.mp (B':=[ag.cY (D_+1) (.loop { Cg E6 false with state:= .busy}),ag.cY D_ (.deferred (some [])),ag.box z2 [z1] 137,ag.box z3 [iV 48] 3,ag.box b5 [iV (k:Int)] 3,ag.box b3 [iV (st.Epoch+1),iV (1-st.Side),iV ((bM st.Rows).size:Int),iV (lg.First+lg.Many)] 129,ag.box b2 [.nilIface] 38,ag.box b1 [pV bB] 76,ag.box bB [pV aF,iV st.Epoch,iV st.Side,iV st.Size,iV st.First,pV aZ,aE] 132,ag.box aF [eT,gh,eU,iV dm.Fuse,.bool dm.Down] 120,ag.row 9 eT dm.Kept,ag.row 9 gh dm.Now,ag.row 196 eU dm.Wait,ag.box aZ [pV aF,iV lg.From,iV lg.Many,iV lg.First,iV lg.Next] 193,ag.held w own]) (F':=[ag.ls z1 (bM st.Rows).data.toList,ag.ls aE st.Rows]) (fun _ h=>h) ?_
     refine I.Ix (fuel:=14) (Wd w1 (blks [ag.cY (D_+1) (.loop (Cg E6 false)),ag.cY D_ (.deferred (some [])),ag.box z2 [z1] 137,ag.box z3 [iV 48] 3,ag.box b5 [iV 0] 3,ag.box b3 [iV (st.Epoch+1),iV (1-st.Side),iV ((bM st.Rows).size:Int),iV (lg.First+lg.Many)] 129,ag.box b2 [.nilIface] 38,ag.box b1 [pV bB] 76,ag.box bB [pV aF,iV st.Epoch,iV st.Side,iV st.Size,iV st.First,pV aZ,aE] 132,ag.box aF [au,av,ao,iV dk.Fuse,.bool dk.Down] 120,ag.row 9 au dk.Kept,ag.row 9 av dk.Now,ag.row 196 ao dk.Wait,ag.box aZ [pV aF,iV lg.From,iV lg.Many,iV lg.First,iV lg.Next] 193,ag.held w own]) [ag.cY (D_+1) (.loop { Cg E6 false with state:= .busy}),ag.cY D_ (.deferred (some [])),ag.box z2 [z1] 137,ag.box z3 [iV 48] 3,ag.box b5 [iV (k:Int)] 3,ag.box b3 [iV (st.Epoch+1),iV (1-st.Side),iV ((bM st.Rows).size:Int),iV (lg.First+lg.Many)] 129,ag.box b2 [.nilIface] 38,ag.box b1 [pV bB] 76,ag.box bB [pV aF,iV st.Epoch,iV st.Side,iV st.Size,iV st.First,pV aZ,aE] 132,ag.box aZ [pV aF,iV lg.From,iV lg.Many,iV lg.First,iV lg.Next] 193,ag.held w own] [ag.ls z1 (bM st.Rows).data.toList,ag.ls aE st.Rows]) O O (by intro _ _ h;exact h) mixed O ?_
     refine D.q (i:=0) O (cw qW [0,1] O) O (q.ld 7 O O kv O) O<|D.q (i:=1) O (cw qW [0,1] O) O (q.wJ O) O<|D.q (i:=2) O (cw qW [0,1] O) O (q.xI O l5 O) O<|D.q (i:=3) O (cw qW [0,1] O) O (q.ld 8 O O qH O) O<|D.q (i:=4) O (cw qW [0,1] O) O (q.xI O AG O) O<|D.q (i:=5) O (cw qW [0,1] O) O (q.ld 5 O O eX O) O<|D.q (i:=6) O (cw qW [0,1] O) O (q.ut (r:=(1-st.Side)*50) O O) O<|D.q (i:=7) O (cw qW [0,1] O) O (q.iA (r:=2+((1-st.Side)*50)) O O) O<|D.q (i:=8) O (cw qW [0,1] O) O (q.ld 4 O O eX O) O<|D.q (i:=9) O (cw qW [0,1] O) O (q.iA (r:=(2+((1-st.Side)*50))+(k:Int)) O O) O<|D.q (i:=10) O (cw qW [0,1] O) O (q.mv O) O<|D.q (i:=11) O (cw qW [0,1] O) O (q.kA (fun w hw=>Sl.Iu (hw.cy 0 O) ae ae ae) O aP Tryz.underlying5 Tryz.underlying9) O<|?_
     refine D.one (i:=12) O ?_
     refine Do.s (B':=(fun g_:Value×Value×Value=>[ag.box aF [g_.1,g_.2.1,g_.2.2,iV (tT st dm k).1.Fuse,.bool (tT st dm k).1.Down] 120,ag.row 9 g_.1 (tT st dm k).1.Kept,ag.row 9 g_.2.1 (tT st dm k).1.Now,ag.row 196 g_.2.2 (tT st dm k).1.Wait,ag.cY (D_+1) (.loop { Cg E6 false with state:= .busy}),ag.cY D_ (.deferred (some [])),ag.box z2 [z1] 137,ag.box z3 [iV 48] 3,ag.box b5 [iV (k:Int)] 3,ag.box b3 [iV (st.Epoch+1),iV (1-st.Side),iV ((bM st.Rows).size:Int),iV (lg.First+lg.Many)] 129,ag.box b2 [.nilIface] 38,ag.box b1 [pV bB] 76,ag.box bB [pV aF,iV st.Epoch,iV st.Side,iV st.Size,iV st.First,pV aZ,aE] 132,ag.box aZ [pV aF,iV lg.From,iV lg.Many,iV lg.First,iV lg.Next] 193,ag.held w own])) (F':=(fun g_:Value×Value×Value=>[ag.ls z1 (bM st.Rows).data.toList,ag.ls aE st.Rows])) (s.aH (B0:=[ag.box aF [eT,gh,eU,iV dm.Fuse,.bool dm.Down] 120,ag.row 9 eT dm.Kept,ag.row 9 gh dm.Now,ag.row 196 eU dm.Wait]) (Br:=[ag.cY (D_+1) (.loop { Cg E6 false with state:= .busy}),ag.cY D_ (.deferred (some [])),ag.box z2 [z1] 137,ag.box z3 [iV 48] 3,ag.box b5 [iV (k:Int)] 3,ag.box b3 [iV (st.Epoch+1),iV (1-st.Side),iV ((bM st.Rows).size:Int),iV (lg.First+lg.Many)] 129,ag.box b2 [.nilIface] 38,ag.box b1 [pV bB] 76,ag.box bB [pV aF,iV st.Epoch,iV st.Side,iV st.Size,iV st.First,pV aZ,aE] 132,ag.box aZ [pV aF,iV lg.From,iV lg.Many,iV lg.First,iV lg.Next] 193,ag.held w own]) (F0:=[]) [9,10,11,12,0,1,2,3,4,5,6,7,8,13,14] [] (fun g_:Value×Value×Value=>bQ (tT st dm k).2) (fun g_:Value×Value×Value=>[ag.box aF [g_.1,g_.2.1,g_.2.2,iV (tT st dm k).1.Fuse,.bool (tT st dm k).1.Down] 120,ag.row 9 g_.1 (tT st dm k).1.Kept,ag.row 9 g_.2.1 (tT st dm k).1.Now,ag.row 196 g_.2.2 (tT st dm k).1.Wait]) (fun g_:Value×Value×Value=>[]) O O O xX O O (fun w own hw H=>jP aF eT gh eU dm ((2+((1-st.Side)*50))+(k:Int)) (ckB st k) w own H af) O) (fun _=>cw [4,5,6,7,8,9,10,11,12,13,14] [0,1] O) O ?_
     rintro ⟨z7,z8,z9⟩
     dsimp only
     refine D.q (i:=13) O (cw [4,5,6,7,8,9,10,11,12,13,14] [0,1] O) O (q.as O) O<|D.done<|?_
     refine I.reg O O (by intro _ _ h;exact h)<|R.u 1 O<|?_
     by_cases h2:(tT st dm k).2=0
     .
      refine R.q (q.JX O O Tryz.underlying38) O<|R.nil<|I.nil ?_
      refine I.rO O O ?_
      refine I.reg O O (by intro _ _ h;exact h)<|R.q (q.ld 8 O O eX O) O<|R.q (q.iA (r:=((k+1:Nat):Int)) O O) O<|?_
      refine R.s O (s.st (us:=[iV ((k+1):Int)]) (cs':=[iV ((k+1):Int)]) 8 _ O O O O (.inr ⟨eX,rfl⟩) O O O O) fun _=>?_
      refine R.nil<|I.nil ?_
      exact I.rgo (i:=4) (false,z7,z8,z9) (by exact (decide_eq_false ae).symm) rfl rfl rfl (fun _=>Wd.pk [0,1,2,3,4,5,6,7,8,9,10,11,12,13,14] [0,1] rfl)
     refine R.q (q.FH O O Tryz.underlying38) O<|R.nil<|I.nil ?_
     refine I.pE O O ?_
     refine I.reg O O (by intro _ _ h;exact h)<|R.u 1 O<|?_
     refine R.s O (s.st (us:=[bQ (tT st dm k).2]) (cs':=[bQ (tT st dm k).2]) 10 _ O O O (qP _) (.inr ⟨mb,rfl⟩) (wh _) O O O) fun _=>?_
     refine R.nil<|I.nil ?_
     exact I.aa2 (i:=4) (true,z7,z8,z9) (by exact (decide_eq_true ae).symm) rfl rfl rfl (fun _=>Wd.pk [0,1,2,3,4,5,6,7,8,9,10,11,12,13,14] [0,1] rfl)
    rintro ⟨stop,PL,Ux,PN⟩ hz_
    cases stop
    .
     have SA:(tT st dm k).2=0:=by simpa using hz_
     refine I.q (q.not O) O O ?_
     refine I.Zx ?_
     refine I.rO O O ?_
     refine I.reg O O (by intro _ _ h;(obtain ⟨_,h,_⟩:=h;cases h))<|R.u 1 O<|R.q (q.ld 7 O O eX O) O<|R.q (q.iA (r:=((48*k+48:Nat):Int)) O O) O<|R.un 1 O<|I.nil ?_
     refine I.back (k+1,(tT st dm k).1,PL,Ux,PN) O (by (have hce:=Hn (t:=bM st.Rows) (k:=k) hks O;(try dsimp only);exact ⟨ae,by dsimp only [tT,ckB] at SA ⊢;rw [hce] at SA ⊢;have g:=Sy HC ae hks SA;rwa [show (bM st.Rows).size+1-(k+1)=(bM st.Rows).size+1-k-1 by omega],hO.write _ _⟩)) aJ (sF O) (cw [4,5,6,7,8,9,10,11,12,0,1,2,3,13,14] [0,1] O)
    have SA:¬ (tT st dm k).2=0:=by simpa using hz_
    refine I.q (q.not O) O O ?_
    refine I.Zx ?_
    refine I.pE O O ?_
    exact I.w0 (true,PL,Ux,PN,(tT st dm k).1,(tT st dm k).2) (by have hce:=Hn (t:=bM st.Rows) (k:=k) hks rfl;dsimp only;exact ⟨(decide_eq_true ae).symm,by dsimp only [tT,ckB] at SA ⊢;rw [hce] at SA ⊢;exact WM HC ae hks SA,(hO.write _ _).up ae⟩) [4,5,9,10,11,12,0,1,2,3,13,14] [0,1] (by exact .inr ⟨_,rfl⟩) Tryz.results128 rfl rfl rfl rfl
   refine R.q (q.Rb O O) O<|R.nil<|I.nil ?_
   refine I.rO O O ?_
   exact I.w0 (false,eT,gh,eU,dm,0) (by dsimp only;exact ⟨rfl,WN HC ae,hO.up ae⟩) [0,1,5,6,7,8,9,10,11,12,13,14] [0,1] (by exact .inl rfl) Tryz.results128 rfl rfl rfl rfl
  obtain ⟨z_,rfl,hP_,hz_⟩:=SA
  exact ⟨_,z_,rfl,hP_,Wd.over hw_ hz_⟩
 .
  rintro D_ ⟨stop,eT,gh,eU,dm,er⟩ hD_ PO hs_
  dsimp only at PO hs_
  subst hs_
  obtain ⟨hp1,hp2,hp3⟩:=PO;have he0:er=0:=by simpa using hp1.symm
  have n0:=hp3.nl;have q0:=hp3.fine ae ae;have hf1:=hp3.flush;have n1:=hf1.nl;have q1:=hf1.fine ae ae
  have hw1:=hf1.write ((st.Epoch+1) % 2) (c8 (nxH st lg));have n2:(yb st lg dm).1.Now.length=_:=hw1.nl;have q2:=hw1.fine ae ae;have hf2:=hw1.flush;have n3:(im st lg dm).1.Now.length=_:=hf2.nl;have q3:=hf2.fine ae ae
  refine I.reg O O (by intro _ _ h;(obtain ⟨_,h,_⟩:=h;cases h))<|R.q (q.ld 3 O O kv O) O<|R.q (q.wJ O) O<|R.q (q.xI O l5 O) O<|R.q (q.ld 4 O O qH O) O<|?_
  refine R.s (B':=(fun g_:Value×Value×Value=>[ag.box aF [g_.1,g_.2.1,g_.2.2,iV (aQ dm).1.Fuse,.bool (aQ dm).1.Down] 120,ag.row 9 g_.1 (aQ dm).1.Kept,ag.row 9 g_.2.1 (aQ dm).1.Now,ag.row 196 g_.2.2 (aQ dm).1.Wait,ag.cY D_ (.deferred (some [])),ag.box b3 [iV (st.Epoch+1),iV (1-st.Side),iV ((bM st.Rows).size:Int),iV (lg.First+lg.Many)] 129,ag.box b2 [bQ er] 38,ag.box b1 [pV bB] 76,ag.box bB [pV aF,iV st.Epoch,iV st.Side,iV st.Size,iV st.First,pV aZ,aE] 132,ag.box aZ [pV aF,iV lg.From,iV lg.Many,iV lg.First,iV lg.Next] 193,ag.held w own])) (F':=(fun g_:Value×Value×Value=>[ag.ls z1 (bM st.Rows).data.toList,ag.ls aE st.Rows])) O (s.aH (B0:=[ag.box aF [eT,gh,eU,iV dm.Fuse,.bool dm.Down] 120,ag.row 9 eT dm.Kept,ag.row 9 gh dm.Now,ag.row 196 eU dm.Wait]) (Br:=[ag.cY D_ (.deferred (some [])),ag.box b3 [iV (st.Epoch+1),iV (1-st.Side),iV ((bM st.Rows).size:Int),iV (lg.First+lg.Many)] 129,ag.box b2 [bQ er] 38,ag.box b1 [pV bB] 76,ag.box bB [pV aF,iV st.Epoch,iV st.Side,iV st.Size,iV st.First,pV aZ,aE] 132,ag.box aZ [pV aF,iV lg.From,iV lg.Many,iV lg.First,iV lg.Next] 193,ag.held w own]) (F0:=[]) [5,6,7,8,0,1,2,3,4,9,10] [] (fun g_:Value×Value×Value=>bQ (aQ dm).2) (fun g_:Value×Value×Value=>[ag.box aF [g_.1,g_.2.1,g_.2.2,iV (aQ dm).1.Fuse,.bool (aQ dm).1.Down] 120,ag.row 9 g_.1 (aQ dm).1.Kept,ag.row 9 g_.2.1 (aQ dm).1.Now,ag.row 196 g_.2.2 (aQ dm).1.Wait]) (fun g_:Value×Value×Value=>[]) O O O Df O O (fun w own hw H=>l7 aF eT gh eU dm w own H af) O) ?_
  rintro ⟨kM,lA,z12⟩
  dsimp only
  refine R.un 1 O<|I.nil ?_
  refine I.reg O O (by intro _ _ h;(obtain ⟨_,h,_⟩:=h;cases h))<|R.u 1 O<|?_
  by_cases h3:(aQ dm).2=0
  .
   refine R.q (q.Nq O O Tryz.underlying38) O<|R.nil<|I.nil ?_
   refine I.pE O O ?_
   refine I.Ix (fuel:=11) (Wd w (blks [ag.box bB [pV aF,iV st.Epoch,iV st.Side,iV st.Size,iV st.First,pV aZ,aE] 132,ag.box aF [au,av,ao,iV dk.Fuse,.bool dk.Down] 120,ag.row 9 au dk.Kept,ag.row 9 av dk.Now,ag.row 196 ao dk.Wait,ag.box aZ [pV aF,iV lg.From,iV lg.Many,iV lg.First,iV lg.Next] 193]++own) [ag.cY D_ (.deferred (some [])),ag.box b3 [iV (st.Epoch+1),iV (1-st.Side),iV ((bM st.Rows).size:Int),iV (lg.First+lg.Many)] 129,ag.box b2 [bQ er] 38,ag.box b1 [pV bB] 76,ag.box bB [pV aF,iV st.Epoch,iV st.Side,iV st.Size,iV st.First,pV aZ,aE] 132,ag.box aZ [pV aF,iV lg.From,iV lg.Many,iV lg.First,iV lg.Next] 193,ag.held w own] [ag.ls z1 (bM st.Rows).data.toList,ag.ls aE st.Rows]) O O (by intro _ _ h;(obtain ⟨_,h,_⟩:=h;cases h)) mixed O ?_
   refine D.q (i:=0) O (cw iU [0,1] O) O (q.ld 3 O O kv O) O<|D.q (i:=1) O (cw iU [0,1] O) O (q.wJ O) O<|D.q (i:=2) O (cw iU [0,1] O) O (q.xI O l5 O) O<|D.q (i:=3) O (cw iU [0,1] O) O (q.ld 4 O O qH O) O<|D.q (i:=4) O (cw iU [0,1] O) O (q.xI O AF O) O<|D.q (i:=5) O (cw iU [0,1] O) O (q.ld 1 O O eX O) O<|D.q (i:=6) O (cw iU [0,1] O) O (q.rem (r:=(st.Epoch+1) % 2) O O ae (tM ae)) O<|D.q (i:=7) O (cw iU [0,1] O) O (q.X3 1 O O ki) O<|?_
   refine D.p 8 O iU [0,1] (s.c (q.call Y6 O O (fun w hw=>Dr (nxH st lg) w aJ)) O) fun _=>?_
   refine D.one (i:=9) O ?_
   refine Do.s (B':=(fun g_:Value×Value×Value=>[ag.box aF [g_.1,g_.2.1,g_.2.2,iV (yb st lg dm).1.Fuse,.bool (yb st lg dm).1.Down] 120,ag.row 9 g_.1 (yb st lg dm).1.Kept,ag.row 9 g_.2.1 (yb st lg dm).1.Now,ag.row 196 g_.2.2 (yb st lg dm).1.Wait,ag.cY D_ (.deferred (some [])),ag.box b3 [iV (st.Epoch+1),iV (1-st.Side),iV ((bM st.Rows).size:Int),iV (lg.First+lg.Many)] 129,ag.box b2 [bQ er] 38,ag.box b1 [pV bB] 76,ag.box bB [pV aF,iV st.Epoch,iV st.Side,iV st.Size,iV st.First,pV aZ,aE] 132,ag.box aZ [pV aF,iV lg.From,iV lg.Many,iV lg.First,iV lg.Next] 193,ag.held w own])) (F':=(fun g_:Value×Value×Value=>[ag.ls z1 (bM st.Rows).data.toList,ag.ls aE st.Rows])) (s.aH (B0:=[ag.box aF [kM,lA,z12,iV (aQ dm).1.Fuse,.bool (aQ dm).1.Down] 120,ag.row 9 kM (aQ dm).1.Kept,ag.row 9 lA (aQ dm).1.Now,ag.row 196 z12 (aQ dm).1.Wait]) (Br:=[ag.cY D_ (.deferred (some [])),ag.box b3 [iV (st.Epoch+1),iV (1-st.Side),iV ((bM st.Rows).size:Int),iV (lg.First+lg.Many)] 129,ag.box b2 [bQ er] 38,ag.box b1 [pV bB] 76,ag.box bB [pV aF,iV st.Epoch,iV st.Side,iV st.Size,iV st.First,pV aZ,aE] 132,ag.box aZ [pV aF,iV lg.From,iV lg.Many,iV lg.First,iV lg.Next] 193,ag.held w own]) (F0:=[]) uZ [] (fun g_:Value×Value×Value=>bQ (yb st lg dm).2) (fun g_:Value×Value×Value=>[ag.box aF [g_.1,g_.2.1,g_.2.2,iV (yb st lg dm).1.Fuse,.bool (yb st lg dm).1.Down] 120,ag.row 9 g_.1 (yb st lg dm).1.Kept,ag.row 9 g_.2.1 (yb st lg dm).1.Now,ag.row 196 g_.2.2 (yb st lg dm).1.Wait]) (fun g_:Value×Value×Value=>[]) O O O xX O O (fun w own hw H=>jP aF kM lA z12 (aQ dm).1 ((st.Epoch+1) % 2) (c8 (nxH st lg)) w own H af) O) (fun _=>cw iU [0,1] O) O ?_
   rintro ⟨wG,z17,uX⟩
   dsimp only
   refine D.q (i:=10) O (cw iU [0,1] O) O (q.as O) O<|D.done<|?_
   refine I.reg O O (by intro _ _ h;(obtain ⟨_,h,_⟩:=h;cases h))<|R.u 1 O<|?_
   by_cases h4:(yb st lg dm).2=0
   .
    refine R.q (q.Nq O O Tryz.underlying38) O<|R.nil<|I.nil ?_
    refine I.pE O O ?_
    refine I.reg O O (by intro _ _ h;(obtain ⟨_,h,_⟩:=h;cases h))<|R.q (q.ld 7 O O kv O) O<|R.q (q.wJ O) O<|R.q (q.xI O l5 O) O<|R.q (q.ld 8 O O qH O) O<|?_
    refine R.s (B':=(fun g_:Value×Value×Value=>[ag.box aF [g_.1,g_.2.1,g_.2.2,iV (im st lg dm).1.Fuse,.bool (im st lg dm).1.Down] 120,ag.row 9 g_.1 (im st lg dm).1.Kept,ag.row 9 g_.2.1 (im st lg dm).1.Now,ag.row 196 g_.2.2 (im st lg dm).1.Wait,ag.cY D_ (.deferred (some [])),ag.box b3 [iV (st.Epoch+1),iV (1-st.Side),iV ((bM st.Rows).size:Int),iV (lg.First+lg.Many)] 129,ag.box b2 [bQ er] 38,ag.box b1 [pV bB] 76,ag.box bB [pV aF,iV st.Epoch,iV st.Side,iV st.Size,iV st.First,pV aZ,aE] 132,ag.box aZ [pV aF,iV lg.From,iV lg.Many,iV lg.First,iV lg.Next] 193,ag.held w own])) (F':=(fun g_:Value×Value×Value=>[ag.ls z1 (bM st.Rows).data.toList,ag.ls aE st.Rows])) O (s.aH (B0:=[ag.box aF [wG,z17,uX,iV (yb st lg dm).1.Fuse,.bool (yb st lg dm).1.Down] 120,ag.row 9 wG (yb st lg dm).1.Kept,ag.row 9 z17 (yb st lg dm).1.Now,ag.row 196 uX (yb st lg dm).1.Wait]) (Br:=[ag.cY D_ (.deferred (some [])),ag.box b3 [iV (st.Epoch+1),iV (1-st.Side),iV ((bM st.Rows).size:Int),iV (lg.First+lg.Many)] 129,ag.box b2 [bQ er] 38,ag.box b1 [pV bB] 76,ag.box bB [pV aF,iV st.Epoch,iV st.Side,iV st.Size,iV st.First,pV aZ,aE] 132,ag.box aZ [pV aF,iV lg.From,iV lg.Many,iV lg.First,iV lg.Next] 193,ag.held w own]) (F0:=[]) uZ [] (fun g_:Value×Value×Value=>bQ (im st lg dm).2) (fun g_:Value×Value×Value=>[ag.box aF [g_.1,g_.2.1,g_.2.2,iV (im st lg dm).1.Fuse,.bool (im st lg dm).1.Down] 120,ag.row 9 g_.1 (im st lg dm).1.Kept,ag.row 9 g_.2.1 (im st lg dm).1.Now,ag.row 196 g_.2.2 (im st lg dm).1.Wait]) (fun g_:Value×Value×Value=>[]) O O O Df O O (fun w own hw H=>l7 aF wG z17 uX (yb st lg dm).1 w own H af) O) ?_
    rintro ⟨wH,z20,z21⟩
    dsimp only
    refine R.un 1 O<|I.nil ?_
    refine I.reg O O (by intro _ _ h;(obtain ⟨_,h,_⟩:=h;cases h))<|R.u 1 O<|?_
    by_cases h5:(im st lg dm).2=0
    .
     refine R.q (q.JX O O Tryz.underlying38) O<|R.nil<|I.nil ?_
     refine I.rO O O ?_
     have hdn:=Pr (by assumption:(im st lg dm).2=0)
     refine I.Ix (fuel:=20) (Wd w (blks [ag.box bB [pV aF,iV st.Epoch,iV st.Side,iV st.Size,iV st.First,pV aZ,aE] 132,ag.box aF [au,av,ao,iV dk.Fuse,.bool dk.Down] 120,ag.row 9 au dk.Kept,ag.row 9 av dk.Now,ag.row 196 ao dk.Wait,ag.box aZ [pV aF,iV lg.From,iV lg.Many,iV lg.First,iV lg.Next] 193]++own) [ag.cY D_ (.deferred (some [])),ag.box b3 [iV (st.Epoch+1),iV (1-st.Side),iV ((bM st.Rows).size:Int),iV (lg.First+lg.Many)] 129,ag.box b2 [bQ er] 38,ag.box b1 [pV bB] 76,ag.box bB [pV aF,iV st.Epoch,iV st.Side,iV st.Size,iV st.First,pV aZ,aE] 132,ag.box aZ [pV aF,iV lg.From,iV lg.Many,iV lg.First,iV lg.Next] 193,ag.held w own] [ag.ls z1 (bM st.Rows).data.toList,ag.ls aE st.Rows]) O O (by intro _ _ h;(obtain ⟨_,h,_⟩:=h;cases h)) mixed O ?_
     refine D.q (i:=0) O (cw iU [0,1] O) O (q.ld 3 O O kv O) O<|D.q (i:=1) O (cw iU [0,1] O) O (q.wJ O) O<|D.q (i:=2) O (cw iU [0,1] O) O (q.xI O l5 O) O<|D.q (i:=3) O (cw iU [0,1] O) O (q.ld 4 O O qH O) O<|D.q (i:=4) O (cw iU [0,1] O) O (q.ld 3 O O kv O) O<|D.q (i:=5) O (cw iU [0,1] O) O (q.wJ O) O<|D.q (i:=6) O (cw iU [0,1] O) O (q.xI O l5 O) O<|D.q (i:=7) O (cw iU [0,1] O) O (q.ld 4 O O qH O) O<|D.q (i:=10) O (cw iU [0,1] O) O (q.xI O I6 O) O<|D.q (i:=11) O (cw iU [0,1] O) O (q.ld 1 O O eX O) O<|?_
     refine D.p 8 O iU [0,1] (s.c (q.call Uj O O (fun w hw=>gZ aF wH z20 z21 (im st lg dm).1 w (hw.b 0 O) (hw.row 1 O) (hw.row 2 O) (hw.row 3 O))) O) fun _=>?_
     refine D.q (i:=9) O (cw iU [0,1] O) O (q.lG (r:=(((im st lg dm).1.Now.length-102:Nat):Int)) O O) O<|?_
     refine D.one (i:=12) O ?_
     refine Do.s (B':=(fun g_:Value×Value×Value×Nat×Value×List lr=>[ag.box aF [g_.1,g_.2.1,g_.2.2.1,iV (im st lg dm).1.Fuse,.bool (im st lg dm).1.Down] 120,ag.row 9 g_.1 (im st lg dm).1.Kept,ag.row 9 g_.2.1 (im st lg dm).1.Now,ag.row 196 g_.2.2.1 (im st lg dm).1.Wait,ag.box g_.2.2.2.1 [pV aF,iV (⟨102,((((im st lg dm).1.Now.length-102):Nat):Int),lg.First+lg.Many,(fT (im st lg dm).1 102 (Int.toNat ((((im st lg dm).1.Now.length-102):Nat):Int)) (lg.First+lg.Many):Int)⟩:Lg).From,iV (⟨102,((((im st lg dm).1.Now.length-102):Nat):Int),lg.First+lg.Many,(fT (im st lg dm).1 102 (Int.toNat ((((im st lg dm).1.Now.length-102):Nat):Int)) (lg.First+lg.Many):Int)⟩:Lg).Many,iV (⟨102,((((im st lg dm).1.Now.length-102):Nat):Int),lg.First+lg.Many,(fT (im st lg dm).1 102 (Int.toNat ((((im st lg dm).1.Now.length-102):Nat):Int)) (lg.First+lg.Many):Int)⟩:Lg).First,iV (⟨102,((((im st lg dm).1.Now.length-102):Nat):Int),lg.First+lg.Many,(fT (im st lg dm).1 102 (Int.toNat ((((im st lg dm).1.Now.length-102):Nat):Int)) (lg.First+lg.Many):Int)⟩:Lg).Next] 193,ag.cY D_ (.deferred (some [])),ag.box b3 [iV (st.Epoch+1),iV (1-st.Side),iV ((bM st.Rows).size:Int),iV (lg.First+lg.Many)] 129,ag.box b2 [bQ er] 38,ag.box b1 [pV bB] 76,ag.box bB [pV aF,iV st.Epoch,iV st.Side,iV st.Size,iV st.First,pV aZ,aE] 132,ag.box aZ [pV aF,iV lg.From,iV lg.Many,iV lg.First,iV lg.Next] 193,ag.held w own])) (F':=(fun g_:Value×Value×Value×Nat×Value×List lr=>[ag.ls g_.2.2.2.2.1 g_.2.2.2.2.2,ag.rX (g_.2.2.2.2.2:List lr) (mI (im st lg dm).1 102 (Int.toNat ((((im st lg dm).1.Now.length-102):Nat):Int)) (lg.First+lg.Many)),ag.ls z1 (bM st.Rows).data.toList,ag.ls aE st.Rows])) (s.aH (B0:=[ag.box aF [wH,z20,z21,iV (im st lg dm).1.Fuse,.bool (im st lg dm).1.Down] 120,ag.row 9 wH (im st lg dm).1.Kept,ag.row 9 z20 (im st lg dm).1.Now,ag.row 196 z21 (im st lg dm).1.Wait]) (Br:=[ag.cY D_ (.deferred (some [])),ag.box b3 [iV (st.Epoch+1),iV (1-st.Side),iV ((bM st.Rows).size:Int),iV (lg.First+lg.Many)] 129,ag.box b2 [bQ er] 38,ag.box b1 [pV bB] 76,ag.box bB [pV aF,iV st.Epoch,iV st.Side,iV st.Size,iV st.First,pV aZ,aE] 132,ag.box aZ [pV aF,iV lg.From,iV lg.Many,iV lg.First,iV lg.Next] 193,ag.held w own]) (F0:=[]) uZ [] (fun g_:Value×Value×Value×Nat×Value×List lr => .tuple #[pV g_.2.2.2.1,g_.2.2.2.2.1,.nilIface]) (fun g_:Value×Value×Value×Nat×Value×List lr=>[ag.box aF [g_.1,g_.2.1,g_.2.2.1,iV (im st lg dm).1.Fuse,.bool (im st lg dm).1.Down] 120,ag.row 9 g_.1 (im st lg dm).1.Kept,ag.row 9 g_.2.1 (im st lg dm).1.Now,ag.row 196 g_.2.2.1 (im st lg dm).1.Wait,ag.box g_.2.2.2.1 [pV aF,iV (⟨102,((((im st lg dm).1.Now.length-102):Nat):Int),lg.First+lg.Many,(fT (im st lg dm).1 102 (Int.toNat ((((im st lg dm).1.Now.length-102):Nat):Int)) (lg.First+lg.Many):Int)⟩:Lg).From,iV (⟨102,((((im st lg dm).1.Now.length-102):Nat):Int),lg.First+lg.Many,(fT (im st lg dm).1 102 (Int.toNat ((((im st lg dm).1.Now.length-102):Nat):Int)) (lg.First+lg.Many):Int)⟩:Lg).Many,iV (⟨102,((((im st lg dm).1.Now.length-102):Nat):Int),lg.First+lg.Many,(fT (im st lg dm).1 102 (Int.toNat ((((im st lg dm).1.Now.length-102):Nat):Int)) (lg.First+lg.Many):Int)⟩:Lg).First,iV (⟨102,((((im st lg dm).1.Now.length-102):Nat):Int),lg.First+lg.Many,(fT (im st lg dm).1 102 (Int.toNat ((((im st lg dm).1.Now.length-102):Nat):Int)) (lg.First+lg.Many):Int)⟩:Lg).Next] 193]) (fun g_:Value×Value×Value×Nat×Value×List lr=>[ag.ls g_.2.2.2.2.1 g_.2.2.2.2.2,ag.rX (g_.2.2.2.2.2:List lr) (mI (im st lg dm).1 102 (Int.toNat ((((im st lg dm).1.Now.length-102):Nat):Int)) (lg.First+lg.Many))]) O O O Ui O O (fun w own hw H=>Ha aF wH z20 z21 (im st lg dm).1 102 ((((im st lg dm).1.Now.length-102):Nat):Int) (lg.First+lg.Many) w own H (by refine ⟨aC,?_,?_,?_,?_⟩ <;> omega) hdn (⟨n3.symm▸hf2.up ae,ae⟩)) O) (fun _=>cw tY [2,3] O) O ?_
     rintro ⟨z28,z29,z30,z31,z32,z33⟩
     dsimp only
     refine D.q (i:=13) O (cw tY [2,3] O) O (q.mv O) O<|D.q (i:=14) O (cw tY [2,3] O) O (q.ext O O) O<|D.q (i:=15) O (cw tY [2,3] O) O (q.ext O O) O<|D.q (i:=16) O (cw tY [2,3] O) O (q.ext O O) O<|D.q (i:=17) O (cw tY [2,3] O) O (q.as O) O<|D.q (i:=18) O (cw tY [2,3] O) O (q.as O) O<|D.q (i:=19) O (cw tY [2,3] O) O (q.as O) O<|D.done<|?_
     refine I.reg O O (by intro _ _ h;(obtain ⟨_,h,_⟩:=h;cases h))<|R.u 1 O<|R.q (q.Np O O Tryz.underlying38) O<|R.nil<|I.nil ?_
     refine I.pE O O ?_
     refine I.Ix (fuel:=10) (Wd w (blks [ag.box bB [pV aF,iV st.Epoch,iV st.Side,iV st.Size,iV st.First,pV aZ,aE] 132,ag.box aF [au,av,ao,iV dk.Fuse,.bool dk.Down] 120,ag.row 9 au dk.Kept,ag.row 9 av dk.Now,ag.row 196 ao dk.Wait,ag.box aZ [pV aF,iV lg.From,iV lg.Many,iV lg.First,iV lg.Next] 193]++own) [ag.box aF [z28,z29,z30,iV (im st lg dm).1.Fuse,.bool (im st lg dm).1.Down] 120,ag.row 9 z28 (im st lg dm).1.Kept,ag.row 9 z29 (im st lg dm).1.Now,ag.row 196 z30 (im st lg dm).1.Wait,ag.box z31 [pV aF,iV 102,iV ((((im st lg dm).1.Now.length-102):Nat):Int),iV (lg.First+lg.Many),iV (fT (im st lg dm).1 102 (Int.toNat ((((im st lg dm).1.Now.length-102):Nat):Int)) (lg.First+lg.Many):Int)] 193,ag.cY D_ (.deferred (some [])),ag.box b3 [iV (st.Epoch+1),iV (1-st.Side),iV ((bM st.Rows).size:Int),iV (lg.First+lg.Many)] 129,ag.box b2 [bQ er] 38,ag.box b1 [pV bB] 76,ag.box aZ [pV aF,iV lg.From,iV lg.Many,iV lg.First,iV lg.Next] 193,ag.held w own] [ag.ls z32 z33,ag.rX (z33:List lr) (mI (im st lg dm).1 102 (Int.toNat ((((im st lg dm).1.Now.length-102):Nat):Int)) (lg.First+lg.Many)),ag.ls z1 (bM st.Rows).data.toList,ag.ls aE st.Rows]) O O (by intro _ _ h;(obtain ⟨_,h,_⟩:=h;cases h)) mixed O ?_
     refine D.q (i:=0) O (cw tZ bm O) O (q.ld 8 O O kv O) O<|D.q (i:=1) O (cw tZ bm O) O (q.ld 8 O O kv O) O<|D.q (i:=2) O (cw tZ bm O) O (q.X3 6 O O ki) O<|D.q (i:=3) O (cw tZ bm O) O (q.mv O) O<|D.q (i:=4) O (cw tZ bm O) O (q.wJ O) O<|D.q (i:=5) O (cw tZ bm O) O (q.xI O uO O) O<|?_
     refine D.p 6 O tZ bm (s.st (us:=[iV (st.Epoch+1),iV (1-st.Side),iV ((bM st.Rows).size:Int),iV (lg.First+lg.Many)]) (cs':=[pV aF,iV (st.Epoch+1),iV (1-st.Side),iV ((bM st.Rows).size:Int),iV (lg.First+lg.Many),pV aZ,aE]) 9 _ O O O O (.inl ki) O O O O) fun _=>?_
     refine D.q (i:=7) O (cw tZ bm O) O (q.wJ O) O<|D.q (i:=8) O (cw tZ bm O) O (q.xI O AH O) O<|?_
     refine D.p 9 O tZ bm (s.st (us:=[pV z31]) (cs':=[pV aF,iV (st.Epoch+1),iV (1-st.Side),iV ((bM st.Rows).size:Int),iV (lg.First+lg.Many),pV z31,aE]) 9 _ O O O O (.inr ⟨GL,rfl⟩) O O O O) fun _=>?_
     refine D.done<|?_
     refine I.reg O O (by intro _ _ h;(obtain ⟨_,h,_⟩:=h;cases h))<|R.u 1 O<|?_
     refine R.s O (s.st (us:=[.nilIface]) (cs':=[.nilIface]) 7 _ O O O O (.inr ⟨mb,rfl⟩) O O O O) fun _=>?_
     refine Rg.U3 (F':=[ag.nU (z33:List lr),ag.ls z32 z33,ag.ls z1 (bM st.Rows).data.toList,ag.ls aE st.Rows]) 1 O O fun hE1=>?_
     refine R.nil<|I.nil ?_
     have hz:((cC (mkS st lg) dk).1.c,(cC (mkS st lg) dk).2.1,(cC (mkS st lg) dk).1.L,(cC (mkS st lg) dk).2.2)=((⟨st.Epoch+1,1-st.Side,((bM st.Rows).size:Int),lg.First+lg.Many,st.Rows⟩:fu),(im st lg dm).1,(⟨102,((((im st lg dm).1.Now.length-102):Nat):Int),lg.First+lg.Many,(fT (im st lg dm).1 102 (Int.toNat ((((im st lg dm).1.Now.length-102):Nat):Int)) (lg.First+lg.Many):Int)⟩:Lg),0):=by (rw [Zq hp2 he0 af af af,show (((im st lg dm).1.Now.length-102:Nat):Int)=((im st lg dm).1.Now.length:Int)-102 by omega];rfl)
     have hz0:(cC (mkS st lg) dk).1.c=(⟨st.Epoch+1,1-st.Side,((bM st.Rows).size:Int),lg.First+lg.Many,st.Rows⟩:fu):=congrArg (fun t_=>t_.1) hz
     rw [hz0]
     have hz1:(cC (mkS st lg) dk).2.1=(im st lg dm).1:=congrArg (fun t_=>t_.2.1) hz
     rw [hz1]
     have hz2:(cC (mkS st lg) dk).1.L=(⟨102,((((im st lg dm).1.Now.length-102):Nat):Int),lg.First+lg.Many,(fT (im st lg dm).1 102 (Int.toNat ((((im st lg dm).1.Now.length-102):Nat):Int)) (lg.First+lg.Many):Int)⟩:Lg):=congrArg (fun t_=>t_.2.2.1) hz
     rw [hz2]
     have hz3:(cC (mkS st lg) dk).2.2=0:=congrArg (fun t_=>t_.2.2.2) hz
     rw [hz3]
     exact I.Zy (D:=D_) (i:=5) (aE,z28,z29,z30,z31) [9,0,1,2,3,4,11] [3] rfl Tryz.results28 rfl (RV.cell1 7 rfl rfl mb rfl) rfl rfl rfl (vo rfl)
    refine R.q (q.FH O O Tryz.underlying38) O<|R.nil<|I.nil ?_
    refine I.pE O O ?_
    refine I.reg O O (by intro _ _ h;(obtain ⟨_,h,_⟩:=h;cases h))<|R.u 1 O<|?_
    refine R.s O (s.st (us:=[bQ (im st lg dm).2]) (cs':=[bQ (im st lg dm).2]) 6 _ O O O (qP _) (.inr ⟨mb,rfl⟩) (wh _) O O O) fun _=>?_
    refine R.nil<|I.nil ?_
    have hz:((cC (mkS st lg) dk).1.c,(cC (mkS st lg) dk).2.1,(cC (mkS st lg) dk).1.L,(cC (mkS st lg) dk).2.2)=(st,(im st lg dm).1,lg,(im st lg dm).2):=by (rw [Zp hp2 he0 af af af];rfl)
    have hz0:(cC (mkS st lg) dk).1.c=st:=congrArg (fun t_=>t_.1) hz
    rw [hz0]
    have hz1:(cC (mkS st lg) dk).2.1=(im st lg dm).1:=congrArg (fun t_=>t_.2.1) hz
    rw [hz1]
    have hz2:(cC (mkS st lg) dk).1.L=lg:=congrArg (fun t_=>t_.2.2.1) hz
    rw [hz2]
    have hz3:(cC (mkS st lg) dk).2.2=(im st lg dm).2:=congrArg (fun t_=>t_.2.2.2) hz
    rw [hz3]
    exact I.Zy (D:=D_) (i:=4) (aE,wH,z20,z21,aZ) [8,0,1,2,3,9,10] [1] rfl Tryz.results28 rfl (RV.cell1 6 rfl rfl mb rfl) rfl rfl rfl rfl
   refine R.q (q.JY O O Tryz.underlying38) O<|R.nil<|I.nil ?_
   refine I.rO O O ?_
   refine I.reg O O (by intro _ _ h;(obtain ⟨_,h,_⟩:=h;cases h))<|R.u 1 O<|R.q (q.FH O O Tryz.underlying38) O<|R.nil<|I.nil ?_
   refine I.pE O O ?_
   refine I.reg O O (by intro _ _ h;(obtain ⟨_,h,_⟩:=h;cases h))<|R.u 1 O<|?_
   refine R.s O (s.st (us:=[bQ (yb st lg dm).2]) (cs':=[bQ (yb st lg dm).2]) 6 _ O O O (qP _) (.inr ⟨mb,rfl⟩) (wh _) O O O) fun _=>?_
   refine R.nil<|I.nil ?_
   have hz:((cC (mkS st lg) dk).1.c,(cC (mkS st lg) dk).2.1,(cC (mkS st lg) dk).1.L,(cC (mkS st lg) dk).2.2)=(st,(yb st lg dm).1,lg,(yb st lg dm).2):=by (rw [Zo hp2 he0 af af];rfl)
   have hz0:(cC (mkS st lg) dk).1.c=st:=congrArg (fun t_=>t_.1) hz
   rw [hz0]
   have hz1:(cC (mkS st lg) dk).2.1=(yb st lg dm).1:=congrArg (fun t_=>t_.2.1) hz
   rw [hz1]
   have hz2:(cC (mkS st lg) dk).1.L=lg:=congrArg (fun t_=>t_.2.2.1) hz
   rw [hz2]
   have hz3:(cC (mkS st lg) dk).2.2=(yb st lg dm).2:=congrArg (fun t_=>t_.2.2.2) hz
   rw [hz3]
   exact I.Zy (D:=D_) (i:=4) (aE,wG,z17,uX,aZ) [8,0,1,2,3,9,10] [1] rfl Tryz.results28 rfl (RV.cell1 6 rfl rfl mb rfl) rfl rfl rfl rfl
  refine R.q (q.JY O O Tryz.underlying38) O<|R.nil<|I.nil ?_
  refine I.rO O O ?_
  refine I.reg O O (by intro _ _ h;(obtain ⟨_,h,_⟩:=h;cases h))<|R.u 1 O<|R.q (q.JY O O Tryz.underlying38) O<|R.nil<|I.nil ?_
  refine I.rO O O ?_
  refine I.reg O O (by intro _ _ h;(obtain ⟨_,h,_⟩:=h;cases h))<|R.u 1 O<|R.q (q.FH O O Tryz.underlying38) O<|R.nil<|I.nil ?_
  refine I.pE O O ?_
  refine I.reg O O (by intro _ _ h;(obtain ⟨_,h,_⟩:=h;cases h))<|R.u 1 O<|?_
  refine R.s O (s.st (us:=[bQ (aQ dm).2]) (cs':=[bQ (aQ dm).2]) 6 _ O O O (qP _) (.inr ⟨mb,rfl⟩) (wh _) O O O) fun _=>?_
  refine R.nil<|I.nil ?_
  have hz:((cC (mkS st lg) dk).1.c,(cC (mkS st lg) dk).2.1,(cC (mkS st lg) dk).1.L,(cC (mkS st lg) dk).2.2)=(st,(aQ dm).1,lg,(aQ dm).2):=by (rw [Zn hp2 he0 af];rfl)
  have hz0:(cC (mkS st lg) dk).1.c=st:=congrArg (fun t_=>t_.1) hz
  rw [hz0]
  have hz1:(cC (mkS st lg) dk).2.1=(aQ dm).1:=congrArg (fun t_=>t_.2.1) hz
  rw [hz1]
  have hz2:(cC (mkS st lg) dk).1.L=lg:=congrArg (fun t_=>t_.2.2.1) hz
  rw [hz2]
  have hz3:(cC (mkS st lg) dk).2.2=(aQ dm).2:=congrArg (fun t_=>t_.2.2.2) hz
  rw [hz3]
  exact I.Zy (D:=D_) (i:=4) (aE,kM,lA,z12,aZ) [8,0,1,2,3,9,10] [1] rfl Tryz.results28 rfl (RV.cell1 6 rfl rfl mb rfl) rfl rfl rfl rfl
 rintro D_ ⟨stop,eT,gh,eU,dm,er⟩ hD_ PO hs_
 dsimp only at PO hs_
 subst hs_
 obtain ⟨hp1,hp2,hp3⟩:=PO;have he0:¬ er=0:=by simpa using hp1.symm
 have hz:((cC (mkS st lg) dk).1.c,(cC (mkS st lg) dk).2.1,(cC (mkS st lg) dk).1.L,(cC (mkS st lg) dk).2.2)=(st,dm,lg,er):=by (rw [Zm hp2 he0];rfl)
 have hz0:(cC (mkS st lg) dk).1.c=st:=congrArg (fun t_=>t_.1) hz
 rw [hz0]
 have hz1:(cC (mkS st lg) dk).2.1=dm:=congrArg (fun t_=>t_.2.1) hz
 rw [hz1]
 have hz2:(cC (mkS st lg) dk).1.L=lg:=congrArg (fun t_=>t_.2.2.1) hz
 rw [hz2]
 have hz3:(cC (mkS st lg) dk).2.2=er:=congrArg (fun t_=>t_.2.2.2) hz
 rw [hz3]
 exact I.Zy (D:=D_) (i:=0) (aE,eT,gh,eU,aZ) [4,5,6,7,8,9,10] [1] rfl Tryz.results28 rfl (RV.cell1 2 rfl rfl mb rfl) rfl rfl rfl rfl
end Go.Proofs.YtnmpibjlnninjaaGreatDoor
