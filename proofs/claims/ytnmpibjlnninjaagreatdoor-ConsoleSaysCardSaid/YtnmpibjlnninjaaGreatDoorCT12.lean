import Derived.Test.YtnmpibjlnninjaaGreatDoorCT11
namespace Go.Proofs.YtnmpibjlnninjaaGreatDoor
set_option linter.unusedVariables false
set_option linter.unusedSimpArgs false
set_option maxRecDepth 100000
set_option maxHeartbeats 90000000
section
open Go Go.RowKit
attribute [local irreducible] Run Rg Rq Qt Qa Stp Dg Do Dm bQ
theorem yx (bR:Value)(l:List ByteArray)(w:World)(own:List Nat)(H:HN w own [] [ag.ls bR l])(hl:l.length<=1000000):RC Tryz.prog 60 #[bR] H (fun z:Value=>z) (fun z=>[ag.row 9 z l]) (fun _=>[]):=by
 have BV:=H.aL 0 rfl
 refine R.eN H ?_
 rcases Bool.eq_false_or_eq_true (rW bR) with h1|h1
 .
  refine R.q (q.Lq (congrArg Value.bool h1) (q.rj (vu 0 O) O O Tryz.underlying61)) O<|U ?_
  refine R.row0 (α:=ByteArray) 9 ?_
  rw [show l=_ from Sl.rW (H.cy 0 rfl) af]
  exact R.x1 nS [0,1] []
 refine R.q (q.Lq (congrArg Value.bool h1) (q.rj (vu 0 O) O O Tryz.underlying61)) O<|U ?_
 refine R.s O (s.bs (l:=([]:List ByteArray)) dN e8 O O O O O O O) fun b1=>U ?_
 refine R.ap fun v1=>?_
 have hz:l=(([])++l):=by (rfl)
 rw [hz]
 exact R.x1 v1 [0,1] []
theorem AR (sx:ByteArray)(w:World)(hs:sx.size<=48):Calls Tryz.prog 59 #[.string sx] w fun e w'=>e = .returned (.string (full sx))/\Ext w w':=by
 refine R.eV ?_
 refine R.q (q.lG (r:=((48-sx.size:Nat):Int)) O O) O<|R.s O (s.aaz (m:=(48-sx.size)) aP O O O O O ae O) fun b1=>?_
 refine R.q (q.kA (cI 0 O) O aP Tryz.underlying5 Tryz.underlying9) O<|R.q (q.cat O O (by rw [bg (List.replicate _ _),List.length_replicate];omega)) O<|U ?_
 refine R.rt ?_
 rfl
theorem GY (n:Nat)(w:World)(hn:n<=1000000):Calls Tryz.prog 119 #[.int .u64 ((1:Nat):Int),.int .u64 (n:Int)] w fun e w'=>e = .returned (.tuple #[.int .u64 0,.int .u64 (n:Int)])/\Ext w w' :=
 (Tryz.bits_Mul 1 n aC ae w).mono fun e w' ⟨h1,h2⟩=>⟨by
  rw [h1,Nat.one_mul,Nat.div_eq_of_lt ae,Nat.mod_eq_of_lt ae];rfl,by rw [h2];exact Ext.refl _⟩
theorem GZ (a n:Nat)(w:World)(hn:a=1/\n<=1000000):Calls Tryz.prog 119 #[.int .u64 (a:Int),.int .u64 (n:Int)] w fun e w'=>e = .returned (.tuple #[.int .u64 0,.int .u64 (n:Int)])/\Ext w w':=by
 obtain ⟨rfl,hn⟩:=hn;exact GY n w hn
theorem G0 {α:Type}{l x:List α}{a:α}{n k:Nat}(hx:x=List.replicate k a++l)(m:Nat)(hm:m<=k)(hl:k+m<=x.length):x.take k++(x.take k).take m++x.drop (k+m)=List.replicate (k+m) a++l.drop m:=by
 subst hx
 have h1:(List.replicate k a).length=k:=List.length_replicate
 rw [List.take_left' h1,List.take_replicate,Nat.min_eq_left hm,List.drop_append,h1,List.drop_of_length_le (by rw [h1];omega),List.nil_append,show k+m-k=m by omega,<- List.replicate_append_replicate]
theorem G1 (bR:Value)(l:List ByteArray)(n:Nat)(w:World)(own:List Nat)(H:HN w own [] [ag.ls bR l])(hl:l.length=1)(hn:1<=n/\n<=1000):RC Tryz.prog 58 #[bR,iV (n:Int)] H (fun z:Value=>z) (fun z=>[ag.row 9 z ((List.replicate n (l.headD ⟨#[]⟩)):List ByteArray)]) (fun _=>[]):=by
 have BV:=H.aL 0 rfl
 refine R.eN H ?_
 refine R.q (q.ny (r:=((l.length:Nat):Int)) O (by rw [Tryz.underlying3];rfl) Tryz.underlying183 (zq ae)) O<|U ?_
 refine R.q (q.ny (r:=((n:Nat):Int)) O (by rw [Tryz.underlying3];rfl) Tryz.underlying183 (zq ae)) O<|R.kc O O (fun w hw=>GZ l.length n w ae)<|U ?_
 refine R.q (q.ny (r:=((n:Nat):Int)) O (by rw [Tryz.underlying183];rfl) Tryz.underlying3 (wr ae)) O<|R.s O (s.Ym (m:=n) (z0:=(⟨#[]⟩:ByteArray)) dN O O O aC O O (by simp [Enc.k];omega) O) fun b1=>U ?_
 refine R.s O (s.Iz (o:=0) (m:=1) 0 _ O (vu 0 O) O (.inr ⟨rfl,rfl⟩) O dN ae ae aG ae O O) fun _=>U ?_
 refine R.loop (fun g_:Nat×Value×(List ByteArray)=>[(7,g_.2.1),(8,iV (g_.1:Int))]) (fun g_=>[ag.row 9 g_.2.1 g_.2.2,ag.held w own]) (fun g_=>[ag.ls bR l]) (fun g_=>1<=g_.1/\g_.1<=n/\g_.2.2=List.replicate g_.1 (l.headD ⟨#[]⟩)++List.replicate (n-g_.1) (⟨#[]⟩:ByteArray)) (fun g_=>n-g_.1) (1,.slice (some ⟨b1,0,none⟩) n n,((List.replicate n (⟨#[]⟩:ByteArray)).take 0++l.take 1++(List.replicate n (⟨#[]⟩:ByteArray)).drop (0+1))) O (by refine ⟨ae,ae,?_⟩;match l,hl with | [a],_=>simp) (sF O) (dX [0,1] [0] O) ?_
 rintro ⟨k,u,rs⟩ ⟨hk0,hk,HR⟩
 dsimp only at *
 have hrl:rs.length=n:=by rw [HR];simp;omega
 refine U ?_
 refine C (k<rs.length) ?_ ?_ <;> intro h1
 .
  refine R.cO (fuel:=10) [1] O O mixed O<|D.l [0,1,2,4,5] [1] [0] O<|U ?_
  refine D.two (i:=3) (j:=6) O O ?_ ?_
  .
   refine Do.k [1] [0] (q.cz (i:=k) (cI 0 O) O O dN O ae) ?_
   refine D.k 6 O [1] [0] (q.jT (i:=k) (cI 0 O) O O Tryz.underlying61 EN O ae) ?_
   refine D.p 7 O [1] [0] (s.Iz (o:=k) (m:=(min k (n-k))) 0 _ O (fun w hw=>Sl.to (hw.row 0 O) ae) O (.inl O) O dN ae aG ae aG O O) fun _=>?_
   refine D.l [8,9] [1] [0] O<|U ?_
   refine D.done<|R.back (k+min k (n-k),u,(rs.take k++(rs.take k).take (min k (n-k))++rs.drop (k+(min k (n-k))))) O (by refine ⟨ae,ae,?_⟩;rw [G0 (n:=n) HR (min k (n-k)) ae ae,List.drop_replicate,show n-k-min k (n-k)=n-(k+min k (n-k)) by omega]) aJ (sF O) (cw [0,1] [0] O)
  refine Do.k [1] [0] (q.jT (i:=k) (cI 0 O) O O Tryz.underlying61 EN O ae) ?_
  refine D.k 3 O [1] [0] (q.cz (i:=k) (cI 0 O) O O dN O ae) ?_
  refine D.p 7 O [1] [0] (s.Iz (o:=k) (m:=(min k (n-k))) 0 _ O (fun w hw=>Sl.to (hw.row 0 O) ae) O (.inl O) O dN ae aG ae aG O O) fun _=>?_
  refine D.l [8,9] [1] [0] O<|U ?_
  refine D.done<|R.back (k+min k (n-k),u,(rs.take k++(rs.take k).take (min k (n-k))++rs.drop (k+(min k (n-k))))) O (by refine ⟨ae,ae,?_⟩;rw [G0 (n:=n) HR (min k (n-k)) ae ae,List.drop_replicate,show n-k-min k (n-k)=n-(k+min k (n-k)) by omega]) aJ (sF O) (cw [0,1] [0] O)
 have hz:List.replicate n (l.headD ⟨#[]⟩)=rs:=by (rw [HR,show k=n by omega];simp)
 rw [hz]
 exact R.x1 u [0,1] []
theorem Pd (n:Int)(w:World)(own:List Nat)(H:HN w own [] [])(hn:1<=n/\n<=200):RS Tryz.prog 23 #[iV n] H (dNew (Int.toNat n)) (fun _ (z:Nat×Value×Value×Value) => .tuple #[pV z.1,.nilIface]) (fun s z=>[ag.box z.1 [z.2.1,z.2.2.1,z.2.2.2,iV s.Fuse,.bool s.Down] 120,ag.row 9 z.2.1 s.Kept,ag.row 9 z.2.2.1 s.Now,ag.row 196 z.2.2.2 s.Wait]) (fun _ _=>[]):=by
 obtain ⟨nN,hnN⟩:∃m:Nat,n=(m:Int):=⟨n.toNat,ae⟩;subst hnN
 refine R.eN H ?_
 refine R.kc O O (fun w hw=>AR (⟨#[]⟩) w aC)<|R.s O (s.bs (l:=([full (⟨#[]⟩)]:List ByteArray)) dN e8 O O O O O O O) fun b1=>U ?_
 refine R.s O (s.Eb (Bl:=[ag.row 9 (.slice (some ⟨b1,0,none⟩) 1 1) ([full (⟨#[]⟩)]:List ByteArray)]) (Fl:=[ag.ls (.slice (some ⟨b1,0,none⟩) 1 1) ([full (⟨#[]⟩)]:List ByteArray)]) [0,1] [0] (fun kJ:Value=>kJ) (fun kJ:Value=>[ag.row 9 kJ ((List.replicate nN (([full (⟨#[]⟩)]).headD ⟨#[]⟩)):List ByteArray)]) O O (nC vx) O YZ O O (fun w own hw H=>G1 (.slice (some ⟨b1,0,none⟩) 1 1) ([full (⟨#[]⟩)]) nN w own H eH ae) O) fun z1=>U ?_
 refine R.s O (s.Eb (Bl:=[ag.row 9 z1 (List.replicate nN (([full (⟨#[]⟩)]).headD ⟨#[]⟩):List ByteArray)]) (Fl:=[ag.ls z1 (List.replicate nN (([full (⟨#[]⟩)]).headD ⟨#[]⟩):List ByteArray)]) [0,1,2] [0] (fun kJ:Value=>kJ) (fun kJ:Value=>[ag.row 9 kJ ((List.replicate nN (([full (⟨#[]⟩)]).headD ⟨#[]⟩)):List ByteArray)]) O O (nC vx) O Y0 O O (fun w own hw H=>yx z1 (List.replicate nN (([full (⟨#[]⟩)]).headD ⟨#[]⟩)) w own H aG) O) fun z2=>?_
 refine R.q (q.Ea Vu O (fun w hw=>l8 (Sl.D9 (hw.row 1 O)) (l8 (Sl.D9 (hw.row 0 O)) (l8 O D8))) O) O<|R.nb fun b2=>?_
 refine R.row0 (α:=Turn) 196 ?_
 have hz:dNew (Int.toNat ((nN:Nat):Int))=(⟨List.replicate nN (([full (⟨#[]⟩)]).headD ⟨#[]⟩),List.replicate nN (([full (⟨#[]⟩)]).headD ⟨#[]⟩),[],-1,false⟩:cq):=by (rfl)
 rw [hz]
 exact R.x2 (b2,z1,z2,nS) [1,3,2,0,5] []
theorem gZ (aF:Nat)(au av ao:Value)(dk:cq)(w:World)(AU:(ag.box aF [au,av,ao,iV dk.Fuse,.bool dk.Down] 120).ok w)(kK:Sl w au (dk.Kept:List ByteArray))(l6:Sl w av (dk.Now:List ByteArray))(kL:Sl w ao (dk.Wait:List Turn)):Calls Tryz.prog 75 #[pV aF] w fun e w'=>e = .returned (iV (dk.Now.length:Int))/\Ext w w':=by
 refine R.enter [] [(0,pV aF)] Tryz.func75 O O O O<|R.uz kK<|R.uz l6<|R.uz kL<|R.pH (r:=ag.box aF [au,av,ao,iV dk.Fuse,.bool dk.Down] 120) AU (kz AU)<|U ?_
 refine R.q (q.BS 0 O O gK O) O<|U ?_
 refine R.rt ?_
 rfl
theorem Dj (aF:Nat)(au av ao:Value)(dk:cq)(w:World)(AU:(ag.box aF [au,av,ao,iV dk.Fuse,.bool dk.Down] 120).ok w)(kK:Sl w au (dk.Kept:List ByteArray))(l6:Sl w av (dk.Now:List ByteArray))(kL:Sl w ao (dk.Wait:List Turn)):Calls Tryz.prog 76 #[pV aF] w fun e w'=>e = .returned (.bool dk.Down)/\Ext w w':=by
 refine R.enter [] [(0,pV aF)] Tryz.func76 O O O O<|R.uz kK<|R.uz l6<|R.uz kL<|R.pH (r:=ag.box aF [au,av,ao,iV dk.Fuse,.bool dk.Down] 120) AU (kz AU)<|U ?_
 refine R.q (q.BS 0 O O Oz O) O<|U ?_
 refine R.rt ?_
 rfl
theorem xe (aF:Nat)(au av ao:Value)(dk:cq)(i:Int)(w:World)(AU:(ag.box aF [au,av,ao,iV dk.Fuse,.bool dk.Down] 120).ok w)(kK:Sl w au (dk.Kept:List ByteArray))(l6:Sl w av (dk.Now:List ByteArray))(kL:Sl w ao (dk.Wait:List Turn)):Calls Tryz.prog 77 #[pV aF,iV i] w fun e w'=>e = .returned (.tuple #[.string (cW dk i).1,bQ (cW dk i).2])/\Ext w w':=by
 refine R.enter [] [(0,pV aF),(1,iV i)] Tryz.func77 O O O O<|R.uz kK<|R.uz l6<|R.uz kL<|R.pH (r:=ag.box aF [au,av,ao,iV dk.Fuse,.bool dk.Down] 120) AU (kz AU)<|U ?_
 refine R.q (q.BS 0 O O Oz O) O<|U ?_
 refine R.cond O O (fun h1=>?_) (fun h1=>?_)
 .
  refine U ?_
  exact R.Fu O Tryz.results77 O O (rS (by rw [Ap af];done)) (rC aC (by rw [Ap af];done))
 refine U ?_
 refine C (i<0) ?_ ?_ <;> intro h2
 .exact R.Fu O Tryz.results77 O O (rS (by rw [tf af ae];done)) (rC aC (by rw [tf af ae];done))
 refine R.qg O (q.BS 0 O O gK O) O<|U ?_
 refine C (i<(dk.Now.length:Int)) ?_ ?_ <;> intro h3
 .
  refine R.q (q.BS 0 O O gK O) O<|U ?_
  obtain ⟨x1,hx1⟩:=gE dk.Now i.toNat
  refine R.q (q.idx (i:=i.toNat) (vu 2 O) O O dN ae hx1) O<|U ?_
  exact R.Fu O Tryz.results77 O O (rS (by rw [sr af ae hx1];done)) (vo (by rw [sr af ae hx1];done))
 exact R.Fu O Tryz.results77 O O (rS (by rw [tf af ae];done)) (rC aC (by rw [tf af ae];done))
theorem Dk (aF:Nat)(au av ao:Value)(dk:cq)(w:World)(own:List Nat)(H:HN w own [ag.box aF [au,av,ao,iV dk.Fuse,.bool dk.Down] 120,ag.row 9 au dk.Kept,ag.row 9 av dk.Now,ag.row 196 ao dk.Wait] [])(hf : -1<=dk.Fuse/\dk.Fuse<=9223372036854775807):RS Tryz.prog 129 #[pV aF] H (bN dk) (fun s (_:Value×Value×Value)=>bQ s.2) (fun s z=>[ag.box aF [z.1,z.2.1,z.2.2,iV s.1.Fuse,.bool s.1.Down] 120,ag.row 9 z.1 s.1.Kept,ag.row 9 z.2.1 s.1.Now,ag.row 196 z.2.2 s.1.Wait]) (fun _ _=>[]):=by
 have dD:=H.cap 1 rfl;have dE:=H.ck 1 rfl
 have ew:=H.cap 2 rfl;have ey:=H.ck 2 rfl
 have dF:=H.cap 3 rfl;have dG:=H.ck 3 rfl
 refine R.eN H ?_
 refine R.q (q.not O) O<|U ?_
 rcases Bool.eq_false_or_eq_true dk.Down with h1|h1
 .
  rw [h1]
  refine U ?_
  rw [show bN dk=_ from Ao af]
  exact R.x1 (au,av,ao) bV []
 rw [h1]
 refine U ?_
 refine C (dk.Fuse=0) ?_ ?_ <;> intro h2
 .
  rw [show bN dk=_ from uM af af]
  exact R.x1 (au,av,ao) bV []
 refine R.q (q.lG (r:=dk.Fuse-1) O O) O<|R.q (q.max (r:=max (dk.Fuse-1) (-1)) O O O) O<|U ?_
 rw [show bN dk=_ from vU af af]
 exact R.x1 (au,av,ao) bV []
theorem jP (aF:Nat)(au av ao:Value)(dk:cq)(i:Int)(sx:ByteArray)(w:World)(own:List Nat)(H:HN w own [ag.box aF [au,av,ao,iV dk.Fuse,.bool dk.Down] 120,ag.row 9 au dk.Kept,ag.row 9 av dk.Now,ag.row 196 ao dk.Wait] [])(hd:dk.Kept.length=dk.Now.length/\dk.Now.length<=100000/\dk.Wait.length<=100000 /\ -1<=dk.Fuse/\dk.Fuse<=9223372036854775807):RS Tryz.prog 71 #[pV aF,iV i,.string sx] H (aU dk i sx) (fun s (_:Value×Value×Value)=>bQ s.2) (fun s z=>[ag.box aF [z.1,z.2.1,z.2.2,iV s.1.Fuse,.bool s.1.Down] 120,ag.row 9 z.1 s.1.Kept,ag.row 9 z.2.1 s.1.Now,ag.row 196 z.2.2 s.1.Wait]) (fun _ _=>[]):=by
 have dD:=H.cap 1 rfl;have dE:=H.ck 1 rfl
 have ew:=H.cap 2 rfl;have ey:=H.ck 2 rfl
 have dF:=H.cap 3 rfl;have dG:=H.ck 3 rfl
 have hsl:=o0 dk;have hs1:=congrArg List.length hsl.1;have hs2:=congrArg List.length hsl.2.1;have hs3:=congrArg List.length hsl.2.2
 refine R.eN H ?_
 refine C (i<0) ?_ ?_ <;> intro h1
 .
  rw [show aU dk i sx=_ from og ae]
  exact R.x1 (au,av,ao) bV []
 refine C (i<(dk.Now.length:Int)) ?_ ?_ <;> intro h2
 .
  refine C (48<sx.size) ?_ ?_ <;> intro h3
  .
   rw [show aU dk i sx=_ from og ae]
   exact R.x1 (au,av,ao) bV []
  refine R.s O (s.aH bV [] _ _ _ O O O OV O O (fun w own hw H=>Dk aF au av ao dk w own H ae) O) ?_
  rintro ⟨z1,z2,z3⟩
  dsimp only
  refine U ?_
  refine C ((bN dk).2=0) ?_ ?_ <;> intro h4
  .
   obtain ⟨x1,hx1⟩:∃z,((bN dk).1.Now)[i.toNat]? = some z:=⟨_,List.getElem?_eq_getElem ae⟩
   refine R.cO (fuel:=9) [1,3,4] O O mixed O<|D.l [0,1,2,4,5] [1,3,4] [] O<|U ?_
   refine D.two (i:=3) (j:=6) O O ?_ ?_
   .
    refine Do.k [1,3,4] [] (q.ld 0 O O gK O) ?_
    refine D.p 6 O [1,3,4] [] (s.c (q.call Uf O O (fun w hw=>AR sx w ae)) O) fun _=>?_
    refine D.k 7 O [1,3,4] [] (q.idx (i:=i.toNat) (cI 2 O) O O dN ae hx1) ?_
    refine D.p 8 O [1,3,4] [] (s.UZ (z:=full sx) 2 _ O hx1 O O O O (.inr ⟨jN,rfl⟩) O) fun _=>?_
    refine D.done ?_
    obtain ⟨x2,hx2⟩:∃z,((bN dk).1.Now.set i.toNat (full sx))[i.toNat]? = some z:=⟨_,List.getElem?_eq_getElem aG⟩
    refine R.cO (fuel:=19) [1,2,4] O O mixed O<|D.l [0,1,2,3,5,6,7,8,10] [1,2,4] [] O<|U ?_
    refine D.two (i:=4) (j:=9) O O ?_ ?_
    .
     refine Do.k [1,2,4] [] (q.ld 0 O O jj O) ?_
     refine D.k 9 O [1,2,4] [] (q.ld 0 O O gK O) ?_
     refine D.l [11,12,13] [1,2,4] [] O<|Dm.yy O O (q.idx (i:=i.toNat) (cI 1 O) O O dN ae hx2) O<|U ?_
     refine D.p 14 O [2,3,5] [] (s.bs (l:=([(⟨i,x2⟩:Turn)]:List Turn)) tq nI O O O O O O O) fun b1=>?_
     refine D.p 15 O [2,3,5] [] (s.app 4 _ O O O (cI 0 O) pU aG aG (fun _=>rfl) O) fun v1=>?_
     refine D.l [16,17] [2,3,5] [] O<|U ?_
     refine D.p 18 O [2,3,5] [] (s.lq 1 _ O O O (fun w hw=>Sl.cL (hw.row 4 O)) (.inr ⟨jj,rfl⟩) (fun w hw=>bD (Sl.one (hw.row 4 O)) cd) O O O) fun _=>?_
     refine D.done<|U ?_
     have hz:aU dk i sx=((⟨((bN dk).1).Kept,(bN dk).1.Now.set i.toNat (full sx),(bN dk).1.Wait++([(⟨i,x2⟩:Turn)]),(bN dk).1.Fuse,(bN dk).1.Down⟩:cq),(bN dk).2):=by (rw [ju ae ae ae af];simp_all;done)
     rw [hz]
     exact R.x1 (z1,z2,v1) oL []
    refine Do.k [1,2,4] [] (q.ld 0 O O gK O) ?_
    refine D.l [11,12,13] [1,2,4] [] O<|Dm.yy O O (q.idx (i:=i.toNat) (cI 1 O) O O dN ae hx2) O<|U ?_
    refine D.two (i:=4) (j:=14) O O ?_ ?_
    .
     refine Do.k [1,2,4] [] (q.ld 0 O O jj O) ?_
     refine D.p 14 O [2,3,5] [] (s.bs (l:=([(⟨i,x2⟩:Turn)]:List Turn)) tq nI O O O O O O O) fun b2=>?_
     refine D.p 15 O [2,3,5] [] (s.app 4 _ O O O (cI 0 O) pU aG aG (fun _=>rfl) O) fun v2=>?_
     refine D.l [16,17] [2,3,5] [] O<|U ?_
     refine D.p 18 O [2,3,5] [] (s.lq 1 _ O O O (fun w hw=>Sl.cL (hw.row 4 O)) (.inr ⟨jj,rfl⟩) (fun w hw=>bD (Sl.one (hw.row 4 O)) cd) O O O) fun _=>?_
     refine D.done<|U ?_
     have hz:aU dk i sx=((⟨((bN dk).1).Kept,(bN dk).1.Now.set i.toNat (full sx),(bN dk).1.Wait++([(⟨i,x2⟩:Turn)]),(bN dk).1.Fuse,(bN dk).1.Down⟩:cq),(bN dk).2):=by (rw [ju ae ae ae af];simp_all;done)
     rw [hz]
     exact R.x1 (z1,z2,v2) oL []
    refine Do.p [2,3,5] [] (s.bs (l:=([(⟨i,x2⟩:Turn)]:List Turn)) tq nI O O O O O O O) fun b3=>?_
    refine D.k 4 O [2,3,5] [] (q.ld 1 O O jj O) ?_
    refine D.p 15 O [2,3,5] [] (s.app 4 _ O O O (cI 0 O) pU aG aG (fun _=>rfl) O) fun v3=>?_
    refine D.l [16,17] [2,3,5] [] O<|U ?_
    refine D.p 18 O [2,3,5] [] (s.lq 1 _ O O O (fun w hw=>Sl.cL (hw.row 4 O)) (.inr ⟨jj,rfl⟩) (fun w hw=>bD (Sl.one (hw.row 4 O)) cd) O O O) fun _=>?_
    refine D.done<|U ?_
    have hz:aU dk i sx=((⟨((bN dk).1).Kept,(bN dk).1.Now.set i.toNat (full sx),(bN dk).1.Wait++([(⟨i,x2⟩:Turn)]),(bN dk).1.Fuse,(bN dk).1.Down⟩:cq),(bN dk).2):=by (rw [ju ae ae ae af];simp_all;done)
    rw [hz]
    exact R.x1 (z1,z2,v3) oL []
   refine Do.p [1,3,4] [] (s.c (q.call Uf O O (fun w hw=>AR sx w ae)) O) fun _=>?_
   refine D.k 3 O [1,3,4] [] (q.ld 0 O O gK O) ?_
   refine D.k 7 O [1,3,4] [] (q.idx (i:=i.toNat) (cI 2 O) O O dN ae hx1) ?_
   refine D.p 8 O [1,3,4] [] (s.UZ (z:=full sx) 2 _ O hx1 O O O O (.inr ⟨jN,rfl⟩) O) fun _=>?_
   refine D.done ?_
   obtain ⟨x3,hx3⟩:∃z,((bN dk).1.Now.set i.toNat (full sx))[i.toNat]? = some z:=⟨_,List.getElem?_eq_getElem aG⟩
   refine R.cO (fuel:=19) [1,2,4] O O mixed O<|D.l [0,1,2,3,5,6,7,8,10] [1,2,4] [] O<|U ?_
   refine D.two (i:=4) (j:=9) O O ?_ ?_
   .
    refine Do.k [1,2,4] [] (q.ld 0 O O jj O) ?_
    refine D.k 9 O [1,2,4] [] (q.ld 0 O O gK O) ?_
    refine D.l [11,12,13] [1,2,4] [] O<|Dm.yy O O (q.idx (i:=i.toNat) (cI 1 O) O O dN ae hx3) O<|U ?_
    refine D.p 14 O [2,3,5] [] (s.bs (l:=([(⟨i,x3⟩:Turn)]:List Turn)) tq nI O O O O O O O) fun b4=>?_
    refine D.p 15 O [2,3,5] [] (s.app 4 _ O O O (cI 0 O) pU aG aG (fun _=>rfl) O) fun v4=>?_
    refine D.l [16,17] [2,3,5] [] O<|U ?_
    refine D.p 18 O [2,3,5] [] (s.lq 1 _ O O O (fun w hw=>Sl.cL (hw.row 4 O)) (.inr ⟨jj,rfl⟩) (fun w hw=>bD (Sl.one (hw.row 4 O)) cd) O O O) fun _=>?_
    refine D.done<|U ?_
    have hz:aU dk i sx=((⟨((bN dk).1).Kept,(bN dk).1.Now.set i.toNat (full sx),(bN dk).1.Wait++([(⟨i,x3⟩:Turn)]),(bN dk).1.Fuse,(bN dk).1.Down⟩:cq),(bN dk).2):=by (rw [ju ae ae ae af];simp_all;done)
    rw [hz]
    exact R.x1 (z1,z2,v4) oL []
   refine Do.k [1,2,4] [] (q.ld 0 O O gK O) ?_
   refine D.l [11,12,13] [1,2,4] [] O<|Dm.yy O O (q.idx (i:=i.toNat) (cI 1 O) O O dN ae hx3) O<|U ?_
   refine D.two (i:=4) (j:=14) O O ?_ ?_
   .
    refine Do.k [1,2,4] [] (q.ld 0 O O jj O) ?_
    refine D.p 14 O [2,3,5] [] (s.bs (l:=([(⟨i,x3⟩:Turn)]:List Turn)) tq nI O O O O O O O) fun b5=>?_
    refine D.p 15 O [2,3,5] [] (s.app 4 _ O O O (cI 0 O) pU aG aG (fun _=>rfl) O) fun v5=>?_
    refine D.l [16,17] [2,3,5] [] O<|U ?_
    refine D.p 18 O [2,3,5] [] (s.lq 1 _ O O O (fun w hw=>Sl.cL (hw.row 4 O)) (.inr ⟨jj,rfl⟩) (fun w hw=>bD (Sl.one (hw.row 4 O)) cd) O O O) fun _=>?_
    refine D.done<|U ?_
    have hz:aU dk i sx=((⟨((bN dk).1).Kept,(bN dk).1.Now.set i.toNat (full sx),(bN dk).1.Wait++([(⟨i,x3⟩:Turn)]),(bN dk).1.Fuse,(bN dk).1.Down⟩:cq),(bN dk).2):=by (rw [ju ae ae ae af];simp_all;done)
    rw [hz]
    exact R.x1 (z1,z2,v5) oL []
   refine Do.p [2,3,5] [] (s.bs (l:=([(⟨i,x3⟩:Turn)]:List Turn)) tq nI O O O O O O O) fun b6=>?_
   refine D.k 4 O [2,3,5] [] (q.ld 1 O O jj O) ?_
   refine D.p 15 O [2,3,5] [] (s.app 4 _ O O O (cI 0 O) pU aG aG (fun _=>rfl) O) fun v6=>?_
   refine D.l [16,17] [2,3,5] [] O<|U ?_
   refine D.p 18 O [2,3,5] [] (s.lq 1 _ O O O (fun w hw=>Sl.cL (hw.row 4 O)) (.inr ⟨jj,rfl⟩) (fun w hw=>bD (Sl.one (hw.row 4 O)) cd) O O O) fun _=>?_
   refine D.done<|U ?_
   have hz:aU dk i sx=((⟨((bN dk).1).Kept,(bN dk).1.Now.set i.toNat (full sx),(bN dk).1.Wait++([(⟨i,x3⟩:Turn)]),(bN dk).1.Fuse,(bN dk).1.Down⟩:cq),(bN dk).2):=by (rw [ju ae ae ae af];simp_all;done)
   rw [hz]
   exact R.x1 (z1,z2,v6) oL []
  rw [show aU dk i sx=_ from Aq ae ae ae af]
  exact R.x1 (z1,z2,z3) bV []
 rw [show aU dk i sx=_ from og ae]
 exact R.x1 (au,av,ao) bV []
theorem l7 (aF:Nat)(au av ao:Value)(dk:cq)(w:World)(own:List Nat)(H:HN w own [ag.box aF [au,av,ao,iV dk.Fuse,.bool dk.Down] 120,ag.row 9 au dk.Kept,ag.row 9 av dk.Now,ag.row 196 ao dk.Wait] [])(hd:dk.Kept.length=dk.Now.length/\dk.Now.length<=100000/\dk.Wait.length<=100000 /\ -1<=dk.Fuse/\dk.Fuse<=9223372036854775807):RS Tryz.prog 72 #[pV aF] H (aQ dk) (fun s (_:Value×Value×Value)=>bQ s.2) (fun s z=>[ag.box aF [z.1,z.2.1,z.2.2,iV s.1.Fuse,.bool s.1.Down] 120,ag.row 9 z.1 s.1.Kept,ag.row 9 z.2.1 s.1.Now,ag.row 196 z.2.2 s.1.Wait]) (fun _ _=>[]):=by
 have dD:=H.cap 1 rfl;have dE:=H.ck 1 rfl
 have ew:=H.cap 2 rfl;have ey:=H.ck 2 rfl
 have dF:=H.cap 3 rfl;have dG:=H.ck 3 rfl
 have hsl:=o0 dk;have hs1:=congrArg List.length hsl.1;have hs2:=congrArg List.length hsl.2.1;have hs3:=congrArg List.length hsl.2.2
 refine R.eN H ?_
 refine R.s O (s.aH bV [] _ _ _ O O O OV O O (fun w own hw H=>Dk aF au av ao dk w own H ae) O) ?_
 rintro ⟨z1,z2,z3⟩
 dsimp only
 refine U ?_
 refine C ((bN dk).2=0) ?_ ?_ <;> intro h1
 .
  refine R.cO (fuel:=9) [2,3,4] O O mixed O<|D.l [0,1,2,4,5,6] [2,3,4] [] O<|U ?_
  refine D.two (i:=3) (j:=7) O O ?_ ?_
  .
   refine Do.k [2,3,4] [] (q.ld 0 O O gK O) ?_
   refine D.k 7 O [2,3,4] [] (q.ld 0 O O gK O) ?_
   refine D.p 8 O [2,3,4] [] (s.copy 1 _ O (cI 2 O) O O O dN ae O O) fun _=>?_
   refine D.done<|U ?_
   refine R.row0 (α:=Turn) 196 ?_
   have hz:aQ dk=((⟨((bN dk).1).Now,(bN dk).1.Now,[],(bN dk).1.Fuse,(bN dk).1.Down⟩:cq),(bN dk).2):=by (unfold aQ;(rw [if_pos af];simp_all))
   rw [hz]
   exact R.x1 (z1,z2,nS) [1,2,3,0,5] []
  refine Do.k [2,3,4] [] (q.ld 0 O O gK O) ?_
  refine D.k 3 O [2,3,4] [] (q.ld 0 O O gK O) ?_
  refine D.p 8 O [2,3,4] [] (s.copy 1 _ O (cI 2 O) O O O dN ae O O) fun _=>?_
  refine D.done<|U ?_
  refine R.row0 (α:=Turn) 196 ?_
  have hz:aQ dk=((⟨((bN dk).1).Now,(bN dk).1.Now,[],(bN dk).1.Fuse,(bN dk).1.Down⟩:cq),(bN dk).2):=by (unfold aQ;(rw [if_pos af];simp_all))
  rw [hz]
  exact R.x1 (z1,z2,nS) [1,2,3,0,5] []
 rw [show aQ dk=_ from by (unfold aQ;(rewrite [if_neg af])) <;> rfl]
 exact R.x1 (z1,z2,z3) bV []
theorem EX (aF:Nat)(au av ao:Value)(dk:cq)(kp:Int)(w:World)(own:List Nat)(H:HN w own [ag.box aF [au,av,ao,iV dk.Fuse,.bool dk.Down] 120,ag.row 9 au dk.Kept,ag.row 9 av dk.Now,ag.row 196 ao dk.Wait] [])(hd:dk.Kept.length=dk.Now.length/\dk.Wait.length<=100000/\(∀t∈dk.Wait,0<=t.At/\t.At<(dk.Kept.length:Int)))(hk:0<=kp/\kp<=18446744073709551615):RS Tryz.prog 182 #[pV aF,.int .u64 kp] H (eo dk kp) (fun _ (_:Value×Value×Value) => .tuple #[]) (fun s z=>[ag.box aF [z.1,z.2.1,z.2.2,iV s.Fuse,.bool s.Down] 120,ag.row 9 z.1 s.Kept,ag.row 9 z.2.1 s.Now,ag.row 196 z.2.2 s.Wait]) (fun _ _=>[]):=by
 have dD:=H.cap 1 rfl;have dE:=H.ck 1 rfl
 have ew:=H.cap 2 rfl;have ey:=H.ck 2 rfl
 have dF:=H.cap 3 rfl;have dG:=H.ck 3 rfl
 refine R.eN H ?_
 refine R.loop (fun g_:Nat×Value×(List ByteArray)=>[(0,pV aF),(1,.int .u64 kp),(9,ao),(10,iV (dk.Wait.length:Int)),(11,iV (g_.1:Int))]) (fun g_=>[ag.box aF [g_.2.1,av,ao,iV dk.Fuse,.bool dk.Down] 120,ag.row 9 g_.2.1 g_.2.2,ag.row 9 av dk.Now,ag.row 196 ao dk.Wait,ag.held w own]) (fun g_=>[]) (fun g_=>g_.1<=dk.Wait.length/\g_.2.2=mF kp (dk.Wait.take g_.1) dk.Kept) (fun g_=>dk.Wait.length-g_.1) (0,au,dk.Kept) O (by exact ⟨ae,rfl⟩) (sF O) (dX bV [] O) ?_
 rintro ⟨j,qk,ks⟩ ⟨hj,HK⟩
 dsimp only at *
 have hkl:ks.length=dk.Kept.length:=by rw [HK];exact Ar
 refine U ?_
 refine C (j<dk.Wait.length) ?_ ?_ <;> intro h1
 .
  obtain ⟨x1,hx1⟩:=gE dk.Wait j
  have wx1:=hd.2.2 x1 (List.mem_of_getElem? hx1)
  refine U ?_
  refine R.nb fun b1=>?_
  refine R.q (q.rem (r:=(((j % 64):Nat):Int)) O O ae (aaG O)) O<|R.q (q.shr (r:=kp / ((2 ^ (j % 64):Nat):Int)) O O ae (aaF O ae)) O<|R.q (q.and (r:=(kp / ((2 ^ (j % 64):Nat):Int)) % 2) O O (u64_and1 ⟨rfl,Int.ediv_nonneg hk.1 (Int.natCast_nonneg _),Int.le_trans (Int.ediv_le_self _ hk.1) hk.2⟩)) O<|C (((kp / ((2 ^ (j % 64):Nat):Int)) % 2)=1) ?_ ?_ <;> intro h2
  .
   obtain ⟨x2,hx2⟩:=gE ks x1.At.toNat
   refine R.cO (fuel:=10) [0,3,4,5] O O mixed O<|D.l [0,1,2,4,5,6,7] [0,3,4,5] [] O<|U ?_
   refine D.k 3 O [0,3,4,5] [] (q.ld 1 O O gK O) ?_
   refine D.k 8 O [0,3,4,5] [] (q.idx (i:=x1.At.toNat) (cI 2 O) O O dN ae hx2) ?_
   refine D.p 9 O [0,3,4,5] [] (s.UZ (z:=x1.Data) 2 _ O hx2 O O O O (.inr ⟨jN,rfl⟩) O) fun _=>?_
   refine D.done<|U ?_
   refine R.back (j+1,qk,(ks.set x1.At.toNat x1.Data)) O (by exact ⟨ae,by rw [C6 hx1,<- HK];show _=(if C5 kp j=true then ks.set x1.At.toNat x1.Data else ks);(rw [if_pos (show C5 kp j=true from decide_eq_true af)];done)⟩) aJ (sF O) (cw oL [] O)
  refine R.back (j+1,qk,ks) O (by exact ⟨ae,by rw [C6 hx1,<- HK];show _=(if C5 kp j=true then ks.set x1.At.toNat x1.Data else ks);(rw [if_neg (show ¬ C5 kp j=true from fun hh=>absurd (of_decide_eq_true (show decide (kp / ((2 ^ (j % 64):Nat):Int) % 2=1)=true from hh)) af)];done)⟩) aJ (sF O) (cw oL [] O)
 refine R.cO (fuel:=9) [1,3,4] O O mixed O<|D.l [0,1,2,4,5,6] [1,3,4] [] O<|U ?_
 refine D.two (i:=3) (j:=7) O O ?_ ?_
 .
  refine Do.k [1,3,4] [] (q.ld 0 O O gK O) ?_
  refine D.k 7 O [1,3,4] [] (q.ld 0 O O gK O) ?_
  refine D.p 8 O [1,3,4] [] (s.copy 2 _ O (cI 1 O) O O O dN ae O O) fun _=>?_
  refine D.done<|U ?_
  refine R.row0 (α:=Turn) 196 ?_
  rw [show eo dk kp=_ from by (rewrite [List.take_of_length_le ae] at HK;unfold eo;rewrite [<- HK]) <;> rfl]
  exact R.x0 (qk,av,nS) [1,2,3,0,5] []
 refine Do.k [1,3,4] [] (q.ld 0 O O gK O) ?_
 refine D.k 3 O [1,3,4] [] (q.ld 0 O O gK O) ?_
 refine D.p 8 O [1,3,4] [] (s.copy 2 _ O (cI 1 O) O O O dN ae O O) fun _=>?_
 refine D.done<|U ?_
 refine R.row0 (α:=Turn) 196 ?_
 rw [show eo dk kp=_ from by (rewrite [List.take_of_length_le ae] at HK;unfold eo;rewrite [<- HK]) <;> rfl]
 exact R.x0 (qk,av,nS) [1,2,3,0,5] []
end
section
open Go Go.RowKit
attribute [local irreducible] Run Rg Rq Qt Qa Stp Dg Do Dm bQ
theorem pA (bR:Value)(l:List Held)(w:World)(own:List Nat)(H:HN w own [] [ag.ls bR l])(hl:l.length<=1000000):RC Tryz.prog 107 #[bR] H (fun z:Value=>z) (fun z=>[ag.row 124 z l]) (fun _=>[]):=by
 have BV:=H.aL 0 rfl
 refine R.eN H ?_
 rcases Bool.eq_false_or_eq_true (rW bR) with h1|h1
 .
  refine R.q (q.Lq (congrArg Value.bool h1) (q.rj (vu 0 O) O O Tryz.underlying45)) O<|U ?_
  refine R.row0 (α:=Held) 124 ?_
  rw [show l=_ from Sl.rW (H.cy 0 rfl) af]
  exact R.x1 nS [0,1] []
 refine R.q (q.Lq (congrArg Value.bool h1) (q.rj (vu 0 O) O O Tryz.underlying45)) O<|U ?_
 refine R.s O (s.bs (l:=([]:List Held)) cK cR O O O O O O O) fun b1=>U ?_
 refine R.ap fun v1=>?_
 have hz:l=(([])++l):=by (rfl)
 rw [hz]
 exact R.x1 v1 [0,1] []
theorem AV (bR:Value)(l:List Held)(i:Nat)(j:Nat)(w:World)(own:List Nat)(H:HN w own [ag.row 124 bR l] [])(hij:i<=j/\j<=l.length):RC Tryz.prog 209 #[bR,iV (i:Int),iV (j:Int)] H (fun z:Value=>z) (fun z=>[ag.row 124 z (l.take i++l.drop j)]) (fun _=>[]):=by
 have Wp:=H.cap 0 rfl;have BV:=H.ck 0 rfl
 refine R.eN H ?_
 refine R.q (q.Iu (i:=i) (j:=j) (q':=l.length) (cI 0 O) O O O O cK O O O ae ae ae) O<|U ?_
 refine C (i=j) ?_ ?_ <;> intro h1
 .
  rw [show l.take i++l.drop j=_ from zu ae]
  exact R.x1 bR [0,1] []
 refine R.cO (fuel:=8) [1] O O mixed O<|D.l [0,1,3,4] [1] [] O<|U ?_
 refine D.two (i:=2) (j:=5) O O ?_ ?_
 .
  refine Do.k [1] [] (q.jT (i:=i) (cI 0 O) O O Tryz.underlying45 yW O ae) ?_
  refine D.k 5 O [1] [] (q.cz (i:=j) (cI 0 O) O O cK O ae) ?_
  refine D.p 6 O [1] [] (s.wK (a:=i) 0 _ O O O (fun w hw=>Sl.from (hw.row 0 O) ae) o9 ae aG O O) fun _=>?_
  refine D.l [7] [1] [] O<|U ?_
  refine D.done<|U ?_
  refine R.q (q.sl2 (i:=(l.take i++(l.drop j)).length) (j:=l.length) (cI 0 O) O O O cK O O aG (by simp [jf];omega)) O<|R.s O (s.Cx (lo:=(l.take i++(l.drop j)).length) (hi:=l.length) (z0:=(⟨(⟨0,0⟩:Place),0⟩:Held)) 0 O O cK cR O ae aG (by simp [jf];omega)) fun _=>U ?_
  have hz:l.take i++l.drop j=(l.take i++(l.drop j)):=by (rfl)
  rw [hz]
  exact R.x1 (jT bR (i+(l.drop j).length)) [0,1] []
 refine Do.k [1] [] (q.cz (i:=j) (cI 0 O) O O cK O ae) ?_
 refine D.k 2 O [1] [] (q.jT (i:=i) (cI 0 O) O O Tryz.underlying45 yW O ae) ?_
 refine D.p 6 O [1] [] (s.wK (a:=i) 0 _ O O O (fun w hw=>Sl.from (hw.row 0 O) ae) o9 ae aG O O) fun _=>?_
 refine D.l [7] [1] [] O<|U ?_
 refine D.done<|U ?_
 refine R.q (q.sl2 (i:=(l.take i++(l.drop j)).length) (j:=l.length) (cI 0 O) O O O cK O O aG (by simp [jf];omega)) O<|R.s O (s.Cx (lo:=(l.take i++(l.drop j)).length) (hi:=l.length) (z0:=(⟨(⟨0,0⟩:Place),0⟩:Held)) 0 O O cK cR O ae aG (by simp [jf];omega)) fun _=>U ?_
 have hz:l.take i++l.drop j=(l.take i++(l.drop j)):=by (rfl)
 rw [hz]
 exact R.x1 (jT bR (i+(l.drop j).length)) [0,1] []
theorem AW (bR:Value)(l:List Held)(i:Nat)(Zg:Value)(u:List Held)(w:World)(own:List Nat)(H:HN w own [ag.row 124 bR l,ag.row 124 Zg u] [])(hi:i<=l.length)(hu:u.length=1)(hl:l.length<=1000000):RC Tryz.prog 210 #[bR,iV (i:Int),Zg] H (fun z:Value=>z) (fun z=>[ag.row 124 z (l.take i++u++l.drop i)]) (fun _=>[]):=by
 have Wp:=H.cap 0 rfl;have BV:=H.ck 0 rfl
 have c_u:=H.cap 1 rfl;have m_u:=H.ck 1 rfl
 refine R.eN H ?_
 refine R.q (q.cz (i:=i) (cI 0 O) O O cK O ae) O<|U ?_
 refine C (i=l.length) ?_ ?_ <;> intro h1
 .
  refine R.ap fun v1=>?_
  rw [show l.take i++u++l.drop i=_ from J4 ae]
  exact R.x1 v1 [0,2] []
 refine R.q (q.cap (cI 0 O) O Tryz.underlying45) O<|C ((lH bR)<(l.length+u.length)) ?_ ?_ <;> intro h2
 .
  refine R.q (q.jT (i:=i) (cI 0 O) O O Tryz.underlying45 yW O ae) O<|U ?_
  refine R.q (q.lG (r:=(((l.length+u.length)-i:Nat):Int)) O O) O<|R.s O (s.J1 (o:=i) (m:=((l.length+u.length)-i)) (z0:=(⟨(⟨0,0⟩:Place),0⟩:Held)) 0 O O O O o9 Tryz.underlying3 cR O ae ae ae ae ae O) fun v2=>U ?_
  refine R.q (q.cz (i:=i) (cI 0 O) O O cK O aG) O<|U ?_
  refine R.s O (s.xJ (o:=i) 0 _ O (cI 2 O) O O cK aG O O) fun _=>U ?_
  refine R.cO (fuel:=9) [1,2,3] O O mixed O<|D.l [0,1,2,3,5,6,7] [1,2,3] [] O<|U ?_
  refine Dm.yy O O (q.cz (i:=i) (cI 0 O) O O cK O ae) O<|U ?_
  refine D.k 4 O [1,2,3] [] (q.cz (i:=(i+u.length)) (cI 0 O) O O cK O aG) ?_
  refine D.p 8 O [1,2,3] [] (s.xJ (o:=(i+u.length)) 0 _ O (fun w hw=>Sl.from (hw.row 1 O) ae) O O cK aG O O) fun _=>?_
  refine D.done<|U ?_
  rw [show l.take i++u++l.drop i=_ from FR hu ae rfl]
  exact R.x1 v2 [0,3] []
 refine R.q (q.Ye (i:=(l.length+u.length)) (cI 0 O) O O cK O ae) O<|U ?_
 refine R.q (q.py (i:=(i+u.length)) (cI 0 O) O O cK O ae ae) O<|R.q (q.ovl (i:=1) (j:=0) (tR:=4) Tryz.func253 O O ay ay cK O O aC ae ae O O O O) O<|U ?_
 refine R.cO (fuel:=9) [1,2] O O mixed O<|D.l [0,1,2,3,5,6] [1,2] [] O<|U ?_
 refine D.two (i:=4) (j:=7) O O ?_ ?_
 .
  refine Do.k [1,2] [] (q.py (i:=(i+u.length)) (cI 0 O) O O cK O ae ae) ?_
  refine D.k 7 O [1,2] [] (q.py (i:=i) (cI 0 O) O O cK O ae ae) ?_
  refine D.p 8 O [1,2] [] (s.D7 (o:=i) 0 _ O ae ae ae ae O O cK O O) fun _=>?_
  refine D.done<|U ?_
  refine R.q (q.cz (i:=i) (cI 0 O) O O cK O aG) O<|U ?_
  refine R.s O (s.xJ (o:=i) 0 _ O (cI 1 O) O O cK aG O O) fun _=>U ?_
  rw [show l.take i++u++l.drop i=_ from Ei hu ae]
  exact R.x1 (jT bR (l.length+u.length)) [0,2] []
 refine Do.k [1,2] [] (q.py (i:=i) (cI 0 O) O O cK O ae ae) ?_
 refine D.k 4 O [1,2] [] (q.py (i:=(i+u.length)) (cI 0 O) O O cK O ae ae) ?_
 refine D.p 8 O [1,2] [] (s.D7 (o:=i) 0 _ O ae ae ae ae O O cK O O) fun _=>?_
 refine D.done<|U ?_
 refine R.q (q.cz (i:=i) (cI 0 O) O O cK O aG) O<|U ?_
 refine R.s O (s.xJ (o:=i) 0 _ O (cI 1 O) O O cK aG O O) fun _=>U ?_
 rw [show l.take i++u++l.drop i=_ from Ei hu ae]
 exact R.x1 (jT bR (l.length+u.length)) [0,2] []
theorem Dl (x:Int)(w:World):Calls Tryz.prog 306 #[iV x] w fun e w'=>e = .returned (.bool false)/\Ext w w':=by
 refine R.eV ?_
 refine R.rt ?_
 rfl
theorem xY (x:Int)(y:Int)(w:World):Calls Tryz.prog 288 #[iV x,iV y] w fun e w'=>e = .returned (iV (tN x y))/\Ext w w':=by
 refine R.eV ?_
 refine R.kc O O (fun w hw=>Dl x w)<|U ?_
 refine R.kc O O (fun w hw=>Dl y w)<|U ?_
 refine C (x<y) ?_ ?_ <;> intro h1
 .
  refine R.rt ?_
  (unfold tN;rw [if_pos ae])
 refine C (y<x) ?_ ?_ <;> intro h2
 .
  refine R.rt ?_
  (unfold tN;rw [if_neg ae,if_pos ae])
 refine R.rt ?_
 (unfold tN;rw [if_neg ae,if_neg ae])
theorem L9 (bR:Value)(l:List Int)(w:World)(ia:Sl w bR l):Calls Tryz.prog 287 #[bR] w fun e w'=>e = .returned (iV (NC l))/\Ext w w':=by
 have yA:=ia.fS
 refine R.eV ?_
 refine R.loop (fun k:Nat=>[(3,iV 0),(6,bR),(7,iV (l.length:Int)),(8,iV (k:Int))]) (fun k:Nat=>[]) (fun k:Nat=>[]) (fun k:Nat=>NC l=NC (l.drop k)) (fun k:Nat=>l.length-k) 0 O eH (sF O) (dX [] [] O) ?_
 rintro k HA
 refine U ?_
 refine C (k<l.length) ?_ ?_ <;> intro h1
 .
  obtain ⟨x1,hx1⟩:=gE l k
  refine U ?_
  refine C (x1=0) ?_ ?_ <;> intro h2
  .refine R.back (k+1) O (by rw [HA];exact ND hx1 ae) ae (sF O) (dX [] [] O)
  refine R.rt ?_
  (rw [HA];exact (Ru hx1 ae).symm)
 refine R.rt ?_
 (rw [HA,List.drop_of_length_le ae];rfl)
theorem EY (a:Place)(b:Place)(w:World):Calls Tryz.prog 252 #[.agg #[iV a.aD,iV a.Slot],.agg #[iV b.aD,iV b.Slot]] w fun e w'=>e = .returned (iV (tO a b))/\Ext w w':=by
 refine R.eV ?_
 refine R.nb fun b1=>?_
 refine R.nb fun b2=>?_
 refine R.cO (fuel:=13) [0,1] O O mixed O<|D.l [0,1,2,3,5,6,7,8] [0,1] [] O<|U ?_
 refine D.p 4 O [0,1] [] (s.c (q.call O9 O O (fun w hw=>xY a.aD b.aD w)) O) fun _=>?_
 refine D.p 9 O [0,1] [] (s.c (q.call O9 O O (fun w hw=>xY a.Slot b.Slot w)) O) fun _=>?_
 refine D.p 10 O [1,2] [] (s.bs (l:=([tN a.aD b.aD,tN a.Slot b.Slot]:List Int)) kx jW O O O O O O O) fun b3=>?_
 refine D.p 11 O [1,2] [] (s.c (q.call Wo O O (fun w hw=>L9 _ ([tN a.aD b.aD,tN a.Slot b.Slot]) w (hw.row 0 O))) O) fun _=>?_
 refine D.l [12] [1,2] [] O<|U ?_
 refine D.done<|R.rt ?_
 (exact Rv a b)
theorem EZ (h:Held)(pl:Place)(w:World):Calls Tryz.prog 251 #[.agg #[iV h.Place.aD,iV h.Place.Slot,iV h.ak],.agg #[iV pl.aD,iV pl.Slot]] w fun e w'=>e = .returned (iV (tO h.Place pl))/\Ext w w':=by
 refine R.eV ?_
 refine R.nb fun b1=>?_
 refine R.nb fun b2=>?_
 refine R.kc O O (fun w hw=>EY h.Place pl w)<|U ?_
 refine R.rt ?_
 rfl
theorem yB (bR:Value)(l:List Held)(t:Place)(c:Held->Place->Int)(Sg:Nat)(Wq:List Value)(Je:dv Sg)(w:World)(ia:Sl w bR l)(Wr:∀W (x1:Held) (x2:Place),Ext w W->Calls Tryz.prog Sg ([x1.val,x2.val]++Wq).toArray W fun e w'=>e = .returned (iV (c x1 x2))/\Ext W w')(hl:l.length<=1000000):Calls Tryz.prog 250 #[bR,.agg #[iV t.aD,iV t.Slot],.func (.func Sg) #[] Wq.toArray] w fun e w'=>e = .returned (.tuple #[iV (kS (fun x=>c x t) l:Int),.bool (rk (fun x=>c x t) l)])/\Ext w w':=by
 have yA:=ia.fS
 refine R.eV ?_
 refine R.nb fun b1=>?_
 refine R.loop (fun g_:Nat×Nat=>[(0,bR),(2,.func (.func Sg) #[] Wq.toArray),(4,pV b1),(8,iV (l.length:Int)),(9,iV (g_.1:Int)),(10,iV (g_.2:Int))]) (fun g_=>[ag.box b1 (iD t) 32]) (fun g_=>[]) (fun g_=>g_.1<=g_.2/\g_.2<=l.length/\bsGo (fun x=>c x t) l g_.1 g_.2=kS (fun x=>c x t) l) (fun g_=>g_.2-g_.1) (0,l.length) O (by exact ⟨Nat.zero_le _,Nat.le_refl _,rfl⟩) (sF O) (dX [0] [] O) ?_
 rintro ⟨lo,hi⟩ ⟨Ws,h2_,HA⟩
 dsimp only at *
 refine U ?_
 refine C (lo<hi) ?_ ?_ <;> intro h1
 .
  refine R.q (q.ny (r:=(((lo+hi):Nat):Int)) O (by rw [Tryz.underlying3];rfl) Tryz.underlying183 (zq ae)) O<|R.q (q.shr (r:=((((lo+hi) / 2):Nat):Int)) O O aC (Rm aC)) O<|R.q (q.ny (r:=((((lo+hi) / 2):Nat):Int)) O (by rw [Tryz.underlying183];rfl) Tryz.underlying3 (wr ae)) O<|U ?_
  obtain ⟨x1,hx1⟩:=gE l ((lo+hi) / 2)
  refine C ((c x1 t)<0) ?_ ?_ <;> intro h2
  .
   refine R.c6 O mixed ay<|U ?_
   refine Q.c (q.call Je O O (fun w hw=>Wr w x1 t hw.ext)) O<|U ?_
   refine R.back ((((lo+hi) / 2)+1),hi) O (by exact ⟨ae,ae,(Ej ae hx1 ae).symm.trans HA⟩) aJ (sF O) (dX [0] [] O)
  refine R.c6 O mixed ay<|U ?_
  refine Q.c (q.call Je O O (fun w hw=>Wr w x1 t hw.ext)) O<|U ?_
  refine R.back (lo,((lo+hi) / 2)) O (by exact ⟨ae,ae,(Ek ae hx1 ae).symm.trans HA⟩) aJ (sF O) (dX [0] [] O)
 refine C (lo<l.length) ?_ ?_ <;> intro h3
 .
  obtain ⟨x2,hx2⟩:=gE l lo
  refine C ((c x2 t)=0) ?_ ?_ <;> intro h4
  .
   refine R.c6 O mixed ay<|U ?_
   refine Q.cg O (q.call Je O O (fun w hw=>Wr w x2 t hw.ext)) O<|U ?_
   exact R.Fu O Tryz.results250 O O (rI (by exact congrArg (fun n:Nat=>(n:Int)) ((iG ae).symm.trans HA))) (rB (by (have e:=(iG ae).symm.trans HA;unfold rk;rw [<- e];(rw [hx2];exact (decide_eq_true af).symm))))
  refine R.c6 O mixed ay<|U ?_
  refine Q.cg O (q.call Je O O (fun w hw=>Wr w x2 t hw.ext)) O<|U ?_
  exact R.Fu O Tryz.results250 O O (rI (by exact congrArg (fun n:Nat=>(n:Int)) ((iG ae).symm.trans HA))) (rB (by (have e:=(iG ae).symm.trans HA;unfold rk;rw [<- e];(rw [hx2];exact (decide_eq_false af).symm))))
 refine R.c6 O mixed ay<|U ?_
 exact R.Fu O Tryz.results250 O O (rI (by exact congrArg (fun n:Nat=>(n:Int)) ((iG ae).symm.trans HA))) (rB (by (have e:=(iG ae).symm.trans HA;unfold rk;rw [<- e];(rw [List.getElem?_eq_none ae]))))
theorem mg (bR:Value)(l:List Held)(pl:Place)(w:World)(ia:Sl w bR l)(hl:l.length<=1000000):Calls Tryz.prog 208 #[bR,.agg #[iV pl.aD,iV pl.Slot]] w fun e w'=>e = .returned (.tuple #[iV (jF l pl:Int),.bool (Lz l pl)])/\Ext w w':=by
 have yA:=ia.fS
 refine R.eV ?_
 refine R.nb fun b1=>?_
 refine R.kc O O (fun w hw=>yB _ l pl (fun (h:Held) (pl:Place)=>tO h.Place pl) _ _ Wm w ((fun _=>Wd.old ia) w hw) (fun W h pl hW=>EZ h pl W) ae)<|U ?_
 exact R.Fu O Tryz.results208 O O (rI eH) (rB eH)
theorem lz (p:Place)(w:World):Calls Tryz.prog 141 #[.agg #[iV p.aD,iV p.Slot]] w fun e w'=>e = .returned (bQ (bq p))/\Ext w w':=by
 refine R.eV ?_
 refine R.nb fun b1=>?_
 refine C (p.aD<1) ?_ ?_ <;> intro h1
 .
  refine R.rt ?_
  (exact fE ae)
 refine C (4<p.aD) ?_ ?_ <;> intro h2
 .
  refine R.rt ?_
  (exact fE ae)
 refine C (p.Slot<0) ?_ ?_ <;> intro h3
 .
  refine R.rt ?_
  (exact fE ae)
 refine C (5<p.Slot) ?_ ?_ <;> intro h4
 .
  refine R.rt ?_
  (exact fE ae)
 refine R.rt ?_
 (exact t8 ae)
theorem pb (p:Place)(w:World):Calls Tryz.prog 149 #[.agg #[iV p.aD,iV p.Slot]] w fun e w'=>e = .returned (iV (bq p))/\Ext w w':=by
 refine R.eV ?_
 refine R.nb fun b1=>?_
 refine C (p.aD<1) ?_ ?_ <;> intro h1
 .
  refine R.rt ?_
  (exact (fE ae).symm)
 refine C (4<p.aD) ?_ ?_ <;> intro h2
 .
  refine R.rt ?_
  (exact (fE ae).symm)
 refine C (p.Slot<0) ?_ ?_ <;> intro h3
 .
  refine R.rt ?_
  (exact (fE ae).symm)
 refine C (5<p.Slot) ?_ ?_ <;> intro h4
 .
  refine R.rt ?_
  (exact (fE ae).symm)
 refine R.rt ?_
 (exact (t8 ae).symm)
theorem pd (bR:Value)(l:List Held)(p:Place)(w:World)(ia:Sl w bR l)(hl:l.length<=1000000):Calls Tryz.prog 206 #[bR,.agg #[iV p.aD,iV p.Slot]] w fun e w'=>e = .returned (iV (oI l p))/\Ext w w':=by
 have yA:=ia.fS
 refine R.eV ?_
 refine R.nb fun b1=>?_
 have c1L:=yL l p
 rcases wN l p with fR|⟨Jf,m6,fR,wF,E0⟩
 .
  refine R.kc O O (fun w hw=>cv (congrArg (fun b=>Value.tuple #[iV ((jF l p:Nat):Int),.bool b]) fR) (mg _ l p w ((fun _=>Wd.old ia) w hw) ae))<|U ?_
  refine R.rt ?_
  (exact (NF fR).symm)
 refine R.kc O O (fun w hw=>cv (congrArg (fun b=>Value.tuple #[iV ((jF l p:Nat):Int),.bool b]) fR) (mg _ l p w ((fun _=>Wd.old ia) w hw) ae))<|U ?_
 refine R.rt ?_
 (exact (J5 fR m6).symm)
theorem tu (bR:Value)(l:List Held)(p:Place)(id:Int)(w:World)(own:List Nat)(H:HN w own [] [ag.ls bR l])(hl:l.length<=100000):RC Tryz.prog 160 #[bR,.agg #[iV p.aD,iV p.Slot],iV id] H (fun z:Value=>z) (fun z=>[ag.row 124 z (fW l p id)]) (fun _=>[]):=by
 have BV:=H.aL 0 rfl
 refine R.eN H ?_
 refine R.nb fun b1=>?_
 refine R.s O (s.aH [0,1] [0] _ _ _ O O O I8 O O (fun w own hw H=>pA bR l w own H ae) O) fun z1=>U ?_
 have c1L:=yL l p
 rcases wN l p with fR|⟨Jf,m6,fR,wF,E0⟩
 .
  refine R.kc O O (fun w hw=>cv (congrArg (fun b=>Value.tuple #[iV ((jF l p:Nat):Int),.bool b]) fR) (mg _ l p w (hw.row 0 O) ae))<|U ?_
  refine C (id=0) ?_ ?_ <;> intro h1
  .
   rw [show fW l p id=_ from by (unfold fW;(rewrite [if_neg (by rewrite [fR];simp),if_pos af])) <;> rfl]
   exact R.x1 z1 [0,2] []
  refine R.s O (s.bs (l:=([(⟨p,id⟩:Held)]:List Held)) cK cR O O O O O O O) fun b2=>?_
  refine R.s O (s.aH [1,0,2,3] [] _ _ _ O O O V7 O O (fun w own hw H=>AW z1 l (jF l p) (.slice (some ⟨b2,0,none⟩) 1 1) ([(⟨p,id⟩:Held)]) w own H af rfl ae) O) fun z2=>U ?_
  rw [show fW l p id=_ from by (unfold fW;(rewrite [if_neg (by rewrite [fR];simp),if_neg af])) <;> rfl]
  exact R.x1 z2 [0,2] []
 refine R.kc O O (fun w hw=>cv (congrArg (fun b=>Value.tuple #[iV ((jF l p:Nat):Int),.bool b]) fR) (mg _ l p w (hw.row 0 O) ae))<|U ?_
 refine C (id=0) ?_ ?_ <;> intro h2
 .
  refine R.s O (s.aH [0,1,2] [] _ _ _ O O O V6 O O (fun w own hw H=>AV z1 l (jF l p) ((jF l p)+1) w own H ae) O) fun z3=>U ?_
  rw [show fW l p id=_ from by (unfold fW;(rewrite [if_pos fR,if_pos af])) <;> rfl]
  exact R.x1 z3 [0,2] []
 refine R.s O (s.stP (o:=2) (z:=(⟨Jf.Place,id⟩:Held)) 0 _ O m6 O O O O O (by simp [Value.oneCell']) (.inr ⟨eX,rfl⟩) O) fun _=>U ?_
 have hz:fW l p id=(l.set (jF l p) (⟨Jf.Place,id⟩:Held)):=by (unfold fW;(rw [if_pos fR,if_neg af,wF];done))
 rw [hz]
 exact R.x1 z1 [0,2] []
theorem Pe (bR:Value)(l:List Held)(h:Int)(w:World)(ia:Sl w bR l)(hl:l.length<=1000000):Calls Tryz.prog 169 #[bR,iV h] w fun e w'=>e = .returned (iV (gk l h))/\Ext w w':=by
 have yA:=ia.fS
 refine R.eV ?_
 refine R.loop (fun i:Nat=>[(0,bR),(1,iV h),(6,iV (i:Int))]) (fun i:Nat=>[]) (fun i:Nat=>[]) (fun i:Nat=>i<=6/\lP l h (6-i) i=gk l h) (fun i:Nat=>6-i) 0 O (by exact ⟨ae,rfl⟩) (sF O) (dX [] [] O) ?_
 rintro i ⟨hs,HA⟩
 refine U ?_
 refine C (i<6) ?_ ?_ <;> intro h1
 .
  refine R.kc O O (fun w hw=>pd _ l (⟨h,(i:Int)⟩:Place) w ((fun _=>Wd.old ia) w hw) ae)<|C (oI l (⟨h,(i:Int)⟩:Place)=0) ?_ ?_ <;> intro h2
  .
   refine R.rt ?_
   (rw [<- HA];exact (IB af ae).symm)
  refine R.back (i+1) O (by exact ⟨ae,(FV af ae).symm.trans HA⟩) ae (sF O) (dX [] [] O)
 refine R.rt ?_
 (rw [<- HA];have:i=6:=ae;subst this;rfl)
theorem Dn (bR:Value)(l:List Held)(p:Place)(w:World)(ia:Sl w bR l):Calls Tryz.prog 150 #[bR,.agg #[iV p.aD,iV p.Slot]] w fun e w'=>e = .returned (iV (mA l p))/\Ext w w':=by
 have yA:=ia.fS
 refine R.eV ?_
 refine R.nb fun b1=>?_
 refine R.loop (fun k:Nat=>[(0,bR),(3,pV b1),(5,iV (k:Int))]) (fun k:Nat=>[ag.box b1 (iD p) 32]) (fun k:Nat=>[]) (fun k:Nat=>k<=l.length /\ ∀ (j:Nat) y,j<k->l[j]? = some y->¬ y.Place=p) (fun k:Nat=>l.length-k) 0 O (by exact ⟨ae,fun j x hj=>absurd hj (Nat.not_lt_zero _)⟩) (sF O) (dX [0] [] O) ?_
 rintro k ⟨hk,HA⟩
 refine U ?_
 refine C (k<l.length) ?_ ?_ <;> intro h1
 .
  obtain ⟨x1,hx1⟩:=gE l k
  refine C (x1.Place=p) ?_ ?_ <;> intro h2
  .
   refine R.c6 O mixed ay<|U ?_
   refine Q.q (q.X6 (x:=x1.Place) (y:=p) ka O O h2) O<|U ?_
   refine R.rt ?_
   (exact (LA hx1 af HA).symm)
  refine R.c6 O mixed ay<|U ?_
  refine Q.q (q.X7 (x:=x1.Place) (y:=p) ka O O h2) O<|U ?_
  refine R.back (k+1) O (by exact ⟨ae,fun j x hj hx=>if e:j=k then by subst e;rw [hx1] at hx;injection hx with hx;subst hx;assumption else HA j x ae hx⟩) ae (sF O) (dX [0] [] O)
 refine R.rt ?_
 (exact (IC (fun j y hj=>HA j y ae)).symm)
theorem G2 (bR:Value)(l:List Held)(h:Int)(w:World)(ia:Sl w bR l):Calls Tryz.prog 95 #[bR,iV h] w fun e w'=>e = .returned (iV (El l h))/\Ext w w':=by
 have yA:=ia.fS
 refine R.eV ?_
 refine R.loop (fun i:Nat=>[(0,bR),(1,iV h),(5,iV (i:Int))]) (fun i:Nat=>[]) (fun i:Nat=>[]) (fun i:Nat=>i<=6/\l9 l h (6-i) i=El l h) (fun i:Nat=>6-i) 0 O (by exact ⟨ae,rfl⟩) (sF O) (dX [] [] O) ?_
 rintro i ⟨hs,HA⟩
 refine U ?_
 refine C (i<6) ?_ ?_ <;> intro h1
 .
  refine R.kc O O (fun w hw=>Dn _ l (⟨h,(i:Int)⟩:Place) w ((fun _=>Wd.old ia) w hw))<|C (mA l (⟨h,(i:Int)⟩:Place)=0) ?_ ?_ <;> intro h2
  .
   refine R.rt ?_
   (rw [<- HA];exact (FX af ae).symm)
  refine R.back (i+1) O (by exact ⟨ae,(Em af ae).symm.trans HA⟩) ae (sF O) (dX [] [] O)
 refine R.rt ?_
 (rw [<- HA];have:i=6:=ae;subst this;rfl)
theorem Jg (bR:Value)(l:List Held)(p:Place)(id:Int)(w:World)(own:List Nat)(H:HN w own [] [ag.ls bR l])(hl:l.length<=100000):RC Tryz.prog 88 #[bR,.agg #[iV p.aD,iV p.Slot],iV id] H (fun z:Value=>z) (fun z=>[ag.row 124 z (mS l p id)]) (fun _=>[]):=by
 have BV:=H.aL 0 rfl
 refine R.eN H ?_
 refine R.nb fun b1=>?_
 refine C (id=0) ?_ ?_ <;> intro h1
 .
  refine R.row0 (α:=Held) 124<|R.loop (fun g_:Nat×Bool×Value×(List Held)=>[(0,bR),(2,iV id),(4,pV b1),(7,g_.2.2.1),(8,.bool g_.2.1),(9,iV (g_.1:Int))]) (fun g_=>[ag.row 124 g_.2.2.1 g_.2.2.2,ag.box b1 (iD p) 32,ag.held w own]) (fun g_=>[ag.ls bR l]) (fun g_=>g_.1<=l.length/\(g_.2.2.2,g_.2.1)=oS (l.take g_.1) p id) (fun g_=>l.length-g_.1) (0,true,nS,[]) O (by exact ⟨ae,by simp [oS, *]⟩) (sF O) (dX [0,1,2] [0] O) ?_
  rintro ⟨k,laid,v,acc⟩ ⟨hk,HA⟩
  dsimp only at *
  have hal:acc.length<=2*k:=by have:=CB (l.take k) p id;rw [<- HA] at this;simp at this;omega
  refine U ?_
  refine C (k<l.length) ?_ ?_ <;> intro h2
  .
   obtain ⟨x1,hx1⟩:=gE l k
   refine U ?_
   refine R.nb fun b2=>?_
   refine R.q (q.not O) O<|U ?_
   cases laid
   .
    refine U ?_
    refine C (p.aD<x1.Place.aD) ?_ ?_ <;> intro h3
    .
     refine R.s O (s.bs (l:=([(⟨p,id⟩:Held)]:List Held)) cK cR O O O O O O O) fun b3=>?_
     refine R.ap fun v1=>?_
     refine C (x1.Place=p) ?_ ?_ <;> intro h4
     .
      refine R.q (q.oP (x:=x1.Place) (y:=p) ka O O h4) O<|U ?_
      refine R.back (k+1,true,v1,(acc++([(⟨p,id⟩:Held)]))) O (by exact ⟨ae,by rw [dB l p id k _ hx1,<- HA];(rw [ic ae];(rw [if_pos af];done))⟩) aJ (sF O) (cw [2,3,4] [0] O)
     refine R.q (q.oQ (x:=x1.Place) (y:=p) ka O O h4) O<|U ?_
     refine R.s O (s.bs (l:=([x1]:List Held)) cK cR O O O O O O O) fun b4=>?_
     refine R.ap fun v2=>?_
     refine R.back (k+1,true,v2,((acc++([(⟨p,id⟩:Held)]))++([x1]))) O (by exact ⟨ae,by rw [dB l p id k _ hx1,<- HA];(rw [ic ae];(rw [if_neg af];done))⟩) aJ (sF O) (cw [3,4,5] [0] O)
    refine C (p.aD=x1.Place.aD) ?_ ?_ <;> intro h5
    .
     refine C (x1.Place.Slot<p.Slot) ?_ ?_ <;> intro h6
     .
      refine C (x1.Place=p) ?_ ?_ <;> intro h7
      .
       refine R.q (q.oP (x:=x1.Place) (y:=p) ka O O h7) O<|U ?_
       refine R.back (k+1,false,v,acc) O (by exact ⟨ae,by rw [dB l p id k _ hx1,<- HA];(rw [d9 (by exact .inr ae)];(rw [if_pos af];done))⟩) aJ (sF O) (cw [1,2,3] [0] O)
      refine R.q (q.oQ (x:=x1.Place) (y:=p) ka O O h7) O<|U ?_
      refine R.s O (s.bs (l:=([x1]:List Held)) cK cR O O O O O O O) fun b5=>?_
      refine R.ap fun v3=>?_
      refine R.back (k+1,false,v3,(acc++([x1]))) O (by exact ⟨ae,by rw [dB l p id k _ hx1,<- HA];(rw [d9 (by exact .inr ae)];(rw [if_neg af];done))⟩) aJ (sF O) (cw [2,3,4] [0] O)
     refine R.s O (s.bs (l:=([(⟨p,id⟩:Held)]:List Held)) cK cR O O O O O O O) fun b6=>?_
     refine R.ap fun v4=>?_
     refine C (x1.Place=p) ?_ ?_ <;> intro h8
     .
      refine R.q (q.oP (x:=x1.Place) (y:=p) ka O O h8) O<|U ?_
      refine R.back (k+1,true,v4,(acc++([(⟨p,id⟩:Held)]))) O (by exact ⟨ae,by rw [dB l p id k _ hx1,<- HA];(rw [ic ae];(rw [if_pos af];done))⟩) aJ (sF O) (cw [2,3,4] [0] O)
     refine R.q (q.oQ (x:=x1.Place) (y:=p) ka O O h8) O<|U ?_
     refine R.s O (s.bs (l:=([x1]:List Held)) cK cR O O O O O O O) fun b7=>?_
     refine R.ap fun v5=>?_
     refine R.back (k+1,true,v5,((acc++([(⟨p,id⟩:Held)]))++([x1]))) O (by exact ⟨ae,by rw [dB l p id k _ hx1,<- HA];(rw [ic ae];(rw [if_neg af];done))⟩) aJ (sF O) (cw [3,4,5] [0] O)
    refine C (x1.Place=p) ?_ ?_ <;> intro h9
    .
     refine R.q (q.oP (x:=x1.Place) (y:=p) ka O O h9) O<|U ?_
     refine R.back (k+1,false,v,acc) O (by exact ⟨ae,by rw [dB l p id k _ hx1,<- HA];(rw [d9 (by exact .inr ae)];(rw [if_pos af];done))⟩) aJ (sF O) (cw [1,2,3] [0] O)
    refine R.q (q.oQ (x:=x1.Place) (y:=p) ka O O h9) O<|U ?_
    refine R.s O (s.bs (l:=([x1]:List Held)) cK cR O O O O O O O) fun b8=>?_
    refine R.ap fun v6=>?_
    refine R.back (k+1,false,v6,(acc++([x1]))) O (by exact ⟨ae,by rw [dB l p id k _ hx1,<- HA];(rw [d9 (by exact .inr ae)];(rw [if_neg af];done))⟩) aJ (sF O) (cw [2,3,4] [0] O)
   refine U ?_
   refine C (x1.Place=p) ?_ ?_ <;> intro h10
   .
    refine R.q (q.oP (x:=x1.Place) (y:=p) ka O O h10) O<|U ?_
    refine R.back (k+1,true,v,acc) O (by exact ⟨ae,by rw [dB l p id k _ hx1,<- HA];(rw [d9 (by exact .inl O)];(rw [if_pos af];done))⟩) aJ (sF O) (cw [1,2,3] [0] O)
   refine R.q (q.oQ (x:=x1.Place) (y:=p) ka O O h10) O<|U ?_
   refine R.s O (s.bs (l:=([x1]:List Held)) cK cR O O O O O O O) fun b9=>?_
   refine R.ap fun v7=>?_
   refine R.back (k+1,true,v7,(acc++([x1]))) O (by exact ⟨ae,by rw [dB l p id k _ hx1,<- HA];(rw [d9 (by exact .inl O)];(rw [if_neg af];done))⟩) aJ (sF O) (cw [2,3,4] [0] O)
  refine R.q (q.not O) O<|U ?_
  cases laid
  .
   refine U ?_
   refine R.s O (s.bs (l:=([(⟨p,id⟩:Held)]:List Held)) cK cR O O O O O O O) fun b10=>?_
   refine R.ap fun v8=>?_
   have hz:mS l p id=(acc++([(⟨p,id⟩:Held)])):=by (unfold mS;rw [List.take_of_length_le ae] at HA;rw [<- HA];dsimp only;exact if_neg Bool.false_ne_true)
   rw [hz]
   exact R.x1 v8 [1,3] []
  refine U ?_
  have hz:mS l p id=acc:=by (unfold mS;rw [List.take_of_length_le ae] at HA;rw [<- HA];dsimp only;exact if_pos rfl)
  rw [hz]
  exact R.x1 v [0,2] []
 refine R.row0 (α:=Held) 124<|R.loop (fun g_:Nat×Bool×Value×(List Held)=>[(0,bR),(2,iV id),(4,pV b1),(7,g_.2.2.1),(8,.bool g_.2.1),(9,iV (g_.1:Int))]) (fun g_=>[ag.row 124 g_.2.2.1 g_.2.2.2,ag.box b1 (iD p) 32,ag.held w own]) (fun g_=>[ag.ls bR l]) (fun g_=>g_.1<=l.length/\(g_.2.2.2,g_.2.1)=oS (l.take g_.1) p id) (fun g_=>l.length-g_.1) (0,false,nS,[]) O (by exact ⟨ae,by simp [oS, *]⟩) (sF O) (dX [0,1,2] [0] O) ?_
 rintro ⟨k,laid,v,acc⟩ ⟨hk,HA⟩
 dsimp only at *
 have hal:acc.length<=2*k:=by have:=CB (l.take k) p id;rw [<- HA] at this;simp at this;omega
 refine U ?_
 refine C (k<l.length) ?_ ?_ <;> intro h11
 .
  obtain ⟨x2,hx2⟩:=gE l k
  refine U ?_
  refine R.nb fun b11=>?_
  refine R.q (q.not O) O<|U ?_
  cases laid
  .
   refine U ?_
   refine C (p.aD<x2.Place.aD) ?_ ?_ <;> intro h12
   .
    refine R.s O (s.bs (l:=([(⟨p,id⟩:Held)]:List Held)) cK cR O O O O O O O) fun b12=>?_
    refine R.ap fun v9=>?_
    refine C (x2.Place=p) ?_ ?_ <;> intro Pf
    .
     refine R.q (q.oP (x:=x2.Place) (y:=p) ka O O Pf) O<|U ?_
     refine R.back (k+1,true,v9,(acc++([(⟨p,id⟩:Held)]))) O (by exact ⟨ae,by rw [dB l p id k _ hx2,<- HA];(rw [ic ae];(rw [if_pos af];done))⟩) aJ (sF O) (cw [2,3,4] [0] O)
    refine R.q (q.oQ (x:=x2.Place) (y:=p) ka O O Pf) O<|U ?_
    refine R.s O (s.bs (l:=([x2]:List Held)) cK cR O O O O O O O) fun b13=>?_
    refine R.ap fun v10=>?_
    refine R.back (k+1,true,v10,((acc++([(⟨p,id⟩:Held)]))++([x2]))) O (by exact ⟨ae,by rw [dB l p id k _ hx2,<- HA];(rw [ic ae];(rw [if_neg af];done))⟩) aJ (sF O) (cw [3,4,5] [0] O)
   refine C (p.aD=x2.Place.aD) ?_ ?_ <;> intro Si
   .
    refine C (x2.Place.Slot<p.Slot) ?_ ?_ <;> intro XJ
    .
     refine C (x2.Place=p) ?_ ?_ <;> intro h16
     .
      refine R.q (q.oP (x:=x2.Place) (y:=p) ka O O h16) O<|U ?_
      refine R.back (k+1,false,v,acc) O (by exact ⟨ae,by rw [dB l p id k _ hx2,<- HA];(rw [d9 (by exact .inr ae)];(rw [if_pos af];done))⟩) aJ (sF O) (cw [1,2,3] [0] O)
     refine R.q (q.oQ (x:=x2.Place) (y:=p) ka O O h16) O<|U ?_
     refine R.s O (s.bs (l:=([x2]:List Held)) cK cR O O O O O O O) fun b14=>?_
     refine R.ap fun v11=>?_
     refine R.back (k+1,false,v11,(acc++([x2]))) O (by exact ⟨ae,by rw [dB l p id k _ hx2,<- HA];(rw [d9 (by exact .inr ae)];(rw [if_neg af];done))⟩) aJ (sF O) (cw [2,3,4] [0] O)
    refine R.s O (s.bs (l:=([(⟨p,id⟩:Held)]:List Held)) cK cR O O O O O O O) fun b15=>?_
    refine R.ap fun v12=>?_
    refine C (x2.Place=p) ?_ ?_ <;> intro Zh
    .
     refine R.q (q.oP (x:=x2.Place) (y:=p) ka O O Zh) O<|U ?_
     refine R.back (k+1,true,v12,(acc++([(⟨p,id⟩:Held)]))) O (by exact ⟨ae,by rw [dB l p id k _ hx2,<- HA];(rw [ic ae];(rw [if_pos af];done))⟩) aJ (sF O) (cw [2,3,4] [0] O)
    refine R.q (q.oQ (x:=x2.Place) (y:=p) ka O O Zh) O<|U ?_
    refine R.s O (s.bs (l:=([x2]:List Held)) cK cR O O O O O O O) fun b16=>?_
    refine R.ap fun v13=>?_
    refine R.back (k+1,true,v13,((acc++([(⟨p,id⟩:Held)]))++([x2]))) O (by exact ⟨ae,by rw [dB l p id k _ hx2,<- HA];(rw [ic ae];(rw [if_neg af];done))⟩) aJ (sF O) (cw [3,4,5] [0] O)
   refine C (x2.Place=p) ?_ ?_ <;> intro h18
   .
    refine R.q (q.oP (x:=x2.Place) (y:=p) ka O O h18) O<|U ?_
    refine R.back (k+1,false,v,acc) O (by exact ⟨ae,by rw [dB l p id k _ hx2,<- HA];(rw [d9 (by exact .inr ae)];(rw [if_pos af];done))⟩) aJ (sF O) (cw [1,2,3] [0] O)
   refine R.q (q.oQ (x:=x2.Place) (y:=p) ka O O h18) O<|U ?_
   refine R.s O (s.bs (l:=([x2]:List Held)) cK cR O O O O O O O) fun b17=>?_
   refine R.ap fun v14=>?_
   refine R.back (k+1,false,v14,(acc++([x2]))) O (by exact ⟨ae,by rw [dB l p id k _ hx2,<- HA];(rw [d9 (by exact .inr ae)];(rw [if_neg af];done))⟩) aJ (sF O) (cw [2,3,4] [0] O)
  refine U ?_
  refine C (x2.Place=p) ?_ ?_ <;> intro h19
  .
   refine R.q (q.oP (x:=x2.Place) (y:=p) ka O O h19) O<|U ?_
   refine R.back (k+1,true,v,acc) O (by exact ⟨ae,by rw [dB l p id k _ hx2,<- HA];(rw [d9 (by exact .inl O)];(rw [if_pos af];done))⟩) aJ (sF O) (cw [1,2,3] [0] O)
  refine R.q (q.oQ (x:=x2.Place) (y:=p) ka O O h19) O<|U ?_
  refine R.s O (s.bs (l:=([x2]:List Held)) cK cR O O O O O O O) fun b18=>?_
  refine R.ap fun v15=>?_
  refine R.back (k+1,true,v15,(acc++([x2]))) O (by exact ⟨ae,by rw [dB l p id k _ hx2,<- HA];(rw [d9 (by exact .inl O)];(rw [if_neg af];done))⟩) aJ (sF O) (cw [2,3,4] [0] O)
 refine R.q (q.not O) O<|U ?_
 cases laid
 .
  refine U ?_
  refine R.s O (s.bs (l:=([(⟨p,id⟩:Held)]:List Held)) cK cR O O O O O O O) fun b19=>?_
  refine R.ap fun v16=>?_
  have hz:mS l p id=(acc++([(⟨p,id⟩:Held)])):=by (unfold mS;rw [List.take_of_length_le ae] at HA;rw [<- HA];dsimp only;exact if_neg Bool.false_ne_true)
  rw [hz]
  exact R.x1 v16 [1,3] []
 refine U ?_
 have hz:mS l p id=acc:=by (unfold mS;rw [List.take_of_length_le ae] at HA;rw [<- HA];dsimp only;exact if_pos rfl)
 rw [hz]
 exact R.x1 v [0,2] []
end
end Go.Proofs.YtnmpibjlnninjaaGreatDoor
