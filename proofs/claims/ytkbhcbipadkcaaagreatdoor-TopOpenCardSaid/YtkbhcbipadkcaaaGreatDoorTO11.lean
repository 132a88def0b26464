import Derived.Test.YtkbhcbipadkcaaaGreatDoorTO10
namespace Go.Proofs.YtkbhcbipadkcaaaGreatDoor
set_option linter.unusedVariables false
set_option linter.unusedSimpArgs false
open Go Go.RowKit
set_option maxRecDepth 100000
set_option maxHeartbeats 1000000
theorem u7 (bJ:Value)(l:List ByteArray)(w:World)(own:List Nat)(H:HN w own [] [af.ls bJ l])(hl:l.length<=1000000):RC Tryz.prog 68 #[bJ] H (fun z:Value=>z) (fun z=>[af.row 9 z l]) (fun _=>[]):=by
 have yD:=H.cx 0 rfl
 refine R.bF [(0,bJ)] Tryz.func68 O O O O H<|R.reg O<|R.u 1 O<|R.nil<|R.reg O<|R.u 1 O<|?_
 rcases Bool.eq_false_or_eq_true (pq bJ) with h1|h1
 .
  refine R.q (q.G6 (congrArg Value.bool h1) (q.pb (dr 0 O) O O Tryz.underlying109)) O<|R.nil<|R.ay O O<|R.reg O<|R.u 1 O<|R.nil<|R.row0 (α:=ByteArray) 9 ?_
  have hz:l=[]:=by (exact Sl.pq (H.bT 0 rfl) ‹_›)
  rw [hz]
  exact R.w1 (nS) [0,1] [] O Tryz.results68 (RV.tmp O) O O O O
 refine R.q (q.G6 (congrArg Value.bool h1) (q.pb (dr 0 O) O O Tryz.underlying109)) O<|R.nil<|R.aB O O<|R.reg O<|R.s O (s.bs (l:=([]:List ByteArray)) gA FX O O O O O O O) fun b1=>R.u 1 O<|R.s O (s.app 0 _ O O O (dr 0 O) Jb (by simp;omega) (by simp;omega) (fun _=>rfl) O) fun v1=>R.u 1 O<|R.nil ?_
 have hz:l=(([])++l):=by (rfl)
 rw [hz]
 exact R.w1 v1 [0,1] [] O Tryz.results68 (RV.tmp O) O O O O
theorem wP (sx:ByteArray)(w:World)(hs:sx.size<=48):Calls Tryz.prog 67 #[.string sx] w fun e w'=>e = .returned (.string (full sx))/\Ext w w':=by
 exact R.enter [] [(0,.string sx)] Tryz.func67 rfl rfl rfl rfl<|R.reg rfl<|R.u 1 rfl<|R.nil<|R.reg rfl<|R.u 2 rfl<|R.q (q.iy rfl Tryz.underlying9) rfl<|R.q (q.lV (r:=((48-sx.size:Nat):Int)) rfl rfl) rfl<|R.s rfl (s.TU (m:=(48-sx.size)) aS rfl rfl rfl rfl rfl (by omega) rfl) fun b1=>R.q (q.kf (fun _=>Wd.row 0 rfl) rfl aS Tryz.underlying5 Tryz.underlying9) rfl<|R.q (q.cat rfl rfl (by rw [aH (List.replicate _ _),List.length_replicate];omega)) rfl<|R.u 1 rfl<|R.nil<|R.rv rfl Tryz.results67 rfl (rS (by rfl))
theorem CB (n:Nat)(w:World)(hn:n<=1000000):Calls Tryz.prog 132 #[.int .u64 ((1:Nat):Int),.int .u64 (n:Int)] w fun e w'=>e = .returned (.tuple #[.int .u64 0,.int .u64 (n:Int)])/\Ext w w' :=
 (Tryz.bits_Mul 1 n (by decide) (by omega) w).mono fun e w' ⟨h1,h2⟩=>⟨by
  rw [h1,Nat.one_mul,Nat.div_eq_of_lt (by omega),Nat.mod_eq_of_lt (by omega)];rfl,by rw [h2];exact Ext.refl _⟩
theorem CC (a n:Nat)(w:World)(hn:a=1/\n<=1000000):Calls Tryz.prog 132 #[.int .u64 (a:Int),.int .u64 (n:Int)] w fun e w'=>e = .returned (.tuple #[.int .u64 0,.int .u64 (n:Int)])/\Ext w w':=by
 obtain ⟨rfl,hn⟩:=hn;exact CB n w hn
theorem CF {α:Type}{l x:List α}{a:α}{n k:Nat}(hx:x=List.replicate k a++l)(m:Nat)(hm:m<=k)(hl:k+m<=x.length):x.take k++(x.take k).take m++x.drop (k+m)=List.replicate (k+m) a++l.drop m:=by
 subst hx
 have h1:(List.replicate k a).length=k:=List.length_replicate
 rw [List.take_left' h1,List.take_replicate,Nat.min_eq_left hm,List.drop_append,h1,List.drop_of_length_le (by rw [h1];omega),List.nil_append,show k+m-k=m by omega,<- List.replicate_append_replicate]
theorem CG (bJ:Value)(l:List ByteArray)(n:Nat)(w:World)(own:List Nat)(H:HN w own [] [af.ls bJ l])(hl:l.length=1)(hn:1<=n/\n<=1000):RC Tryz.prog 66 #[bJ,iV (n:Int)] H (fun z:Value=>z) (fun z=>[af.row 9 z ((List.replicate n (l.headD ⟨#[]⟩)):List ByteArray)]) (fun _=>[]):=by
 have yD:=H.cx 0 rfl
 refine R.bF [(0,bJ),(1,iV (n:Int))] Tryz.func66 O O O O H<|R.reg O<|R.u 1 O<|R.nil<|R.reg O<|R.u 1 O<|R.q (q.cW O O) O<|R.nil<|R.aB O O<|R.reg O<|R.u 1 O<|R.q (q.len' (dr 0 O) O Tryz.underlying109) O<|R.q (q.nn (r:=((l.length:Nat):Int)) O (by rw [Tryz.underlying3];rfl) Tryz.underlying188 (Ax (by omega))) O<|R.u 1 O<|R.q (q.nn (r:=((n:Nat):Int)) O (by rw [Tryz.underlying3];rfl) Tryz.underlying188 (Ax (by omega))) O<|R.c (q.call Pb O O (fun w hw=>(CC l.length n w (by omega)))) O<|R.u 5 O<|R.nil<|R.reg O<|R.u 1 O<|R.q (q.gtr (b:=false) O O (by decide)) O<|R.u 2 O<|R.qg O (q.eu O O) O<|R.u 1 O<|R.nil<|R.aB O O<|R.reg O<|R.u 1 O<|R.q (q.nn (r:=((n:Nat):Int)) O (by rw [Tryz.underlying188];rfl) Tryz.underlying3 (wr (by omega))) O<|R.s O (s.Se (m:=n) (z0:=(⟨#[]⟩:ByteArray)) gA O O O (by decide) O O (by simp [Enc.k];omega) O) fun b1=>R.u 1 O<|R.nil<|R.reg O<|R.u 2 O<|R.s O (s.EE (o:=0) (m:=1) 0 _ O (dr 0 O) O (.inr ⟨rfl,rfl⟩) O gA (by omega) (by omega) (by (simp;omega)) (by omega) O O) fun _=>R.u 1 O<|R.nil<|R.loop (fun g_:Nat×Value×(List ByteArray)=>[(7,g_.2.1),(8,iV (g_.1:Int))]) (fun g_=>[af.row 9 g_.2.1 g_.2.2,af.held w own]) (fun g_=>[af.ls bJ l]) (fun g_=>1<=g_.1/\g_.1<=n/\g_.2.2=List.replicate g_.1 (l.headD ⟨#[]⟩)++List.replicate (n-g_.1) (⟨#[]⟩:ByteArray)) (fun g_=>n-g_.1) (1,(.slice (some ⟨b1,0,none⟩) n n),((List.replicate n (⟨#[]⟩:ByteArray)).take 0++l.take 1++(List.replicate n (⟨#[]⟩:ByteArray)).drop (0+1))) O (by refine ⟨by omega,by omega,?_⟩;match l,hl with | [a],_=>simp) (sF O) (fun _=>Wd.pick [0,1] [0] O O O) ?_
 rintro ⟨k,u,rs⟩ ⟨hk0,hk,HR⟩
 dsimp only at *
 have hrl:rs.length=n:=by rw [HR];simp;omega
 refine R.reg O<|R.u 2 O<|R.q (q.len' (ck 0 O) O Tryz.underlying109) O<|?_
 by_cases h1:k<rs.length
 .
  refine R.q (q.dy O O) O<|R.nil<|R.ay O O<|R.fu (fuel:=10) (Wd w (blks []++own) [af.held w own] [af.ls bJ l]) O mixed O<|D.q (i:=0) O (aC [1] [0] O O O) O (q.mv O) O<|D.q (i:=1) O (aC [1] [0] O O O) O (q.mv O) O<|D.q (i:=2) O (aC [1] [0] O O O) O (q.mv O) O<|D.q (i:=4) O (aC [1] [0] O O O) O (q.mv O) O<|D.q (i:=5) O (aC [1] [0] O O O) O (q.mv O) O<|D.two (i:=3) (j:=6) O O ?_ ?_
  .
   refine Do.s (s.c (Qt.a (q.dB (i:=k) (ck 0 O) O O gA O (by omega))) O) (fun _=>(aC [1] [0] O O O)) O fun _=>D.one (i:=6) O<|Do.s (s.c (Qt.a (q.kD (i:=k) (ck 0 O) O O Tryz.underlying109 Cv O (by omega))) O) (fun _=>(aC [1] [0] O O O)) O fun _=>D.one (i:=7) O<|Do.s (s.EE (o:=k) (m:=(min k (n-k))) 0 _ O (fun w hw=>Sl.to (hw.row 0 O) (by omega)) O (.inl O) O gA (by omega) (by (simp;omega)) (by omega) (by (simp;omega)) O O) (fun _=>(aC [1] [0] O O O)) O fun _=>D.q (i:=8) O (aC [1] [0] O O O) O (q.bA (r:=((k+(min k (n-k)):Nat):Int)) O O) O<|D.q (i:=9) O (aC [1] [0] O O O) O (q.as O) O<|D.done<|R.back (k+min k (n-k),u,(rs.take k++(rs.take k).take (min k (n-k))++rs.drop (k+(min k (n-k))))) O (by (refine ⟨by omega,by omega,?_⟩;rw [CF (n:=n) HR (min k (n-k)) (by omega) (by omega),List.drop_replicate,show n-k-min k (n-k)=n-(k+min k (n-k)) by omega])) (by dsimp only;omega) (sF O) (aC [0,1] [0] O O O)
  refine Do.s (s.c (Qt.a (q.kD (i:=k) (ck 0 O) O O Tryz.underlying109 Cv O (by omega))) O) (fun _=>(aC [1] [0] O O O)) O fun _=>D.one (i:=3) O<|Do.s (s.c (Qt.a (q.dB (i:=k) (ck 0 O) O O gA O (by omega))) O) (fun _=>(aC [1] [0] O O O)) O fun _=>D.one (i:=7) O<|Do.s (s.EE (o:=k) (m:=(min k (n-k))) 0 _ O (fun w hw=>Sl.to (hw.row 0 O) (by omega)) O (.inl O) O gA (by omega) (by (simp;omega)) (by omega) (by (simp;omega)) O O) (fun _=>(aC [1] [0] O O O)) O fun _=>D.q (i:=8) O (aC [1] [0] O O O) O (q.bA (r:=((k+(min k (n-k)):Nat):Int)) O O) O<|D.q (i:=9) O (aC [1] [0] O O O) O (q.as O) O<|D.done<|R.back (k+min k (n-k),u,(rs.take k++(rs.take k).take (min k (n-k))++rs.drop (k+(min k (n-k))))) O (by (refine ⟨by omega,by omega,?_⟩;rw [CF (n:=n) HR (min k (n-k)) (by omega) (by omega),List.drop_replicate,show n-k-min k (n-k)=n-(k+min k (n-k)) by omega])) (by dsimp only;omega) (sF O) (aC [0,1] [0] O O O)
 refine R.q (q.cW O O) O<|R.nil<|R.aB O O<|R.reg O<|R.u 2 O<|R.nil ?_
 have hz:List.replicate n (l.headD ⟨#[]⟩)=rs:=by (rw [HR,show k=n by omega];simp)
 rw [hz]
 exact R.w1 u [0,1] [] O Tryz.results66 (RV.tmp O) O O O O
theorem JI (n:Int)(w:World)(own:List Nat)(H:HN w own [] [])(hn:1<=n/\n<=200):RC Tryz.prog 30 #[iV n] H (fun z:Nat×Value×Value×Value => .tuple #[.pointer (some ⟨z.1,0,none⟩),.nilIface]) (fun z=>[af.box z.1 [z.2.1,z.2.2.1,z.2.2.2,iV (dNew (Int.toNat n)).Fuse,.bool (dNew (Int.toNat n)).Down] 112,af.row 9 z.2.1 (dNew (Int.toNat n)).Kept,af.row 9 z.2.2.1 (dNew (Int.toNat n)).Now,af.row 114 z.2.2.2 (dNew (Int.toNat n)).Wait]) (fun _=>[]):=by
 obtain ⟨nN,Vp⟩:∃m:Nat,n=(m:Int):=⟨n.toNat,by omega⟩;subst Vp
 refine R.bF [(0,iV (nN:Int))] Tryz.func30 O O O O H<|R.reg O<|R.u 2 O<|R.nil<|R.reg O<|R.u 1 O<|R.q (q.cW O O) O<|R.u 2 O<|R.qg O (q.eu O O) O<|R.u 1 O<|R.nil<|R.aB O O<|R.reg O<|R.c (q.call Ji O O (fun w hw=>(wP (⟨#[]⟩) w (by decide)))) O<|R.s O (s.bs (l:=([full (⟨#[]⟩)]:List ByteArray)) gA FX O O O O O O O) fun b1=>R.u 1 O<|R.s O (s.EG (Bl:=[af.row 9 (.slice (some ⟨b1,0,none⟩) 1 1) ([full (⟨#[]⟩)]:List ByteArray)]) (Fl:=[af.ls (.slice (some ⟨b1,0,none⟩) 1 1) ([full (⟨#[]⟩)]:List ByteArray)]) [0,1] [0] (fun kO:Value=>kO) (fun kO:Value=>[af.row 9 kO ((List.replicate nN (([full (⟨#[]⟩)]).headD ⟨#[]⟩)):List ByteArray)]) O O (qD wJ) O R4 O O (fun w own hw H=>CG (.slice (some ⟨b1,0,none⟩) 1 1) ([full (⟨#[]⟩)]) nN w own H (by rfl) (by omega)) O) fun z1=>R.u 1 O<|R.nil<|R.reg O<|R.u 2 O<|R.s O (s.EG (Bl:=[af.row 9 z1 (List.replicate nN (([full (⟨#[]⟩)]).headD ⟨#[]⟩):List ByteArray)]) (Fl:=[af.ls z1 (List.replicate nN (([full (⟨#[]⟩)]).headD ⟨#[]⟩):List ByteArray)]) [0,1,2] [0] (fun kO:Value=>kO) (fun kO:Value=>[af.row 9 kO ((List.replicate nN (([full (⟨#[]⟩)]).headD ⟨#[]⟩)):List ByteArray)]) O O (qD wJ) O R5 O O (fun w own hw H=>u7 z1 (List.replicate nN (([full (⟨#[]⟩)]).headD ⟨#[]⟩)) w own H (by (simp;omega))) O) fun z2=>R.q (q.JF OY O (fun w hw=>(sT (Sl.EF (hw.row 1 O)) (sT (Sl.EF (hw.row 0 O)) (sT O JE)))) O) O<|R.s O (s.box O O O) fun b2=>R.u 2 O<|R.nil<|R.row0 (α:=Turn) 114 ?_
 have hz:dNew (Int.toNat ((nN:Nat):Int))=(⟨List.replicate nN (([full (⟨#[]⟩)]).headD ⟨#[]⟩),(List.replicate nN (([full (⟨#[]⟩)]).headD ⟨#[]⟩)),[],-1,false⟩:cD):=by (rfl)
 rw [hz]
 exact R.w2 (b2,z1,z2,(nS)) [1,3,2,0,5] [] O Tryz.results30 (RV.tmp O) (RV.tmp O) O O O (dz O O)
theorem gF (aG:Nat)(ak aA ao:Value)(dk:cD)(w:World)(wQ:(af.box aG [ak,aA,ao,iV dk.Fuse,.bool dk.Down] 112).ok w)(jW:Sl w ak (dk.Kept:List ByteArray))(kP:Sl w aA (dk.Now:List ByteArray))(jX:Sl w ao (dk.Wait:List Turn)):Calls Tryz.prog 83 #[.pointer (some ⟨aG,0,none⟩)] w fun e w'=>e = .returned (iV (dk.Now.length:Int))/\Ext w w':=by
 exact R.enter [] [(0,.pointer (some ⟨aG,0,none⟩))] Tryz.func83 rfl rfl rfl rfl<|R.pN jW<|R.pN kP<|R.pN jX<|R.nH (r:=af.box aG [ak,aA,ao,iV dk.Fuse,.bool dk.Down] 112) wQ (jO wQ)<|R.reg rfl<|R.u 1 rfl<|R.nil<|R.reg rfl<|R.u 1 rfl<|R.q (q.cm rfl) rfl<|R.q (q.aO rfl iX rfl) rfl<|R.q (q.yB 0 rfl rfl gB rfl) rfl<|R.q (q.len' (fun _=>Wd.bT 2 rfl) rfl Tryz.underlying109) rfl<|R.u 1 rfl<|R.nil<|R.rv rfl Tryz.results83 rfl (rI (by rfl))
theorem zr (aG:Nat)(ak aA ao:Value)(dk:cD)(w:World)(wQ:(af.box aG [ak,aA,ao,iV dk.Fuse,.bool dk.Down] 112).ok w)(jW:Sl w ak (dk.Kept:List ByteArray))(kP:Sl w aA (dk.Now:List ByteArray))(jX:Sl w ao (dk.Wait:List Turn)):Calls Tryz.prog 84 #[.pointer (some ⟨aG,0,none⟩)] w fun e w'=>e = .returned (.bool dk.Down)/\Ext w w':=by
 exact R.enter [] [(0,.pointer (some ⟨aG,0,none⟩))] Tryz.func84 rfl rfl rfl rfl<|R.pN jW<|R.pN kP<|R.pN jX<|R.nH (r:=af.box aG [ak,aA,ao,iV dk.Fuse,.bool dk.Down] 112) wQ (jO wQ)<|R.reg rfl<|R.u 1 rfl<|R.nil<|R.reg rfl<|R.u 1 rfl<|R.q (q.cm rfl) rfl<|R.q (q.aO rfl jP rfl) rfl<|R.q (q.yB 0 rfl rfl iW rfl) rfl<|R.u 1 rfl<|R.nil<|R.rv rfl Tryz.results84 rfl (rB (by rfl))
theorem tQ (aG:Nat)(ak aA ao:Value)(dk:cD)(i:Int)(w:World)(wQ:(af.box aG [ak,aA,ao,iV dk.Fuse,.bool dk.Down] 112).ok w)(jW:Sl w ak (dk.Kept:List ByteArray))(kP:Sl w aA (dk.Now:List ByteArray))(jX:Sl w ao (dk.Wait:List Turn)):Calls Tryz.prog 85 #[.pointer (some ⟨aG,0,none⟩),iV i] w fun e w'=>e = .returned (.tuple #[.string (cd dk i).1,dh (cd dk i).2])/\Ext w w':=by
 refine R.enter [] [(0,.pointer (some ⟨aG,0,none⟩)),(1,iV i)] Tryz.func85 O O O O<|R.pN jW<|R.pN kP<|R.pN jX<|R.nH (r:=af.box aG [ak,aA,ao,iV dk.Fuse,.bool dk.Down] 112) wQ (jO wQ)<|R.reg O<|R.u 2 O<|R.nil<|R.reg O<|R.u 1 O<|R.q (q.cm O) O<|R.q (q.aO O jP O) O<|R.q (q.yB 0 O O iW O) O<|R.nil<|R.cond O O (fun h1=>?_) (fun h1=>?_)
 .
  exact R.reg O<|R.q (q.iface O bm) O<|R.u 2 O<|R.nil<|R.FR O Tryz.results85 O O (rS (by (rw [wM ‹_›];done))) (dq (by decide) (by (rw [wM ‹_›];done)))
 refine R.reg O<|R.u 1 O<|?_
 by_cases h2:i<0
 .
  exact R.q (q.dy O O) O<|R.u 9 O<|R.nil<|R.ay O O<|R.reg O<|R.q (q.iface O bm) O<|R.u 2 O<|R.nil<|R.FR O Tryz.results85 O O (rS (by (rw [qE ‹_› (by omega)];done))) (dq (by decide) (by (rw [qE ‹_› (by omega)];done)))
 refine R.q (q.cW O O) O<|R.u 3 O<|R.qg O (q.cm O) O<|R.qg O (q.aO O iX O) O<|R.qg O (q.yB 0 O O gB O) O<|R.qg O (q.len' (dr 2 O) O Tryz.underlying109) O<|?_
 by_cases h3:i<(dk.Now.length:Int)
 .
  refine R.qg O (q.IW O O) O<|R.u 1 O<|R.nil<|R.aB O O<|R.reg O<|R.u 1 O<|R.q (q.cm O) O<|R.q (q.aO O iX O) O<|R.q (q.yB 0 O O gB O) O<|R.u 1 O<|?_
  obtain ⟨x1,hx1⟩:∃z,dk.Now[i.toNat]? = some z:=⟨_,List.getElem?_eq_getElem (by omega)⟩
  exact R.q (q.idx (i:=i.toNat) (dr 2 O) O O gA (by omega) hx1) O<|R.q (q.lr (dr 2 O) hx1 O bK O) O<|R.u 2 O<|R.nil<|R.FR O Tryz.results85 O O (rS (by (rw [pS ‹_› (by omega) hx1];done))) (iI (by (rw [pS ‹_› (by omega) hx1];done)))
 exact R.qg O (q.G2 O O) O<|R.u 1 O<|R.nil<|R.ay O O<|R.reg O<|R.q (q.iface O bm) O<|R.u 2 O<|R.nil<|R.FR O Tryz.results85 O O (rS (by (rw [qE ‹_› (by omega)];done))) (dq (by decide) (by (rw [qE ‹_› (by omega)];done)))
theorem zt (aG:Nat)(ak aA ao:Value)(dk:cD)(w:World)(own:List Nat)(H:HN w own [af.box aG [ak,aA,ao,iV dk.Fuse,.bool dk.Down] 112,af.row 9 ak dk.Kept,af.row 9 aA dk.Now,af.row 114 ao dk.Wait] [])(hf : -1<=dk.Fuse/\dk.Fuse<=9223372036854775807):RC Tryz.prog 139 #[.pointer (some ⟨aG,0,none⟩)] H (fun _:Value×Value×Value=>dh (bj dk).2) (fun z=>[af.box aG [z.1,z.2.1,z.2.2,iV (bj dk).1.Fuse,.bool (bj dk).1.Down] 112,af.row 9 z.1 (bj dk).1.Kept,af.row 9 z.2.1 (bj dk).1.Now,af.row 114 z.2.2 (bj dk).1.Wait]) (fun _=>[]):=by
 have eE:=H.cap 1 rfl;have eF:=H.cQ 1 rfl
 have fE:=H.cap 2 rfl;have fF:=H.cQ 2 rfl
 have eG:=H.cap 3 rfl;have eH:=H.cQ 3 rfl
 refine R.bF [(0,.pointer (some ⟨aG,0,none⟩))] Tryz.func139 O O O O H<|R.reg O<|R.u 1 O<|R.nil<|R.reg O<|R.u 1 O<|R.q (q.cm O) O<|R.q (q.aO O jP O) O<|R.q (q.ld 0 O O iW O) O<|R.q (q.not O) O<|R.u 1 O<|?_
 rcases Bool.eq_false_or_eq_true dk.Down with h1|h1
 .
  rw [h1]
  refine R.u 6 O<|R.nil<|R.aB O O<|R.reg O<|R.u 1 O<|R.q (q.cm O) O<|R.q (q.aO O jP O) O<|R.q (q.ld 0 O O iW O) O<|R.nil<|R.ay O O<|R.reg O<|R.q (q.iface O bm) O<|R.u 1 O<|R.nil ?_
  have hz:bj dk=((⟨dk.Kept,dk.Now,dk.Wait,dk.Fuse,true⟩:cD),10):=by (exact wL ‹_›)
  rw [hz]
  exact R.w1 (ak,aA,ao) ig [] O Tryz.results139 (RV.tmp O) O O O (dq (by decide) O)
 rw [h1]
 refine R.u 1 O<|R.qg O (q.cm O) O<|R.qg O (q.aO O ox O) O<|R.qg O (q.ld 0 O O av O) O<|?_
 by_cases h2:dk.Fuse=0
 .
  refine R.qg O (q.fQ O O) O<|R.u 1 O<|R.nil<|R.ay O O<|R.reg O<|R.u 2 O<|R.q (q.cm O) O<|R.q (q.aO O jP O) O<|R.s O (s.st 0 _ O O O O (.inr ⟨iW,rfl⟩) O O O O) fun _=>R.q (q.cm O) O<|R.q (q.aO O ox O) O<|R.s O (s.st 0 _ O O O O (.inr ⟨av,rfl⟩) O O O O) fun _=>R.nil<|R.reg O<|R.u 1 O<|R.q (q.cm O) O<|R.q (q.aO O jP O) O<|R.q (q.ld 0 O O iW O) O<|R.nil<|R.ay O O<|R.reg O<|R.q (q.iface O bm) O<|R.u 1 O<|R.nil ?_
  have hz:bj dk=((⟨dk.Kept,dk.Now,dk.Wait,-1,true⟩:cD),10):=by (exact rU ‹_› ‹_›)
  rw [hz]
  exact R.w1 (ak,aA,ao) ig [] O Tryz.results139 (RV.tmp O) O O O (dq (by decide) O)
 refine R.qg O (q.fa O O) O<|R.u 1 O<|R.nil<|R.aB O O<|R.reg O<|R.u 1 O<|R.q (q.cm O) O<|R.q (q.aO O jP O) O<|R.q (q.ld 0 O O iW O) O<|R.nil<|R.aB O O<|R.reg O<|R.u 2 O<|R.q (q.cm O) O<|R.q (q.aO O ox O) O<|R.q (q.ld 0 O O av O) O<|R.q (q.lV (r:=dk.Fuse-1) O O) O<|R.q (q.max (r:=max (dk.Fuse-1) (-1)) O O O) O<|R.q (q.cm O) O<|R.q (q.aO O ox O) O<|R.s O (s.st 0 _ O O O O (.inr ⟨av,rfl⟩) O O O O) fun _=>R.nil<|R.reg O<|R.u 1 O<|R.nil ?_
 have hz:bj dk=((⟨dk.Kept,dk.Now,dk.Wait,(max (dk.Fuse-1) (-1)),false⟩:cD),0):=by (exact sU ‹_› ‹_›)
 rw [hz]
 exact R.w1 (ak,aA,ao) ig [] O Tryz.results139 (RV.tmp O) O O O (iI O)
theorem jd (aG:Nat)(ak aA ao:Value)(dk:cD)(i:Int)(sx:ByteArray)(w:World)(own:List Nat)(H:HN w own [af.box aG [ak,aA,ao,iV dk.Fuse,.bool dk.Down] 112,af.row 9 ak dk.Kept,af.row 9 aA dk.Now,af.row 114 ao dk.Wait] [])(hd:dk.Kept.length=dk.Now.length/\dk.Now.length<=100000/\dk.Wait.length<=100000 /\ -1<=dk.Fuse/\dk.Fuse<=9223372036854775807):RC Tryz.prog 79 #[.pointer (some ⟨aG,0,none⟩),iV i,.string sx] H (fun _:Value×Value×Value=>dh (au dk i sx).2) (fun z=>[af.box aG [z.1,z.2.1,z.2.2,iV (au dk i sx).1.Fuse,.bool (au dk i sx).1.Down] 112,af.row 9 z.1 (au dk i sx).1.Kept,af.row 9 z.2.1 (au dk i sx).1.Now,af.row 114 z.2.2 (au dk i sx).1.Wait]) (fun _=>[]):=by
 have eE:=H.cap 1 rfl;have eF:=H.cQ 1 rfl
 have fE:=H.cap 2 rfl;have fF:=H.cQ 2 rfl
 have eG:=H.cap 3 rfl;have eH:=H.cQ 3 rfl
 have hsl:=mX dk;have hs1:=congrArg List.length hsl.1;have hs2:=congrArg List.length hsl.2.1;have hs3:=congrArg List.length hsl.2.2
 refine R.bF [(0,.pointer (some ⟨aG,0,none⟩)),(1,iV i),(2,.string sx)] Tryz.func79 O O O O H<|R.reg O<|R.u 1 O<|R.nil<|R.reg O<|R.u 1 O<|?_
 by_cases h1:i<0
 .
  refine R.q (q.dy O O) O<|R.u 14 O<|R.nil<|R.ay O O<|R.reg O<|R.q (q.iface O bm) O<|R.u 1 O<|R.nil ?_
  have hz:au dk i sx=(dk,1):=by (exact mE (by omega))
  rw [hz]
  exact R.w1 (ak,aA,ao) ig [] O Tryz.results79 (RV.tmp O) O O O (dq (by decide) O)
 refine R.q (q.cW O O) O<|R.u 3 O<|R.qg O (q.cm O) O<|R.qg O (q.aO O iX O) O<|R.qg O (q.ld 0 O O gB O) O<|R.qg O (q.len' (ck 2 O) O Tryz.underlying109) O<|?_
 by_cases h2:i<(dk.Now.length:Int)
 .
  refine R.qg O (q.IW O O) O<|R.u 3 O<|R.qg O (q.iy O Tryz.underlying9) O<|?_
  by_cases h3:48<sx.size
  .
   refine R.qg O (q.eL O O) O<|R.u 1 O<|R.nil<|R.ay O O<|R.reg O<|R.q (q.iface O bm) O<|R.u 1 O<|R.nil ?_
   have hz:au dk i sx=(dk,1):=by (exact mE (by omega))
   rw [hz]
   exact R.w1 (ak,aA,ao) ig [] O Tryz.results79 (RV.tmp O) O O O (dq (by decide) O)
  refine R.qg O (q.eu O O) O<|R.u 1 O<|R.nil<|R.aB O O<|R.reg O<|R.u 1 O<|R.s O (s.aW ig [] _ _ _ O O O Jq O O (fun w own hw H=>zt aG ak aA ao dk w own H (by omega)) O) ?_
  rintro ⟨z1,z2,z3⟩
  dsimp only
  refine R.u 1 O<|R.nil<|R.reg O<|R.u 1 O<|?_
  by_cases h4:(bj dk).2=0
  .
   refine R.q (q.mB O O Tryz.underlying38) O<|R.nil<|R.ay O O ?_
   obtain ⟨x1,hx1⟩:∃z,((bj dk).1.Now)[i.toNat]? = some z:=⟨_,List.getElem?_eq_getElem (by omega)⟩
   refine R.fu (fuel:=9) (Wd w (blks [af.box aG [ak,aA,ao,iV dk.Fuse,.bool dk.Down] 112,af.row 9 ak dk.Kept,af.row 9 aA dk.Now,af.row 114 ao dk.Wait]++own) [af.row 9 z1 (bj dk).1.Kept,af.row 114 z3 (bj dk).1.Wait,af.held w own] []) O mixed O<|D.q (i:=0) O (aC [1,3,4] [] O O O) O (q.mv O) O<|D.q (i:=1) O (aC [1,3,4] [] O O O) O (q.cm O) O<|D.q (i:=2) O (aC [1,3,4] [] O O O) O (q.aO O iX O) O<|D.q (i:=4) O (aC [1,3,4] [] O O O) O (q.mv O) O<|D.q (i:=5) O (aC [1,3,4] [] O O O) O (q.mv O) O<|D.two (i:=3) (j:=6) O O ?_ ?_
   .
    refine Do.s (s.c (Qt.a (q.ld 0 O O gB O)) O) (fun _=>(aC [1,3,4] [] O O O)) O fun _=>D.one (i:=6) O<|Do.s (s.c (q.call Ji O O (fun w hw=>(wP sx w (by omega)))) O) (fun _=>(aC [1,3,4] [] O O O)) O fun _=>D.one (i:=7) O<|Do.s (s.c (Qt.a (q.idx (i:=i.toNat) (ck 2 O) O O gA (by omega) hx1)) O) (fun _=>(aC [1,3,4] [] O O O)) O fun _=>D.one (i:=8) O<|Do.s (s.QZ (z:=full sx) 2 _ O hx1 O O O O (.inr ⟨bK,rfl⟩) O) (fun _=>(aC [1,3,4] [] O O O)) O fun _=>D.done<|?_
    obtain ⟨x2,hx2⟩:∃z,((bj dk).1.Now.set i.toNat (full sx))[i.toNat]? = some z:=⟨_,List.getElem?_eq_getElem (by (simp;omega))⟩
    refine R.fu (fuel:=19) (Wd w (blks [af.box aG [ak,aA,ao,iV dk.Fuse,.bool dk.Down] 112,af.row 9 ak dk.Kept,af.row 9 aA dk.Now,af.row 114 ao dk.Wait]++own) [af.row 9 z1 (bj dk).1.Kept,af.row 9 z2 ((bj dk).1.Now.set i.toNat (full sx)),af.held w own] []) O mixed O<|D.q (i:=0) O (aC [1,2,4] [] O O O) O (q.mv O) O<|D.q (i:=1) O (aC [1,2,4] [] O O O) O (q.mv O) O<|D.q (i:=2) O (aC [1,2,4] [] O O O) O (q.cm O) O<|D.q (i:=3) O (aC [1,2,4] [] O O O) O (q.aO O gO O) O<|D.q (i:=5) O (aC [1,2,4] [] O O O) O (q.mv O) O<|D.q (i:=6) O (aC [1,2,4] [] O O O) O (q.mv O) O<|D.q (i:=7) O (aC [1,2,4] [] O O O) O (q.cm O) O<|D.q (i:=8) O (aC [1,2,4] [] O O O) O (q.aO O iX O) O<|D.q (i:=10) O (aC [1,2,4] [] O O O) O (q.mv O) O<|D.two (i:=4) (j:=9) O O ?_ ?_
    .
     refine Do.s (s.c (Qt.a (q.ld 0 O O gC O)) O) (fun _=>(aC [1,2,4] [] O O O)) O fun _=>D.one (i:=9) O<|Do.s (s.c (Qt.a (q.ld 0 O O gB O)) O) (fun _=>(aC [1,2,4] [] O O O)) O fun _=>D.q (i:=11) O (aC [1,2,4] [] O O O) O (q.idx (i:=i.toNat) (ck 1 O) O O gA (by omega) hx2) O<|D.q (i:=12) O (aC [1,2,4] [] O O O) O (q.lr (ck 1 O) hx2 O bK O) O<|D.q (i:=13) O (aC [1,2,4] [] O O O) O (q.build AE O O) O<|D.one (i:=14) O<|Do.s (s.bs (l:=([(⟨i,x2⟩:Turn)]:List Turn)) qC l9 O O O O O O O) (fun _=>(aC [2,3,5] [] O O O)) O fun b1=>D.one (i:=15) O<|Do.s (s.app 4 _ O O O (ck 0 O) nL (by (simp;omega)) (by (simp;omega)) (fun _=>rfl) O) (fun _=>(aC [2,3,5] [] O O O)) O fun v1=>D.q (i:=16) O (aC [2,3,5] [] O O O) O (q.cm O) O<|D.q (i:=17) O (aC [2,3,5] [] O O O) O (q.aO O gO O) O<|D.one (i:=18) O<|Do.s (s.fZ 1 _ O O O (fun w hw=>Sl.cu (hw.row 4 O)) (.inr ⟨gC,rfl⟩) (fun w hw=>(ag (Sl.one (hw.row 4 O)) aP)) O O O) (fun _=>(aC [2,3,5] [] O O O)) O fun _=>D.done<|R.reg O<|R.u 2 O<|R.nil ?_
     have hz:au dk i sx=((⟨((bj dk).1).Kept,((bj dk).1.Now.set i.toNat (full sx)),(((bj dk).1.Wait)++([(⟨i,x2⟩:Turn)])),(bj dk).1.Fuse,(bj dk).1.Down⟩:cD),(bj dk).2):=by (rw [iF (by omega) (by omega) (by omega) ‹_›];simp_all;done)
     rw [hz]
     exact R.w1 (z1,z2,v1) uy [] O Tryz.results79 (RV.tmp O) O O O O
    refine Do.s (s.c (Qt.a (q.ld 0 O O gB O)) O) (fun _=>(aC [1,2,4] [] O O O)) O fun _=>D.q (i:=11) O (aC [1,2,4] [] O O O) O (q.idx (i:=i.toNat) (ck 1 O) O O gA (by omega) hx2) O<|D.q (i:=12) O (aC [1,2,4] [] O O O) O (q.lr (ck 1 O) hx2 O bK O) O<|D.q (i:=13) O (aC [1,2,4] [] O O O) O (q.build AE O O) O<|D.two (i:=4) (j:=14) O O ?_ ?_
    .
     refine Do.s (s.c (Qt.a (q.ld 0 O O gC O)) O) (fun _=>(aC [1,2,4] [] O O O)) O fun _=>D.one (i:=14) O<|Do.s (s.bs (l:=([(⟨i,x2⟩:Turn)]:List Turn)) qC l9 O O O O O O O) (fun _=>(aC [2,3,5] [] O O O)) O fun b2=>D.one (i:=15) O<|Do.s (s.app 4 _ O O O (ck 0 O) nL (by (simp;omega)) (by (simp;omega)) (fun _=>rfl) O) (fun _=>(aC [2,3,5] [] O O O)) O fun v2=>D.q (i:=16) O (aC [2,3,5] [] O O O) O (q.cm O) O<|D.q (i:=17) O (aC [2,3,5] [] O O O) O (q.aO O gO O) O<|D.one (i:=18) O<|Do.s (s.fZ 1 _ O O O (fun w hw=>Sl.cu (hw.row 4 O)) (.inr ⟨gC,rfl⟩) (fun w hw=>(ag (Sl.one (hw.row 4 O)) aP)) O O O) (fun _=>(aC [2,3,5] [] O O O)) O fun _=>D.done<|R.reg O<|R.u 2 O<|R.nil ?_
     have hz:au dk i sx=((⟨((bj dk).1).Kept,((bj dk).1.Now.set i.toNat (full sx)),(((bj dk).1.Wait)++([(⟨i,x2⟩:Turn)])),(bj dk).1.Fuse,(bj dk).1.Down⟩:cD),(bj dk).2):=by (rw [iF (by omega) (by omega) (by omega) ‹_›];simp_all;done)
     rw [hz]
     exact R.w1 (z1,z2,v2) uy [] O Tryz.results79 (RV.tmp O) O O O O
    refine Do.s (s.bs (l:=([(⟨i,x2⟩:Turn)]:List Turn)) qC l9 O O O O O O O) (fun _=>(aC [2,3,5] [] O O O)) O fun b3=>D.one (i:=4) O<|Do.s (s.c (Qt.a (q.ld 1 O O gC O)) O) (fun _=>(aC [2,3,5] [] O O O)) O fun _=>D.one (i:=15) O<|Do.s (s.app 4 _ O O O (ck 0 O) nL (by (simp;omega)) (by (simp;omega)) (fun _=>rfl) O) (fun _=>(aC [2,3,5] [] O O O)) O fun v3=>D.q (i:=16) O (aC [2,3,5] [] O O O) O (q.cm O) O<|D.q (i:=17) O (aC [2,3,5] [] O O O) O (q.aO O gO O) O<|D.one (i:=18) O<|Do.s (s.fZ 1 _ O O O (fun w hw=>Sl.cu (hw.row 4 O)) (.inr ⟨gC,rfl⟩) (fun w hw=>(ag (Sl.one (hw.row 4 O)) aP)) O O O) (fun _=>(aC [2,3,5] [] O O O)) O fun _=>D.done<|R.reg O<|R.u 2 O<|R.nil ?_
    have hz:au dk i sx=((⟨((bj dk).1).Kept,((bj dk).1.Now.set i.toNat (full sx)),(((bj dk).1.Wait)++([(⟨i,x2⟩:Turn)])),(bj dk).1.Fuse,(bj dk).1.Down⟩:cD),(bj dk).2):=by (rw [iF (by omega) (by omega) (by omega) ‹_›];simp_all;done)
    rw [hz]
    exact R.w1 (z1,z2,v3) uy [] O Tryz.results79 (RV.tmp O) O O O O
   refine Do.s (s.c (q.call Ji O O (fun w hw=>(wP sx w (by omega)))) O) (fun _=>(aC [1,3,4] [] O O O)) O fun _=>D.one (i:=3) O<|Do.s (s.c (Qt.a (q.ld 0 O O gB O)) O) (fun _=>(aC [1,3,4] [] O O O)) O fun _=>D.one (i:=7) O<|Do.s (s.c (Qt.a (q.idx (i:=i.toNat) (ck 2 O) O O gA (by omega) hx1)) O) (fun _=>(aC [1,3,4] [] O O O)) O fun _=>D.one (i:=8) O<|Do.s (s.QZ (z:=full sx) 2 _ O hx1 O O O O (.inr ⟨bK,rfl⟩) O) (fun _=>(aC [1,3,4] [] O O O)) O fun _=>D.done<|?_
   obtain ⟨x3,hx3⟩:∃z,((bj dk).1.Now.set i.toNat (full sx))[i.toNat]? = some z:=⟨_,List.getElem?_eq_getElem (by (simp;omega))⟩
   refine R.fu (fuel:=19) (Wd w (blks [af.box aG [ak,aA,ao,iV dk.Fuse,.bool dk.Down] 112,af.row 9 ak dk.Kept,af.row 9 aA dk.Now,af.row 114 ao dk.Wait]++own) [af.row 9 z1 (bj dk).1.Kept,af.row 9 z2 ((bj dk).1.Now.set i.toNat (full sx)),af.held w own] []) O mixed O<|D.q (i:=0) O (aC [1,2,4] [] O O O) O (q.mv O) O<|D.q (i:=1) O (aC [1,2,4] [] O O O) O (q.mv O) O<|D.q (i:=2) O (aC [1,2,4] [] O O O) O (q.cm O) O<|D.q (i:=3) O (aC [1,2,4] [] O O O) O (q.aO O gO O) O<|D.q (i:=5) O (aC [1,2,4] [] O O O) O (q.mv O) O<|D.q (i:=6) O (aC [1,2,4] [] O O O) O (q.mv O) O<|D.q (i:=7) O (aC [1,2,4] [] O O O) O (q.cm O) O<|D.q (i:=8) O (aC [1,2,4] [] O O O) O (q.aO O iX O) O<|D.q (i:=10) O (aC [1,2,4] [] O O O) O (q.mv O) O<|D.two (i:=4) (j:=9) O O ?_ ?_
   .
    refine Do.s (s.c (Qt.a (q.ld 0 O O gC O)) O) (fun _=>(aC [1,2,4] [] O O O)) O fun _=>D.one (i:=9) O<|Do.s (s.c (Qt.a (q.ld 0 O O gB O)) O) (fun _=>(aC [1,2,4] [] O O O)) O fun _=>D.q (i:=11) O (aC [1,2,4] [] O O O) O (q.idx (i:=i.toNat) (ck 1 O) O O gA (by omega) hx3) O<|D.q (i:=12) O (aC [1,2,4] [] O O O) O (q.lr (ck 1 O) hx3 O bK O) O<|D.q (i:=13) O (aC [1,2,4] [] O O O) O (q.build AE O O) O<|D.one (i:=14) O<|Do.s (s.bs (l:=([(⟨i,x3⟩:Turn)]:List Turn)) qC l9 O O O O O O O) (fun _=>(aC [2,3,5] [] O O O)) O fun b4=>D.one (i:=15) O<|Do.s (s.app 4 _ O O O (ck 0 O) nL (by (simp;omega)) (by (simp;omega)) (fun _=>rfl) O) (fun _=>(aC [2,3,5] [] O O O)) O fun v4=>D.q (i:=16) O (aC [2,3,5] [] O O O) O (q.cm O) O<|D.q (i:=17) O (aC [2,3,5] [] O O O) O (q.aO O gO O) O<|D.one (i:=18) O<|Do.s (s.fZ 1 _ O O O (fun w hw=>Sl.cu (hw.row 4 O)) (.inr ⟨gC,rfl⟩) (fun w hw=>(ag (Sl.one (hw.row 4 O)) aP)) O O O) (fun _=>(aC [2,3,5] [] O O O)) O fun _=>D.done<|R.reg O<|R.u 2 O<|R.nil ?_
    have hz:au dk i sx=((⟨((bj dk).1).Kept,((bj dk).1.Now.set i.toNat (full sx)),(((bj dk).1.Wait)++([(⟨i,x3⟩:Turn)])),(bj dk).1.Fuse,(bj dk).1.Down⟩:cD),(bj dk).2):=by (rw [iF (by omega) (by omega) (by omega) ‹_›];simp_all;done)
    rw [hz]
    exact R.w1 (z1,z2,v4) uy [] O Tryz.results79 (RV.tmp O) O O O O
   refine Do.s (s.c (Qt.a (q.ld 0 O O gB O)) O) (fun _=>(aC [1,2,4] [] O O O)) O fun _=>D.q (i:=11) O (aC [1,2,4] [] O O O) O (q.idx (i:=i.toNat) (ck 1 O) O O gA (by omega) hx3) O<|D.q (i:=12) O (aC [1,2,4] [] O O O) O (q.lr (ck 1 O) hx3 O bK O) O<|D.q (i:=13) O (aC [1,2,4] [] O O O) O (q.build AE O O) O<|D.two (i:=4) (j:=14) O O ?_ ?_
   .
    refine Do.s (s.c (Qt.a (q.ld 0 O O gC O)) O) (fun _=>(aC [1,2,4] [] O O O)) O fun _=>D.one (i:=14) O<|Do.s (s.bs (l:=([(⟨i,x3⟩:Turn)]:List Turn)) qC l9 O O O O O O O) (fun _=>(aC [2,3,5] [] O O O)) O fun b5=>D.one (i:=15) O<|Do.s (s.app 4 _ O O O (ck 0 O) nL (by (simp;omega)) (by (simp;omega)) (fun _=>rfl) O) (fun _=>(aC [2,3,5] [] O O O)) O fun v5=>D.q (i:=16) O (aC [2,3,5] [] O O O) O (q.cm O) O<|D.q (i:=17) O (aC [2,3,5] [] O O O) O (q.aO O gO O) O<|D.one (i:=18) O<|Do.s (s.fZ 1 _ O O O (fun w hw=>Sl.cu (hw.row 4 O)) (.inr ⟨gC,rfl⟩) (fun w hw=>(ag (Sl.one (hw.row 4 O)) aP)) O O O) (fun _=>(aC [2,3,5] [] O O O)) O fun _=>D.done<|R.reg O<|R.u 2 O<|R.nil ?_
    have hz:au dk i sx=((⟨((bj dk).1).Kept,((bj dk).1.Now.set i.toNat (full sx)),(((bj dk).1.Wait)++([(⟨i,x3⟩:Turn)])),(bj dk).1.Fuse,(bj dk).1.Down⟩:cD),(bj dk).2):=by (rw [iF (by omega) (by omega) (by omega) ‹_›];simp_all;done)
    rw [hz]
    exact R.w1 (z1,z2,v5) uy [] O Tryz.results79 (RV.tmp O) O O O O
   refine Do.s (s.bs (l:=([(⟨i,x3⟩:Turn)]:List Turn)) qC l9 O O O O O O O) (fun _=>(aC [2,3,5] [] O O O)) O fun b6=>D.one (i:=4) O<|Do.s (s.c (Qt.a (q.ld 1 O O gC O)) O) (fun _=>(aC [2,3,5] [] O O O)) O fun _=>D.one (i:=15) O<|Do.s (s.app 4 _ O O O (ck 0 O) nL (by (simp;omega)) (by (simp;omega)) (fun _=>rfl) O) (fun _=>(aC [2,3,5] [] O O O)) O fun v6=>D.q (i:=16) O (aC [2,3,5] [] O O O) O (q.cm O) O<|D.q (i:=17) O (aC [2,3,5] [] O O O) O (q.aO O gO O) O<|D.one (i:=18) O<|Do.s (s.fZ 1 _ O O O (fun w hw=>Sl.cu (hw.row 4 O)) (.inr ⟨gC,rfl⟩) (fun w hw=>(ag (Sl.one (hw.row 4 O)) aP)) O O O) (fun _=>(aC [2,3,5] [] O O O)) O fun _=>D.done<|R.reg O<|R.u 2 O<|R.nil ?_
   have hz:au dk i sx=((⟨((bj dk).1).Kept,((bj dk).1.Now.set i.toNat (full sx)),(((bj dk).1.Wait)++([(⟨i,x3⟩:Turn)])),(bj dk).1.Fuse,(bj dk).1.Down⟩:cD),(bj dk).2):=by (rw [iF (by omega) (by omega) (by omega) ‹_›];simp_all;done)
   rw [hz]
   exact R.w1 (z1,z2,v6) uy [] O Tryz.results79 (RV.tmp O) O O O O
  refine R.q (q.jF O O Tryz.underlying38) O<|R.nil<|R.aB O O<|R.reg O<|R.u 2 O<|R.nil ?_
  have hz:au dk i sx=(((bj dk).1),(bj dk).2):=by (exact wN (by omega) (by omega) (by omega) ‹_›)
  rw [hz]
  exact R.w1 (z1,z2,z3) ig [] O Tryz.results79 (RV.tmp O) O O O O
 refine R.qg O (q.G2 O O) O<|R.u 6 O<|R.nil<|R.ay O O<|R.reg O<|R.q (q.iface O bm) O<|R.u 1 O<|R.nil ?_
 have hz:au dk i sx=(dk,1):=by (exact mE (by omega))
 rw [hz]
 exact R.w1 (ak,aA,ao) ig [] O Tryz.results79 (RV.tmp O) O O O (dq (by decide) O)
theorem kQ (aG:Nat)(ak aA ao:Value)(dk:cD)(w:World)(own:List Nat)(H:HN w own [af.box aG [ak,aA,ao,iV dk.Fuse,.bool dk.Down] 112,af.row 9 ak dk.Kept,af.row 9 aA dk.Now,af.row 114 ao dk.Wait] [])(hd:dk.Kept.length=dk.Now.length/\dk.Now.length<=100000/\dk.Wait.length<=100000 /\ -1<=dk.Fuse/\dk.Fuse<=9223372036854775807):RC Tryz.prog 80 #[.pointer (some ⟨aG,0,none⟩)] H (fun _:Value×Value×Value=>dh (ai dk).2) (fun z=>[af.box aG [z.1,z.2.1,z.2.2,iV (ai dk).1.Fuse,.bool (ai dk).1.Down] 112,af.row 9 z.1 (ai dk).1.Kept,af.row 9 z.2.1 (ai dk).1.Now,af.row 114 z.2.2 (ai dk).1.Wait]) (fun _=>[]):=by
 have eE:=H.cap 1 rfl;have eF:=H.cQ 1 rfl
 have fE:=H.cap 2 rfl;have fF:=H.cQ 2 rfl
 have eG:=H.cap 3 rfl;have eH:=H.cQ 3 rfl
 have hsl:=mX dk;have hs1:=congrArg List.length hsl.1;have hs2:=congrArg List.length hsl.2.1;have hs3:=congrArg List.length hsl.2.2
 refine R.bF [(0,.pointer (some ⟨aG,0,none⟩))] Tryz.func80 O O O O H<|R.reg O<|R.u 1 O<|R.nil<|R.reg O<|R.u 1 O<|R.s O (s.aW ig [] _ _ _ O O O Jq O O (fun w own hw H=>zt aG ak aA ao dk w own H (by omega)) O) ?_
 rintro ⟨z1,z2,z3⟩
 dsimp only
 refine R.u 1 O<|R.nil<|R.reg O<|R.u 1 O<|?_
 by_cases h1:(bj dk).2=0
 .
  refine R.q (q.mB O O Tryz.underlying38) O<|R.nil<|R.ay O O<|R.fu (fuel:=9) (Wd w (blks [af.box aG [ak,aA,ao,iV dk.Fuse,.bool dk.Down] 112,af.row 9 ak dk.Kept,af.row 9 aA dk.Now,af.row 114 ao dk.Wait]++own) [af.row 9 z2 (bj dk).1.Now,af.row 114 z3 (bj dk).1.Wait,af.held w own] []) O mixed O<|D.q (i:=0) O (aC [2,3,4] [] O O O) O (q.mv O) O<|D.q (i:=1) O (aC [2,3,4] [] O O O) O (q.cm O) O<|D.q (i:=2) O (aC [2,3,4] [] O O O) O (q.aO O Ey O) O<|D.q (i:=4) O (aC [2,3,4] [] O O O) O (q.mv O) O<|D.q (i:=5) O (aC [2,3,4] [] O O O) O (q.cm O) O<|D.q (i:=6) O (aC [2,3,4] [] O O O) O (q.aO O iX O) O<|D.two (i:=3) (j:=7) O O ?_ ?_
  .
   refine Do.s (s.c (Qt.a (q.ld 0 O O gB O)) O) (fun _=>(aC [2,3,4] [] O O O)) O fun _=>D.one (i:=7) O<|Do.s (s.c (Qt.a (q.ld 0 O O gB O)) O) (fun _=>(aC [2,3,4] [] O O O)) O fun _=>D.one (i:=8) O<|Do.s (s.copy 1 _ O (ck 2 O) O O O gA (by omega) O O) (fun _=>(aC [2,3,4] [] O O O)) O fun _=>D.done<|R.reg O<|R.u 1 O<|R.q (q.cm O) O<|R.q (q.aO O gO O) O<|R.s O (s.st 0 _ O O O O (.inr ⟨gC,rfl⟩) O O O O) fun _=>R.nil<|R.reg O<|R.u 2 O<|R.nil<|R.row0 (α:=Turn) 114 ?_
   have hz:ai dk=((⟨((bj dk).1).Now,(bj dk).1.Now,[],(bj dk).1.Fuse,(bj dk).1.Down⟩:cD),(bj dk).2):=by (unfold ai;(rw [if_pos ‹_›];simp_all))
   rw [hz]
   exact R.w1 (z1,z2,(nS)) [1,2,3,0,5] [] O Tryz.results80 (RV.tmp O) O O O O
  refine Do.s (s.c (Qt.a (q.ld 0 O O gB O)) O) (fun _=>(aC [2,3,4] [] O O O)) O fun _=>D.one (i:=3) O<|Do.s (s.c (Qt.a (q.ld 0 O O gB O)) O) (fun _=>(aC [2,3,4] [] O O O)) O fun _=>D.one (i:=8) O<|Do.s (s.copy 1 _ O (ck 2 O) O O O gA (by omega) O O) (fun _=>(aC [2,3,4] [] O O O)) O fun _=>D.done<|R.reg O<|R.u 1 O<|R.q (q.cm O) O<|R.q (q.aO O gO O) O<|R.s O (s.st 0 _ O O O O (.inr ⟨gC,rfl⟩) O O O O) fun _=>R.nil<|R.reg O<|R.u 2 O<|R.nil<|R.row0 (α:=Turn) 114 ?_
  have hz:ai dk=((⟨((bj dk).1).Now,(bj dk).1.Now,[],(bj dk).1.Fuse,(bj dk).1.Down⟩:cD),(bj dk).2):=by (unfold ai;(rw [if_pos ‹_›];simp_all))
  rw [hz]
  exact R.w1 (z1,z2,(nS)) [1,2,3,0,5] [] O Tryz.results80 (RV.tmp O) O O O O
 refine R.q (q.jF O O Tryz.underlying38) O<|R.nil<|R.aB O O<|R.reg O<|R.u 2 O<|R.nil ?_
 have hz:ai dk=(((bj dk).1),(bj dk).2):=by (unfold ai;(rw [if_neg ‹_›];done))
 rw [hz]
 exact R.w1 (z1,z2,z3) ig [] O Tryz.results80 (RV.tmp O) O O O O
end Go.Proofs.YtkbhcbipadkcaaaGreatDoor
