import Derived.Test.YtkbhcbipadkcaaaGreatDoorTO10
namespace Go.Proofs.YtkbhcbipadkcaaaGreatDoor
set_option linter.unusedVariables false
set_option linter.unusedSimpArgs false
open Go Go.RowKit
set_option maxRecDepth 100000
set_option maxHeartbeats 90000000
theorem u7 (bN:Value)(l:List ByteArray)(w:World)(own:List Nat)(H:HN w own [] [ag.ls bN l])(hl:l.length<=1000000):RC Tryz.prog 68 #[bN] H (fun z:Value=>z) (fun z=>[ag.row 9 z l]) (fun _=>[]):=by
 have yz:=H.cq 0 rfl
 refine R.bC [(0,bN)] Tryz.func68 O O O O H<|R.reg O<|R.u 1 O<|R.nil<|R.reg O<|R.u 1 O<|?_
 rcases Bool.eq_false_or_eq_true (px bN) with h1|h1
 .
  refine R.q (q.G4 (congrArg Value.bool h1) (q.pd (dw 0 O) O O Tryz.underlying109)) O<|R.nil<|R.av O O<|R.reg O<|R.u 1 O<|R.nil<|R.row0 (α:=ByteArray) 9 ?_
  have hz:l=[]:=by (exact Sl.px (H.bP 0 rfl) ‹_›)
  rw [hz]
  exact R.w1 (nS) [0,1] [] O Tryz.results68 (RV.tmp O) O O O O
 refine R.q (q.G4 (congrArg Value.bool h1) (q.pd (dw 0 O) O O Tryz.underlying109)) O<|R.nil<|R.aA O O<|R.reg O<|R.s O (s.bs (l:=([]:List ByteArray)) gy FT O O O O O O O) fun b1=>?_
 refine R.u 1 O<|R.s O (s.app 0 _ O O O (dw 0 O) I7 (by simp;omega) (by simp;omega) (fun _=>rfl) O) fun v1=>?_
 refine R.u 1 O<|R.nil ?_
 have hz:l=(([])++l):=by (rfl)
 rw [hz]
 exact R.w1 v1 [0,1] [] O Tryz.results68 (RV.tmp O) O O O O
theorem wN (sx:ByteArray)(w:World)(hs:sx.size<=48):Calls Tryz.prog 67 #[.string sx] w fun e w'=>e = .returned (.string (full sx))/\Ext w w':=by
 refine R.enter [] [(0,.string sx)] Tryz.func67 O O O O<|R.reg O<|R.u 1 O<|R.nil<|R.reg O<|R.u 2 O<|R.q (q.iA O Tryz.underlying9) O<|R.q (q.lT (r:=((48-sx.size:Nat):Int)) O O) O<|R.s O (s.TT (m:=(48-sx.size)) aR O O O O O (by omega) O) fun b1=>?_
 exact R.q (q.ki (bB 0 O) O aR Tryz.underlying5 Tryz.underlying9) O<|R.q (q.cat O O (by rw [aI (List.replicate _ _),List.length_replicate];omega)) O<|R.u 1 O<|R.nil<|R.rv O Tryz.results67 O (rS (by rfl))
theorem Cw (n:Nat)(w:World)(hn:n<=1000000):Calls Tryz.prog 132 #[.int .u64 ((1:Nat):Int),.int .u64 (n:Int)] w fun e w'=>e = .returned (.tuple #[.int .u64 0,.int .u64 (n:Int)])/\Ext w w' :=
 (Tryz.bits_Mul 1 n (by decide) (by omega) w).mono fun e w' ⟨h1,h2⟩=>⟨by
  rw [h1,Nat.one_mul,Nat.div_eq_of_lt (by omega),Nat.mod_eq_of_lt (by omega)];rfl,by rw [h2];exact Ext.refl _⟩
theorem Cx (a n:Nat)(w:World)(hn:a=1/\n<=1000000):Calls Tryz.prog 132 #[.int .u64 (a:Int),.int .u64 (n:Int)] w fun e w'=>e = .returned (.tuple #[.int .u64 0,.int .u64 (n:Int)])/\Ext w w':=by
 obtain ⟨rfl,hn⟩:=hn;exact Cw n w hn
theorem Cy {α:Type}{l x:List α}{a:α}{n k:Nat}(hx:x=List.replicate k a++l)(m:Nat)(hm:m<=k)(hl:k+m<=x.length):x.take k++(x.take k).take m++x.drop (k+m)=List.replicate (k+m) a++l.drop m:=by
 subst hx
 have h1:(List.replicate k a).length=k:=List.length_replicate
 rw [List.take_left' h1,List.take_replicate,Nat.min_eq_left hm,List.drop_append,h1,List.drop_of_length_le (by rw [h1];omega),List.nil_append,show k+m-k=m by omega,<- List.replicate_append_replicate]
theorem Cz (bN:Value)(l:List ByteArray)(n:Nat)(w:World)(own:List Nat)(H:HN w own [] [ag.ls bN l])(hl:l.length=1)(hn:1<=n/\n<=1000):RC Tryz.prog 66 #[bN,iV (n:Int)] H (fun z:Value=>z) (fun z=>[ag.row 9 z ((List.replicate n (l.headD ⟨#[]⟩)):List ByteArray)]) (fun _=>[]):=by
 have yz:=H.cq 0 rfl
 refine R.bC [(0,bN),(1,iV (n:Int))] Tryz.func66 O O O O H<|R.reg O<|R.u 1 O<|R.nil<|R.reg O<|R.u 1 O<|R.q (q.cU O O) O<|R.nil<|R.aA O O<|R.reg O<|R.u 1 O<|R.q (q.len' (dw 0 O) O Tryz.underlying109) O<|R.q (q.np (r:=((l.length:Nat):Int)) O (by rw [Tryz.underlying3];rfl) Tryz.underlying188 (Aq (by omega))) O<|R.u 1 O<|R.q (q.np (r:=((n:Nat):Int)) O (by rw [Tryz.underlying3];rfl) Tryz.underlying188 (Aq (by omega))) O<|R.c (q.call O8 O O (fun w hw=>(Cx l.length n w (by omega)))) O<|R.u 5 O<|R.nil ?_
 refine R.reg O<|R.u 1 O<|R.q (q.gtr (b:=false) O O (by decide)) O<|R.u 2 O<|R.qg O (q.eo O O) O<|R.u 1 O<|R.nil<|R.aA O O<|R.reg O<|R.u 1 O<|R.q (q.np (r:=((n:Nat):Int)) O (by rw [Tryz.underlying188];rfl) Tryz.underlying3 (wr (by omega))) O<|R.s O (s.Sd (m:=n) (z0:=(⟨#[]⟩:ByteArray)) gy O O O (by decide) O O (by simp [Enc.k];omega) O) fun b1=>?_
 refine R.u 1 O<|R.nil<|R.reg O<|R.u 2 O<|R.s O (s.EC (o:=0) (m:=1) 0 _ O (dw 0 O) O (.inr ⟨rfl,rfl⟩) O gy (by omega) (by omega) (by (simp;omega)) (by omega) O O) fun _=>?_
 refine R.u 1 O<|R.nil<|R.loop (fun g_:Nat×Value×(List ByteArray)=>[(7,g_.2.1),(8,iV (g_.1:Int))]) (fun g_=>[ag.row 9 g_.2.1 g_.2.2,ag.held w own]) (fun g_=>[ag.ls bN l]) (fun g_=>1<=g_.1/\g_.1<=n/\g_.2.2=List.replicate g_.1 (l.headD ⟨#[]⟩)++List.replicate (n-g_.1) (⟨#[]⟩:ByteArray)) (fun g_=>n-g_.1) (1,(.slice (some ⟨b1,0,none⟩) n n),((List.replicate n (⟨#[]⟩:ByteArray)).take 0++l.take 1++(List.replicate n (⟨#[]⟩:ByteArray)).drop (0+1))) O (by refine ⟨by omega,by omega,?_⟩;match l,hl with | [a],_=>simp) (sF O) (ic [0,1] [0] O) ?_
 rintro ⟨k,u,rs⟩ ⟨hk0,hk,HR⟩
 dsimp only at *
 have hrl:rs.length=n:=by rw [HR];simp;omega
 refine R.reg O<|R.u 2 O<|R.q (q.len' (bB 0 O) O Tryz.underlying109) O<|?_
 by_cases h1:k<rs.length
 .
  refine R.q (q.dx O O) O<|R.nil<|R.av O O<|R.fY (fuel:=10) [1] O O mixed O<|D.q (i:=0) O (aD [1] [0] O) O (q.mv O) O<|D.q (i:=1) O (aD [1] [0] O) O (q.mv O) O<|D.q (i:=2) O (aD [1] [0] O) O (q.mv O) O<|D.q (i:=4) O (aD [1] [0] O) O (q.mv O) O<|D.q (i:=5) O (aD [1] [0] O) O (q.mv O) O<|D.two (i:=3) (j:=6) O O ?_ ?_
  .
   refine Do.s (s.c (Qt.a (q.dA (i:=k) (bB 0 O) O O gy O (by omega))) O) (fun _=>(aD [1] [0] O)) O fun _=>?_
   refine D.one (i:=6) O<|Do.s (s.c (Qt.a (q.kI (i:=k) (bB 0 O) O O Tryz.underlying109 Cp O (by omega))) O) (fun _=>(aD [1] [0] O)) O fun _=>?_
   refine D.one (i:=7) O<|Do.s (s.EC (o:=k) (m:=(min k (n-k))) 0 _ O (fun w hw=>Sl.to (hw.row 0 O) (by omega)) O (.inl O) O gy (by omega) (by (simp;omega)) (by omega) (by (simp;omega)) O O) (fun _=>(aD [1] [0] O)) O fun _=>?_
   refine D.q (i:=8) O (aD [1] [0] O) O (q.bA (r:=((k+(min k (n-k)):Nat):Int)) O O) O<|D.q (i:=9) O (aD [1] [0] O) O (q.as O) O<|D.done<|R.back (k+min k (n-k),u,(rs.take k++(rs.take k).take (min k (n-k))++rs.drop (k+(min k (n-k))))) O (by (refine ⟨by omega,by omega,?_⟩;rw [Cy (n:=n) HR (min k (n-k)) (by omega) (by omega),List.drop_replicate,show n-k-min k (n-k)=n-(k+min k (n-k)) by omega])) (by dsimp only;omega) (sF O) (aD [0,1] [0] O)
  refine Do.s (s.c (Qt.a (q.kI (i:=k) (bB 0 O) O O Tryz.underlying109 Cp O (by omega))) O) (fun _=>(aD [1] [0] O)) O fun _=>?_
  refine D.one (i:=3) O<|Do.s (s.c (Qt.a (q.dA (i:=k) (bB 0 O) O O gy O (by omega))) O) (fun _=>(aD [1] [0] O)) O fun _=>?_
  refine D.one (i:=7) O<|Do.s (s.EC (o:=k) (m:=(min k (n-k))) 0 _ O (fun w hw=>Sl.to (hw.row 0 O) (by omega)) O (.inl O) O gy (by omega) (by (simp;omega)) (by omega) (by (simp;omega)) O O) (fun _=>(aD [1] [0] O)) O fun _=>?_
  refine D.q (i:=8) O (aD [1] [0] O) O (q.bA (r:=((k+(min k (n-k)):Nat):Int)) O O) O<|D.q (i:=9) O (aD [1] [0] O) O (q.as O) O<|D.done<|R.back (k+min k (n-k),u,(rs.take k++(rs.take k).take (min k (n-k))++rs.drop (k+(min k (n-k))))) O (by (refine ⟨by omega,by omega,?_⟩;rw [Cy (n:=n) HR (min k (n-k)) (by omega) (by omega),List.drop_replicate,show n-k-min k (n-k)=n-(k+min k (n-k)) by omega])) (by dsimp only;omega) (sF O) (aD [0,1] [0] O)
 refine R.q (q.cU O O) O<|R.nil<|R.aA O O<|R.reg O<|R.u 2 O<|R.nil ?_
 have hz:List.replicate n (l.headD ⟨#[]⟩)=rs:=by (rw [HR,show k=n by omega];simp)
 rw [hz]
 exact R.w1 u [0,1] [] O Tryz.results66 (RV.tmp O) O O O O
theorem JF (n:Int)(w:World)(own:List Nat)(H:HN w own [] [])(hn:1<=n/\n<=200):RC Tryz.prog 30 #[iV n] H (fun z:Nat×Value×Value×Value => .tuple #[.pointer (some ⟨z.1,0,none⟩),.nilIface]) (fun z=>[ag.box z.1 [z.2.1,z.2.2.1,z.2.2.2,iV (dNew (Int.toNat n)).Fuse,.bool (dNew (Int.toNat n)).Down] 112,ag.row 9 z.2.1 (dNew (Int.toNat n)).Kept,ag.row 9 z.2.2.1 (dNew (Int.toNat n)).Now,ag.row 114 z.2.2.2 (dNew (Int.toNat n)).Wait]) (fun _=>[]):=by
 obtain ⟨nN,Vp⟩:∃m:Nat,n=(m:Int):=⟨n.toNat,by omega⟩;subst Vp
 refine R.bC [(0,iV (nN:Int))] Tryz.func30 O O O O H<|R.reg O<|R.u 2 O<|R.nil<|R.reg O<|R.u 1 O<|R.q (q.cU O O) O<|R.u 2 O<|R.qg O (q.eo O O) O<|R.u 1 O<|R.nil<|R.aA O O<|R.reg O<|R.c (q.call Je O O (fun w hw=>(wN (⟨#[]⟩) w (by decide)))) O<|?_
 refine R.s O (s.bs (l:=([full (⟨#[]⟩)]:List ByteArray)) gy FT O O O O O O O) fun b1=>?_
 refine R.u 1 O<|R.s O (s.EE (Bl:=[ag.row 9 (.slice (some ⟨b1,0,none⟩) 1 1) ([full (⟨#[]⟩)]:List ByteArray)]) (Fl:=[ag.ls (.slice (some ⟨b1,0,none⟩) 1 1) ([full (⟨#[]⟩)]:List ByteArray)]) [0,1] [0] (fun kQ:Value=>kQ) (fun kQ:Value=>[ag.row 9 kQ ((List.replicate nN (([full (⟨#[]⟩)]).headD ⟨#[]⟩)):List ByteArray)]) O O (qD wH) O R3 O O (fun w own hw H=>Cz (.slice (some ⟨b1,0,none⟩) 1 1) ([full (⟨#[]⟩)]) nN w own H (by rfl) (by omega)) O) fun z1=>?_
 refine R.u 1 O<|R.nil<|R.reg O<|R.u 2 O<|R.s O (s.EE (Bl:=[ag.row 9 z1 (List.replicate nN (([full (⟨#[]⟩)]).headD ⟨#[]⟩):List ByteArray)]) (Fl:=[ag.ls z1 (List.replicate nN (([full (⟨#[]⟩)]).headD ⟨#[]⟩):List ByteArray)]) [0,1,2] [0] (fun kQ:Value=>kQ) (fun kQ:Value=>[ag.row 9 kQ ((List.replicate nN (([full (⟨#[]⟩)]).headD ⟨#[]⟩)):List ByteArray)]) O O (qD wH) O R4 O O (fun w own hw H=>u7 z1 (List.replicate nN (([full (⟨#[]⟩)]).headD ⟨#[]⟩)) w own H (by (simp;omega))) O) fun z2=>?_
 refine R.q (q.JC OW O (fun w hw=>(sR (Sl.ED (hw.row 1 O)) (sR (Sl.ED (hw.row 0 O)) (sR O JB)))) O) O<|R.s O (s.box O O O) fun b2=>?_
 refine R.u 2 O<|R.nil<|R.row0 (α:=Turn) 114 ?_
 have hz:dNew (Int.toNat ((nN:Nat):Int))=(⟨List.replicate nN (([full (⟨#[]⟩)]).headD ⟨#[]⟩),(List.replicate nN (([full (⟨#[]⟩)]).headD ⟨#[]⟩)),[],-1,false⟩:cw):=by (rfl)
 rw [hz]
 exact R.w2 (b2,z1,z2,(nS)) [1,3,2,0,5] [] O Tryz.results30 (RV.tmp O) (RV.tmp O) O O O (dy O O)
theorem gE (aH:Nat)(ay aG az:Value)(dk:cw)(w:World)(wO:(ag.box aH [ay,aG,az,iV dk.Fuse,.bool dk.Down] 112).ok w)(jY:Sl w ay (dk.Kept:List ByteArray))(kR:Sl w aG (dk.Now:List ByteArray))(jZ:Sl w az (dk.Wait:List Turn)):Calls Tryz.prog 83 #[.pointer (some ⟨aH,0,none⟩)] w fun e w'=>e = .returned (iV (dk.Now.length:Int))/\Ext w w':=by
 exact R.enter [] [(0,.pointer (some ⟨aH,0,none⟩))] Tryz.func83 rfl rfl rfl rfl<|R.pO jY<|R.pO kR<|R.pO jZ<|R.nI (r:=ag.box aH [ay,aG,az,iV dk.Fuse,.bool dk.Down] 112) wO (jQ wO)<|R.reg rfl<|R.u 1 rfl<|R.nil<|R.reg rfl<|R.u 1 rfl<|R.q (q.cb rfl) rfl<|R.q (q.aO rfl iX rfl) rfl<|R.q (q.yx 0 rfl rfl gA rfl) rfl<|R.q (q.len' (fun _=>Wd.bP 2 rfl) rfl Tryz.underlying109) rfl<|R.u 1 rfl<|R.nil<|R.rv rfl Tryz.results83 rfl (rI (by rfl))
theorem zn (aH:Nat)(ay aG az:Value)(dk:cw)(w:World)(wO:(ag.box aH [ay,aG,az,iV dk.Fuse,.bool dk.Down] 112).ok w)(jY:Sl w ay (dk.Kept:List ByteArray))(kR:Sl w aG (dk.Now:List ByteArray))(jZ:Sl w az (dk.Wait:List Turn)):Calls Tryz.prog 84 #[.pointer (some ⟨aH,0,none⟩)] w fun e w'=>e = .returned (.bool dk.Down)/\Ext w w':=by
 exact R.enter [] [(0,.pointer (some ⟨aH,0,none⟩))] Tryz.func84 rfl rfl rfl rfl<|R.pO jY<|R.pO kR<|R.pO jZ<|R.nI (r:=ag.box aH [ay,aG,az,iV dk.Fuse,.bool dk.Down] 112) wO (jQ wO)<|R.reg rfl<|R.u 1 rfl<|R.nil<|R.reg rfl<|R.u 1 rfl<|R.q (q.cb rfl) rfl<|R.q (q.aO rfl jR rfl) rfl<|R.q (q.yx 0 rfl rfl iW rfl) rfl<|R.u 1 rfl<|R.nil<|R.rv rfl Tryz.results84 rfl (rB (by rfl))
theorem tO (aH:Nat)(ay aG az:Value)(dk:cw)(i:Int)(w:World)(wO:(ag.box aH [ay,aG,az,iV dk.Fuse,.bool dk.Down] 112).ok w)(jY:Sl w ay (dk.Kept:List ByteArray))(kR:Sl w aG (dk.Now:List ByteArray))(jZ:Sl w az (dk.Wait:List Turn)):Calls Tryz.prog 85 #[.pointer (some ⟨aH,0,none⟩),iV i] w fun e w'=>e = .returned (.tuple #[.string (bY dk i).1,df (bY dk i).2])/\Ext w w':=by
 refine R.enter [] [(0,.pointer (some ⟨aH,0,none⟩)),(1,iV i)] Tryz.func85 O O O O<|R.pO jY<|R.pO kR<|R.pO jZ<|R.nI (r:=ag.box aH [ay,aG,az,iV dk.Fuse,.bool dk.Down] 112) wO (jQ wO)<|R.reg O<|R.u 2 O<|R.nil<|R.reg O<|R.u 1 O<|R.q (q.cb O) O<|R.q (q.aO O jR O) O<|R.q (q.yx 0 O O iW O) O<|R.nil<|R.cond O O (fun h1=>?_) (fun h1=>?_)
 .
  exact R.reg O<|R.q (q.iface O bj) O<|R.u 2 O<|R.nil<|R.FM O Tryz.results85 O O (rS (by (rw [wK ‹_›];done))) (dj (by decide) (by (rw [wK ‹_›];done)))
 refine R.reg O<|R.u 1 O<|?_
 by_cases h2:i<0
 .
  exact R.q (q.dx O O) O<|R.u 9 O<|R.nil<|R.av O O<|R.reg O<|R.q (q.iface O bj) O<|R.u 2 O<|R.nil<|R.FM O Tryz.results85 O O (rS (by (rw [qE ‹_› (by omega)];done))) (dj (by decide) (by (rw [qE ‹_› (by omega)];done)))
 refine R.q (q.cU O O) O<|R.u 3 O<|R.qg O (q.cb O) O<|R.qg O (q.aO O iX O) O<|R.qg O (q.yx 0 O O gA O) O<|R.qg O (q.len' (dw 2 O) O Tryz.underlying109) O<|?_
 by_cases h3:i<(dk.Now.length:Int)
 .
  refine R.qg O (q.IP O O) O<|R.u 1 O<|R.nil<|R.aA O O<|R.reg O<|R.u 1 O<|R.q (q.cb O) O<|R.q (q.aO O iX O) O<|R.q (q.yx 0 O O gA O) O<|R.u 1 O<|?_
  obtain ⟨x1,hx1⟩:∃z,dk.Now[i.toNat]? = some z:=⟨_,List.getElem?_eq_getElem (by omega)⟩
  exact R.q (q.idx (i:=i.toNat) (dw 2 O) O O gy (by omega) hx1) O<|R.q (q.lv (dw 2 O) hx1 O bE O) O<|R.u 2 O<|R.nil<|R.FM O Tryz.results85 O O (rS (by (rw [pU ‹_› (by omega) hx1];done))) (iK (by (rw [pU ‹_› (by omega) hx1];done)))
 exact R.qg O (q.G0 O O) O<|R.u 1 O<|R.nil<|R.av O O<|R.reg O<|R.q (q.iface O bj) O<|R.u 2 O<|R.nil<|R.FM O Tryz.results85 O O (rS (by (rw [qE ‹_› (by omega)];done))) (dj (by decide) (by (rw [qE ‹_› (by omega)];done)))
theorem zo (aH:Nat)(ay aG az:Value)(dk:cw)(w:World)(own:List Nat)(H:HN w own [ag.box aH [ay,aG,az,iV dk.Fuse,.bool dk.Down] 112,ag.row 9 ay dk.Kept,ag.row 9 aG dk.Now,ag.row 114 az dk.Wait] [])(hf : -1<=dk.Fuse/\dk.Fuse<=9223372036854775807):RC Tryz.prog 139 #[.pointer (some ⟨aH,0,none⟩)] H (fun _:Value×Value×Value=>df (bq dk).2) (fun z=>[ag.box aH [z.1,z.2.1,z.2.2,iV (bq dk).1.Fuse,.bool (bq dk).1.Down] 112,ag.row 9 z.1 (bq dk).1.Kept,ag.row 9 z.2.1 (bq dk).1.Now,ag.row 114 z.2.2 (bq dk).1.Wait]) (fun _=>[]):=by
 have eE:=H.cap 1 rfl;have eF:=H.cL 1 rfl
 have fC:=H.cap 2 rfl;have fD:=H.cL 2 rfl
 have eG:=H.cap 3 rfl;have eH:=H.cL 3 rfl
 refine R.bC [(0,.pointer (some ⟨aH,0,none⟩))] Tryz.func139 O O O O H<|R.reg O<|R.u 1 O<|R.nil<|R.reg O<|R.u 1 O<|R.q (q.cb O) O<|R.q (q.aO O jR O) O<|R.q (q.ld 0 O O iW O) O<|R.q (q.not O) O<|R.u 1 O<|?_
 rcases Bool.eq_false_or_eq_true dk.Down with h1|h1
 .
  rw [h1]
  refine R.u 6 O<|R.nil<|R.aA O O<|R.reg O<|R.u 1 O<|R.q (q.cb O) O<|R.q (q.aO O jR O) O<|R.q (q.ld 0 O O iW O) O<|R.nil<|R.av O O<|R.reg O<|R.q (q.iface O bj) O<|R.u 1 O<|R.nil ?_
  have hz:bq dk=((⟨dk.Kept,dk.Now,dk.Wait,dk.Fuse,true⟩:cw),10):=by (exact wJ ‹_›)
  rw [hz]
  exact R.w1 (ay,aG,az) gX [] O Tryz.results139 (RV.tmp O) O O O (dj (by decide) O)
 rw [h1]
 refine R.u 1 O<|R.qg O (q.cb O) O<|R.qg O (q.aO O oz O) O<|R.qg O (q.ld 0 O O au O) O<|?_
 by_cases h2:dk.Fuse=0
 .
  refine R.qg O (q.fN O O) O<|R.u 1 O<|R.nil<|R.av O O<|R.reg O<|R.u 2 O<|R.q (q.cb O) O<|R.q (q.aO O jR O) O<|R.s O (s.st 0 _ O O O O (.inr ⟨iW,rfl⟩) O O O O) fun _=>?_
  refine R.q (q.cb O) O<|R.q (q.aO O oz O) O<|R.s O (s.st 0 _ O O O O (.inr ⟨au,rfl⟩) O O O O) fun _=>?_
  refine R.nil<|R.reg O<|R.u 1 O<|R.q (q.cb O) O<|R.q (q.aO O jR O) O<|R.q (q.ld 0 O O iW O) O<|R.nil<|R.av O O<|R.reg O<|R.q (q.iface O bj) O<|R.u 1 O<|R.nil ?_
  have hz:bq dk=((⟨dk.Kept,dk.Now,dk.Wait,-1,true⟩:cw),10):=by (exact rR ‹_› ‹_›)
  rw [hz]
  exact R.w1 (ay,aG,az) gX [] O Tryz.results139 (RV.tmp O) O O O (dj (by decide) O)
 refine R.qg O (q.e8 O O) O<|R.u 1 O<|R.nil<|R.aA O O<|R.reg O<|R.u 1 O<|R.q (q.cb O) O<|R.q (q.aO O jR O) O<|R.q (q.ld 0 O O iW O) O<|R.nil<|R.aA O O<|R.reg O<|R.u 2 O<|R.q (q.cb O) O<|R.q (q.aO O oz O) O<|R.q (q.ld 0 O O au O) O<|R.q (q.lT (r:=dk.Fuse-1) O O) O<|R.q (q.max (r:=max (dk.Fuse-1) (-1)) O O O) O<|R.q (q.cb O) O<|R.q (q.aO O oz O) O<|R.s O (s.st 0 _ O O O O (.inr ⟨au,rfl⟩) O O O O) fun _=>?_
 refine R.nil<|R.reg O<|R.u 1 O<|R.nil ?_
 have hz:bq dk=((⟨dk.Kept,dk.Now,dk.Wait,(max (dk.Fuse-1) (-1)),false⟩:cw),0):=by (exact sS ‹_› ‹_›)
 rw [hz]
 exact R.w1 (ay,aG,az) gX [] O Tryz.results139 (RV.tmp O) O O O (iK O)
theorem jd (aH:Nat)(ay aG az:Value)(dk:cw)(i:Int)(sx:ByteArray)(w:World)(own:List Nat)(H:HN w own [ag.box aH [ay,aG,az,iV dk.Fuse,.bool dk.Down] 112,ag.row 9 ay dk.Kept,ag.row 9 aG dk.Now,ag.row 114 az dk.Wait] [])(hd:dk.Kept.length=dk.Now.length/\dk.Now.length<=100000/\dk.Wait.length<=100000 /\ -1<=dk.Fuse/\dk.Fuse<=9223372036854775807):RC Tryz.prog 79 #[.pointer (some ⟨aH,0,none⟩),iV i,.string sx] H (fun _:Value×Value×Value=>df (ap dk i sx).2) (fun z=>[ag.box aH [z.1,z.2.1,z.2.2,iV (ap dk i sx).1.Fuse,.bool (ap dk i sx).1.Down] 112,ag.row 9 z.1 (ap dk i sx).1.Kept,ag.row 9 z.2.1 (ap dk i sx).1.Now,ag.row 114 z.2.2 (ap dk i sx).1.Wait]) (fun _=>[]):=by
 have eE:=H.cap 1 rfl;have eF:=H.cL 1 rfl
 have fC:=H.cap 2 rfl;have fD:=H.cL 2 rfl
 have eG:=H.cap 3 rfl;have eH:=H.cL 3 rfl
 have hsl:=mY dk;have hs1:=congrArg List.length hsl.1;have hs2:=congrArg List.length hsl.2.1;have hs3:=congrArg List.length hsl.2.2
 refine R.bC [(0,.pointer (some ⟨aH,0,none⟩)),(1,iV i),(2,.string sx)] Tryz.func79 O O O O H<|R.reg O<|R.u 1 O<|R.nil<|R.reg O<|R.u 1 O<|?_
 by_cases h1:i<0
 .
  refine R.q (q.dx O O) O<|R.u 14 O<|R.nil<|R.av O O<|R.reg O<|R.q (q.iface O bj) O<|R.u 1 O<|R.nil ?_
  have hz:ap dk i sx=(dk,1):=by (exact mA (by omega))
  rw [hz]
  exact R.w1 (ay,aG,az) gX [] O Tryz.results79 (RV.tmp O) O O O (dj (by decide) O)
 refine R.q (q.cU O O) O<|R.u 3 O<|R.qg O (q.cb O) O<|R.qg O (q.aO O iX O) O<|R.qg O (q.ld 0 O O gA O) O<|R.qg O (q.len' (bB 2 O) O Tryz.underlying109) O<|?_
 by_cases h2:i<(dk.Now.length:Int)
 .
  refine R.qg O (q.IP O O) O<|R.u 3 O<|R.qg O (q.iA O Tryz.underlying9) O<|?_
  by_cases h3:48<sx.size
  .
   refine R.qg O (q.eL O O) O<|R.u 1 O<|R.nil<|R.av O O<|R.reg O<|R.q (q.iface O bj) O<|R.u 1 O<|R.nil ?_
   have hz:ap dk i sx=(dk,1):=by (exact mA (by omega))
   rw [hz]
   exact R.w1 (ay,aG,az) gX [] O Tryz.results79 (RV.tmp O) O O O (dj (by decide) O)
  refine R.qg O (q.eo O O) O<|R.u 1 O<|R.nil<|R.aA O O<|R.reg O<|R.u 1 O<|R.s O (s.aW gX [] _ _ _ O O O Jm O O (fun w own hw H=>zo aH ay aG az dk w own H (by omega)) O) ?_
  rintro ⟨z1,z2,z3⟩
  dsimp only
  refine R.u 1 O<|R.nil<|R.reg O<|R.u 1 O<|?_
  by_cases h4:(bq dk).2=0
  .
   refine R.q (q.mo O O Tryz.underlying38) O<|R.nil<|R.av O O ?_
   obtain ⟨x1,hx1⟩:∃z,((bq dk).1.Now)[i.toNat]? = some z:=⟨_,List.getElem?_eq_getElem (by omega)⟩
   refine R.fY (fuel:=9) [1,3,4] O O mixed O<|D.q (i:=0) O (aD [1,3,4] [] O) O (q.mv O) O<|D.q (i:=1) O (aD [1,3,4] [] O) O (q.cb O) O<|D.q (i:=2) O (aD [1,3,4] [] O) O (q.aO O iX O) O<|D.q (i:=4) O (aD [1,3,4] [] O) O (q.mv O) O<|D.q (i:=5) O (aD [1,3,4] [] O) O (q.mv O) O<|D.two (i:=3) (j:=6) O O ?_ ?_
   .
    refine Do.s (s.c (Qt.a (q.ld 0 O O gA O)) O) (fun _=>(aD [1,3,4] [] O)) O fun _=>?_
    refine D.one (i:=6) O<|Do.s (s.c (q.call Je O O (fun w hw=>(wN sx w (by omega)))) O) (fun _=>(aD [1,3,4] [] O)) O fun _=>?_
    refine D.one (i:=7) O<|Do.s (s.c (Qt.a (q.idx (i:=i.toNat) (bB 2 O) O O gy (by omega) hx1)) O) (fun _=>(aD [1,3,4] [] O)) O fun _=>?_
    refine D.one (i:=8) O<|Do.s (s.QY (z:=full sx) 2 _ O hx1 O O O O (.inr ⟨bE,rfl⟩) O) (fun _=>(aD [1,3,4] [] O)) O fun _=>?_
    refine D.done<|?_
    obtain ⟨x2,hx2⟩:∃z,((bq dk).1.Now.set i.toNat (full sx))[i.toNat]? = some z:=⟨_,List.getElem?_eq_getElem (by (simp;omega))⟩
    refine R.fY (fuel:=19) [1,2,4] O O mixed O<|D.q (i:=0) O (aD [1,2,4] [] O) O (q.mv O) O<|D.q (i:=1) O (aD [1,2,4] [] O) O (q.mv O) O<|D.q (i:=2) O (aD [1,2,4] [] O) O (q.cb O) O<|D.q (i:=3) O (aD [1,2,4] [] O) O (q.aO O gM O) O<|D.q (i:=5) O (aD [1,2,4] [] O) O (q.mv O) O<|D.q (i:=6) O (aD [1,2,4] [] O) O (q.mv O) O<|D.q (i:=7) O (aD [1,2,4] [] O) O (q.cb O) O<|D.q (i:=8) O (aD [1,2,4] [] O) O (q.aO O iX O) O<|D.q (i:=10) O (aD [1,2,4] [] O) O (q.mv O) O<|D.two (i:=4) (j:=9) O O ?_ ?_
    .
     refine Do.s (s.c (Qt.a (q.ld 0 O O gB O)) O) (fun _=>(aD [1,2,4] [] O)) O fun _=>?_
     refine D.one (i:=9) O<|Do.s (s.c (Qt.a (q.ld 0 O O gA O)) O) (fun _=>(aD [1,2,4] [] O)) O fun _=>?_
     refine D.q (i:=11) O (aD [1,2,4] [] O) O (q.idx (i:=i.toNat) (bB 1 O) O O gy (by omega) hx2) O<|D.q (i:=12) O (aD [1,2,4] [] O) O (q.lv (bB 1 O) hx2 O bE O) O<|D.q (i:=13) O (aD [1,2,4] [] O) O (q.build Aw O O) O<|D.one (i:=14) O<|Do.s (s.bs (l:=([(⟨i,x2⟩:Turn)]:List Turn)) qC l7 O O O O O O O) (fun _=>(aD [2,3,5] [] O)) O fun b1=>?_
     refine D.one (i:=15) O<|Do.s (s.app 4 _ O O O (bB 0 O) nM (by (simp;omega)) (by (simp;omega)) (fun _=>rfl) O) (fun _=>(aD [2,3,5] [] O)) O fun v1=>?_
     refine D.q (i:=16) O (aD [2,3,5] [] O) O (q.cb O) O<|D.q (i:=17) O (aD [2,3,5] [] O) O (q.aO O gM O) O<|D.one (i:=18) O<|Do.s (s.fX 1 _ O O O (fun w hw=>Sl.cm (hw.row 4 O)) (.inr ⟨gB,rfl⟩) (fun w hw=>(af (Sl.one (hw.row 4 O)) aP)) O O O) (fun _=>(aD [2,3,5] [] O)) O fun _=>?_
     refine D.done<|R.reg O<|R.u 2 O<|R.nil ?_
     have hz:ap dk i sx=((⟨((bq dk).1).Kept,((bq dk).1.Now.set i.toNat (full sx)),(((bq dk).1.Wait)++([(⟨i,x2⟩:Turn)])),(bq dk).1.Fuse,(bq dk).1.Down⟩:cw),(bq dk).2):=by (rw [iH (by omega) (by omega) (by omega) ‹_›];simp_all;done)
     rw [hz]
     exact R.w1 (z1,z2,v1) uw [] O Tryz.results79 (RV.tmp O) O O O O
    refine Do.s (s.c (Qt.a (q.ld 0 O O gA O)) O) (fun _=>(aD [1,2,4] [] O)) O fun _=>?_
    refine D.q (i:=11) O (aD [1,2,4] [] O) O (q.idx (i:=i.toNat) (bB 1 O) O O gy (by omega) hx2) O<|D.q (i:=12) O (aD [1,2,4] [] O) O (q.lv (bB 1 O) hx2 O bE O) O<|D.q (i:=13) O (aD [1,2,4] [] O) O (q.build Aw O O) O<|D.two (i:=4) (j:=14) O O ?_ ?_
    .
     refine Do.s (s.c (Qt.a (q.ld 0 O O gB O)) O) (fun _=>(aD [1,2,4] [] O)) O fun _=>?_
     refine D.one (i:=14) O<|Do.s (s.bs (l:=([(⟨i,x2⟩:Turn)]:List Turn)) qC l7 O O O O O O O) (fun _=>(aD [2,3,5] [] O)) O fun b2=>?_
     refine D.one (i:=15) O<|Do.s (s.app 4 _ O O O (bB 0 O) nM (by (simp;omega)) (by (simp;omega)) (fun _=>rfl) O) (fun _=>(aD [2,3,5] [] O)) O fun v2=>?_
     refine D.q (i:=16) O (aD [2,3,5] [] O) O (q.cb O) O<|D.q (i:=17) O (aD [2,3,5] [] O) O (q.aO O gM O) O<|D.one (i:=18) O<|Do.s (s.fX 1 _ O O O (fun w hw=>Sl.cm (hw.row 4 O)) (.inr ⟨gB,rfl⟩) (fun w hw=>(af (Sl.one (hw.row 4 O)) aP)) O O O) (fun _=>(aD [2,3,5] [] O)) O fun _=>?_
     refine D.done<|R.reg O<|R.u 2 O<|R.nil ?_
     have hz:ap dk i sx=((⟨((bq dk).1).Kept,((bq dk).1.Now.set i.toNat (full sx)),(((bq dk).1.Wait)++([(⟨i,x2⟩:Turn)])),(bq dk).1.Fuse,(bq dk).1.Down⟩:cw),(bq dk).2):=by (rw [iH (by omega) (by omega) (by omega) ‹_›];simp_all;done)
     rw [hz]
     exact R.w1 (z1,z2,v2) uw [] O Tryz.results79 (RV.tmp O) O O O O
    refine Do.s (s.bs (l:=([(⟨i,x2⟩:Turn)]:List Turn)) qC l7 O O O O O O O) (fun _=>(aD [2,3,5] [] O)) O fun b3=>?_
    refine D.one (i:=4) O<|Do.s (s.c (Qt.a (q.ld 1 O O gB O)) O) (fun _=>(aD [2,3,5] [] O)) O fun _=>?_
    refine D.one (i:=15) O<|Do.s (s.app 4 _ O O O (bB 0 O) nM (by (simp;omega)) (by (simp;omega)) (fun _=>rfl) O) (fun _=>(aD [2,3,5] [] O)) O fun v3=>?_
    refine D.q (i:=16) O (aD [2,3,5] [] O) O (q.cb O) O<|D.q (i:=17) O (aD [2,3,5] [] O) O (q.aO O gM O) O<|D.one (i:=18) O<|Do.s (s.fX 1 _ O O O (fun w hw=>Sl.cm (hw.row 4 O)) (.inr ⟨gB,rfl⟩) (fun w hw=>(af (Sl.one (hw.row 4 O)) aP)) O O O) (fun _=>(aD [2,3,5] [] O)) O fun _=>?_
    refine D.done<|R.reg O<|R.u 2 O<|R.nil ?_
    have hz:ap dk i sx=((⟨((bq dk).1).Kept,((bq dk).1.Now.set i.toNat (full sx)),(((bq dk).1.Wait)++([(⟨i,x2⟩:Turn)])),(bq dk).1.Fuse,(bq dk).1.Down⟩:cw),(bq dk).2):=by (rw [iH (by omega) (by omega) (by omega) ‹_›];simp_all;done)
    rw [hz]
    exact R.w1 (z1,z2,v3) uw [] O Tryz.results79 (RV.tmp O) O O O O
   refine Do.s (s.c (q.call Je O O (fun w hw=>(wN sx w (by omega)))) O) (fun _=>(aD [1,3,4] [] O)) O fun _=>?_
   refine D.one (i:=3) O<|Do.s (s.c (Qt.a (q.ld 0 O O gA O)) O) (fun _=>(aD [1,3,4] [] O)) O fun _=>?_
   refine D.one (i:=7) O<|Do.s (s.c (Qt.a (q.idx (i:=i.toNat) (bB 2 O) O O gy (by omega) hx1)) O) (fun _=>(aD [1,3,4] [] O)) O fun _=>?_
   refine D.one (i:=8) O<|Do.s (s.QY (z:=full sx) 2 _ O hx1 O O O O (.inr ⟨bE,rfl⟩) O) (fun _=>(aD [1,3,4] [] O)) O fun _=>?_
   refine D.done<|?_
   obtain ⟨x3,hx3⟩:∃z,((bq dk).1.Now.set i.toNat (full sx))[i.toNat]? = some z:=⟨_,List.getElem?_eq_getElem (by (simp;omega))⟩
   refine R.fY (fuel:=19) [1,2,4] O O mixed O<|D.q (i:=0) O (aD [1,2,4] [] O) O (q.mv O) O<|D.q (i:=1) O (aD [1,2,4] [] O) O (q.mv O) O<|D.q (i:=2) O (aD [1,2,4] [] O) O (q.cb O) O<|D.q (i:=3) O (aD [1,2,4] [] O) O (q.aO O gM O) O<|D.q (i:=5) O (aD [1,2,4] [] O) O (q.mv O) O<|D.q (i:=6) O (aD [1,2,4] [] O) O (q.mv O) O<|D.q (i:=7) O (aD [1,2,4] [] O) O (q.cb O) O<|D.q (i:=8) O (aD [1,2,4] [] O) O (q.aO O iX O) O<|D.q (i:=10) O (aD [1,2,4] [] O) O (q.mv O) O<|D.two (i:=4) (j:=9) O O ?_ ?_
   .
    refine Do.s (s.c (Qt.a (q.ld 0 O O gB O)) O) (fun _=>(aD [1,2,4] [] O)) O fun _=>?_
    refine D.one (i:=9) O<|Do.s (s.c (Qt.a (q.ld 0 O O gA O)) O) (fun _=>(aD [1,2,4] [] O)) O fun _=>?_
    refine D.q (i:=11) O (aD [1,2,4] [] O) O (q.idx (i:=i.toNat) (bB 1 O) O O gy (by omega) hx3) O<|D.q (i:=12) O (aD [1,2,4] [] O) O (q.lv (bB 1 O) hx3 O bE O) O<|D.q (i:=13) O (aD [1,2,4] [] O) O (q.build Aw O O) O<|D.one (i:=14) O<|Do.s (s.bs (l:=([(⟨i,x3⟩:Turn)]:List Turn)) qC l7 O O O O O O O) (fun _=>(aD [2,3,5] [] O)) O fun b4=>?_
    refine D.one (i:=15) O<|Do.s (s.app 4 _ O O O (bB 0 O) nM (by (simp;omega)) (by (simp;omega)) (fun _=>rfl) O) (fun _=>(aD [2,3,5] [] O)) O fun v4=>?_
    refine D.q (i:=16) O (aD [2,3,5] [] O) O (q.cb O) O<|D.q (i:=17) O (aD [2,3,5] [] O) O (q.aO O gM O) O<|D.one (i:=18) O<|Do.s (s.fX 1 _ O O O (fun w hw=>Sl.cm (hw.row 4 O)) (.inr ⟨gB,rfl⟩) (fun w hw=>(af (Sl.one (hw.row 4 O)) aP)) O O O) (fun _=>(aD [2,3,5] [] O)) O fun _=>?_
    refine D.done<|R.reg O<|R.u 2 O<|R.nil ?_
    have hz:ap dk i sx=((⟨((bq dk).1).Kept,((bq dk).1.Now.set i.toNat (full sx)),(((bq dk).1.Wait)++([(⟨i,x3⟩:Turn)])),(bq dk).1.Fuse,(bq dk).1.Down⟩:cw),(bq dk).2):=by (rw [iH (by omega) (by omega) (by omega) ‹_›];simp_all;done)
    rw [hz]
    exact R.w1 (z1,z2,v4) uw [] O Tryz.results79 (RV.tmp O) O O O O
   refine Do.s (s.c (Qt.a (q.ld 0 O O gA O)) O) (fun _=>(aD [1,2,4] [] O)) O fun _=>?_
   refine D.q (i:=11) O (aD [1,2,4] [] O) O (q.idx (i:=i.toNat) (bB 1 O) O O gy (by omega) hx3) O<|D.q (i:=12) O (aD [1,2,4] [] O) O (q.lv (bB 1 O) hx3 O bE O) O<|D.q (i:=13) O (aD [1,2,4] [] O) O (q.build Aw O O) O<|D.two (i:=4) (j:=14) O O ?_ ?_
   .
    refine Do.s (s.c (Qt.a (q.ld 0 O O gB O)) O) (fun _=>(aD [1,2,4] [] O)) O fun _=>?_
    refine D.one (i:=14) O<|Do.s (s.bs (l:=([(⟨i,x3⟩:Turn)]:List Turn)) qC l7 O O O O O O O) (fun _=>(aD [2,3,5] [] O)) O fun b5=>?_
    refine D.one (i:=15) O<|Do.s (s.app 4 _ O O O (bB 0 O) nM (by (simp;omega)) (by (simp;omega)) (fun _=>rfl) O) (fun _=>(aD [2,3,5] [] O)) O fun v5=>?_
    refine D.q (i:=16) O (aD [2,3,5] [] O) O (q.cb O) O<|D.q (i:=17) O (aD [2,3,5] [] O) O (q.aO O gM O) O<|D.one (i:=18) O<|Do.s (s.fX 1 _ O O O (fun w hw=>Sl.cm (hw.row 4 O)) (.inr ⟨gB,rfl⟩) (fun w hw=>(af (Sl.one (hw.row 4 O)) aP)) O O O) (fun _=>(aD [2,3,5] [] O)) O fun _=>?_
    refine D.done<|R.reg O<|R.u 2 O<|R.nil ?_
    have hz:ap dk i sx=((⟨((bq dk).1).Kept,((bq dk).1.Now.set i.toNat (full sx)),(((bq dk).1.Wait)++([(⟨i,x3⟩:Turn)])),(bq dk).1.Fuse,(bq dk).1.Down⟩:cw),(bq dk).2):=by (rw [iH (by omega) (by omega) (by omega) ‹_›];simp_all;done)
    rw [hz]
    exact R.w1 (z1,z2,v5) uw [] O Tryz.results79 (RV.tmp O) O O O O
   refine Do.s (s.bs (l:=([(⟨i,x3⟩:Turn)]:List Turn)) qC l7 O O O O O O O) (fun _=>(aD [2,3,5] [] O)) O fun b6=>?_
   refine D.one (i:=4) O<|Do.s (s.c (Qt.a (q.ld 1 O O gB O)) O) (fun _=>(aD [2,3,5] [] O)) O fun _=>?_
   refine D.one (i:=15) O<|Do.s (s.app 4 _ O O O (bB 0 O) nM (by (simp;omega)) (by (simp;omega)) (fun _=>rfl) O) (fun _=>(aD [2,3,5] [] O)) O fun v6=>?_
   refine D.q (i:=16) O (aD [2,3,5] [] O) O (q.cb O) O<|D.q (i:=17) O (aD [2,3,5] [] O) O (q.aO O gM O) O<|D.one (i:=18) O<|Do.s (s.fX 1 _ O O O (fun w hw=>Sl.cm (hw.row 4 O)) (.inr ⟨gB,rfl⟩) (fun w hw=>(af (Sl.one (hw.row 4 O)) aP)) O O O) (fun _=>(aD [2,3,5] [] O)) O fun _=>?_
   refine D.done<|R.reg O<|R.u 2 O<|R.nil ?_
   have hz:ap dk i sx=((⟨((bq dk).1).Kept,((bq dk).1.Now.set i.toNat (full sx)),(((bq dk).1.Wait)++([(⟨i,x3⟩:Turn)])),(bq dk).1.Fuse,(bq dk).1.Down⟩:cw),(bq dk).2):=by (rw [iH (by omega) (by omega) (by omega) ‹_›];simp_all;done)
   rw [hz]
   exact R.w1 (z1,z2,v6) uw [] O Tryz.results79 (RV.tmp O) O O O O
  refine R.q (q.jG O O Tryz.underlying38) O<|R.nil<|R.aA O O<|R.reg O<|R.u 2 O<|R.nil ?_
  have hz:ap dk i sx=(((bq dk).1),(bq dk).2):=by (exact wL (by omega) (by omega) (by omega) ‹_›)
  rw [hz]
  exact R.w1 (z1,z2,z3) gX [] O Tryz.results79 (RV.tmp O) O O O O
 refine R.qg O (q.G0 O O) O<|R.u 6 O<|R.nil<|R.av O O<|R.reg O<|R.q (q.iface O bj) O<|R.u 1 O<|R.nil ?_
 have hz:ap dk i sx=(dk,1):=by (exact mA (by omega))
 rw [hz]
 exact R.w1 (ay,aG,az) gX [] O Tryz.results79 (RV.tmp O) O O O (dj (by decide) O)
theorem kS (aH:Nat)(ay aG az:Value)(dk:cw)(w:World)(own:List Nat)(H:HN w own [ag.box aH [ay,aG,az,iV dk.Fuse,.bool dk.Down] 112,ag.row 9 ay dk.Kept,ag.row 9 aG dk.Now,ag.row 114 az dk.Wait] [])(hd:dk.Kept.length=dk.Now.length/\dk.Now.length<=100000/\dk.Wait.length<=100000 /\ -1<=dk.Fuse/\dk.Fuse<=9223372036854775807):RC Tryz.prog 80 #[.pointer (some ⟨aH,0,none⟩)] H (fun _:Value×Value×Value=>df (ai dk).2) (fun z=>[ag.box aH [z.1,z.2.1,z.2.2,iV (ai dk).1.Fuse,.bool (ai dk).1.Down] 112,ag.row 9 z.1 (ai dk).1.Kept,ag.row 9 z.2.1 (ai dk).1.Now,ag.row 114 z.2.2 (ai dk).1.Wait]) (fun _=>[]):=by
 have eE:=H.cap 1 rfl;have eF:=H.cL 1 rfl
 have fC:=H.cap 2 rfl;have fD:=H.cL 2 rfl
 have eG:=H.cap 3 rfl;have eH:=H.cL 3 rfl
 have hsl:=mY dk;have hs1:=congrArg List.length hsl.1;have hs2:=congrArg List.length hsl.2.1;have hs3:=congrArg List.length hsl.2.2
 refine R.bC [(0,.pointer (some ⟨aH,0,none⟩))] Tryz.func80 O O O O H<|R.reg O<|R.u 1 O<|R.nil<|R.reg O<|R.u 1 O<|R.s O (s.aW gX [] _ _ _ O O O Jm O O (fun w own hw H=>zo aH ay aG az dk w own H (by omega)) O) ?_
 rintro ⟨z1,z2,z3⟩
 dsimp only
 refine R.u 1 O<|R.nil<|R.reg O<|R.u 1 O<|?_
 by_cases h1:(bq dk).2=0
 .
  refine R.q (q.mo O O Tryz.underlying38) O<|R.nil<|R.av O O<|R.fY (fuel:=9) [2,3,4] O O mixed O<|D.q (i:=0) O (aD [2,3,4] [] O) O (q.mv O) O<|D.q (i:=1) O (aD [2,3,4] [] O) O (q.cb O) O<|D.q (i:=2) O (aD [2,3,4] [] O) O (q.aO O Ew O) O<|D.q (i:=4) O (aD [2,3,4] [] O) O (q.mv O) O<|D.q (i:=5) O (aD [2,3,4] [] O) O (q.cb O) O<|D.q (i:=6) O (aD [2,3,4] [] O) O (q.aO O iX O) O<|D.two (i:=3) (j:=7) O O ?_ ?_
  .
   refine Do.s (s.c (Qt.a (q.ld 0 O O gA O)) O) (fun _=>(aD [2,3,4] [] O)) O fun _=>?_
   refine D.one (i:=7) O<|Do.s (s.c (Qt.a (q.ld 0 O O gA O)) O) (fun _=>(aD [2,3,4] [] O)) O fun _=>?_
   refine D.one (i:=8) O<|Do.s (s.copy 1 _ O (bB 2 O) O O O gy (by omega) O O) (fun _=>(aD [2,3,4] [] O)) O fun _=>?_
   refine D.done<|R.reg O<|R.u 1 O<|R.q (q.cb O) O<|R.q (q.aO O gM O) O<|R.s O (s.st 0 _ O O O O (.inr ⟨gB,rfl⟩) O O O O) fun _=>?_
   refine R.nil<|R.reg O<|R.u 2 O<|R.nil<|R.row0 (α:=Turn) 114 ?_
   have hz:ai dk=((⟨((bq dk).1).Now,(bq dk).1.Now,[],(bq dk).1.Fuse,(bq dk).1.Down⟩:cw),(bq dk).2):=by (unfold ai;(rw [if_pos ‹_›];simp_all))
   rw [hz]
   exact R.w1 (z1,z2,(nS)) [1,2,3,0,5] [] O Tryz.results80 (RV.tmp O) O O O O
  refine Do.s (s.c (Qt.a (q.ld 0 O O gA O)) O) (fun _=>(aD [2,3,4] [] O)) O fun _=>?_
  refine D.one (i:=3) O<|Do.s (s.c (Qt.a (q.ld 0 O O gA O)) O) (fun _=>(aD [2,3,4] [] O)) O fun _=>?_
  refine D.one (i:=8) O<|Do.s (s.copy 1 _ O (bB 2 O) O O O gy (by omega) O O) (fun _=>(aD [2,3,4] [] O)) O fun _=>?_
  refine D.done<|R.reg O<|R.u 1 O<|R.q (q.cb O) O<|R.q (q.aO O gM O) O<|R.s O (s.st 0 _ O O O O (.inr ⟨gB,rfl⟩) O O O O) fun _=>?_
  refine R.nil<|R.reg O<|R.u 2 O<|R.nil<|R.row0 (α:=Turn) 114 ?_
  have hz:ai dk=((⟨((bq dk).1).Now,(bq dk).1.Now,[],(bq dk).1.Fuse,(bq dk).1.Down⟩:cw),(bq dk).2):=by (unfold ai;(rw [if_pos ‹_›];simp_all))
  rw [hz]
  exact R.w1 (z1,z2,(nS)) [1,2,3,0,5] [] O Tryz.results80 (RV.tmp O) O O O O
 refine R.q (q.jG O O Tryz.underlying38) O<|R.nil<|R.aA O O<|R.reg O<|R.u 2 O<|R.nil ?_
 have hz:ai dk=(((bq dk).1),(bq dk).2):=by (unfold ai;(rw [if_neg ‹_›];done))
 rw [hz]
 exact R.w1 (z1,z2,z3) gX [] O Tryz.results80 (RV.tmp O) O O O O
end Go.Proofs.YtkbhcbipadkcaaaGreatDoor
