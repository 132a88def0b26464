import Derived.Test.YtkbhcbipadkcaaaGreatDoorTS6
namespace Go.Proofs.YtkbhcbipadkcaaaGreatDoor
set_option linter.unusedVariables false
set_option linter.unusedSimpArgs false
set_option maxRecDepth 100000
set_option maxHeartbeats 90000000
open Go Go.RowKit
theorem u7 (bT:Value)(l:List ByteArray)(w:World)(own:List Nat)(H:HN w own [] [ag.ls bT l])(hl:l.length<=1000000):RC Tryz.prog 68 #[bT] H (fun z:Value=>z) (fun z=>[ag.row 9 z l]) (fun _=>[]):=by
 have AJ:=H.cq 0 rfl
 refine R.bF [(0,bT)] Tryz.func68 O O O O H<|R.reg O<|R.u 1 O<|R.nil<|R.reg O<|R.u 1 O<|?_
 rcases Bool.eq_false_or_eq_true (pb bT) with h1|h1
 .
  refine R.q (q.G7 (congrArg Value.bool h1) (q.oY (dh 0 O) O O Tryz.underlying109)) O<|R.nil<|R.az O O<|R.reg O<|R.u 1 O<|R.nil<|R.row0 (α:=ByteArray) 9 ?_
  have hz:l=[]:=by (exact Sl.pb (H.bO 0 rfl) ‹_›)
  rw [hz]
  exact R.w1 (nS) [0,1] [] O Tryz.results68 (RV.tmp O) O O O O
 refine R.q (q.G7 (congrArg Value.bool h1) (q.oY (dh 0 O) O O Tryz.underlying109)) O<|R.nil<|R.aD O O<|R.reg O<|R.s O (s.bs (l:=([]:List ByteArray)) fw F3 O O O O O O O) fun b1=>?_
 refine R.u 1 O<|R.s O (s.app 0 _ O O O (dh 0 O) I9 (by simp;omega) (by simp;omega) (fun _=>rfl) O) fun v1=>?_
 refine R.u 1 O<|R.nil ?_
 have hz:l=(([])++l):=by (rfl)
 rw [hz]
 exact R.w1 v1 [0,1] [] O Tryz.results68 (RV.tmp O) O O O O
theorem wJ (sx:ByteArray)(w:World)(hs:sx.size<=48):Calls Tryz.prog 67 #[.string sx] w fun e w'=>e = .returned (.string (full sx))/\Ext w w':=by
 refine R.enter [] [(0,.string sx)] Tryz.func67 O O O O<|R.reg O<|R.u 1 O<|R.nil<|R.reg O<|R.u 2 O<|R.q (q.iy O Tryz.underlying9) O<|R.q (q.lS (r:=((48-sx.size:Nat):Int)) O O) O<|R.s O (s.T4 (m:=(48-sx.size)) aR O O O O O (by omega) O) fun b1=>?_
 exact R.q (q.kf (bD 0 O) O aR Tryz.underlying5 Tryz.underlying9) O<|R.q (q.cat O O (by rw [aI (List.replicate _ _),List.length_replicate];omega)) O<|R.u 1 O<|R.nil<|R.rv O Tryz.results67 O (rS (by rfl))
theorem CJ (n:Nat)(w:World)(hn:n<=1000000):Calls Tryz.prog 132 #[.int .u64 ((1:Nat):Int),.int .u64 (n:Int)] w fun e w'=>e = .returned (.tuple #[.int .u64 0,.int .u64 (n:Int)])/\Ext w w' :=
 (Tryz.bits_Mul 1 n (by decide) (by omega) w).mono fun e w' ⟨h1,h2⟩=>⟨by
  rw [h1,Nat.one_mul,Nat.div_eq_of_lt (by omega),Nat.mod_eq_of_lt (by omega)];rfl,by rw [h2];exact Ext.refl _⟩
theorem CK (a n:Nat)(w:World)(hn:a=1/\n<=1000000):Calls Tryz.prog 132 #[.int .u64 (a:Int),.int .u64 (n:Int)] w fun e w'=>e = .returned (.tuple #[.int .u64 0,.int .u64 (n:Int)])/\Ext w w':=by
 obtain ⟨rfl,hn⟩:=hn;exact CJ n w hn
theorem CL {α:Type}{l x:List α}{a:α}{n k:Nat}(hx:x=List.replicate k a++l)(m:Nat)(hm:m<=k)(hl:k+m<=x.length):x.take k++(x.take k).take m++x.drop (k+m)=List.replicate (k+m) a++l.drop m:=by
 subst hx
 have h1:(List.replicate k a).length=k:=List.length_replicate
 rw [List.take_left' h1,List.take_replicate,Nat.min_eq_left hm,List.drop_append,h1,List.drop_of_length_le (by rw [h1];omega),List.nil_append,show k+m-k=m by omega,<- List.replicate_append_replicate]
theorem CM (bT:Value)(l:List ByteArray)(n:Nat)(w:World)(own:List Nat)(H:HN w own [] [ag.ls bT l])(hl:l.length=1)(hn:1<=n/\n<=1000):RC Tryz.prog 66 #[bT,iV (n:Int)] H (fun z:Value=>z) (fun z=>[ag.row 9 z ((List.replicate n (l.headD ⟨#[]⟩)):List ByteArray)]) (fun _=>[]):=by
 have AJ:=H.cq 0 rfl
 refine R.bF [(0,bT),(1,iV (n:Int))] Tryz.func66 O O O O H<|R.reg O<|R.u 1 O<|R.nil<|R.reg O<|R.u 1 O<|R.q (q.cS O O) O<|R.nil<|R.aD O O<|R.reg O<|R.u 1 O<|R.q (q.len' (dh 0 O) O Tryz.underlying109) O<|R.q (q.nf (r:=((l.length:Nat):Int)) O (by rw [Tryz.underlying3];rfl) Tryz.underlying188 (Al (by omega))) O<|R.u 1 O<|R.q (q.nf (r:=((n:Nat):Int)) O (by rw [Tryz.underlying3];rfl) Tryz.underlying188 (Al (by omega))) O<|R.c (q.call O5 O O (fun w hw=>(CK l.length n w (by omega)))) O<|R.u 5 O<|R.nil ?_
 refine R.reg O<|R.u 1 O<|R.q (q.gtr (b:=false) O O (by decide)) O<|R.u 2 O<|R.qg O (q.ey O O) O<|R.u 1 O<|R.nil<|R.aD O O<|R.reg O<|R.u 1 O<|R.q (q.nf (r:=((n:Nat):Int)) O (by rw [Tryz.underlying188];rfl) Tryz.underlying3 (wr (by omega))) O<|R.s O (s.Sg (m:=n) (z0:=(⟨#[]⟩:ByteArray)) fw O O O (by decide) O O (by simp [Enc.k];omega) O) fun b1=>?_
 refine R.u 1 O<|R.nil<|R.reg O<|R.u 2 O<|R.s O (s.EH (o:=0) (m:=1) 0 _ O (dh 0 O) O (.inr ⟨rfl,rfl⟩) O fw (by omega) (by omega) (by (simp;omega)) (by omega) O O) fun _=>?_
 refine R.u 1 O<|R.nil<|R.loop (fun g_:Nat×Value×(List ByteArray)=>[(7,g_.2.1),(8,iV (g_.1:Int))]) (fun g_=>[ag.row 9 g_.2.1 g_.2.2,ag.held w own]) (fun g_=>[ag.ls bT l]) (fun g_=>1<=g_.1/\g_.1<=n/\g_.2.2=List.replicate g_.1 (l.headD ⟨#[]⟩)++List.replicate (n-g_.1) (⟨#[]⟩:ByteArray)) (fun g_=>n-g_.1) (1,(.slice (some ⟨b1,0,none⟩) n n),((List.replicate n (⟨#[]⟩:ByteArray)).take 0++l.take 1++(List.replicate n (⟨#[]⟩:ByteArray)).drop (0+1))) O (by refine ⟨by omega,by omega,?_⟩;match l,hl with | [a],_=>simp) (sF O) (iz [0,1] [0] O) ?_
 rintro ⟨k,u,rs⟩ ⟨hk0,hk,HR⟩
 dsimp only at *
 have hrl:rs.length=n:=by rw [HR];simp;omega
 refine R.reg O<|R.u 2 O<|R.q (q.len' (bD 0 O) O Tryz.underlying109) O<|?_
 by_cases h1:k<rs.length
 .
  refine R.q (q.dC O O) O<|R.nil<|R.az O O<|R.fJ (fuel:=10) [1] O O mixed O<|D.q (i:=0) O (aA [1] [0] O) O (q.mv O) O<|D.q (i:=1) O (aA [1] [0] O) O (q.mv O) O<|D.q (i:=2) O (aA [1] [0] O) O (q.mv O) O<|D.q (i:=4) O (aA [1] [0] O) O (q.mv O) O<|D.q (i:=5) O (aA [1] [0] O) O (q.mv O) O<|D.two (i:=3) (j:=6) O O ?_ ?_
  .
   refine Do.s (s.c (Qt.a (q.dA (i:=k) (bD 0 O) O O fw O (by omega))) O) (fun _=>(aA [1] [0] O)) O fun _=>?_
   refine D.one (i:=6) O<|Do.s (s.c (Qt.a (q.kG (i:=k) (bD 0 O) O O Tryz.underlying109 Cw O (by omega))) O) (fun _=>(aA [1] [0] O)) O fun _=>?_
   refine D.one (i:=7) O<|Do.s (s.EH (o:=k) (m:=(min k (n-k))) 0 _ O (fun w hw=>Sl.to (hw.row 0 O) (by omega)) O (.inl O) O fw (by omega) (by (simp;omega)) (by omega) (by (simp;omega)) O O) (fun _=>(aA [1] [0] O)) O fun _=>?_
   refine D.q (i:=8) O (aA [1] [0] O) O (q.bA (r:=((k+(min k (n-k)):Nat):Int)) O O) O<|D.q (i:=9) O (aA [1] [0] O) O (q.as O) O<|D.done<|R.back (k+min k (n-k),u,(rs.take k++(rs.take k).take (min k (n-k))++rs.drop (k+(min k (n-k))))) O (by (refine ⟨by omega,by omega,?_⟩;rw [CL (n:=n) HR (min k (n-k)) (by omega) (by omega),List.drop_replicate,show n-k-min k (n-k)=n-(k+min k (n-k)) by omega])) (by dsimp only;omega) (sF O) (aA [0,1] [0] O)
  refine Do.s (s.c (Qt.a (q.kG (i:=k) (bD 0 O) O O Tryz.underlying109 Cw O (by omega))) O) (fun _=>(aA [1] [0] O)) O fun _=>?_
  refine D.one (i:=3) O<|Do.s (s.c (Qt.a (q.dA (i:=k) (bD 0 O) O O fw O (by omega))) O) (fun _=>(aA [1] [0] O)) O fun _=>?_
  refine D.one (i:=7) O<|Do.s (s.EH (o:=k) (m:=(min k (n-k))) 0 _ O (fun w hw=>Sl.to (hw.row 0 O) (by omega)) O (.inl O) O fw (by omega) (by (simp;omega)) (by omega) (by (simp;omega)) O O) (fun _=>(aA [1] [0] O)) O fun _=>?_
  refine D.q (i:=8) O (aA [1] [0] O) O (q.bA (r:=((k+(min k (n-k)):Nat):Int)) O O) O<|D.q (i:=9) O (aA [1] [0] O) O (q.as O) O<|D.done<|R.back (k+min k (n-k),u,(rs.take k++(rs.take k).take (min k (n-k))++rs.drop (k+(min k (n-k))))) O (by (refine ⟨by omega,by omega,?_⟩;rw [CL (n:=n) HR (min k (n-k)) (by omega) (by omega),List.drop_replicate,show n-k-min k (n-k)=n-(k+min k (n-k)) by omega])) (by dsimp only;omega) (sF O) (aA [0,1] [0] O)
 refine R.q (q.cS O O) O<|R.nil<|R.aD O O<|R.reg O<|R.u 2 O<|R.nil ?_
 have hz:List.replicate n (l.headD ⟨#[]⟩)=rs:=by (rw [HR,show k=n by omega];simp)
 rw [hz]
 exact R.w1 u [0,1] [] O Tryz.results66 (RV.tmp O) O O O O
theorem JE (n:Int)(w:World)(own:List Nat)(H:HN w own [] [])(hn:1<=n/\n<=200):RC Tryz.prog 30 #[iV n] H (fun z:Nat×Value×Value×Value => .tuple #[.pointer (some ⟨z.1,0,none⟩),.nilIface]) (fun z=>[ag.box z.1 [z.2.1,z.2.2.1,z.2.2.2,iV (dNew (Int.toNat n)).Fuse,.bool (dNew (Int.toNat n)).Down] 112,ag.row 9 z.2.1 (dNew (Int.toNat n)).Kept,ag.row 9 z.2.2.1 (dNew (Int.toNat n)).Now,ag.row 114 z.2.2.2 (dNew (Int.toNat n)).Wait]) (fun _=>[]):=by
 obtain ⟨nN,VD⟩:∃m:Nat,n=(m:Int):=⟨n.toNat,by omega⟩;subst VD
 refine R.bF [(0,iV (nN:Int))] Tryz.func30 O O O O H<|R.reg O<|R.u 2 O<|R.nil<|R.reg O<|R.u 1 O<|R.q (q.cS O O) O<|R.u 2 O<|R.qg O (q.ey O O) O<|R.u 1 O<|R.nil<|R.aD O O<|R.reg O<|R.c (q.call Jg O O (fun w hw=>(wJ (⟨#[]⟩) w (by decide)))) O<|?_
 refine R.s O (s.bs (l:=([full (⟨#[]⟩)]:List ByteArray)) fw F3 O O O O O O O) fun b1=>?_
 refine R.u 1 O<|R.s O (s.EJ (Bl:=[ag.row 9 (.slice (some ⟨b1,0,none⟩) 1 1) ([full (⟨#[]⟩)]:List ByteArray)]) (Fl:=[ag.ls (.slice (some ⟨b1,0,none⟩) 1 1) ([full (⟨#[]⟩)]:List ByteArray)]) [0,1] [0] (fun kQ:Value=>kQ) (fun kQ:Value=>[ag.row 9 kQ ((List.replicate nN (([full (⟨#[]⟩)]).headD ⟨#[]⟩)):List ByteArray)]) O O (qw wC) O R6 O O (fun w own hw H=>CM (.slice (some ⟨b1,0,none⟩) 1 1) ([full (⟨#[]⟩)]) nN w own H (by rfl) (by omega)) O) fun z1=>?_
 refine R.u 1 O<|R.nil<|R.reg O<|R.u 2 O<|R.s O (s.EJ (Bl:=[ag.row 9 z1 (List.replicate nN (([full (⟨#[]⟩)]).headD ⟨#[]⟩):List ByteArray)]) (Fl:=[ag.ls z1 (List.replicate nN (([full (⟨#[]⟩)]).headD ⟨#[]⟩):List ByteArray)]) [0,1,2] [0] (fun kQ:Value=>kQ) (fun kQ:Value=>[ag.row 9 kQ ((List.replicate nN (([full (⟨#[]⟩)]).headD ⟨#[]⟩)):List ByteArray)]) O O (qw wC) O R7 O O (fun w own hw H=>u7 z1 (List.replicate nN (([full (⟨#[]⟩)]).headD ⟨#[]⟩)) w own H (by (simp;omega))) O) fun z2=>?_
 refine R.q (q.JB OT O (fun w hw=>(sN (Sl.EI (hw.row 1 O)) (sN (Sl.EI (hw.row 0 O)) (sN O JA)))) O) O<|R.s O (s.box O O O) fun b2=>?_
 refine R.u 2 O<|R.nil<|R.row0 (α:=Turn) 114 ?_
 have hz:dNew (Int.toNat ((nN:Nat):Int))=(⟨List.replicate nN (([full (⟨#[]⟩)]).headD ⟨#[]⟩),(List.replicate nN (([full (⟨#[]⟩)]).headD ⟨#[]⟩)),[],-1,false⟩:cw):=by (rfl)
 rw [hz]
 exact R.w2 (b2,z1,z2,(nS)) [1,3,2,0,5] [] O Tryz.results30 (RV.tmp O) (RV.tmp O) O O O (dy O O)
theorem gB (aH:Nat)(ay aF av:Value)(dk:cw)(w:World)(wK:(ag.box aH [ay,aF,av,iV dk.Fuse,.bool dk.Down] 112).ok w)(jY:Sl w ay (dk.Kept:List ByteArray))(kR:Sl w aF (dk.Now:List ByteArray))(jZ:Sl w av (dk.Wait:List Turn)):Calls Tryz.prog 83 #[.pointer (some ⟨aH,0,none⟩)] w fun e w'=>e = .returned (iV (dk.Now.length:Int))/\Ext w w':=by
 exact R.enter [] [(0,.pointer (some ⟨aH,0,none⟩))] Tryz.func83 rfl rfl rfl rfl<|R.pK jY<|R.pK kR<|R.pK jZ<|R.nC (r:=ag.box aH [ay,aF,av,iV dk.Fuse,.bool dk.Down] 112) wK (jQ wK)<|R.reg rfl<|R.u 1 rfl<|R.nil<|R.reg rfl<|R.u 1 rfl<|R.q (q.bR rfl) rfl<|R.q (q.aP rfl ij rfl) rfl<|R.q (q.yu 0 rfl rfl eD rfl) rfl<|R.q (q.len' (fun _=>Wd.bO 2 rfl) rfl Tryz.underlying109) rfl<|R.u 1 rfl<|R.nil<|R.rv rfl Tryz.results83 rfl (rI (by rfl))
theorem zh (aH:Nat)(ay aF av:Value)(dk:cw)(w:World)(wK:(ag.box aH [ay,aF,av,iV dk.Fuse,.bool dk.Down] 112).ok w)(jY:Sl w ay (dk.Kept:List ByteArray))(kR:Sl w aF (dk.Now:List ByteArray))(jZ:Sl w av (dk.Wait:List Turn)):Calls Tryz.prog 84 #[.pointer (some ⟨aH,0,none⟩)] w fun e w'=>e = .returned (.bool dk.Down)/\Ext w w':=by
 exact R.enter [] [(0,.pointer (some ⟨aH,0,none⟩))] Tryz.func84 rfl rfl rfl rfl<|R.pK jY<|R.pK kR<|R.pK jZ<|R.nC (r:=ag.box aH [ay,aF,av,iV dk.Fuse,.bool dk.Down] 112) wK (jQ wK)<|R.reg rfl<|R.u 1 rfl<|R.nil<|R.reg rfl<|R.u 1 rfl<|R.q (q.bR rfl) rfl<|R.q (q.aP rfl im rfl) rfl<|R.q (q.yu 0 rfl rfl ig rfl) rfl<|R.u 1 rfl<|R.nil<|R.rv rfl Tryz.results84 rfl (rB (by rfl))
theorem tL (aH:Nat)(ay aF av:Value)(dk:cw)(i:Int)(w:World)(wK:(ag.box aH [ay,aF,av,iV dk.Fuse,.bool dk.Down] 112).ok w)(jY:Sl w ay (dk.Kept:List ByteArray))(kR:Sl w aF (dk.Now:List ByteArray))(jZ:Sl w av (dk.Wait:List Turn)):Calls Tryz.prog 85 #[.pointer (some ⟨aH,0,none⟩),iV i] w fun e w'=>e = .returned (.tuple #[.string (cj dk i).1,df (cj dk i).2])/\Ext w w':=by
 refine R.enter [] [(0,.pointer (some ⟨aH,0,none⟩)),(1,iV i)] Tryz.func85 O O O O<|R.pK jY<|R.pK kR<|R.pK jZ<|R.nC (r:=ag.box aH [ay,aF,av,iV dk.Fuse,.bool dk.Down] 112) wK (jQ wK)<|R.reg O<|R.u 2 O<|R.nil<|R.reg O<|R.u 1 O<|R.q (q.bR O) O<|R.q (q.aP O im O) O<|R.q (q.yu 0 O O ig O) O<|R.nil<|R.cond O O (fun h1=>?_) (fun h1=>?_)
 .
  exact R.reg O<|R.q (q.iface O br) O<|R.u 2 O<|R.nil<|R.FV O Tryz.results85 O O (rS (by (rw [wF ‹_›];done))) (dj (by decide) (by (rw [wF ‹_›];done)))
 refine R.reg O<|R.u 1 O<|?_
 by_cases h2:i<0
 .
  exact R.q (q.dC O O) O<|R.u 9 O<|R.nil<|R.az O O<|R.reg O<|R.q (q.iface O br) O<|R.u 2 O<|R.nil<|R.FV O Tryz.results85 O O (rS (by (rw [qx ‹_› (by omega)];done))) (dj (by decide) (by (rw [qx ‹_› (by omega)];done)))
 refine R.q (q.cS O O) O<|R.u 3 O<|R.qg O (q.bR O) O<|R.qg O (q.aP O ij O) O<|R.qg O (q.yu 0 O O eD O) O<|R.qg O (q.len' (dh 2 O) O Tryz.underlying109) O<|?_
 by_cases h3:i<(dk.Now.length:Int)
 .
  refine R.qg O (q.IQ O O) O<|R.u 1 O<|R.nil<|R.aD O O<|R.reg O<|R.u 1 O<|R.q (q.bR O) O<|R.q (q.aP O ij O) O<|R.q (q.yu 0 O O eD O) O<|R.u 1 O<|?_
  obtain ⟨x1,hx1⟩:∃z,dk.Now[i.toNat]? = some z:=⟨_,List.getElem?_eq_getElem (by omega)⟩
  exact R.q (q.idx (i:=i.toNat) (dh 2 O) O O fw (by omega) hx1) O<|R.q (q.ln (dh 2 O) hx1 O bG O) O<|R.u 2 O<|R.nil<|R.FV O Tryz.results85 O O (rS (by (rw [pP ‹_› (by omega) hx1];done))) (iJ (by (rw [pP ‹_› (by omega) hx1];done)))
 exact R.qg O (q.G3 O O) O<|R.u 1 O<|R.nil<|R.az O O<|R.reg O<|R.q (q.iface O br) O<|R.u 2 O<|R.nil<|R.FV O Tryz.results85 O O (rS (by (rw [qx ‹_› (by omega)];done))) (dj (by decide) (by (rw [qx ‹_› (by omega)];done)))
theorem zj (aH:Nat)(ay aF av:Value)(dk:cw)(w:World)(own:List Nat)(H:HN w own [ag.box aH [ay,aF,av,iV dk.Fuse,.bool dk.Down] 112,ag.row 9 ay dk.Kept,ag.row 9 aF dk.Now,ag.row 114 av dk.Wait] [])(hf : -1<=dk.Fuse/\dk.Fuse<=9223372036854775807):RC Tryz.prog 139 #[.pointer (some ⟨aH,0,none⟩)] H (fun _:Value×Value×Value=>df (bu dk).2) (fun z=>[ag.box aH [z.1,z.2.1,z.2.2,iV (bu dk).1.Fuse,.bool (bu dk).1.Down] 112,ag.row 9 z.1 (bu dk).1.Kept,ag.row 9 z.2.1 (bu dk).1.Now,ag.row 114 z.2.2 (bu dk).1.Wait]) (fun _=>[]):=by
 have dZ:=H.cap 1 rfl;have d9:=H.cE 1 rfl
 have fh:=H.cap 2 rfl;have fj:=H.cE 2 rfl
 have ea:=H.cap 3 rfl;have ec:=H.cE 3 rfl
 refine R.bF [(0,.pointer (some ⟨aH,0,none⟩))] Tryz.func139 O O O O H<|R.reg O<|R.u 1 O<|R.nil<|R.reg O<|R.u 1 O<|R.q (q.bR O) O<|R.q (q.aP O im O) O<|R.q (q.ld 0 O O ig O) O<|R.q (q.not O) O<|R.u 1 O<|?_
 rcases Bool.eq_false_or_eq_true dk.Down with h1|h1
 .
  rw [h1]
  refine R.u 6 O<|R.nil<|R.aD O O<|R.reg O<|R.u 1 O<|R.q (q.bR O) O<|R.q (q.aP O im O) O<|R.q (q.ld 0 O O ig O) O<|R.nil<|R.az O O<|R.reg O<|R.q (q.iface O br) O<|R.u 1 O<|R.nil ?_
  have hz:bu dk=((⟨dk.Kept,dk.Now,dk.Wait,dk.Fuse,true⟩:cw),10):=by (exact wE ‹_›)
  rw [hz]
  exact R.w1 (ay,aF,av) gV [] O Tryz.results139 (RV.tmp O) O O O (dj (by decide) O)
 rw [h1]
 refine R.u 1 O<|R.qg O (q.bR O) O<|R.qg O (q.aP O jR O) O<|R.qg O (q.ld 0 O O ap O) O<|?_
 by_cases h2:dk.Fuse=0
 .
  refine R.qg O (q.fI O O) O<|R.u 1 O<|R.nil<|R.az O O<|R.reg O<|R.u 2 O<|R.q (q.bR O) O<|R.q (q.aP O im O) O<|R.s O (s.st 0 _ O O O O (.inr ⟨ig,rfl⟩) O O O O) fun _=>?_
  refine R.q (q.bR O) O<|R.q (q.aP O jR O) O<|R.s O (s.st 0 _ O O O O (.inr ⟨ap,rfl⟩) O O O O) fun _=>?_
  refine R.nil<|R.reg O<|R.u 1 O<|R.q (q.bR O) O<|R.q (q.aP O im O) O<|R.q (q.ld 0 O O ig O) O<|R.nil<|R.az O O<|R.reg O<|R.q (q.iface O br) O<|R.u 1 O<|R.nil ?_
  have hz:bu dk=((⟨dk.Kept,dk.Now,dk.Wait,-1,true⟩:cw),10):=by (exact rM ‹_› ‹_›)
  rw [hz]
  exact R.w1 (ay,aF,av) gV [] O Tryz.results139 (RV.tmp O) O O O (dj (by decide) O)
 refine R.qg O (q.eU O O) O<|R.u 1 O<|R.nil<|R.aD O O<|R.reg O<|R.u 1 O<|R.q (q.bR O) O<|R.q (q.aP O im O) O<|R.q (q.ld 0 O O ig O) O<|R.nil<|R.aD O O<|R.reg O<|R.u 2 O<|R.q (q.bR O) O<|R.q (q.aP O jR O) O<|R.q (q.ld 0 O O ap O) O<|R.q (q.lS (r:=dk.Fuse-1) O O) O<|R.q (q.max (r:=max (dk.Fuse-1) (-1)) O O O) O<|R.q (q.bR O) O<|R.q (q.aP O jR O) O<|R.s O (s.st 0 _ O O O O (.inr ⟨ap,rfl⟩) O O O O) fun _=>?_
 refine R.nil<|R.reg O<|R.u 1 O<|R.nil ?_
 have hz:bu dk=((⟨dk.Kept,dk.Now,dk.Wait,(max (dk.Fuse-1) (-1)),false⟩:cw),0):=by (exact sO ‹_› ‹_›)
 rw [hz]
 exact R.w1 (ay,aF,av) gV [] O Tryz.results139 (RV.tmp O) O O O (iJ O)
theorem iZ (aH:Nat)(ay aF av:Value)(dk:cw)(i:Int)(sx:ByteArray)(w:World)(own:List Nat)(H:HN w own [ag.box aH [ay,aF,av,iV dk.Fuse,.bool dk.Down] 112,ag.row 9 ay dk.Kept,ag.row 9 aF dk.Now,ag.row 114 av dk.Wait] [])(hd:dk.Kept.length=dk.Now.length/\dk.Now.length<=100000/\dk.Wait.length<=100000 /\ -1<=dk.Fuse/\dk.Fuse<=9223372036854775807):RC Tryz.prog 79 #[.pointer (some ⟨aH,0,none⟩),iV i,.string sx] H (fun _:Value×Value×Value=>df (au dk i sx).2) (fun z=>[ag.box aH [z.1,z.2.1,z.2.2,iV (au dk i sx).1.Fuse,.bool (au dk i sx).1.Down] 112,ag.row 9 z.1 (au dk i sx).1.Kept,ag.row 9 z.2.1 (au dk i sx).1.Now,ag.row 114 z.2.2 (au dk i sx).1.Wait]) (fun _=>[]):=by
 have dZ:=H.cap 1 rfl;have d9:=H.cE 1 rfl
 have fh:=H.cap 2 rfl;have fj:=H.cE 2 rfl
 have ea:=H.cap 3 rfl;have ec:=H.cE 3 rfl
 have hsl:=mQ dk;have hs1:=congrArg List.length hsl.1;have hs2:=congrArg List.length hsl.2.1;have hs3:=congrArg List.length hsl.2.2
 refine R.bF [(0,.pointer (some ⟨aH,0,none⟩)),(1,iV i),(2,.string sx)] Tryz.func79 O O O O H<|R.reg O<|R.u 1 O<|R.nil<|R.reg O<|R.u 1 O<|?_
 by_cases h1:i<0
 .
  refine R.q (q.dC O O) O<|R.u 14 O<|R.nil<|R.az O O<|R.reg O<|R.q (q.iface O br) O<|R.u 1 O<|R.nil ?_
  have hz:au dk i sx=(dk,1):=by (exact mj (by omega))
  rw [hz]
  exact R.w1 (ay,aF,av) gV [] O Tryz.results79 (RV.tmp O) O O O (dj (by decide) O)
 refine R.q (q.cS O O) O<|R.u 3 O<|R.qg O (q.bR O) O<|R.qg O (q.aP O ij O) O<|R.qg O (q.ld 0 O O eD O) O<|R.qg O (q.len' (bD 2 O) O Tryz.underlying109) O<|?_
 by_cases h2:i<(dk.Now.length:Int)
 .
  refine R.qg O (q.IQ O O) O<|R.u 3 O<|R.qg O (q.iy O Tryz.underlying9) O<|?_
  by_cases h3:48<sx.size
  .
   refine R.qg O (q.eM O O) O<|R.u 1 O<|R.nil<|R.az O O<|R.reg O<|R.q (q.iface O br) O<|R.u 1 O<|R.nil ?_
   have hz:au dk i sx=(dk,1):=by (exact mj (by omega))
   rw [hz]
   exact R.w1 (ay,aF,av) gV [] O Tryz.results79 (RV.tmp O) O O O (dj (by decide) O)
  refine R.qg O (q.ey O O) O<|R.u 1 O<|R.nil<|R.aD O O<|R.reg O<|R.u 1 O<|R.s O (s.aT gV [] _ _ _ O O O Jo O O (fun w own hw H=>zj aH ay aF av dk w own H (by omega)) O) ?_
  rintro ⟨z1,z2,z3⟩
  dsimp only
  refine R.u 1 O<|R.nil<|R.reg O<|R.u 1 O<|?_
  by_cases h4:(bu dk).2=0
  .
   refine R.q (q.lP O O Tryz.underlying38) O<|R.nil<|R.az O O ?_
   obtain ⟨x1,hx1⟩:∃z,((bu dk).1.Now)[i.toNat]? = some z:=⟨_,List.getElem?_eq_getElem (by omega)⟩
   refine R.fJ (fuel:=9) [1,3,4] O O mixed O<|D.q (i:=0) O (aA [1,3,4] [] O) O (q.mv O) O<|D.q (i:=1) O (aA [1,3,4] [] O) O (q.bR O) O<|D.q (i:=2) O (aA [1,3,4] [] O) O (q.aP O ij O) O<|D.q (i:=4) O (aA [1,3,4] [] O) O (q.mv O) O<|D.q (i:=5) O (aA [1,3,4] [] O) O (q.mv O) O<|D.two (i:=3) (j:=6) O O ?_ ?_
   .
    refine Do.s (s.c (Qt.a (q.ld 0 O O eD O)) O) (fun _=>(aA [1,3,4] [] O)) O fun _=>?_
    refine D.one (i:=6) O<|Do.s (s.c (q.call Jg O O (fun w hw=>(wJ sx w (by omega)))) O) (fun _=>(aA [1,3,4] [] O)) O fun _=>?_
    refine D.one (i:=7) O<|Do.s (s.c (Qt.a (q.idx (i:=i.toNat) (bD 2 O) O O fw (by omega) hx1)) O) (fun _=>(aA [1,3,4] [] O)) O fun _=>?_
    refine D.one (i:=8) O<|Do.s (s.OJ (z:=full sx) 2 _ O hx1 O O O O (.inr ⟨bG,rfl⟩) O) (fun _=>(aA [1,3,4] [] O)) O fun _=>?_
    refine D.done<|?_
    obtain ⟨x2,hx2⟩:∃z,((bu dk).1.Now.set i.toNat (full sx))[i.toNat]? = some z:=⟨_,List.getElem?_eq_getElem (by (simp;omega))⟩
    refine R.fJ (fuel:=19) [1,2,4] O O mixed O<|D.q (i:=0) O (aA [1,2,4] [] O) O (q.mv O) O<|D.q (i:=1) O (aA [1,2,4] [] O) O (q.mv O) O<|D.q (i:=2) O (aA [1,2,4] [] O) O (q.bR O) O<|D.q (i:=3) O (aA [1,2,4] [] O) O (q.aP O eV O) O<|D.q (i:=5) O (aA [1,2,4] [] O) O (q.mv O) O<|D.q (i:=6) O (aA [1,2,4] [] O) O (q.mv O) O<|D.q (i:=7) O (aA [1,2,4] [] O) O (q.bR O) O<|D.q (i:=8) O (aA [1,2,4] [] O) O (q.aP O ij O) O<|D.q (i:=10) O (aA [1,2,4] [] O) O (q.mv O) O<|D.two (i:=4) (j:=9) O O ?_ ?_
    .
     refine Do.s (s.c (Qt.a (q.ld 0 O O ff O)) O) (fun _=>(aA [1,2,4] [] O)) O fun _=>?_
     refine D.one (i:=9) O<|Do.s (s.c (Qt.a (q.ld 0 O O eD O)) O) (fun _=>(aA [1,2,4] [] O)) O fun _=>?_
     refine D.q (i:=11) O (aA [1,2,4] [] O) O (q.idx (i:=i.toNat) (bD 1 O) O O fw (by omega) hx2) O<|D.q (i:=12) O (aA [1,2,4] [] O) O (q.ln (bD 1 O) hx2 O bG O) O<|D.q (i:=13) O (aA [1,2,4] [] O) O (q.build Ar O O) O<|D.one (i:=14) O<|Do.s (s.bs (l:=([(⟨i,x2⟩:Turn)]:List Turn)) oq kL O O O O O O O) (fun _=>(aA [2,3,5] [] O)) O fun b1=>?_
     refine D.one (i:=15) O<|Do.s (s.app 4 _ O O O (bD 0 O) nG (by (simp;omega)) (by (simp;omega)) (fun _=>rfl) O) (fun _=>(aA [2,3,5] [] O)) O fun v1=>?_
     refine D.q (i:=16) O (aA [2,3,5] [] O) O (q.bR O) O<|D.q (i:=17) O (aA [2,3,5] [] O) O (q.aP O eV O) O<|D.one (i:=18) O<|Do.s (s.fP 1 _ O O O (fun w hw=>Sl.cr (hw.row 4 O)) (.inr ⟨ff,rfl⟩) (fun w hw=>(ae (Sl.one (hw.row 4 O)) aO)) O O O) (fun _=>(aA [2,3,5] [] O)) O fun _=>?_
     refine D.done<|R.reg O<|R.u 2 O<|R.nil ?_
     have hz:au dk i sx=((⟨((bu dk).1).Kept,((bu dk).1.Now.set i.toNat (full sx)),(((bu dk).1.Wait)++([(⟨i,x2⟩:Turn)])),(bu dk).1.Fuse,(bu dk).1.Down⟩:cw),(bu dk).2):=by (rw [iH (by omega) (by omega) (by omega) ‹_›];simp_all;done)
     rw [hz]
     exact R.w1 (z1,z2,v1) rl [] O Tryz.results79 (RV.tmp O) O O O O
    refine Do.s (s.c (Qt.a (q.ld 0 O O eD O)) O) (fun _=>(aA [1,2,4] [] O)) O fun _=>?_
    refine D.q (i:=11) O (aA [1,2,4] [] O) O (q.idx (i:=i.toNat) (bD 1 O) O O fw (by omega) hx2) O<|D.q (i:=12) O (aA [1,2,4] [] O) O (q.ln (bD 1 O) hx2 O bG O) O<|D.q (i:=13) O (aA [1,2,4] [] O) O (q.build Ar O O) O<|D.two (i:=4) (j:=14) O O ?_ ?_
    .
     refine Do.s (s.c (Qt.a (q.ld 0 O O ff O)) O) (fun _=>(aA [1,2,4] [] O)) O fun _=>?_
     refine D.one (i:=14) O<|Do.s (s.bs (l:=([(⟨i,x2⟩:Turn)]:List Turn)) oq kL O O O O O O O) (fun _=>(aA [2,3,5] [] O)) O fun b2=>?_
     refine D.one (i:=15) O<|Do.s (s.app 4 _ O O O (bD 0 O) nG (by (simp;omega)) (by (simp;omega)) (fun _=>rfl) O) (fun _=>(aA [2,3,5] [] O)) O fun v2=>?_
     refine D.q (i:=16) O (aA [2,3,5] [] O) O (q.bR O) O<|D.q (i:=17) O (aA [2,3,5] [] O) O (q.aP O eV O) O<|D.one (i:=18) O<|Do.s (s.fP 1 _ O O O (fun w hw=>Sl.cr (hw.row 4 O)) (.inr ⟨ff,rfl⟩) (fun w hw=>(ae (Sl.one (hw.row 4 O)) aO)) O O O) (fun _=>(aA [2,3,5] [] O)) O fun _=>?_
     refine D.done<|R.reg O<|R.u 2 O<|R.nil ?_
     have hz:au dk i sx=((⟨((bu dk).1).Kept,((bu dk).1.Now.set i.toNat (full sx)),(((bu dk).1.Wait)++([(⟨i,x2⟩:Turn)])),(bu dk).1.Fuse,(bu dk).1.Down⟩:cw),(bu dk).2):=by (rw [iH (by omega) (by omega) (by omega) ‹_›];simp_all;done)
     rw [hz]
     exact R.w1 (z1,z2,v2) rl [] O Tryz.results79 (RV.tmp O) O O O O
    refine Do.s (s.bs (l:=([(⟨i,x2⟩:Turn)]:List Turn)) oq kL O O O O O O O) (fun _=>(aA [2,3,5] [] O)) O fun b3=>?_
    refine D.one (i:=4) O<|Do.s (s.c (Qt.a (q.ld 1 O O ff O)) O) (fun _=>(aA [2,3,5] [] O)) O fun _=>?_
    refine D.one (i:=15) O<|Do.s (s.app 4 _ O O O (bD 0 O) nG (by (simp;omega)) (by (simp;omega)) (fun _=>rfl) O) (fun _=>(aA [2,3,5] [] O)) O fun v3=>?_
    refine D.q (i:=16) O (aA [2,3,5] [] O) O (q.bR O) O<|D.q (i:=17) O (aA [2,3,5] [] O) O (q.aP O eV O) O<|D.one (i:=18) O<|Do.s (s.fP 1 _ O O O (fun w hw=>Sl.cr (hw.row 4 O)) (.inr ⟨ff,rfl⟩) (fun w hw=>(ae (Sl.one (hw.row 4 O)) aO)) O O O) (fun _=>(aA [2,3,5] [] O)) O fun _=>?_
    refine D.done<|R.reg O<|R.u 2 O<|R.nil ?_
    have hz:au dk i sx=((⟨((bu dk).1).Kept,((bu dk).1.Now.set i.toNat (full sx)),(((bu dk).1.Wait)++([(⟨i,x2⟩:Turn)])),(bu dk).1.Fuse,(bu dk).1.Down⟩:cw),(bu dk).2):=by (rw [iH (by omega) (by omega) (by omega) ‹_›];simp_all;done)
    rw [hz]
    exact R.w1 (z1,z2,v3) rl [] O Tryz.results79 (RV.tmp O) O O O O
   refine Do.s (s.c (q.call Jg O O (fun w hw=>(wJ sx w (by omega)))) O) (fun _=>(aA [1,3,4] [] O)) O fun _=>?_
   refine D.one (i:=3) O<|Do.s (s.c (Qt.a (q.ld 0 O O eD O)) O) (fun _=>(aA [1,3,4] [] O)) O fun _=>?_
   refine D.one (i:=7) O<|Do.s (s.c (Qt.a (q.idx (i:=i.toNat) (bD 2 O) O O fw (by omega) hx1)) O) (fun _=>(aA [1,3,4] [] O)) O fun _=>?_
   refine D.one (i:=8) O<|Do.s (s.OJ (z:=full sx) 2 _ O hx1 O O O O (.inr ⟨bG,rfl⟩) O) (fun _=>(aA [1,3,4] [] O)) O fun _=>?_
   refine D.done<|?_
   obtain ⟨x3,hx3⟩:∃z,((bu dk).1.Now.set i.toNat (full sx))[i.toNat]? = some z:=⟨_,List.getElem?_eq_getElem (by (simp;omega))⟩
   refine R.fJ (fuel:=19) [1,2,4] O O mixed O<|D.q (i:=0) O (aA [1,2,4] [] O) O (q.mv O) O<|D.q (i:=1) O (aA [1,2,4] [] O) O (q.mv O) O<|D.q (i:=2) O (aA [1,2,4] [] O) O (q.bR O) O<|D.q (i:=3) O (aA [1,2,4] [] O) O (q.aP O eV O) O<|D.q (i:=5) O (aA [1,2,4] [] O) O (q.mv O) O<|D.q (i:=6) O (aA [1,2,4] [] O) O (q.mv O) O<|D.q (i:=7) O (aA [1,2,4] [] O) O (q.bR O) O<|D.q (i:=8) O (aA [1,2,4] [] O) O (q.aP O ij O) O<|D.q (i:=10) O (aA [1,2,4] [] O) O (q.mv O) O<|D.two (i:=4) (j:=9) O O ?_ ?_
   .
    refine Do.s (s.c (Qt.a (q.ld 0 O O ff O)) O) (fun _=>(aA [1,2,4] [] O)) O fun _=>?_
    refine D.one (i:=9) O<|Do.s (s.c (Qt.a (q.ld 0 O O eD O)) O) (fun _=>(aA [1,2,4] [] O)) O fun _=>?_
    refine D.q (i:=11) O (aA [1,2,4] [] O) O (q.idx (i:=i.toNat) (bD 1 O) O O fw (by omega) hx3) O<|D.q (i:=12) O (aA [1,2,4] [] O) O (q.ln (bD 1 O) hx3 O bG O) O<|D.q (i:=13) O (aA [1,2,4] [] O) O (q.build Ar O O) O<|D.one (i:=14) O<|Do.s (s.bs (l:=([(⟨i,x3⟩:Turn)]:List Turn)) oq kL O O O O O O O) (fun _=>(aA [2,3,5] [] O)) O fun b4=>?_
    refine D.one (i:=15) O<|Do.s (s.app 4 _ O O O (bD 0 O) nG (by (simp;omega)) (by (simp;omega)) (fun _=>rfl) O) (fun _=>(aA [2,3,5] [] O)) O fun v4=>?_
    refine D.q (i:=16) O (aA [2,3,5] [] O) O (q.bR O) O<|D.q (i:=17) O (aA [2,3,5] [] O) O (q.aP O eV O) O<|D.one (i:=18) O<|Do.s (s.fP 1 _ O O O (fun w hw=>Sl.cr (hw.row 4 O)) (.inr ⟨ff,rfl⟩) (fun w hw=>(ae (Sl.one (hw.row 4 O)) aO)) O O O) (fun _=>(aA [2,3,5] [] O)) O fun _=>?_
    refine D.done<|R.reg O<|R.u 2 O<|R.nil ?_
    have hz:au dk i sx=((⟨((bu dk).1).Kept,((bu dk).1.Now.set i.toNat (full sx)),(((bu dk).1.Wait)++([(⟨i,x3⟩:Turn)])),(bu dk).1.Fuse,(bu dk).1.Down⟩:cw),(bu dk).2):=by (rw [iH (by omega) (by omega) (by omega) ‹_›];simp_all;done)
    rw [hz]
    exact R.w1 (z1,z2,v4) rl [] O Tryz.results79 (RV.tmp O) O O O O
   refine Do.s (s.c (Qt.a (q.ld 0 O O eD O)) O) (fun _=>(aA [1,2,4] [] O)) O fun _=>?_
   refine D.q (i:=11) O (aA [1,2,4] [] O) O (q.idx (i:=i.toNat) (bD 1 O) O O fw (by omega) hx3) O<|D.q (i:=12) O (aA [1,2,4] [] O) O (q.ln (bD 1 O) hx3 O bG O) O<|D.q (i:=13) O (aA [1,2,4] [] O) O (q.build Ar O O) O<|D.two (i:=4) (j:=14) O O ?_ ?_
   .
    refine Do.s (s.c (Qt.a (q.ld 0 O O ff O)) O) (fun _=>(aA [1,2,4] [] O)) O fun _=>?_
    refine D.one (i:=14) O<|Do.s (s.bs (l:=([(⟨i,x3⟩:Turn)]:List Turn)) oq kL O O O O O O O) (fun _=>(aA [2,3,5] [] O)) O fun b5=>?_
    refine D.one (i:=15) O<|Do.s (s.app 4 _ O O O (bD 0 O) nG (by (simp;omega)) (by (simp;omega)) (fun _=>rfl) O) (fun _=>(aA [2,3,5] [] O)) O fun v5=>?_
    refine D.q (i:=16) O (aA [2,3,5] [] O) O (q.bR O) O<|D.q (i:=17) O (aA [2,3,5] [] O) O (q.aP O eV O) O<|D.one (i:=18) O<|Do.s (s.fP 1 _ O O O (fun w hw=>Sl.cr (hw.row 4 O)) (.inr ⟨ff,rfl⟩) (fun w hw=>(ae (Sl.one (hw.row 4 O)) aO)) O O O) (fun _=>(aA [2,3,5] [] O)) O fun _=>?_
    refine D.done<|R.reg O<|R.u 2 O<|R.nil ?_
    have hz:au dk i sx=((⟨((bu dk).1).Kept,((bu dk).1.Now.set i.toNat (full sx)),(((bu dk).1.Wait)++([(⟨i,x3⟩:Turn)])),(bu dk).1.Fuse,(bu dk).1.Down⟩:cw),(bu dk).2):=by (rw [iH (by omega) (by omega) (by omega) ‹_›];simp_all;done)
    rw [hz]
    exact R.w1 (z1,z2,v5) rl [] O Tryz.results79 (RV.tmp O) O O O O
   refine Do.s (s.bs (l:=([(⟨i,x3⟩:Turn)]:List Turn)) oq kL O O O O O O O) (fun _=>(aA [2,3,5] [] O)) O fun b6=>?_
   refine D.one (i:=4) O<|Do.s (s.c (Qt.a (q.ld 1 O O ff O)) O) (fun _=>(aA [2,3,5] [] O)) O fun _=>?_
   refine D.one (i:=15) O<|Do.s (s.app 4 _ O O O (bD 0 O) nG (by (simp;omega)) (by (simp;omega)) (fun _=>rfl) O) (fun _=>(aA [2,3,5] [] O)) O fun v6=>?_
   refine D.q (i:=16) O (aA [2,3,5] [] O) O (q.bR O) O<|D.q (i:=17) O (aA [2,3,5] [] O) O (q.aP O eV O) O<|D.one (i:=18) O<|Do.s (s.fP 1 _ O O O (fun w hw=>Sl.cr (hw.row 4 O)) (.inr ⟨ff,rfl⟩) (fun w hw=>(ae (Sl.one (hw.row 4 O)) aO)) O O O) (fun _=>(aA [2,3,5] [] O)) O fun _=>?_
   refine D.done<|R.reg O<|R.u 2 O<|R.nil ?_
   have hz:au dk i sx=((⟨((bu dk).1).Kept,((bu dk).1.Now.set i.toNat (full sx)),(((bu dk).1.Wait)++([(⟨i,x3⟩:Turn)])),(bu dk).1.Fuse,(bu dk).1.Down⟩:cw),(bu dk).2):=by (rw [iH (by omega) (by omega) (by omega) ‹_›];simp_all;done)
   rw [hz]
   exact R.w1 (z1,z2,v6) rl [] O Tryz.results79 (RV.tmp O) O O O O
  refine R.q (q.jx O O Tryz.underlying38) O<|R.nil<|R.aD O O<|R.reg O<|R.u 2 O<|R.nil ?_
  have hz:au dk i sx=(((bu dk).1),(bu dk).2):=by (exact wG (by omega) (by omega) (by omega) ‹_›)
  rw [hz]
  exact R.w1 (z1,z2,z3) gV [] O Tryz.results79 (RV.tmp O) O O O O
 refine R.qg O (q.G3 O O) O<|R.u 6 O<|R.nil<|R.az O O<|R.reg O<|R.q (q.iface O br) O<|R.u 1 O<|R.nil ?_
 have hz:au dk i sx=(dk,1):=by (exact mj (by omega))
 rw [hz]
 exact R.w1 (ay,aF,av) gV [] O Tryz.results79 (RV.tmp O) O O O (dj (by decide) O)
theorem kS (aH:Nat)(ay aF av:Value)(dk:cw)(w:World)(own:List Nat)(H:HN w own [ag.box aH [ay,aF,av,iV dk.Fuse,.bool dk.Down] 112,ag.row 9 ay dk.Kept,ag.row 9 aF dk.Now,ag.row 114 av dk.Wait] [])(hd:dk.Kept.length=dk.Now.length/\dk.Now.length<=100000/\dk.Wait.length<=100000 /\ -1<=dk.Fuse/\dk.Fuse<=9223372036854775807):RC Tryz.prog 80 #[.pointer (some ⟨aH,0,none⟩)] H (fun _:Value×Value×Value=>df (ai dk).2) (fun z=>[ag.box aH [z.1,z.2.1,z.2.2,iV (ai dk).1.Fuse,.bool (ai dk).1.Down] 112,ag.row 9 z.1 (ai dk).1.Kept,ag.row 9 z.2.1 (ai dk).1.Now,ag.row 114 z.2.2 (ai dk).1.Wait]) (fun _=>[]):=by
 have dZ:=H.cap 1 rfl;have d9:=H.cE 1 rfl
 have fh:=H.cap 2 rfl;have fj:=H.cE 2 rfl
 have ea:=H.cap 3 rfl;have ec:=H.cE 3 rfl
 have hsl:=mQ dk;have hs1:=congrArg List.length hsl.1;have hs2:=congrArg List.length hsl.2.1;have hs3:=congrArg List.length hsl.2.2
 refine R.bF [(0,.pointer (some ⟨aH,0,none⟩))] Tryz.func80 O O O O H<|R.reg O<|R.u 1 O<|R.nil<|R.reg O<|R.u 1 O<|R.s O (s.aT gV [] _ _ _ O O O Jo O O (fun w own hw H=>zj aH ay aF av dk w own H (by omega)) O) ?_
 rintro ⟨z1,z2,z3⟩
 dsimp only
 refine R.u 1 O<|R.nil<|R.reg O<|R.u 1 O<|?_
 by_cases h1:(bu dk).2=0
 .
  refine R.q (q.lP O O Tryz.underlying38) O<|R.nil<|R.az O O<|R.fJ (fuel:=9) [2,3,4] O O mixed O<|D.q (i:=0) O (aA [2,3,4] [] O) O (q.mv O) O<|D.q (i:=1) O (aA [2,3,4] [] O) O (q.bR O) O<|D.q (i:=2) O (aA [2,3,4] [] O) O (q.aP O rJ O) O<|D.q (i:=4) O (aA [2,3,4] [] O) O (q.mv O) O<|D.q (i:=5) O (aA [2,3,4] [] O) O (q.bR O) O<|D.q (i:=6) O (aA [2,3,4] [] O) O (q.aP O ij O) O<|D.two (i:=3) (j:=7) O O ?_ ?_
  .
   refine Do.s (s.c (Qt.a (q.ld 0 O O eD O)) O) (fun _=>(aA [2,3,4] [] O)) O fun _=>?_
   refine D.one (i:=7) O<|Do.s (s.c (Qt.a (q.ld 0 O O eD O)) O) (fun _=>(aA [2,3,4] [] O)) O fun _=>?_
   refine D.one (i:=8) O<|Do.s (s.copy 1 _ O (bD 2 O) O O O fw (by omega) O O) (fun _=>(aA [2,3,4] [] O)) O fun _=>?_
   refine D.done<|R.reg O<|R.u 1 O<|R.q (q.bR O) O<|R.q (q.aP O eV O) O<|R.s O (s.st 0 _ O O O O (.inr ⟨ff,rfl⟩) O O O O) fun _=>?_
   refine R.nil<|R.reg O<|R.u 2 O<|R.nil<|R.row0 (α:=Turn) 114 ?_
   have hz:ai dk=((⟨((bu dk).1).Now,(bu dk).1.Now,[],(bu dk).1.Fuse,(bu dk).1.Down⟩:cw),(bu dk).2):=by (unfold ai;(rw [if_pos ‹_›];simp_all))
   rw [hz]
   exact R.w1 (z1,z2,(nS)) [1,2,3,0,5] [] O Tryz.results80 (RV.tmp O) O O O O
  refine Do.s (s.c (Qt.a (q.ld 0 O O eD O)) O) (fun _=>(aA [2,3,4] [] O)) O fun _=>?_
  refine D.one (i:=3) O<|Do.s (s.c (Qt.a (q.ld 0 O O eD O)) O) (fun _=>(aA [2,3,4] [] O)) O fun _=>?_
  refine D.one (i:=8) O<|Do.s (s.copy 1 _ O (bD 2 O) O O O fw (by omega) O O) (fun _=>(aA [2,3,4] [] O)) O fun _=>?_
  refine D.done<|R.reg O<|R.u 1 O<|R.q (q.bR O) O<|R.q (q.aP O eV O) O<|R.s O (s.st 0 _ O O O O (.inr ⟨ff,rfl⟩) O O O O) fun _=>?_
  refine R.nil<|R.reg O<|R.u 2 O<|R.nil<|R.row0 (α:=Turn) 114 ?_
  have hz:ai dk=((⟨((bu dk).1).Now,(bu dk).1.Now,[],(bu dk).1.Fuse,(bu dk).1.Down⟩:cw),(bu dk).2):=by (unfold ai;(rw [if_pos ‹_›];simp_all))
  rw [hz]
  exact R.w1 (z1,z2,(nS)) [1,2,3,0,5] [] O Tryz.results80 (RV.tmp O) O O O O
 refine R.q (q.jx O O Tryz.underlying38) O<|R.nil<|R.aD O O<|R.reg O<|R.u 2 O<|R.nil ?_
 have hz:ai dk=(((bu dk).1),(bu dk).2):=by (unfold ai;(rw [if_neg ‹_›];done))
 rw [hz]
 exact R.w1 (z1,z2,z3) gV [] O Tryz.results80 (RV.tmp O) O O O O
theorem JF (aH:Nat)(ay aF av:Value)(dk:cw)(n:Int)(w:World)(own:List Nat)(H:HN w own [ag.box aH [ay,aF,av,iV dk.Fuse,.bool dk.Down] 112,ag.row 9 ay dk.Kept,ag.row 9 aF dk.Now,ag.row 114 av dk.Wait] []):RC Tryz.prog 26 #[.pointer (some ⟨aH,0,none⟩),iV n] H (fun _:Value×Value×Value => .tuple #[]) (fun z=>[ag.box aH [z.1,z.2.1,z.2.2,iV (fS dk n).Fuse,.bool (fS dk n).Down] 112,ag.row 9 z.1 (fS dk n).Kept,ag.row 9 z.2.1 (fS dk n).Now,ag.row 114 z.2.2 (fS dk n).Wait]) (fun _=>[]):=by
 have dZ:=H.cap 1 rfl;have d9:=H.cE 1 rfl
 have fh:=H.cap 2 rfl;have fj:=H.cE 2 rfl
 have ea:=H.cap 3 rfl;have ec:=H.cE 3 rfl
 refine R.bF [(0,.pointer (some ⟨aH,0,none⟩)),(1,iV n)] Tryz.func26 O O O O H<|R.reg O<|R.u 2 O<|R.q (q.max (r:=max n (-1)) O O O) O<|R.q (q.bR O) O<|R.q (q.aP O jR O) O<|R.s O (s.st 0 _ O O O O (.inr ⟨ap,rfl⟩) O O O O) fun _=>?_
 refine R.nil ?_
 have hz:fS dk n=(⟨dk.Kept,dk.Now,dk.Wait,(max n (-1)),dk.Down⟩:cw):=by (rfl)
 rw [hz]
 exact R.w0 (ay,aF,av) gV [] (by exact .inl O) Tryz.results26 O O O O
theorem AK (aH:Nat)(ay aF av:Value)(dk:cw)(kp:Int)(w:World)(own:List Nat)(H:HN w own [ag.box aH [ay,aF,av,iV dk.Fuse,.bool dk.Down] 112,ag.row 9 ay dk.Kept,ag.row 9 aF dk.Now,ag.row 114 av dk.Wait] [])(hd:dk.Kept.length=dk.Now.length/\dk.Wait.length<=100000/\(∀t∈dk.Wait,0<=t.At/\t.At<(dk.Kept.length:Int)))(hk:0<=kp/\kp<=18446744073709551615):RC Tryz.prog 27 #[.pointer (some ⟨aH,0,none⟩),.int .u64 kp] H (fun _:Value×Value×Value => .tuple #[]) (fun z=>[ag.box aH [z.1,z.2.1,z.2.2,iV (a8 dk kp).Fuse,.bool (a8 dk kp).Down] 112,ag.row 9 z.1 (a8 dk kp).Kept,ag.row 9 z.2.1 (a8 dk kp).Now,ag.row 114 z.2.2 (a8 dk kp).Wait]) (fun _=>[]):=by
 have dZ:=H.cap 1 rfl;have d9:=H.cE 1 rfl
 have fh:=H.cap 2 rfl;have fj:=H.cE 2 rfl
 have ea:=H.cap 3 rfl;have ec:=H.cE 3 rfl
 refine R.bF [(0,.pointer (some ⟨aH,0,none⟩)),(1,.int .u64 kp)] Tryz.func27 O O O O H<|R.reg O<|R.u 1 O<|R.q (q.bR O) O<|R.q (q.aP O eV O) O<|R.q (q.ld 0 O O ff O) O<|R.q (q.len' (bD 3 O) O Tryz.underlying110) O<|R.u 1 O<|R.nil<|R.loop (fun g_:Nat×Value×(List ByteArray)=>[(0,.pointer (some ⟨aH,0,none⟩)),(1,.int .u64 kp),(9,av),(10,iV (dk.Wait.length:Int)),(11,iV (g_.1:Int))]) (fun g_=>[ag.box aH [g_.2.1,aF,av,iV dk.Fuse,.bool dk.Down] 112,ag.row 9 g_.2.1 g_.2.2,ag.row 9 aF dk.Now,ag.row 114 av dk.Wait,ag.held w own]) (fun g_=>[]) (fun g_=>g_.1<=dk.Wait.length/\g_.2.2=lA kp (dk.Wait.take g_.1) dk.Kept) (fun g_=>dk.Wait.length-g_.1) (0,ay,dk.Kept) O (by exact ⟨by omega,rfl⟩) (sF O) (iz gV [] O) ?_
 rintro ⟨j,qk,ks⟩ ⟨hj,HK⟩
 dsimp only at *
 have hkl:ks.length=dk.Kept.length:=by rw [HK];exact wH
 refine R.reg O<|?_
 by_cases h1:j<dk.Wait.length
 .
  refine R.q (q.dC O O) O<|R.nil<|R.az O O<|R.reg O<|R.u 1 O<|?_
  obtain ⟨x1,hx1⟩:∃z,dk.Wait[j]? = some z:=⟨_,List.getElem?_eq_getElem (by omega)⟩
  have US:=hd.2.2 x1 (List.mem_of_getElem? hx1)
  refine R.q (q.idx (i:=j) (bD 3 O) O O oq O hx1) O<|R.q (q.gh (ds:=[iV x1.At,.string x1.Data]) (bD 3 O) hx1 O Cv O) O<|R.s O (s.alloc kL O O) fun b1=>?_
  refine R.u 1 O<|R.s O (s.st 0 _ O O O O (.inl Cv) O O O O) fun _=>?_
  refine R.nil<|R.reg O<|R.u 2 O<|R.q (q.rem (r:=(((j % 64):Nat):Int)) O O (by omega) (Ub O)) O<|R.q (q.shr (r:=kp / ((2 ^ (j % 64):Nat):Int)) O O (by omega) (Ua O (by omega))) O<|R.q (q.and (r:=(kp / ((2 ^ (j % 64):Nat):Int)) % 2) O O (u64_and1 ⟨rfl,Int.ediv_nonneg hk.1 (Int.natCast_nonneg _),Int.le_trans (Int.ediv_le_self _ hk.1) hk.2⟩)) O<|?_
  by_cases h2:((kp / ((2 ^ (j % 64):Nat):Int)) % 2)=1
  .
   refine R.q (q.fI O O) O<|R.nil<|R.az O O ?_
   obtain ⟨x2,hx2⟩:∃z,ks[x1.At.toNat]? = some z:=⟨_,List.getElem?_eq_getElem (by omega)⟩
   refine R.fJ (fuel:=10) oU O O mixed O<|D.q (i:=0) O (aA oU [] O) O (q.mv O) O<|D.q (i:=1) O (aA oU [] O) O (q.bR O) O<|D.q (i:=2) O (aA oU [] O) O (q.aP O rJ O) O<|D.q (i:=4) O (aA oU [] O) O (q.aP O Ez O) O<|D.q (i:=5) O (aA oU [] O) O (q.ld 0 O O ap O) O<|D.q (i:=6) O (aA oU [] O) O (q.aP O EA O) O<|D.q (i:=7) O (aA oU [] O) O (q.ld 0 O O bG O) O<|D.one (i:=3) O<|Do.s (s.c (Qt.a (q.ld 1 O O eD O)) O) (fun _=>(aA oU [] O)) O fun _=>?_
   refine D.one (i:=8) O<|Do.s (s.c (Qt.a (q.idx (i:=x1.At.toNat) (bD 2 O) O O fw (by omega) hx2)) O) (fun _=>(aA oU [] O)) O fun _=>?_
   refine D.one (i:=9) O<|Do.s (s.OJ (z:=x1.Data) 2 _ O hx2 O O O O (.inr ⟨bG,rfl⟩) O) (fun _=>(aA oU [] O)) O fun _=>?_
   refine D.done<|R.reg O<|R.q (q.bA (r:=((j+1:Nat):Int)) O O) O<|R.u 1 O<|R.nil<|R.back (j+1,qk,(ks.set x1.At.toNat x1.Data)) O (by (exact ⟨by omega,by rw [zg hx1,<- HK];show _=(if zf kp j=true then ks.set x1.At.toNat x1.Data else ks);(rw [if_pos (show zf kp j=true from decide_eq_true ‹_›)];done)⟩)) (by dsimp only;omega) (sF O) (aA rl [] O)
  refine R.q (q.eU O O) O<|R.nil<|R.aD O O<|R.reg O<|R.q (q.bA (r:=((j+1:Nat):Int)) O O) O<|R.u 1 O<|R.nil<|R.back (j+1,qk,ks) O (by (exact ⟨by omega,by rw [zg hx1,<- HK];show _=(if zf kp j=true then ks.set x1.At.toNat x1.Data else ks);(rw [if_neg (show ¬ zf kp j=true from fun hh=>absurd (of_decide_eq_true (show decide (kp / ((2 ^ (j % 64):Nat):Int) % 2=1)=true from hh)) ‹_›)];done)⟩)) (by dsimp only;omega) (sF O) (aA rl [] O)
 refine R.q (q.cS O O) O<|R.nil<|R.aD O O<|R.fJ (fuel:=9) [1,3,4] O O mixed O<|D.q (i:=0) O (aA [1,3,4] [] O) O (q.mv O) O<|D.q (i:=1) O (aA [1,3,4] [] O) O (q.bR O) O<|D.q (i:=2) O (aA [1,3,4] [] O) O (q.aP O ij O) O<|D.q (i:=4) O (aA [1,3,4] [] O) O (q.mv O) O<|D.q (i:=5) O (aA [1,3,4] [] O) O (q.bR O) O<|D.q (i:=6) O (aA [1,3,4] [] O) O (q.aP O rJ O) O<|D.two (i:=3) (j:=7) O O ?_ ?_
 .
  refine Do.s (s.c (Qt.a (q.ld 0 O O eD O)) O) (fun _=>(aA [1,3,4] [] O)) O fun _=>?_
  refine D.one (i:=7) O<|Do.s (s.c (Qt.a (q.ld 0 O O eD O)) O) (fun _=>(aA [1,3,4] [] O)) O fun _=>?_
  refine D.one (i:=8) O<|Do.s (s.copy 2 _ O (bD 1 O) O O O fw (by omega) O O) (fun _=>(aA [1,3,4] [] O)) O fun _=>?_
  refine D.done<|R.reg O<|R.u 3 O<|R.q (q.bR O) O<|R.q (q.aP O eV O) O<|R.s O (s.st 0 _ O O O O (.inr ⟨ff,rfl⟩) O O O O) fun _=>?_
  refine R.q (q.bR O) O<|R.q (q.aP O im O) O<|R.s O (s.st 0 _ O O O O (.inr ⟨ig,rfl⟩) O O O O) fun _=>?_
  refine R.q (q.bR O) O<|R.q (q.aP O jR O) O<|R.s O (s.st 0 _ O O O O (.inr ⟨ap,rfl⟩) O O O O) fun _=>?_
  refine R.nil<|R.row0 (α:=Turn) 114 ?_
  have hz:a8 dk kp=(⟨ks,ks,[],-1,false⟩:cw):=by (rw [List.take_of_length_le (by omega)] at HK;unfold a8;rw [<- HK])
  rw [hz]
  exact R.w0 (qk,aF,(nS)) [1,2,3,0,5] [] (by exact .inl O) Tryz.results27 O O O O
 refine Do.s (s.c (Qt.a (q.ld 0 O O eD O)) O) (fun _=>(aA [1,3,4] [] O)) O fun _=>?_
 refine D.one (i:=3) O<|Do.s (s.c (Qt.a (q.ld 0 O O eD O)) O) (fun _=>(aA [1,3,4] [] O)) O fun _=>?_
 refine D.one (i:=8) O<|Do.s (s.copy 2 _ O (bD 1 O) O O O fw (by omega) O O) (fun _=>(aA [1,3,4] [] O)) O fun _=>?_
 refine D.done<|R.reg O<|R.u 3 O<|R.q (q.bR O) O<|R.q (q.aP O eV O) O<|R.s O (s.st 0 _ O O O O (.inr ⟨ff,rfl⟩) O O O O) fun _=>?_
 refine R.q (q.bR O) O<|R.q (q.aP O im O) O<|R.s O (s.st 0 _ O O O O (.inr ⟨ig,rfl⟩) O O O O) fun _=>?_
 refine R.q (q.bR O) O<|R.q (q.aP O jR O) O<|R.s O (s.st 0 _ O O O O (.inr ⟨ap,rfl⟩) O O O O) fun _=>?_
 refine R.nil<|R.row0 (α:=Turn) 114 ?_
 have hz:a8 dk kp=(⟨ks,ks,[],-1,false⟩:cw):=by (rw [List.take_of_length_le (by omega)] at HK;unfold a8;rw [<- HK])
 rw [hz]
 exact R.w0 (qk,aF,(nS)) [1,2,3,0,5] [] (by exact .inl O) Tryz.results27 O O O O
end Go.Proofs.YtkbhcbipadkcaaaGreatDoor
