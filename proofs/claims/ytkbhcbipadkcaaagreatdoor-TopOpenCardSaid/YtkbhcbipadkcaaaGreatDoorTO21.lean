import Derived.Test.YtkbhcbipadkcaaaGreatDoorTO20
namespace Go.Proofs.YtkbhcbipadkcaaaGreatDoor
set_option linter.unusedVariables false
set_option linter.unusedSimpArgs false
open Go Go.RowKit
set_option maxRecDepth 100000
set_option maxHeartbeats 90000000
theorem HM (cD:Nat)(aL:Value)(Kk:Nat)(Kl:Nat)(st:ka)(w:World)(SD:(ag.box cD [.pointer (some ⟨Kk,0,none⟩),iV st.Epoch,iV st.Side,iV st.Size,iV st.First,.pointer (some ⟨Kl,0,none⟩),aL] 133).ok w)(ES:Sl w aL (st.Rows:List Change))(hl:st.Rows.length<=100000):Calls Tryz.prog 38 #[.pointer (some ⟨cD,0,none⟩)] w fun e w' => ∃u,e = .returned u/\Own w.heap.size 117 w' u st.Rows/\Ext w w':=by
 refine R.enter [] [(0,.pointer (some ⟨cD,0,none⟩))] Tryz.func38 O O O O<|R.pO ES<|R.nI (r:=ag.box cD [.pointer (some ⟨Kk,0,none⟩),iV st.Epoch,iV st.Side,iV st.Size,iV st.First,.pointer (some ⟨Kl,0,none⟩),aL] 133) SD (jQ SD)<|R.reg O<|R.u 1 O<|R.nil<|R.reg O<|R.u 1 O<|R.q (q.cb O) O<|R.q (q.aO O jc O) O<|R.q (q.yx 0 O O gw O) O<|R.s O (s.aW [] [1] _ _ _ O O O N2 O O (fun w own hw H=>pg aL st.Rows w own H (by omega)) O) fun z1=>?_
 exact R.u 1 O<|R.nil<|R.ro 0 O Tryz.results38 O O (by rfl)
def lQ (d:cw):Nat->cY
  | 0=>⟨0,0,0,0⟩
  | k+1=>nY (lQ d k) (ck (bY d (k:Int)).1)
theorem C2 (d:cw):∀k,0<=(lQ d k).Epoch/\(lQ d k).Epoch<4294967296/\0<=(lQ d k).Side/\(lQ d k).Side<=1/\0<=(lQ d k).Size/\(lQ d k).Size<=2400/\0<=(lQ d k).First/\(lQ d k).First<4294967296/\(¬ (lQ d k).Epoch=0->1<=(lQ d k).First)
 | 0=>by simp [lQ]
 | k+1=>by
  unfold lQ nY;split
  .exact xd _
  .exact C2 d k
theorem SE {d:cw}(h:ky d=0):¬ d.Now.length<166/\¬ (headD d).Epoch=0/\(eY (rJ d)).2=true:=by
 unfold ky at h
 split at h
 .cases h
 .
  split at h
  .cases h
  .
   split at h
   .exact ⟨by assumption,by assumption,by assumption⟩
   .cases h
theorem C4:∀ (k:Nat) (t:ByteArray) (l:List Change),(py k t l).1.length<=l.length+t.size
 | 0,t,l=>by rw [py];show l.length<=_;omega
 | k+1,t,l=>by
  rw [py]
  split
  .dsimp only;omega
  .
   split
   .simp
   .
    rename_i h1 h2
    split
    .
     have:=C4 k (t.extract (qe t) t.size) (bW l [xg t])
     have ha:=kU [xg t] l
     rw [List.length_singleton] at ha
     rw [ByteArray.size_extract] at this
     have:3<=qe t:=by unfold qe;omega
     omega
    .simp
theorem ET (t:ByteArray):(eY t).1.length<=t.size:=by
 have:=C4 (t.size+1) t []
 simpa [eY] using this
theorem xp {M:Nat}:∀ (l:List ByteArray) (n:Int) (out:List (List Change)) (deed:List Change) (used pos:Nat),(∀c∈out,c.length<=M)->deed.length+l.length<=M -> ∀c∈(iJ l n out deed used pos).1,c.length<=M
 | [],n,out,deed,used,pos,h,hd=>h
 | s::r,n,out,deed,used,pos,h,hd=>by
  rw [List.length_cons] at hd
  rw [iJ]
  split
  .
   refine xp r _ _ _ _ _ (fun c hc=>?_) (by simp;omega)
   rcases List.mem_append.1 hc with hc|hc
   .exact h c hc
   .rw [List.mem_singleton.1 hc];omega
  .
   split
   .exact xp r _ _ _ _ _ h (by simp;omega)
   .exact h
theorem EU {d:cw}{f:Int}{k:Nat}{first:Int}:∀c∈lC d f k first,c.length<=k:=by
 unfold lC scan
 exact xp _ _ _ _ _ _ (by simp) (by rw [qa];simp)
theorem xq {M:Nat}:∀ (W:List (List Change)) (rows:List Change),(∀c∈W,c.length<=M)->(kz rows W).length<=rows.length+M*W.length
 | [],rows,h=>by simp [kz]
 | c::W,rows,h=>by
  have h1:=xq W (bW rows c) (fun x hx=>h x (List.mem_cons_of_mem _ hx))
  have h2:=kU c rows
  have h3:=h c (List.mem_cons_self ..)
  show (kz (bW rows c) W).length<=_
  rw [List.length_cons,Nat.mul_add,Nat.mul_one]
  omega
attribute [local irreducible] fE lC eY
set_option maxRecDepth 100000 in
set_option maxHeartbeats 90000000 in
theorem zE (aH:Nat)(ay aG az:Value)(dk:cw)(w:World)(own:List Nat)(H:HN w own [ag.box aH [ay,aG,az,iV dk.Fuse,.bool dk.Down] 112,ag.row 9 ay dk.Kept,ag.row 9 aG dk.Now,ag.row 114 az dk.Wait] [])(hd:dk.Down=false)(ho:ky dk=0)(hD:fL dk.Now.length 90000 dk/\dk.Now.length<=200):RC Tryz.prog 36 #[.pointer (some ⟨aH,0,none⟩)] H (fun z:Value×Value×Value×Nat×Value×Nat => .tuple #[.pointer (some ⟨z.2.2.2.1,0,none⟩),.nilIface]) (fun z=>[ag.box aH [z.1,z.2.1,z.2.2.1,iV dk.Fuse,.bool dk.Down] 112,ag.row 9 z.1 dk.Kept,ag.row 9 z.2.1 dk.Now,ag.row 114 z.2.2.1 dk.Wait,ag.box z.2.2.2.1 [.pointer (some ⟨aH,0,none⟩),iV (bm dk).c.Epoch,iV (bm dk).c.Side,iV (bm dk).c.Size,iV (bm dk).c.First,.pointer (some ⟨z.2.2.2.2.2,0,none⟩),z.2.2.2.2.1] 133,ag.box z.2.2.2.2.2 [.pointer (some ⟨aH,0,none⟩),iV (bm dk).L.From,iV (bm dk).L.Many,iV (bm dk).L.First,iV (bm dk).L.Next] 198]) (fun z=>[ag.ls z.2.2.2.2.1 (bm dk).c.Rows]):=by
 have eE:=H.cap 1 rfl;have eF:=H.cL 1 rfl
 have fC:=H.cap 2 rfl;have fD:=H.cL 2 rfl
 have eG:=H.cap 3 rfl;have eH:=H.cL 3 rfl
 obtain ⟨o1,o2,o3⟩:=SE ho
 refine R.bC (n:=144) (vs:=[.pointer (some ⟨aH,0,none⟩)]) (B:=[ag.box aH [ay,aG,az,iV dk.Fuse,.bool dk.Down] 112,ag.row 9 ay dk.Kept,ag.row 9 aG dk.Now,ag.row 114 az dk.Wait,ag.held w own]) [(0,.pointer (some ⟨aH,0,none⟩))] Tryz.func36 O O O O H ?_
 refine R.reg O<|R.u 2 O<|R.nil ?_
 refine R.reg O<|R.u 1 O<|R.c (q.call N1 O O (fun w hw=>(cv (congrArg Value.bool hd) (zn aH ay aG az dk w (hw.b 0 O) (hw.row 1 O) (hw.row 2 O) (hw.row 3 O) )))) O<|R.nil ?_
 refine R.aA O O ?_
 refine R.reg O<|R.u 1 O<|R.c (q.call uD O O (fun w hw=>(gE aH ay aG az dk w (hw.b 0 O) (hw.row 1 O) (hw.row 2 O) (hw.row 3 O) ))) O<|R.q (q.lss O O (decide_eq_false (by omega))) O<|R.nil ?_
 refine R.aA O O ?_
 refine R.reg O<|R.u 1 O<|R.q (q.build (cs:=[.pointer (some ⟨aH,0,none⟩),iV 0,iV 0,iV 0,iV 0,.pointer none,nS]) OX O O) O<|?_
 refine R.s O (s.box (cs:=[.pointer (some ⟨aH,0,none⟩),iV 0,iV 0,iV 0,iV 0,.pointer none,nS]) O O O) fun b1=>?_
 refine R.u 1 O<|R.nil ?_
 refine R.reg O<|R.u 1 O<|R.nil ?_
 refine R.loop (fun g_:Nat×cY=>[(0,.pointer (some ⟨aH,0,none⟩)),(4,.pointer (some ⟨b1,0,none⟩)),(30,iV (g_.1:Int))]) (fun g_=>[ag.box b1 [.pointer (some ⟨aH,0,none⟩),iV g_.2.Epoch,iV g_.2.Side,iV g_.2.Size,iV g_.2.First,.pointer none,nS] 133,ag.box aH [ay,aG,az,iV dk.Fuse,.bool dk.Down] 112,ag.row 9 ay dk.Kept,ag.row 9 aG dk.Now,ag.row 114 az dk.Wait,ag.held w own]) (fun g_=>[]) (fun g_=>g_.1<=2/\g_.2=lQ dk g_.1) (fun g_=>2-g_.1) (0,(⟨0,0,0,0⟩:cY)) O (by exact ⟨by omega,rfl⟩) ⟨rfl,rfl,rfl,trivial⟩ (fun _=>Wd.pick rm [] O O O) ?_
 rintro ⟨i,hh⟩ ⟨hi,HK⟩
 dsimp only at *
 have hin:=C2 dk i;rw [<- HK] at hin
 refine R.reg O<|?_
 by_cases h1:i<2
 .
  refine R.q (q.lss O O (decide_eq_true (by omega))) O<|R.nil ?_
  refine R.av O O ?_
  refine R.reg O<|R.u 2 O<|R.nil ?_
  have hrd:=xa hD.1 hd (i:=(i:Int)) (by omega) (by omega);obtain ⟨hrd,hsz⟩:=hrd;have hin2:=xd (bY dk (i:Int)).1
  refine R.reg O<|R.u 2 O<|R.c (q.call Jf O O (fun w hw=>(tO aH ay aG az dk (i:Int) w (hw.b 1 O) (hw.row 2 O) (hw.row 3 O) (hw.row 4 O) ))) O<|R.u 5 O<|R.nil ?_
  refine R.reg O<|R.u 1 O<|R.q (q.dB O O Tryz.underlying38 (by omega)) O<|R.nil ?_
  refine R.aA O O ?_
  refine R.reg O<|R.u 1 O<|?_
  refine R.s (B':=(fun _u:Unit=>[ag.box b1 [.pointer (some ⟨aH,0,none⟩),iV hh.Epoch,iV hh.Side,iV hh.Size,iV hh.First,.pointer none,nS] 133,ag.box aH [ay,aG,az,iV dk.Fuse,.bool dk.Down] 112,ag.row 9 ay dk.Kept,ag.row 9 aG dk.Now,ag.row 114 az dk.Wait,ag.held w own])) (F':=(fun _u:Unit=>[])) O (s.aW (B0:=[]) (Br:=[ag.box b1 [.pointer (some ⟨aH,0,none⟩),iV hh.Epoch,iV hh.Side,iV hh.Size,iV hh.First,.pointer none,nS] 133,ag.box aH [ay,aG,az,iV dk.Fuse,.bool dk.Down] 112,ag.row 9 ay dk.Kept,ag.row 9 aG dk.Now,ag.row 114 az dk.Wait,ag.held w own]) (F0:=[]) rm [] (fun _u:Unit => .agg #[iV (ck (bY dk (i:Int)).1).Epoch,iV (ck (bY dk (i:Int)).1).Side,iV (ck (bY dk (i:Int)).1).Size,iV (ck (bY dk (i:Int)).1).First]) (fun _u:Unit=>[]) (fun _u:Unit=>[]) O O O R9 O O (fun w own hw H=>EP (bY dk (i:Int)).1 w own H (by omega)) O) fun _=>?_
  refine R.s O (s.alloc (cs:=[iV 0,iV 0,iV 0,iV 0]) jv O O) fun b2=>?_
  refine R.s O (s.st (us:=[iV (ck (bY dk (i:Int)).1).Epoch,iV (ck (bY dk (i:Int)).1).Side,iV (ck (bY dk (i:Int)).1).Size,iV (ck (bY dk (i:Int)).1).First]) (cs':=[iV (ck (bY dk (i:Int)).1).Epoch,iV (ck (bY dk (i:Int)).1).Side,iV (ck (bY dk (i:Int)).1).Size,iV (ck (bY dk (i:Int)).1).First]) 0 _ O O O O (.inl aT) O O O O) fun _=>?_
  refine R.nil ?_
  by_cases h2:hh.Epoch<(ck (bY dk (i:Int)).1).Epoch
  .
   refine R.eu O mixed (by kernel_rfl)<|Q.q (q.aO (off':=0) O i6 O) O<|Q.q (q.ld 0 O O au O) O<|Q.u 1 O<|Q.q (q.cb O) O<|Q.q (q.aO (off':=1) O gO O) O<|Q.q (q.aO (off':=1) O i6 O) O<|Q.q (q.ld 1 O O au O) O<|Q.q (q.gtr O O (decide_eq_true (by omega))) O<|Q.nil ?_
   refine R.av O O ?_
   refine R.reg O<|R.u 1 O<|R.q (q.dt 0 O O aT) O<|R.q (q.cb O) O<|R.q (q.aO (off':=1) O gO O) O<|?_
   refine R.s O (s.st (us:=[iV (ck (bY dk (i:Int)).1).Epoch,iV (ck (bY dk (i:Int)).1).Side,iV (ck (bY dk (i:Int)).1).Size,iV (ck (bY dk (i:Int)).1).First]) (cs':=[.pointer (some ⟨aH,0,none⟩),iV (ck (bY dk (i:Int)).1).Epoch,iV (ck (bY dk (i:Int)).1).Side,iV (ck (bY dk (i:Int)).1).Size,iV (ck (bY dk (i:Int)).1).First,.pointer none,nS]) 1 _ O O O O (.inl aT) O O O O) fun _=>?_
   refine R.nil ?_
   refine R.reg O<|R.q (q.add (r:=((i+1:Nat):Int)) O O (wr (by omega))) O<|R.u 1 O<|R.nil ?_
   refine R.back (i+1,ck (bY dk (i:Int)).1) O (by (exact ⟨by omega,by show _=nY (lQ dk i) (ck (bY dk (i:Int)).1);rw [<- HK];unfold nY;rw [if_pos ‹_›]⟩)) (by dsimp only;omega) ⟨rfl,rfl,rfl,trivial⟩ (kG [1,2,3,4,5,6] [] O O O)
  refine R.eu O mixed (by kernel_rfl)<|Q.q (q.aO (off':=0) O i6 O) O<|Q.q (q.ld 0 O O au O) O<|Q.u 1 O<|Q.q (q.cb O) O<|Q.q (q.aO (off':=1) O gO O) O<|Q.q (q.aO (off':=1) O i6 O) O<|Q.q (q.ld 1 O O au O) O<|Q.q (q.gtr O O (decide_eq_false (by omega))) O<|Q.nil ?_
  refine R.aA O O ?_
  refine R.reg O<|R.q (q.add (r:=((i+1:Nat):Int)) O O (wr (by omega))) O<|R.u 1 O<|R.nil ?_
  refine R.back (i+1,hh) O (by (exact ⟨by omega,by show _=nY (lQ dk i) (ck (bY dk (i:Int)).1);rw [<- HK];unfold nY;rw [if_neg ‹_›]⟩)) (by dsimp only;omega) ⟨rfl,rfl,rfl,trivial⟩ (kG [1,2,3,4,5,6] [] O O O)
 refine R.q (q.lss O O (decide_eq_false (by omega))) O<|R.nil ?_
 refine R.aA O O ?_
 have T6:hh=headD dk:=by rw [HK,show i=2 by omega];rfl
 have Wj:¬ hh.Epoch=0:=by rw [T6];exact o2
 refine R.reg O<|R.u 1 O<|R.q (q.cb O) O<|R.q (q.aO (off':=1) O gO O) O<|R.q (q.aO (off':=1) O i6 O) O<|R.q (q.ld 0 O O au O) O<|R.q (q.eql O O (beq_eq_false_iff_ne.2 (by omega))) O<|R.nil ?_
 refine R.aA O O ?_
 refine R.reg O<|R.u 1 O<|R.nil ?_
 refine R.reg O<|R.u 1 O<|R.nil ?_
 refine R.loop (fun g_:Nat×ByteArray=>[(0,.pointer (some ⟨aH,0,none⟩)),(4,.pointer (some ⟨b1,0,none⟩)),(9,.string g_.2),(64,iV (g_.1:Int))]) (fun g_=>[ag.box b1 [.pointer (some ⟨aH,0,none⟩),iV hh.Epoch,iV hh.Side,iV hh.Size,iV hh.First,.pointer none,nS] 133,ag.box aH [ay,aG,az,iV dk.Fuse,.bool dk.Down] 112,ag.row 9 ay dk.Kept,ag.row 9 aG dk.Now,ag.row 114 az dk.Wait,ag.held w own]) (fun g_=>[]) (fun g_=>g_.1<=50/\g_.2=vg dk (2+hh.Side*50) g_.1/\g_.2.size=48*g_.1) (fun g_=>50-g_.1) (0,(⟨#[]⟩:ByteArray)) O (by exact ⟨by omega,rfl,rfl⟩) ⟨rfl,rfl,rfl,rfl,trivial⟩ (fun _=>Wd.pick rm [] O O O) ?_
 rintro ⟨j,tx⟩ ⟨hj,HT,hts⟩
 dsimp only at *
 refine R.reg O<|?_
 by_cases h3:j<50
 .
  refine R.q (q.lss O O (decide_eq_true (by omega))) O<|R.nil ?_
  refine R.av O O ?_
  refine R.reg O<|R.u 2 O<|R.nil ?_
  have hrd:=xa hD.1 hd (i:=2+hh.Side*50+(j:Int)) (by omega) (by omega);obtain ⟨hrd,hsz⟩:=hrd
  refine R.reg O<|R.u 2 O<|R.q (q.cb O) O<|R.q (q.aO (off':=1) O gO O) O<|R.q (q.aO (off':=2) O iu O) O<|R.q (q.ld 0 O O au O) O<|R.q (q.mul (r:=hh.Side*50) O O (wr (by omega))) O<|R.q (q.add (r:=2+(hh.Side*50)) O O (wr (by omega))) O<|R.u 1 O<|R.q (q.add (r:=(2+(hh.Side*50))+(j:Int)) O O (wr (by omega))) O<|R.c (q.call Jf O O (fun w hw=>(tO aH ay aG az dk ((2+(hh.Side*50))+(j:Int)) w (hw.b 1 O) (hw.row 2 O) (hw.row 3 O) (hw.row 4 O) ))) O<|R.u 5 O<|R.nil ?_
  refine R.reg O<|R.u 1 O<|R.q (q.dB O O Tryz.underlying38 (by omega)) O<|R.nil ?_
  refine R.aA O O ?_
  refine R.reg O<|R.u 2 O<|R.q (q.cat O O (by omega)) O<|R.u 1 O<|R.nil ?_
  refine R.reg O<|R.q (q.add (r:=((j+1:Nat):Int)) O O (wr (by omega))) O<|R.u 1 O<|R.nil ?_
  refine R.back (j+1,(tx++(bY dk ((2+(hh.Side*50))+(j:Int))).1)) O (by (exact ⟨by omega,by show _=vg dk (2+hh.Side*50) j++_;rw [<- HT],by rw [ByteArray.size_append];omega⟩)) (by dsimp only;omega) ⟨rfl,rfl,rfl,rfl,trivial⟩ (kG rm [] O O O)
 refine R.q (q.lss O O (decide_eq_false (by omega))) O<|R.nil ?_
 refine R.aA O O ?_
 have hth:tx.extract 0 hh.Size.toNat=rJ dk:=by rw [HT,T6,show j=50 by omega];rfl
 have hpb:(eY (tx.extract 0 hh.Size.toNat)).2=true:=by rw [hth];exact o3
 refine R.reg O<|R.u 2 O<|R.q (q.cb O) O<|R.q (q.aO (off':=1) O gO O) O<|R.q (q.aO (off':=3) O jU O) O<|R.q (q.ld 0 O O au O) O<|R.q (q.Vo (i:=hh.Size.toNat) O O Tryz.underlying9 (by omega) (by omega)) O<|?_
 refine R.s (B':=(fun kQ:Value=>[ag.row 117 kQ (eY (tx.extract 0 hh.Size.toNat)).1,ag.box b1 [.pointer (some ⟨aH,0,none⟩),iV hh.Epoch,iV hh.Side,iV hh.Size,iV hh.First,.pointer none,nS] 133,ag.box aH [ay,aG,az,iV dk.Fuse,.bool dk.Down] 112,ag.row 9 ay dk.Kept,ag.row 9 aG dk.Now,ag.row 114 az dk.Wait,ag.held w own])) (F':=(fun kQ:Value=>[])) O (s.aW (B0:=[]) (Br:=[ag.box b1 [.pointer (some ⟨aH,0,none⟩),iV hh.Epoch,iV hh.Side,iV hh.Size,iV hh.First,.pointer none,nS] 133,ag.box aH [ay,aG,az,iV dk.Fuse,.bool dk.Down] 112,ag.row 9 ay dk.Kept,ag.row 9 aG dk.Now,ag.row 114 az dk.Wait,ag.held w own]) (F0:=[]) rm [] (fun kQ:Value => .tuple #[kQ,.bool (eY (tx.extract 0 hh.Size.toNat)).2]) (fun kQ:Value=>[ag.row 117 kQ (eY (tx.extract 0 hh.Size.toNat)).1]) (fun kQ:Value=>[]) O O O Sb O O (fun w own hw H=>Hz (tx.extract 0 hh.Size.toNat) w own H (by (rw [ByteArray.size_extract];omega))) O) fun z1=>?_
 refine R.u 5 O<|R.nil ?_
 refine R.reg O<|R.u 1 O<|R.q (q.not O) O<|R.nil ?_
 refine R.cond O O (fun h4=>?_) (fun h4=>?_)
 .exact absurd h4 (by rw [hpb];decide)
 refine R.fY (fuel:=17) [0,1,6] O O mixed O ?_
 refine D.q (i:=0) O (kG [0,1,6] [] O O O) O (q.mv O) O<|D.q (i:=1) O (kG [0,1,6] [] O O O) O (q.mv O) O<|D.q (i:=4) O (kG [0,1,6] [] O O O) O (q.mv O) O<|D.q (i:=5) O (kG [0,1,6] [] O O O) O (q.cb O) O<|D.q (i:=6) O (kG [0,1,6] [] O O O) O (q.aO (off':=1) O gO O) O<|D.q (i:=7) O (kG [0,1,6] [] O O O) O (q.aO (off':=4) O i7 O) O<|D.q (i:=8) O (kG [0,1,6] [] O O O) O (q.ld 1 O O au O) O<|?_
 refine D.one (i:=2) O ?_
 refine Do.s (s.c (q.call uD O O (fun w hw=>(gE aH ay aG az dk w (hw.b 2 O) (hw.row 3 O) (hw.row 4 O) (hw.row 5 O) ))) O) (fun _=>(kG [0,1,6] [] O O O)) O fun _=>?_
 refine D.q (i:=3) O (kG [0,1,6] [] O O O) O (q.sub (r:=((dk.Now.length-102:Nat):Int)) O O (wr (by omega))) O<|?_
 refine D.one (i:=9) O ?_
 refine Do.s (B':=(fun g_:Value×Value×Value×Nat×Value×List ku=>[ag.box aH [g_.1,g_.2.1,g_.2.2.1,iV dk.Fuse,.bool dk.Down] 112,ag.row 9 g_.1 dk.Kept,ag.row 9 g_.2.1 dk.Now,ag.row 114 g_.2.2.1 dk.Wait,ag.box g_.2.2.2.1 [.pointer (some ⟨aH,0,none⟩),iV (⟨102,(((dk.Now.length-102):Nat):Int),hh.First,(fE dk 102 (Int.toNat (((dk.Now.length-102):Nat):Int)) hh.First:Int)⟩:Lg).From,iV (⟨102,(((dk.Now.length-102):Nat):Int),hh.First,(fE dk 102 (Int.toNat (((dk.Now.length-102):Nat):Int)) hh.First:Int)⟩:Lg).Many,iV (⟨102,(((dk.Now.length-102):Nat):Int),hh.First,(fE dk 102 (Int.toNat (((dk.Now.length-102):Nat):Int)) hh.First:Int)⟩:Lg).First,iV (⟨102,(((dk.Now.length-102):Nat):Int),hh.First,(fE dk 102 (Int.toNat (((dk.Now.length-102):Nat):Int)) hh.First:Int)⟩:Lg).Next] 198,ag.row 117 z1 (eY (tx.extract 0 hh.Size.toNat)).1,ag.box b1 [.pointer (some ⟨aH,0,none⟩),iV hh.Epoch,iV hh.Side,iV hh.Size,iV hh.First,.pointer none,nS] 133,ag.held w own])) (F':=(fun g_=>[ag.ls g_.2.2.2.2.1 g_.2.2.2.2.2,ag.p8 (g_.2.2.2.2.2:List ku) (lC dk 102 (Int.toNat (((dk.Now.length-102):Nat):Int)) hh.First)])) (s.aW (B0:=[ag.box aH [ay,aG,az,iV dk.Fuse,.bool dk.Down] 112,ag.row 9 ay dk.Kept,ag.row 9 aG dk.Now,ag.row 114 az dk.Wait]) (Br:=[ag.row 117 z1 (eY (tx.extract 0 hh.Size.toNat)).1,ag.box b1 [.pointer (some ⟨aH,0,none⟩),iV hh.Epoch,iV hh.Side,iV hh.Size,iV hh.First,.pointer none,nS] 133,ag.held w own]) (F0:=[]) [2,3,4,5,0,1,6] [] (fun g_:Value×Value×Value×Nat×Value×List ku => .tuple #[.pointer (some ⟨g_.2.2.2.1,0,none⟩),g_.2.2.2.2.1,.nilIface]) (fun g_=>[ag.box aH [g_.1,g_.2.1,g_.2.2.1,iV dk.Fuse,.bool dk.Down] 112,ag.row 9 g_.1 dk.Kept,ag.row 9 g_.2.1 dk.Now,ag.row 114 g_.2.2.1 dk.Wait,ag.box g_.2.2.2.1 [.pointer (some ⟨aH,0,none⟩),iV (⟨102,(((dk.Now.length-102):Nat):Int),hh.First,(fE dk 102 (Int.toNat (((dk.Now.length-102):Nat):Int)) hh.First:Int)⟩:Lg).From,iV (⟨102,(((dk.Now.length-102):Nat):Int),hh.First,(fE dk 102 (Int.toNat (((dk.Now.length-102):Nat):Int)) hh.First:Int)⟩:Lg).Many,iV (⟨102,(((dk.Now.length-102):Nat):Int),hh.First,(fE dk 102 (Int.toNat (((dk.Now.length-102):Nat):Int)) hh.First:Int)⟩:Lg).First,iV (⟨102,(((dk.Now.length-102):Nat):Int),hh.First,(fE dk 102 (Int.toNat (((dk.Now.length-102):Nat):Int)) hh.First:Int)⟩:Lg).Next] 198]) (fun g_=>[ag.ls g_.2.2.2.2.1 g_.2.2.2.2.2,ag.p8 (g_.2.2.2.2.2:List ku) (lC dk 102 (Int.toNat (((dk.Now.length-102):Nat):Int)) hh.First)]) O O O N0 O O (fun w own hw H=>CW aH ay aG az dk 102 (((dk.Now.length-102):Nat):Int) hh.First w own H (by refine ⟨by decide,?_,?_,?_,?_⟩ <;> omega) hd (⟨hD.1,by omega⟩)) O) (fun _=>(kG [5,6,7] [] O O O)) O ?_
 rintro ⟨z8,z9,lH,l9,z12,qc⟩
 dsimp only
 refine D.q (i:=10) O (kG [5,6,7] [] O O O) O (q.mv O) O<|D.q (i:=11) O (kG [5,6,7] [] O O O) O (q.ext O O) O<|D.q (i:=12) O (kG [5,6,7] [] O O O) O (q.ext O O) O<|D.q (i:=13) O (kG [5,6,7] [] O O O) O (q.ext O O) O<|D.q (i:=14) O (kG [5,6,7] [] O O O) O (q.as O) O<|D.q (i:=15) O (kG [5,6,7] [] O O O) O (q.as O) O<|D.q (i:=16) O (kG [5,6,7] [] O O O) O (q.as O) O<|D.done<|?_
 refine R.reg O<|R.u 1 O<|R.q (q.vS O O Tryz.underlying38) O<|R.nil ?_
 refine R.aA O O ?_
 refine R.reg O<|R.u 4 O<|R.q (q.cb O) O<|R.q (q.aO (off':=5) O kN O) O<|?_
 refine R.s O (s.st (us:=[.pointer (some ⟨l9,0,none⟩)]) (cs':=[.pointer (some ⟨aH,0,none⟩),iV hh.Epoch,iV hh.Side,iV hh.Size,iV hh.First,.pointer (some ⟨l9,0,none⟩),nS]) 6 _ O O O O (.inr ⟨fB,rfl⟩) O O O O) fun _=>?_
 refine Rg.PS (F':=[ag.lO (qc:List ku),ag.ls z12 qc]) 1 O O fun hE1=>?_
 refine R.q (q.cb O) O<|R.q (q.aO (off':=6) O jc O) O<|?_
 refine R.s O (s.fX (us:=[z1]) (cs':=[.pointer (some ⟨aH,0,none⟩),iV hh.Epoch,iV hh.Side,iV hh.Size,iV hh.First,.pointer (some ⟨l9,0,none⟩),z1]) 6 _ O O O (fun w hw=>Sl.cm (hw.row 5 O)) (.inr ⟨gw,rfl⟩) (fun w hw=>(af (Sl.one (hw.row 5 O)) aP)) O O O) fun _=>?_
 refine R.nil ?_
 refine R.reg O<|R.u 1 O<|R.q (q.len' (dw 1 O) O Tryz.underlying141) O<|R.u 1 O<|R.nil ?_
 refine R.mp (B':=[ag.box aH [z8,z9,lH,iV dk.Fuse,.bool dk.Down] 112,ag.row 9 z8 dk.Kept,ag.row 9 z9 dk.Now,ag.row 114 lH dk.Wait,ag.box l9 [.pointer (some ⟨aH,0,none⟩),iV 102,iV (((dk.Now.length-102):Nat):Int),iV hh.First,iV (fE dk 102 (Int.toNat (((dk.Now.length-102):Nat):Int)) hh.First:Int)] 198,ag.box b1 [.pointer (some ⟨aH,0,none⟩),iV hh.Epoch,iV hh.Side,iV hh.Size,iV hh.First,.pointer (some ⟨l9,0,none⟩),z1] 133,ag.held w own]) (fun _ hw=>hw.cW 5 _ O O) ?_
 refine R.loop (fun g_:Nat×Value×(List Change)=>[(4,.pointer (some ⟨b1,0,none⟩)),(127,z12),(128,iV (qc.length:Int)),(129,iV (g_.1:Int))]) (fun g_=>[ag.box aH [z8,z9,lH,iV dk.Fuse,.bool dk.Down] 112,ag.row 9 z8 dk.Kept,ag.row 9 z9 dk.Now,ag.row 114 lH dk.Wait,ag.box l9 [.pointer (some ⟨aH,0,none⟩),iV 102,iV (((dk.Now.length-102):Nat):Int),iV hh.First,iV (fE dk 102 (Int.toNat (((dk.Now.length-102):Nat):Int)) hh.First:Int)] 198,ag.box b1 [.pointer (some ⟨aH,0,none⟩),iV hh.Epoch,iV hh.Side,iV hh.Size,iV hh.First,.pointer (some ⟨l9,0,none⟩),g_.2.1] 133,ag.held w own]) (fun g_=>[ag.ls g_.2.1 g_.2.2,ag.ls z1 (eY (tx.extract 0 hh.Size.toNat)).1,ag.lO (qc:List ku),ag.ls z12 qc]) (fun g_=>g_.1<=qc.length/\g_.2.2=kz (eY (rJ dk)).1 ((qc.map ku.L).take g_.1)) (fun g_=>qc.length-g_.1) (0,z1,(eY (tx.extract 0 hh.Size.toNat)).1) O (by exact ⟨by omega,by rw [hth];rfl⟩) ⟨rfl,rfl,rfl,rfl,trivial⟩ (fun _=>Wd.pick mg [0,0,1,2] O O O) ?_
 rintro ⟨k,vr,rr⟩ ⟨hk,HR⟩
 dsimp only at *
 have Wk:=MB hE1;have hWs:∀c∈qc.map ku.L,c.length<=98:=fun c hc=>by rw [hE1] at hc;have:=EU c hc;omega
 have hrl:rr.length<=12004:=by have h1:=xq (M:=98) ((qc.map ku.L).take k) (eY (rJ dk)).1 (fun c hc=>hWs c (List.mem_of_mem_take hc));have h2:=ET (rJ dk);have h3:(rJ dk).size<=2400:=(by rw [<- hth,ByteArray.size_extract];omega);rw [List.length_take,List.length_map] at h1;rw [HR];omega
 refine R.reg O<|?_
 by_cases h5:k<qc.length
 .
  refine R.q (q.lss O O (decide_eq_true (by omega))) O<|R.nil ?_
  refine R.av O O ?_
  refine R.reg O<|?_
  obtain ⟨x1,hx1⟩:∃z,qc[k]? = some z:=⟨_,List.getElem?_eq_getElem (by omega)⟩
  refine R.q (q.idx (i:=k) (dw 3 O) O O FW O hx1) O<|R.q (q.lv (dw 3 O) hx1 O gw O) O<|R.u 1 O<|R.nil ?_
  have hxl:=hWs x1.L (List.mem_map_of_mem (List.mem_of_getElem? hx1))
  refine R.reg O<|R.u 2 O<|R.q (q.cb O) O<|R.q (q.aO (off':=6) O jc O) O<|R.q (q.ld 5 O O gw O) O<|R.u 1 O<|?_
  refine R.s (B':=(fun kQ:Value=>[ag.row 117 kQ (bW rr x1.L),ag.box aH [z8,z9,lH,iV dk.Fuse,.bool dk.Down] 112,ag.row 9 z8 dk.Kept,ag.row 9 z9 dk.Now,ag.row 114 lH dk.Wait,ag.box l9 [.pointer (some ⟨aH,0,none⟩),iV 102,iV (((dk.Now.length-102):Nat):Int),iV hh.First,iV (fE dk 102 (Int.toNat (((dk.Now.length-102):Nat):Int)) hh.First:Int)] 198,ag.box b1 [.pointer (some ⟨aH,0,none⟩),iV hh.Epoch,iV hh.Side,iV hh.Size,iV hh.First,.pointer (some ⟨l9,0,none⟩),vr] 133,ag.held w own])) (F':=(fun kQ:Value=>[ag.ls x1.cv x1.L,ag.ls vr rr,ag.ls z1 (eY (tx.extract 0 hh.Size.toNat)).1,ag.lO (qc:List ku),ag.ls z12 qc])) O (s.pre (B2:=[ag.box aH [z8,z9,lH,iV dk.Fuse,.bool dk.Down] 112,ag.row 9 z8 dk.Kept,ag.row 9 z9 dk.Now,ag.row 114 lH dk.Wait,ag.box l9 [.pointer (some ⟨aH,0,none⟩),iV 102,iV (((dk.Now.length-102):Nat):Int),iV hh.First,iV (fE dk 102 (Int.toNat (((dk.Now.length-102):Nat):Int)) hh.First:Int)] 198,ag.box b1 [.pointer (some ⟨aH,0,none⟩),iV hh.Epoch,iV hh.Side,iV hh.Size,iV hh.First,.pointer (some ⟨l9,0,none⟩),vr] 133,ag.held w own]) (F2:=[ag.ls x1.cv x1.L,ag.ls vr rr,ag.ls z1 (eY (tx.extract 0 hh.Size.toNat)).1,ag.lO (qc:List ku),ag.ls z12 qc]) (fun _ hw=>hw.PQ (x:=x1) 2 O (List.mem_of_getElem? hx1)) (s.aW (B0:=[]) (Br:=[ag.box aH [z8,z9,lH,iV dk.Fuse,.bool dk.Down] 112,ag.row 9 z8 dk.Kept,ag.row 9 z9 dk.Now,ag.row 114 lH dk.Wait,ag.box l9 [.pointer (some ⟨aH,0,none⟩),iV 102,iV (((dk.Now.length-102):Nat):Int),iV hh.First,iV (fE dk 102 (Int.toNat (((dk.Now.length-102):Nat):Int)) hh.First:Int)] 198,ag.box b1 [.pointer (some ⟨aH,0,none⟩),iV hh.Epoch,iV hh.Side,iV hh.Size,iV hh.First,.pointer (some ⟨l9,0,none⟩),vr] 133,ag.held w own]) (F0:=[ag.ls vr rr,ag.ls x1.cv x1.L]) mg [1,0] (fun kQ:Value=>kQ) (fun kQ:Value=>[ag.row 117 kQ (bW rr x1.L)]) (fun kQ:Value=>[]) O O O Jg O O (fun w own hw H=>oI vr rr x1.cv x1.L w own H (by omega)) O)) fun yD=>?_
  refine R.q (q.cb O) O<|R.q (q.aO (off':=6) O jc O) O<|?_
  refine R.s O (s.fX (us:=[yD]) (cs':=[.pointer (some ⟨aH,0,none⟩),iV hh.Epoch,iV hh.Side,iV hh.Size,iV hh.First,.pointer (some ⟨l9,0,none⟩),yD]) 6 _ O O O (fun w hw=>Sl.cm (hw.row 0 O)) (.inr ⟨gw,rfl⟩) (fun w hw=>(af (Sl.one (hw.row 0 O)) aP)) O O O) fun _=>?_
  refine R.nil ?_
  refine R.reg O<|R.q (q.add (r:=((k+1:Nat):Int)) O O (wr (by omega))) O<|R.u 1 O<|R.nil ?_
  refine R.mp (B':=[ag.box aH [z8,z9,lH,iV dk.Fuse,.bool dk.Down] 112,ag.row 9 z8 dk.Kept,ag.row 9 z9 dk.Now,ag.row 114 lH dk.Wait,ag.box l9 [.pointer (some ⟨aH,0,none⟩),iV 102,iV (((dk.Now.length-102):Nat):Int),iV hh.First,iV (fE dk 102 (Int.toNat (((dk.Now.length-102):Nat):Int)) hh.First:Int)] 198,ag.box b1 [.pointer (some ⟨aH,0,none⟩),iV hh.Epoch,iV hh.Side,iV hh.Size,iV hh.First,.pointer (some ⟨l9,0,none⟩),yD] 133,ag.held w own]) (fun _ hw=>hw.cW 0 _ O O) ?_
  refine R.back (k+1,yD,bW rr x1.L) O (by (exact ⟨by omega,by rw [CX (c:=x1.L) (by rw [List.getElem?_map,hx1];rfl),<- HR]⟩)) (by dsimp only;omega) ⟨rfl,rfl,rfl,rfl,trivial⟩ (kG mg [0,3,4,5] O O O)
 refine R.q (q.lss O O (decide_eq_false (by omega))) O<|R.nil ?_
 refine R.aA O O ?_
 refine R.reg O<|R.u 3 O<|R.nil ?_
 have hz:(dk,(bm dk).c,(bm dk).L)=(dk,(⟨hh.Epoch,hh.Side,hh.Size,hh.First,rr⟩:ka),(⟨102,(((dk.Now.length-102):Nat):Int),hh.First,(fE dk 102 (Int.toNat (((dk.Now.length-102):Nat):Int)) hh.First:Int)⟩:Lg)):=by (rw [HR,List.take_of_length_le (by rw [List.length_map];omega),hE1,T6,show ((dk.Now.length-102:Nat):Int)=(dk.Now.length:Int)-102 by omega];rfl)
 have hz0:(bm dk).c=(⟨hh.Epoch,hh.Side,hh.Size,hh.First,rr⟩:ka):=congrArg (fun t_=>t_.2.1) hz
 rw [hz0]
 have hz1:(bm dk).L=(⟨102,(((dk.Now.length-102):Nat):Int),hh.First,(fE dk 102 (Int.toNat (((dk.Now.length-102):Nat):Int)) hh.First:Int)⟩:Lg):=congrArg (fun t_=>t_.2.2) hz
 rw [hz1]
 exact R.w2 (z8,z9,lH,b1,vr,l9) [0,1,2,3,5,4,6] [0] O Tryz.results36 (RV.tmp O) (RV.tmp O) O O O (dy O O)
end Go.Proofs.YtkbhcbipadkcaaaGreatDoor
