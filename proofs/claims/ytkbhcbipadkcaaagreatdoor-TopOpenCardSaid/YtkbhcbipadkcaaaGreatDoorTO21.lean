import Derived.Test.YtkbhcbipadkcaaaGreatDoorTO20
namespace Go.Proofs.YtkbhcbipadkcaaaGreatDoor
set_option linter.unusedVariables false
set_option linter.unusedSimpArgs false
open Go Go.RowKit
set_option maxRecDepth 100000
set_option maxHeartbeats 1000000
theorem HU (cy:Nat)(aJ:Value)(Kn:Nat)(Kp:Nat)(st:j8)(w:World)(SE:(af.box cy [.pointer (some ⟨Kn,0,none⟩),iV st.Epoch,iV st.Side,iV st.Size,iV st.First,.pointer (some ⟨Kp,0,none⟩),aJ] 133).ok w)(EV:Sl w aJ (st.Rows:List Change))(hl:st.Rows.length<=100000):Calls Tryz.prog 38 #[.pointer (some ⟨cy,0,none⟩)] w fun e w' => ∃u,e = .returned u/\Own w.heap.size 117 w' u st.Rows/\Ext w w':=by
 exact R.enter [] [(0,.pointer (some ⟨cy,0,none⟩))] Tryz.func38 rfl rfl rfl rfl<|R.pN EV<|R.nH (r:=af.box cy [.pointer (some ⟨Kn,0,none⟩),iV st.Epoch,iV st.Side,iV st.Size,iV st.First,.pointer (some ⟨Kp,0,none⟩),aJ] 133) SE (jO SE)<|R.reg rfl<|R.u 1 rfl<|R.nil<|R.reg rfl<|R.u 1 rfl<|R.q (q.cm rfl) rfl<|R.q (q.aO rfl jc rfl) rfl<|R.q (q.yB 0 rfl rfl gx rfl) rfl<|R.s rfl (s.aW [] [1] _ _ _ rfl rfl rfl N4 rfl rfl (fun w own hw H=>pd aJ st.Rows w own H (by omega)) rfl) fun z1=>R.u 1 rfl<|R.nil<|R.ro 0 rfl Tryz.results38 rfl rfl (by rfl)
def lR (d:cD):Nat->cZ
  | 0=>⟨0,0,0,0⟩
  | k+1=>nX (lR d k) (cr (cd d (k:Int)).1)
theorem C8 (d:cD):∀k,0<=(lR d k).Epoch/\(lR d k).Epoch<4294967296/\0<=(lR d k).Side/\(lR d k).Side<=1/\0<=(lR d k).Size/\(lR d k).Size<=2400/\0<=(lR d k).First/\(lR d k).First<4294967296/\(¬ (lR d k).Epoch=0->1<=(lR d k).First)
 | 0=>by simp [lR]
 | k+1=>by
  unfold lR nX;split
  .exact xj _
  .exact C8 d k
theorem SF {d:cD}(h:ku d=0):¬ d.Now.length<166/\¬ (headD d).Epoch=0/\(eO (rJ d)).2=true:=by
 unfold ku at h
 split at h
 .cases h
 .
  split at h
  .cases h
  .
   split at h
   .exact ⟨by assumption,by assumption,by assumption⟩
   .cases h
theorem C9:∀ (k:Nat) (t:ByteArray) (l:List Change),(pw k t l).1.length<=l.length+t.size
 | 0,t,l=>by rw [pw];show l.length<=_;omega
 | k+1,t,l=>by
  rw [pw]
  split
  .dsimp only;omega
  .
   split
   .simp
   .
    rename_i h1 h2
    split
    .
     have:=C9 k (t.extract (qe t) t.size) (bZ l [xl t])
     have ha:=kR [xl t] l
     rw [List.length_singleton] at ha
     rw [ByteArray.size_extract] at this
     have:3<=qe t:=by unfold qe;omega
     omega
    .simp
theorem EW (t:ByteArray):(eO t).1.length<=t.size:=by
 have:=C9 (t.size+1) t []
 simpa [eO] using this
theorem xw {M:Nat}:∀ (l:List ByteArray) (n:Int) (out:List (List Change)) (deed:List Change) (used pos:Nat),(∀c∈out,c.length<=M)->deed.length+l.length<=M -> ∀c∈(iH l n out deed used pos).1,c.length<=M
 | [],n,out,deed,used,pos,h,hd=>h
 | s::r,n,out,deed,used,pos,h,hd=>by
  rw [List.length_cons] at hd
  rw [iH]
  split
  .
   refine xw r _ _ _ _ _ (fun c hc=>?_) (by simp;omega)
   rcases List.mem_append.1 hc with hc|hc
   .exact h c hc
   .rw [List.mem_singleton.1 hc];omega
  .
   split
   .exact xw r _ _ _ _ _ h (by simp;omega)
   .exact h
theorem EX {d:cD}{f:Int}{k:Nat}{first:Int}:∀c∈lA d f k first,c.length<=k:=by
 unfold lA scan
 exact xw _ _ _ _ _ _ (by simp) (by rw [p9];simp)
theorem xx {M:Nat}:∀ (W:List (List Change)) (rows:List Change),(∀c∈W,c.length<=M)->(kv rows W).length<=rows.length+M*W.length
 | [],rows,h=>by simp [kv]
 | c::W,rows,h=>by
  have h1:=xx W (bZ rows c) (fun x hx=>h x (List.mem_cons_of_mem _ hx))
  have h2:=kR c rows
  have h3:=h c (List.mem_cons_self ..)
  show (kv (bZ rows c) W).length<=_
  rw [List.length_cons,Nat.mul_add,Nat.mul_one]
  omega
attribute [local irreducible] fG lA eO
set_option maxRecDepth 100000 in
set_option maxHeartbeats 1600000 in
theorem zJ (aG:Nat)(ak aA ao:Value)(dk:cD)(w:World)(own:List Nat)(H:HN w own [af.box aG [ak,aA,ao,iV dk.Fuse,.bool dk.Down] 112,af.row 9 ak dk.Kept,af.row 9 aA dk.Now,af.row 114 ao dk.Wait] [])(hd:dk.Down=false)(ho:ku dk=0)(hD:fO dk.Now.length 90000 dk/\dk.Now.length<=200):RC Tryz.prog 36 #[.pointer (some ⟨aG,0,none⟩)] H (fun z:Value×Value×Value×Nat×Value×Nat => .tuple #[.pointer (some ⟨z.2.2.2.1,0,none⟩),.nilIface]) (fun z=>[af.box aG [z.1,z.2.1,z.2.2.1,iV dk.Fuse,.bool dk.Down] 112,af.row 9 z.1 dk.Kept,af.row 9 z.2.1 dk.Now,af.row 114 z.2.2.1 dk.Wait,af.box z.2.2.2.1 [.pointer (some ⟨aG,0,none⟩),iV (bq dk).c.Epoch,iV (bq dk).c.Side,iV (bq dk).c.Size,iV (bq dk).c.First,.pointer (some ⟨z.2.2.2.2.2,0,none⟩),z.2.2.2.2.1] 133,af.box z.2.2.2.2.2 [.pointer (some ⟨aG,0,none⟩),iV (bq dk).L.From,iV (bq dk).L.Many,iV (bq dk).L.First,iV (bq dk).L.Next] 198]) (fun z=>[af.ls z.2.2.2.2.1 (bq dk).c.Rows]):=by
 have eE:=H.cap 1 rfl;have eF:=H.cQ 1 rfl
 have fE:=H.cap 2 rfl;have fF:=H.cQ 2 rfl
 have eG:=H.cap 3 rfl;have eH:=H.cQ 3 rfl
 obtain ⟨o1,o2,o3⟩:=SF ho
 refine R.bF (n:=144) (vs:=[.pointer (some ⟨aG,0,none⟩)]) (B:=[af.box aG [ak,aA,ao,iV dk.Fuse,.bool dk.Down] 112,af.row 9 ak dk.Kept,af.row 9 aA dk.Now,af.row 114 ao dk.Wait,af.held w own]) [(0,.pointer (some ⟨aG,0,none⟩))] Tryz.func36 O O O O H<|R.reg O<|R.u 2 O<|R.nil<|R.reg O<|R.u 1 O<|R.c (q.call N3 O O (fun w hw=>(cv (congrArg Value.bool hd) (zr aG ak aA ao dk w (hw.b 0 O) (hw.row 1 O) (hw.row 2 O) (hw.row 3 O) )))) O<|R.nil<|R.aB O O<|R.reg O<|R.u 1 O<|R.c (q.call uE O O (fun w hw=>(gF aG ak aA ao dk w (hw.b 0 O) (hw.row 1 O) (hw.row 2 O) (hw.row 3 O) ))) O<|R.q (q.lss O O (decide_eq_false (by omega))) O<|R.nil<|R.aB O O<|R.reg O<|R.u 1 O<|R.q (q.build (cs:=[.pointer (some ⟨aG,0,none⟩),iV 0,iV 0,iV 0,iV 0,.pointer none,nS]) OZ O O) O<|R.s O (s.box (cs:=[.pointer (some ⟨aG,0,none⟩),iV 0,iV 0,iV 0,iV 0,.pointer none,nS]) O O O) fun b1=>R.u 1 O<|R.nil<|R.reg O<|R.u 1 O<|R.nil<|R.loop (fun g_:Nat×cZ=>[(0,.pointer (some ⟨aG,0,none⟩)),(4,.pointer (some ⟨b1,0,none⟩)),(30,iV (g_.1:Int))]) (fun g_=>[af.box b1 [.pointer (some ⟨aG,0,none⟩),iV g_.2.Epoch,iV g_.2.Side,iV g_.2.Size,iV g_.2.First,.pointer none,nS] 133,af.box aG [ak,aA,ao,iV dk.Fuse,.bool dk.Down] 112,af.row 9 ak dk.Kept,af.row 9 aA dk.Now,af.row 114 ao dk.Wait,af.held w own]) (fun g_=>[]) (fun g_=>g_.1<=2/\g_.2=lR dk g_.1) (fun g_=>2-g_.1) (0,(⟨0,0,0,0⟩:cZ)) O (by exact ⟨by omega,rfl⟩) ⟨rfl,rfl,rfl,trivial⟩ (fun _=>Wd.pick rO [] O O O) ?_
 rintro ⟨i,hh⟩ ⟨hi,HK⟩
 dsimp only at *
 have hin:=C8 dk i;rw [<- HK] at hin
 refine R.reg O<|?_
 by_cases h1:i<2
 .
  refine R.q (q.lss O O (decide_eq_true (by omega))) O<|R.nil<|R.ay O O<|R.reg O<|R.u 2 O<|R.nil ?_
  have hrd:=xc hD.1 hd (i:=(i:Int)) (by omega) (by omega);obtain ⟨hrd,hsz⟩:=hrd;have hin2:=xj (cd dk (i:Int)).1
  refine R.reg O<|R.u 2 O<|R.c (q.call Jj O O (fun w hw=>(tQ aG ak aA ao dk (i:Int) w (hw.b 1 O) (hw.row 2 O) (hw.row 3 O) (hw.row 4 O) ))) O<|R.u 5 O<|R.nil<|R.reg O<|R.u 1 O<|R.q (q.dC O O Tryz.underlying38 (by omega)) O<|R.nil<|R.aB O O<|R.reg O<|R.u 1 O<|R.s (B':=(fun _u:Unit=>[af.box b1 [.pointer (some ⟨aG,0,none⟩),iV hh.Epoch,iV hh.Side,iV hh.Size,iV hh.First,.pointer none,nS] 133,af.box aG [ak,aA,ao,iV dk.Fuse,.bool dk.Down] 112,af.row 9 ak dk.Kept,af.row 9 aA dk.Now,af.row 114 ao dk.Wait,af.held w own])) (F':=(fun _u:Unit=>[])) O (s.aW (B0:=[]) (Br:=[af.box b1 [.pointer (some ⟨aG,0,none⟩),iV hh.Epoch,iV hh.Side,iV hh.Size,iV hh.First,.pointer none,nS] 133,af.box aG [ak,aA,ao,iV dk.Fuse,.bool dk.Down] 112,af.row 9 ak dk.Kept,af.row 9 aA dk.Now,af.row 114 ao dk.Wait,af.held w own]) (F0:=[]) rO [] (fun _u:Unit => .agg #[iV (cr (cd dk (i:Int)).1).Epoch,iV (cr (cd dk (i:Int)).1).Side,iV (cr (cd dk (i:Int)).1).Size,iV (cr (cd dk (i:Int)).1).First]) (fun _u:Unit=>[]) (fun _u:Unit=>[]) O O O Sb O O (fun w own hw H=>ET (cd dk (i:Int)).1 w own H (by omega)) O) fun _=>R.s O (s.alloc (cs:=[iV 0,iV 0,iV 0,iV 0]) ju O O) fun b2=>R.s O (s.st (us:=[iV (cr (cd dk (i:Int)).1).Epoch,iV (cr (cd dk (i:Int)).1).Side,iV (cr (cd dk (i:Int)).1).Size,iV (cr (cd dk (i:Int)).1).First]) (cs':=[iV (cr (cd dk (i:Int)).1).Epoch,iV (cr (cd dk (i:Int)).1).Side,iV (cr (cd dk (i:Int)).1).Size,iV (cr (cd dk (i:Int)).1).First]) 0 _ O O O O (.inl aT) O O O O) fun _=>R.nil ?_
  by_cases h2:hh.Epoch<(cr (cd dk (i:Int)).1).Epoch
  .
   refine R.ew O mixed (by kernel_rfl)<|Q.q (q.aO (off':=0) O i6 O) O<|Q.q (q.ld 0 O O av O) O<|Q.u 1 O<|Q.q (q.cm O) O<|Q.q (q.aO (off':=1) O gQ O) O<|Q.q (q.aO (off':=1) O i6 O) O<|Q.q (q.ld 1 O O av O) O<|Q.q (q.gtr O O (decide_eq_true (by omega))) O<|Q.nil<|R.ay O O<|R.reg O<|R.u 1 O<|R.q (q.dv 0 O O aT) O<|R.q (q.cm O) O<|R.q (q.aO (off':=1) O gQ O) O<|R.s O (s.st (us:=[iV (cr (cd dk (i:Int)).1).Epoch,iV (cr (cd dk (i:Int)).1).Side,iV (cr (cd dk (i:Int)).1).Size,iV (cr (cd dk (i:Int)).1).First]) (cs':=[.pointer (some ⟨aG,0,none⟩),iV (cr (cd dk (i:Int)).1).Epoch,iV (cr (cd dk (i:Int)).1).Side,iV (cr (cd dk (i:Int)).1).Size,iV (cr (cd dk (i:Int)).1).First,.pointer none,nS]) 1 _ O O O O (.inl aT) O O O O) fun _=>R.nil<|R.reg O<|R.q (q.add (r:=((i+1:Nat):Int)) O O (wr (by omega))) O<|R.u 1 O<|R.nil<|R.back (i+1,cr (cd dk (i:Int)).1) O (by (exact ⟨by omega,by show _=nX (lR dk i) (cr (cd dk (i:Int)).1);rw [<- HK];unfold nX;rw [if_pos ‹_›]⟩)) (by dsimp only;omega) ⟨rfl,rfl,rfl,trivial⟩ (aC [1,2,3,4,5,6] [] O O O)
  refine R.ew O mixed (by kernel_rfl)<|Q.q (q.aO (off':=0) O i6 O) O<|Q.q (q.ld 0 O O av O) O<|Q.u 1 O<|Q.q (q.cm O) O<|Q.q (q.aO (off':=1) O gQ O) O<|Q.q (q.aO (off':=1) O i6 O) O<|Q.q (q.ld 1 O O av O) O<|Q.q (q.gtr O O (decide_eq_false (by omega))) O<|Q.nil<|R.aB O O<|R.reg O<|R.q (q.add (r:=((i+1:Nat):Int)) O O (wr (by omega))) O<|R.u 1 O<|R.nil<|R.back (i+1,hh) O (by (exact ⟨by omega,by show _=nX (lR dk i) (cr (cd dk (i:Int)).1);rw [<- HK];unfold nX;rw [if_neg ‹_›]⟩)) (by dsimp only;omega) ⟨rfl,rfl,rfl,trivial⟩ (aC [1,2,3,4,5,6] [] O O O)
 refine R.q (q.lss O O (decide_eq_false (by omega))) O<|R.nil<|R.aB O O ?_
 have T7:hh=headD dk:=by rw [HK,show i=2 by omega];rfl
 have Wj:¬ hh.Epoch=0:=by rw [T7];exact o2
 refine R.reg O<|R.u 1 O<|R.q (q.cm O) O<|R.q (q.aO (off':=1) O gQ O) O<|R.q (q.aO (off':=1) O i6 O) O<|R.q (q.ld 0 O O av O) O<|R.q (q.eql O O (beq_eq_false_iff_ne.2 (by omega))) O<|R.nil<|R.aB O O<|R.reg O<|R.u 1 O<|R.nil<|R.reg O<|R.u 1 O<|R.nil<|R.loop (fun g_:Nat×ByteArray=>[(0,.pointer (some ⟨aG,0,none⟩)),(4,.pointer (some ⟨b1,0,none⟩)),(9,.string g_.2),(64,iV (g_.1:Int))]) (fun g_=>[af.box b1 [.pointer (some ⟨aG,0,none⟩),iV hh.Epoch,iV hh.Side,iV hh.Size,iV hh.First,.pointer none,nS] 133,af.box aG [ak,aA,ao,iV dk.Fuse,.bool dk.Down] 112,af.row 9 ak dk.Kept,af.row 9 aA dk.Now,af.row 114 ao dk.Wait,af.held w own]) (fun g_=>[]) (fun g_=>g_.1<=50/\g_.2=vg dk (2+hh.Side*50) g_.1/\g_.2.size=48*g_.1) (fun g_=>50-g_.1) (0,(⟨#[]⟩:ByteArray)) O (by exact ⟨by omega,rfl,rfl⟩) ⟨rfl,rfl,rfl,rfl,trivial⟩ (fun _=>Wd.pick rO [] O O O) ?_
 rintro ⟨j,tx⟩ ⟨hj,HT,hts⟩
 dsimp only at *
 refine R.reg O<|?_
 by_cases h3:j<50
 .
  refine R.q (q.lss O O (decide_eq_true (by omega))) O<|R.nil<|R.ay O O<|R.reg O<|R.u 2 O<|R.nil ?_
  have hrd:=xc hD.1 hd (i:=2+hh.Side*50+(j:Int)) (by omega) (by omega);obtain ⟨hrd,hsz⟩:=hrd
  refine R.reg O<|R.u 2 O<|R.q (q.cm O) O<|R.q (q.aO (off':=1) O gQ O) O<|R.q (q.aO (off':=2) O iq O) O<|R.q (q.ld 0 O O av O) O<|R.q (q.mul (r:=hh.Side*50) O O (wr (by omega))) O<|R.q (q.add (r:=2+(hh.Side*50)) O O (wr (by omega))) O<|R.u 1 O<|R.q (q.add (r:=(2+(hh.Side*50))+(j:Int)) O O (wr (by omega))) O<|R.c (q.call Jj O O (fun w hw=>(tQ aG ak aA ao dk ((2+(hh.Side*50))+(j:Int)) w (hw.b 1 O) (hw.row 2 O) (hw.row 3 O) (hw.row 4 O) ))) O<|R.u 5 O<|R.nil<|R.reg O<|R.u 1 O<|R.q (q.dC O O Tryz.underlying38 (by omega)) O<|R.nil<|R.aB O O<|R.reg O<|R.u 2 O<|R.q (q.cat O O (by omega)) O<|R.u 1 O<|R.nil<|R.reg O<|R.q (q.add (r:=((j+1:Nat):Int)) O O (wr (by omega))) O<|R.u 1 O<|R.nil<|R.back (j+1,(tx++(cd dk ((2+(hh.Side*50))+(j:Int))).1)) O (by (exact ⟨by omega,by show _=vg dk (2+hh.Side*50) j++_;rw [<- HT],by rw [ByteArray.size_append];omega⟩)) (by dsimp only;omega) ⟨rfl,rfl,rfl,rfl,trivial⟩ (aC rO [] O O O)
 refine R.q (q.lss O O (decide_eq_false (by omega))) O<|R.nil<|R.aB O O ?_
 have hth:tx.extract 0 hh.Size.toNat=rJ dk:=by rw [HT,T7,show j=50 by omega];rfl
 have hpb:(eO (tx.extract 0 hh.Size.toNat)).2=true:=by rw [hth];exact o3
 refine R.reg O<|R.u 2 O<|R.q (q.cm O) O<|R.q (q.aO (off':=1) O gQ O) O<|R.q (q.aO (off':=3) O jS O) O<|R.q (q.ld 0 O O av O) O<|R.q (q.Vo (i:=hh.Size.toNat) O O Tryz.underlying9 (by omega) (by omega)) O<|R.s (B':=(fun kO:Value=>[af.row 117 kO (eO (tx.extract 0 hh.Size.toNat)).1,af.box b1 [.pointer (some ⟨aG,0,none⟩),iV hh.Epoch,iV hh.Side,iV hh.Size,iV hh.First,.pointer none,nS] 133,af.box aG [ak,aA,ao,iV dk.Fuse,.bool dk.Down] 112,af.row 9 ak dk.Kept,af.row 9 aA dk.Now,af.row 114 ao dk.Wait,af.held w own])) (F':=(fun kO:Value=>[])) O (s.aW (B0:=[]) (Br:=[af.box b1 [.pointer (some ⟨aG,0,none⟩),iV hh.Epoch,iV hh.Side,iV hh.Size,iV hh.First,.pointer none,nS] 133,af.box aG [ak,aA,ao,iV dk.Fuse,.bool dk.Down] 112,af.row 9 ak dk.Kept,af.row 9 aA dk.Now,af.row 114 ao dk.Wait,af.held w own]) (F0:=[]) rO [] (fun kO:Value => .tuple #[kO,.bool (eO (tx.extract 0 hh.Size.toNat)).2]) (fun kO:Value=>[af.row 117 kO (eO (tx.extract 0 hh.Size.toNat)).1]) (fun kO:Value=>[]) O O O Sc O O (fun w own hw H=>HG (tx.extract 0 hh.Size.toNat) w own H (by (rw [ByteArray.size_extract];omega))) O) fun z1=>R.u 5 O<|R.nil<|R.reg O<|R.u 1 O<|R.q (q.not O) O<|R.nil<|R.cond O O (fun h4=>?_) (fun h4=>?_)
 .exact absurd h4 (by rw [hpb];decide)
 refine R.fu (fuel:=17) (Wd w (blks [af.box aG [ak,aA,ao,iV dk.Fuse,.bool dk.Down] 112,af.row 9 ak dk.Kept,af.row 9 aA dk.Now,af.row 114 ao dk.Wait]++own) [af.row 117 z1 (eO (tx.extract 0 hh.Size.toNat)).1,af.box b1 [.pointer (some ⟨aG,0,none⟩),iV hh.Epoch,iV hh.Side,iV hh.Size,iV hh.First,.pointer none,nS] 133,af.held w own] []) O mixed O<|D.q (i:=0) O (aC [0,1,6] [] O O O) O (q.mv O) O<|D.q (i:=1) O (aC [0,1,6] [] O O O) O (q.mv O) O<|D.q (i:=4) O (aC [0,1,6] [] O O O) O (q.mv O) O<|D.q (i:=5) O (aC [0,1,6] [] O O O) O (q.cm O) O<|D.q (i:=6) O (aC [0,1,6] [] O O O) O (q.aO (off':=1) O gQ O) O<|D.q (i:=7) O (aC [0,1,6] [] O O O) O (q.aO (off':=4) O i7 O) O<|D.q (i:=8) O (aC [0,1,6] [] O O O) O (q.ld 1 O O av O) O<|D.one (i:=2) O<|Do.s (s.c (q.call uE O O (fun w hw=>(gF aG ak aA ao dk w (hw.b 2 O) (hw.row 3 O) (hw.row 4 O) (hw.row 5 O) ))) O) (fun _=>(aC [0,1,6] [] O O O)) O fun _=>D.q (i:=3) O (aC [0,1,6] [] O O O) O (q.sub (r:=((dk.Now.length-102:Nat):Int)) O O (wr (by omega))) O<|D.one (i:=9) O<|Do.s (B':=(fun g_:Value×Value×Value×Nat×Value×List kE=>[af.box aG [g_.1,g_.2.1,g_.2.2.1,iV dk.Fuse,.bool dk.Down] 112,af.row 9 g_.1 dk.Kept,af.row 9 g_.2.1 dk.Now,af.row 114 g_.2.2.1 dk.Wait,af.box g_.2.2.2.1 [.pointer (some ⟨aG,0,none⟩),iV (⟨102,(((dk.Now.length-102):Nat):Int),hh.First,(fG dk 102 (Int.toNat (((dk.Now.length-102):Nat):Int)) hh.First:Int)⟩:Lg).From,iV (⟨102,(((dk.Now.length-102):Nat):Int),hh.First,(fG dk 102 (Int.toNat (((dk.Now.length-102):Nat):Int)) hh.First:Int)⟩:Lg).Many,iV (⟨102,(((dk.Now.length-102):Nat):Int),hh.First,(fG dk 102 (Int.toNat (((dk.Now.length-102):Nat):Int)) hh.First:Int)⟩:Lg).First,iV (⟨102,(((dk.Now.length-102):Nat):Int),hh.First,(fG dk 102 (Int.toNat (((dk.Now.length-102):Nat):Int)) hh.First:Int)⟩:Lg).Next] 198,af.row 117 z1 (eO (tx.extract 0 hh.Size.toNat)).1,af.box b1 [.pointer (some ⟨aG,0,none⟩),iV hh.Epoch,iV hh.Side,iV hh.Size,iV hh.First,.pointer none,nS] 133,af.held w own])) (F':=(fun g_=>[af.ls g_.2.2.2.2.1 g_.2.2.2.2.2,af.p7 (g_.2.2.2.2.2:List kE) (lA dk 102 (Int.toNat (((dk.Now.length-102):Nat):Int)) hh.First)])) (s.aW (B0:=[af.box aG [ak,aA,ao,iV dk.Fuse,.bool dk.Down] 112,af.row 9 ak dk.Kept,af.row 9 aA dk.Now,af.row 114 ao dk.Wait]) (Br:=[af.row 117 z1 (eO (tx.extract 0 hh.Size.toNat)).1,af.box b1 [.pointer (some ⟨aG,0,none⟩),iV hh.Epoch,iV hh.Side,iV hh.Size,iV hh.First,.pointer none,nS] 133,af.held w own]) (F0:=[]) [2,3,4,5,0,1,6] [] (fun g_:Value×Value×Value×Nat×Value×List kE => .tuple #[.pointer (some ⟨g_.2.2.2.1,0,none⟩),g_.2.2.2.2.1,.nilIface]) (fun g_=>[af.box aG [g_.1,g_.2.1,g_.2.2.1,iV dk.Fuse,.bool dk.Down] 112,af.row 9 g_.1 dk.Kept,af.row 9 g_.2.1 dk.Now,af.row 114 g_.2.2.1 dk.Wait,af.box g_.2.2.2.1 [.pointer (some ⟨aG,0,none⟩),iV (⟨102,(((dk.Now.length-102):Nat):Int),hh.First,(fG dk 102 (Int.toNat (((dk.Now.length-102):Nat):Int)) hh.First:Int)⟩:Lg).From,iV (⟨102,(((dk.Now.length-102):Nat):Int),hh.First,(fG dk 102 (Int.toNat (((dk.Now.length-102):Nat):Int)) hh.First:Int)⟩:Lg).Many,iV (⟨102,(((dk.Now.length-102):Nat):Int),hh.First,(fG dk 102 (Int.toNat (((dk.Now.length-102):Nat):Int)) hh.First:Int)⟩:Lg).First,iV (⟨102,(((dk.Now.length-102):Nat):Int),hh.First,(fG dk 102 (Int.toNat (((dk.Now.length-102):Nat):Int)) hh.First:Int)⟩:Lg).Next] 198]) (fun g_=>[af.ls g_.2.2.2.2.1 g_.2.2.2.2.2,af.p7 (g_.2.2.2.2.2:List kE) (lA dk 102 (Int.toNat (((dk.Now.length-102):Nat):Int)) hh.First)]) O O O N2 O O (fun w own hw H=>C0 aG ak aA ao dk 102 (((dk.Now.length-102):Nat):Int) hh.First w own H (by refine ⟨by decide,?_,?_,?_,?_⟩ <;> omega) hd (⟨hD.1,by omega⟩)) O) (fun _=>(aC [5,6,7] [] O O O)) O ?_
 rintro ⟨z8,z9,lF,mb,z12,qc⟩
 dsimp only
 refine D.q (i:=10) O (aC [5,6,7] [] O O O) O (q.mv O) O<|D.q (i:=11) O (aC [5,6,7] [] O O O) O (q.ext O O) O<|D.q (i:=12) O (aC [5,6,7] [] O O O) O (q.ext O O) O<|D.q (i:=13) O (aC [5,6,7] [] O O O) O (q.ext O O) O<|D.q (i:=14) O (aC [5,6,7] [] O O O) O (q.as O) O<|D.q (i:=15) O (aC [5,6,7] [] O O O) O (q.as O) O<|D.q (i:=16) O (aC [5,6,7] [] O O O) O (q.as O) O<|D.done<|R.reg O<|R.u 1 O<|R.q (q.vU O O Tryz.underlying38) O<|R.nil<|R.aB O O<|R.reg O<|R.u 4 O<|R.q (q.cm O) O<|R.q (q.aO (off':=5) O kL O) O<|R.s O (s.st (us:=[.pointer (some ⟨mb,0,none⟩)]) (cs':=[.pointer (some ⟨aG,0,none⟩),iV hh.Epoch,iV hh.Side,iV hh.Size,iV hh.First,.pointer (some ⟨mb,0,none⟩),nS]) 6 _ O O O O (.inr ⟨fD,rfl⟩) O O O O) fun _=>Rg.PT (F':=[af.lL (qc:List kE),af.ls z12 qc]) 1 O O fun hE1=>R.q (q.cm O) O<|R.q (q.aO (off':=6) O jc O) O<|R.s O (s.fZ (us:=[z1]) (cs':=[.pointer (some ⟨aG,0,none⟩),iV hh.Epoch,iV hh.Side,iV hh.Size,iV hh.First,.pointer (some ⟨mb,0,none⟩),z1]) 6 _ O O O (fun w hw=>Sl.cu (hw.row 5 O)) (.inr ⟨gx,rfl⟩) (fun w hw=>(ag (Sl.one (hw.row 5 O)) aP)) O O O) fun _=>R.nil<|R.reg O<|R.u 1 O<|R.q (q.len' (dr 1 O) O Tryz.underlying141) O<|R.u 1 O<|R.nil<|R.mp (B':=[af.box aG [z8,z9,lF,iV dk.Fuse,.bool dk.Down] 112,af.row 9 z8 dk.Kept,af.row 9 z9 dk.Now,af.row 114 lF dk.Wait,af.box mb [.pointer (some ⟨aG,0,none⟩),iV 102,iV (((dk.Now.length-102):Nat):Int),iV hh.First,iV (fG dk 102 (Int.toNat (((dk.Now.length-102):Nat):Int)) hh.First:Int)] 198,af.box b1 [.pointer (some ⟨aG,0,none⟩),iV hh.Epoch,iV hh.Side,iV hh.Size,iV hh.First,.pointer (some ⟨mb,0,none⟩),z1] 133,af.held w own]) (fun _ hw=>hw.cX 5 _ O O)<|R.loop (fun g_:Nat×Value×(List Change)=>[(4,.pointer (some ⟨b1,0,none⟩)),(127,z12),(128,iV (qc.length:Int)),(129,iV (g_.1:Int))]) (fun g_=>[af.box aG [z8,z9,lF,iV dk.Fuse,.bool dk.Down] 112,af.row 9 z8 dk.Kept,af.row 9 z9 dk.Now,af.row 114 lF dk.Wait,af.box mb [.pointer (some ⟨aG,0,none⟩),iV 102,iV (((dk.Now.length-102):Nat):Int),iV hh.First,iV (fG dk 102 (Int.toNat (((dk.Now.length-102):Nat):Int)) hh.First:Int)] 198,af.box b1 [.pointer (some ⟨aG,0,none⟩),iV hh.Epoch,iV hh.Side,iV hh.Size,iV hh.First,.pointer (some ⟨mb,0,none⟩),g_.2.1] 133,af.held w own]) (fun g_=>[af.ls g_.2.1 g_.2.2,af.ls z1 (eO (tx.extract 0 hh.Size.toNat)).1,af.lL (qc:List kE),af.ls z12 qc]) (fun g_=>g_.1<=qc.length/\g_.2.2=kv (eO (rJ dk)).1 ((qc.map kE.L).take g_.1)) (fun g_=>qc.length-g_.1) (0,z1,(eO (tx.extract 0 hh.Size.toNat)).1) O (by exact ⟨by omega,by rw [hth];rfl⟩) ⟨rfl,rfl,rfl,rfl,trivial⟩ (fun _=>Wd.pick ml [0,0,1,2] O O O) ?_
 rintro ⟨k,vr,rr⟩ ⟨hk,HR⟩
 dsimp only at *
 have Wk:=MC hE1;have hWs:∀c∈qc.map kE.L,c.length<=98:=fun c hc=>by rw [hE1] at hc;have:=EX c hc;omega
 have hrl:rr.length<=12004:=by have h1:=xx (M:=98) ((qc.map kE.L).take k) (eO (rJ dk)).1 (fun c hc=>hWs c (List.mem_of_mem_take hc));have h2:=EW (rJ dk);have h3:(rJ dk).size<=2400:=(by rw [<- hth,ByteArray.size_extract];omega);rw [List.length_take,List.length_map] at h1;rw [HR];omega
 refine R.reg O<|?_
 by_cases h5:k<qc.length
 .
  refine R.q (q.lss O O (decide_eq_true (by omega))) O<|R.nil<|R.ay O O<|R.reg O<|?_
  obtain ⟨x1,hx1⟩:∃z,qc[k]? = some z:=⟨_,List.getElem?_eq_getElem (by omega)⟩
  refine R.q (q.idx (i:=k) (dr 3 O) O O F3 O hx1) O<|R.q (q.lr (dr 3 O) hx1 O gx O) O<|R.u 1 O<|R.nil ?_
  have hxl:=hWs x1.L (List.mem_map_of_mem (List.mem_of_getElem? hx1))
  refine R.reg O<|R.u 2 O<|R.q (q.cm O) O<|R.q (q.aO (off':=6) O jc O) O<|R.q (q.ld 5 O O gx O) O<|R.u 1 O<|R.s (B':=(fun kO:Value=>[af.row 117 kO (bZ rr x1.L),af.box aG [z8,z9,lF,iV dk.Fuse,.bool dk.Down] 112,af.row 9 z8 dk.Kept,af.row 9 z9 dk.Now,af.row 114 lF dk.Wait,af.box mb [.pointer (some ⟨aG,0,none⟩),iV 102,iV (((dk.Now.length-102):Nat):Int),iV hh.First,iV (fG dk 102 (Int.toNat (((dk.Now.length-102):Nat):Int)) hh.First:Int)] 198,af.box b1 [.pointer (some ⟨aG,0,none⟩),iV hh.Epoch,iV hh.Side,iV hh.Size,iV hh.First,.pointer (some ⟨mb,0,none⟩),vr] 133,af.held w own])) (F':=(fun kO:Value=>[af.ls x1.cv x1.L,af.ls vr rr,af.ls z1 (eO (tx.extract 0 hh.Size.toNat)).1,af.lL (qc:List kE),af.ls z12 qc])) O (s.pre (B2:=[af.box aG [z8,z9,lF,iV dk.Fuse,.bool dk.Down] 112,af.row 9 z8 dk.Kept,af.row 9 z9 dk.Now,af.row 114 lF dk.Wait,af.box mb [.pointer (some ⟨aG,0,none⟩),iV 102,iV (((dk.Now.length-102):Nat):Int),iV hh.First,iV (fG dk 102 (Int.toNat (((dk.Now.length-102):Nat):Int)) hh.First:Int)] 198,af.box b1 [.pointer (some ⟨aG,0,none⟩),iV hh.Epoch,iV hh.Side,iV hh.Size,iV hh.First,.pointer (some ⟨mb,0,none⟩),vr] 133,af.held w own]) (F2:=[af.ls x1.cv x1.L,af.ls vr rr,af.ls z1 (eO (tx.extract 0 hh.Size.toNat)).1,af.lL (qc:List kE),af.ls z12 qc]) (fun _ hw=>hw.PS (x:=x1) 2 O (List.mem_of_getElem? hx1)) (s.aW (B0:=[]) (Br:=[af.box aG [z8,z9,lF,iV dk.Fuse,.bool dk.Down] 112,af.row 9 z8 dk.Kept,af.row 9 z9 dk.Now,af.row 114 lF dk.Wait,af.box mb [.pointer (some ⟨aG,0,none⟩),iV 102,iV (((dk.Now.length-102):Nat):Int),iV hh.First,iV (fG dk 102 (Int.toNat (((dk.Now.length-102):Nat):Int)) hh.First:Int)] 198,af.box b1 [.pointer (some ⟨aG,0,none⟩),iV hh.Epoch,iV hh.Side,iV hh.Size,iV hh.First,.pointer (some ⟨mb,0,none⟩),vr] 133,af.held w own]) (F0:=[af.ls vr rr,af.ls x1.cv x1.L]) ml [1,0] (fun kO:Value=>kO) (fun kO:Value=>[af.row 117 kO (bZ rr x1.L)]) (fun kO:Value=>[]) O O O Jk O O (fun w own hw H=>oG vr rr x1.cv x1.L w own H (by omega)) O)) fun yH=>R.q (q.cm O) O<|R.q (q.aO (off':=6) O jc O) O<|R.s O (s.fZ (us:=[yH]) (cs':=[.pointer (some ⟨aG,0,none⟩),iV hh.Epoch,iV hh.Side,iV hh.Size,iV hh.First,.pointer (some ⟨mb,0,none⟩),yH]) 6 _ O O O (fun w hw=>Sl.cu (hw.row 0 O)) (.inr ⟨gx,rfl⟩) (fun w hw=>(ag (Sl.one (hw.row 0 O)) aP)) O O O) fun _=>R.nil<|R.reg O<|R.q (q.add (r:=((k+1:Nat):Int)) O O (wr (by omega))) O<|R.u 1 O<|R.nil<|R.mp (B':=[af.box aG [z8,z9,lF,iV dk.Fuse,.bool dk.Down] 112,af.row 9 z8 dk.Kept,af.row 9 z9 dk.Now,af.row 114 lF dk.Wait,af.box mb [.pointer (some ⟨aG,0,none⟩),iV 102,iV (((dk.Now.length-102):Nat):Int),iV hh.First,iV (fG dk 102 (Int.toNat (((dk.Now.length-102):Nat):Int)) hh.First:Int)] 198,af.box b1 [.pointer (some ⟨aG,0,none⟩),iV hh.Epoch,iV hh.Side,iV hh.Size,iV hh.First,.pointer (some ⟨mb,0,none⟩),yH] 133,af.held w own]) (fun _ hw=>hw.cX 0 _ O O)<|R.back (k+1,yH,bZ rr x1.L) O (by (exact ⟨by omega,by rw [C2 (c:=x1.L) (by rw [List.getElem?_map,hx1];rfl),<- HR]⟩)) (by dsimp only;omega) ⟨rfl,rfl,rfl,rfl,trivial⟩ (aC ml [0,3,4,5] O O O)
 refine R.q (q.lss O O (decide_eq_false (by omega))) O<|R.nil<|R.aB O O<|R.reg O<|R.u 3 O<|R.nil ?_
 have hz:(dk,(bq dk).c,(bq dk).L)=(dk,(⟨hh.Epoch,hh.Side,hh.Size,hh.First,rr⟩:j8),(⟨102,(((dk.Now.length-102):Nat):Int),hh.First,(fG dk 102 (Int.toNat (((dk.Now.length-102):Nat):Int)) hh.First:Int)⟩:Lg)):=by (rw [HR,List.take_of_length_le (by rw [List.length_map];omega),hE1,T7,show ((dk.Now.length-102:Nat):Int)=(dk.Now.length:Int)-102 by omega];rfl)
 have hz0:(bq dk).c=(⟨hh.Epoch,hh.Side,hh.Size,hh.First,rr⟩:j8):=congrArg (fun t_=>t_.2.1) hz
 rw [hz0]
 have hz1:(bq dk).L=(⟨102,(((dk.Now.length-102):Nat):Int),hh.First,(fG dk 102 (Int.toNat (((dk.Now.length-102):Nat):Int)) hh.First:Int)⟩:Lg):=congrArg (fun t_=>t_.2.2) hz
 rw [hz1]
 exact R.w2 (z8,z9,lF,b1,vr,mb) [0,1,2,3,5,4,6] [0] O Tryz.results36 (RV.tmp O) (RV.tmp O) O O O (dz O O)
end Go.Proofs.YtkbhcbipadkcaaaGreatDoor
