import Derived.Test.YtpipachmngdegaaSSP31
import Derived.Test.YtpipachmngdegaaSSP33
section
namespace Go.Proofs.Ytpipachmngdegaa
open Go Go.RowKit
set_option linter.unusedVariables false
set_option linter.unusedSimpArgs false
set_option maxRecDepth 100000
theorem jH (bp:Nat)(aB:Value)(kM:Nat)(qa:Nat)(st:ic)(w:World)(tX:(af.box bp [.pointer (some ⟨kM,0,none⟩),.int .i64 st.Epoch,.int .i64 st.Side,.int .i64 st.Size,.int .i64 st.First,.pointer (some ⟨qa,0,none⟩),aB] 100).ok w)(jY:Sl w aB (st.Rows:List Change))(hl:st.Rows.length≤100000):Calls Try.prog 29 #[.pointer (some ⟨bp,0,none⟩)] w fun e w' => ∃u,e = .returned u∧Own w.heap.size 51 w' u (st.Rows)∧Ext w w':=by
  refine R.enter (n:=8) (vs:=[.pointer (some ⟨bp,0,none⟩)]) [] [(0,.pointer (some ⟨bp,0,none⟩))] Try.func29 rfl rfl rfl rfl ?_
  refine R.iY jY ?_
  refine R.kD (r:=af.box bp [.pointer (some ⟨kM,0,none⟩),.int .i64 st.Epoch,.int .i64 st.Side,.int .i64 st.Size,.int .i64 st.First,.pointer (some ⟨qa,0,none⟩),aB] 100) tX (hZ tX) ?_
  refine R.reg rfl<|R.u 1 rfl<|R.nil ?_
  refine R.reg rfl<|R.u 1 rfl<|R.q (q.a7 rfl) rfl<|R.q (q.bz (off':=6) rfl dZ rfl) rfl<|R.q (q.oK 0 rfl rfl bX rfl) rfl<|?_
  refine R.s (B':=(fun bg:Value=>[af.row 51 bg (st.Rows:List Change)])) (F':=(fun bg:Value=>[af.box bp [.pointer (some ⟨kM,0,none⟩),.int .i64 st.Epoch,.int .i64 st.Side,.int .i64 st.Size,.int .i64 st.First,.pointer (some ⟨qa,0,none⟩),aB] 100,af.ls aB (st.Rows:List Change)])) rfl (s.bM (B0:=[]) (Br:=[]) (F0:=[af.ls aB (st.Rows:List Change)]) [] [1] (fun bg:Value=>bg) (fun bg:Value=>[af.row 51 bg (st.Rows:List Change)]) (fun bg:Value=>[]) rfl rfl rfl vO rfl rfl (fun w own hw H=>iT aB (st.Rows) w own H (by first|omega|assumption|(simp;done)|(simp;omega))) rfl) fun z1=>?_
  refine R.u 1 rfl<|R.nil ?_
  exact R.ro 0 rfl Try.results29 rfl rfl (by (first|omega|rfl))
def ff (d:bA):Nat→br
  | 0=>⟨0,0,0,0⟩
  | k+1=>fX (ff d k) (aT (aO d (k:Int)).1)
theorem mD (d:bA):∀k,0≤(ff d k).Epoch∧(ff d k).Epoch<4294967296∧0≤(ff d k).Side∧(ff d k).Side≤1∧0≤(ff d k).Size∧(ff d k).Size≤2400∧0≤(ff d k).First∧(ff d k).First<4294967296∧(¬ (ff d k).Epoch=0→1≤(ff d k).First)
  | 0=>by simp [ff]
  | k+1=>by
    unfold ff fX;split
    · exact kv _
    · exact mD d k
theorem vU {d:bA}(h:jQ d=0):¬ d.Now.length<166∧¬ (headD d).Epoch=0∧(ct (jP d)).2=true:=by
  unfold jQ at h
  split at h
  · cases h
  ·
    split at h
    · cases h
    ·
      split at h
      · exact ⟨by assumption,by assumption,by assumption⟩
      · cases h
theorem pv:∀ (k:Nat) (t:ByteArray) (l:List Change),(iZ k t l).1.length≤l.length+t.size
  | 0,t,l=>by rw [iZ];show l.length≤_;omega
  | k+1,t,l=>by
    rw [iZ]
    split
    · dsimp only;omega
    ·
      split
      · simp
      ·
        rename_i h1 h2
        split
        ·
          have:=pv k (t.extract (jq t) t.size) (a8 l [mh t])
          have ha:=fG [mh t] l
          rw [List.length_singleton] at ha
          rw [ByteArray.size_extract] at this
          have:3≤jq t:=by unfold jq;omega
          omega
        · simp
theorem qc (t:ByteArray):(ct t).1.length≤t.size:=by
  have:=pv (t.size+1) t []
  simpa [ct] using this
theorem mE {M:Nat}:∀ (l:List ByteArray) (n:Int) (out:List (List Change)) (deed:List Change) (used pos:Nat),(∀c∈out,c.length≤M)→deed.length+l.length≤M → ∀c∈(dQ l n out deed used pos).1,c.length≤M
  | [],n,out,deed,used,pos,h,hd=>h
  | s::r,n,out,deed,used,pos,h,hd=>by
    rw [List.length_cons] at hd
    rw [dQ]
    split
    ·
      refine mE r _ _ _ _ _ (fun c hc=>?_) (by simp;omega)
      rcases List.mem_append.1 hc with hc|hc
      · exact h c hc
      · rw [List.mem_singleton.1 hc];omega
    ·
      split
      · exact mE r _ _ _ _ _ h (by simp;omega)
      · exact h
theorem qe {d:bA}{f:Int}{k:Nat}{first:Int}:∀c∈dL d f k first,c.length≤k:=by
  unfold dL scan
  exact mE _ _ _ _ _ _ (by simp) (by rw [fW];simp)
theorem mF {M:Nat}:∀ (W:List (List Change)) (rows:List Change),(∀c∈W,c.length≤M)→(fe rows W).length≤rows.length+M*W.length
  | [],rows,h=>by simp [fe]
  | c::W,rows,h=>by
    have h1:=mF W (a8 rows c) (fun x hx=>h x (List.mem_cons_of_mem _ hx))
    have h2:=fG c rows
    have h3:=h c (List.mem_cons_self ..)
    show (fe (a8 rows c) W).length≤_
    rw [List.length_cons,Nat.mul_add,Nat.mul_one]
    omega
attribute [local irreducible] cj dL ct
set_option maxRecDepth 100000 in
set_option maxHeartbeats 1600000 in
theorem jI (ap:Nat)(ah ak ai:Value)(dk:bA)(w:World)(own:List Nat)(H:Wd w (blks [af.box ap [ah,ak,ai,.int .i64 dk.Fuse,.bool dk.Down] 81,af.row 9 ah (dk.Kept:List ByteArray),af.row 9 ak (dk.Now:List ByteArray),af.row 83 ai (dk.Wait:List Turn)]++own) ([af.box ap [ah,ak,ai,.int .i64 dk.Fuse,.bool dk.Down] 81,af.row 9 ah (dk.Kept:List ByteArray),af.row 9 ak (dk.Now:List ByteArray),af.row 83 ai (dk.Wait:List Turn)]++[af.held w own]) [] w)(hd:dk.Down=false)(ho:jQ dk=0)(hD:cI dk.Now.length 90000 dk∧dk.Now.length≤200):Calls Try.prog 22 #[.pointer (some ⟨ap,0,none⟩)] w fun e w' => ∃z:Value×Value×Value×Nat×Value×Nat,e = .returned (.tuple #[.pointer (some ⟨z.2.2.2.1,0,none⟩),.nilIface])∧Wd w (blks [af.box ap [ah,ak,ai,.int .i64 dk.Fuse,.bool dk.Down] 81,af.row 9 ah (dk.Kept:List ByteArray),af.row 9 ak (dk.Now:List ByteArray),af.row 83 ai (dk.Wait:List Turn)]++own) ([af.box ap [z.1,z.2.1,z.2.2.1,.int .i64 ((dk).Fuse),.bool ((dk).Down)] 81,af.row 9 z.1 ((dk).Kept:List ByteArray),af.row 9 z.2.1 ((dk).Now:List ByteArray),af.row 83 z.2.2.1 ((dk).Wait:List Turn),af.box z.2.2.2.1 [.pointer (some ⟨ap,0,none⟩),.int .i64 ((((ao dk).c)).Epoch),.int .i64 ((((ao dk).c)).Side),.int .i64 ((((ao dk).c)).Size),.int .i64 ((((ao dk).c)).First),.pointer (some ⟨z.2.2.2.2.2,0,none⟩),z.2.2.2.2.1] 100,af.box z.2.2.2.2.2 [.pointer (some ⟨ap,0,none⟩),.int .i64 ((((ao dk).L)).From),.int .i64 ((((ao dk).L)).Many),.int .i64 ((((ao dk).L)).First),.int .i64 ((((ao dk).L)).Next)] 85]++[af.held w own]) [af.ls z.2.2.2.2.1 ((((ao dk).c)).Rows:List Change)] w':=by
  have cZ:=H.cap 1 rfl;have da:=H.aX 1 rfl
  have dJ:=H.cap 2 rfl;have dK:=H.aX 2 rfl
  have dc:=H.cap 3 rfl;have df:=H.aX 3 rfl
  obtain ⟨o1,o2,o3⟩:=vU ho
  refine R.bY (n:=144) (vs:=[.pointer (some ⟨ap,0,none⟩)]) (B:=[af.box ap [ah,ak,ai,.int .i64 dk.Fuse,.bool dk.Down] 81,af.row 9 ah (dk.Kept:List ByteArray),af.row 9 ak (dk.Now:List ByteArray),af.row 83 ai (dk.Wait:List Turn),af.held w own]) [(0,.pointer (some ⟨ap,0,none⟩))] Try.func22 rfl rfl rfl rfl H ?_
  refine R.reg rfl<|R.u 2 rfl<|R.nil ?_
  refine R.reg rfl<|R.u 1 rfl<|R.c (q.call s8 rfl rfl (fun w hw=>(cv (congrArg Value.bool hd) (kH ap ah ak ai  (dk) w (hw.b 0 rfl) ((fun _=>Wd.row 1 rfl) w hw) ((fun _=>Wd.row 2 rfl) w hw) ((fun _=>Wd.row 3 rfl) w hw) )))) rfl<|R.nil ?_
  refine R.aH rfl rfl ?_
  refine R.reg rfl<|R.u 1 rfl<|R.c (q.call ke rfl rfl (fun w hw=>(cJ ap ah ak ai  (dk) w (hw.b 0 rfl) ((fun _=>Wd.row 1 rfl) w hw) ((fun _=>Wd.row 2 rfl) w hw) ((fun _=>Wd.row 3 rfl) w hw) ))) rfl<|R.q (q.lss rfl rfl (decide_eq_false (by omega))) rfl<|R.nil ?_
  refine R.aH rfl rfl ?_
  refine R.reg rfl<|R.u 1 rfl<|R.q (q.build (cs:=[.pointer (some ⟨ap,0,none⟩),.int .i64 0,.int .i64 0,.int .i64 0,.int .i64 0,.pointer none,.slice none 0 0]) sZ rfl rfl) rfl<|?_
  refine R.s rfl (s.box (cs:=[.pointer (some ⟨ap,0,none⟩),.int .i64 0,.int .i64 0,.int .i64 0,.int .i64 0,.pointer none,.slice none 0 0]) rfl rfl rfl) fun b1=>?_
  refine R.u 1 rfl<|R.nil ?_
  refine R.reg rfl<|R.u 1 rfl<|R.nil ?_
  refine R.loop (fun g_:Nat×br=>[(0,.pointer (some ⟨ap,0,none⟩)),(4,.pointer (some ⟨b1,0,none⟩)),(30,.int .i64 (g_.1:Int))]) (fun g_:Nat×br=>[af.box b1 [.pointer (some ⟨ap,0,none⟩),.int .i64 g_.2.Epoch,.int .i64 g_.2.Side,.int .i64 g_.2.Size,.int .i64 g_.2.First,.pointer none,.slice none 0 0] 100,af.box ap [ah,ak,ai,.int .i64 dk.Fuse,.bool dk.Down] 81,af.row 9 ah (dk.Kept:List ByteArray),af.row 9 ak (dk.Now:List ByteArray),af.row 83 ai (dk.Wait:List Turn),af.held w own]) (fun g_:Nat×br=>[]) (fun g_:Nat×br=>g_.1≤2∧g_.2=ff dk g_.1) (fun g_:Nat×br=>2-g_.1) (0,(⟨0,0,0,0⟩:br)) rfl (by exact ⟨by omega,rfl⟩) ⟨rfl,rfl,rfl,trivial⟩ (fun _=>Wd.pick [0,1,2,3,4,5] [] rfl rfl rfl) ?_
  rintro ⟨i,hh⟩ ⟨hi,HK⟩
  dsimp only at *
  have hin:=mD dk i;rw [← HK] at hin
  refine R.reg rfl<|?_
  by_cases h1:i<2
  ·
    refine R.q (q.lss rfl rfl (decide_eq_true (by omega))) rfl<|R.nil ?_
    refine R.aF rfl rfl ?_
    refine R.reg rfl<|R.u 2 rfl<|R.nil ?_
    have hrd:=kt hD.1 hd (i:=(i:Int)) (by omega) (by omega);obtain ⟨hrd,hsz⟩:=hrd;have hin2:=kv (aO dk (i:Int)).1
    refine R.reg rfl<|R.u 2 rfl<|R.c (q.call qL rfl rfl (fun w hw=>(jz ap ah ak ai  (dk) ((i:Int)) w (hw.b 1 rfl) ((fun _=>Wd.row 2 rfl) w hw) ((fun _=>Wd.row 3 rfl) w hw) ((fun _=>Wd.row 4 rfl) w hw) ))) rfl<|R.u 5 rfl<|R.nil ?_
    refine R.reg rfl<|R.u 1 rfl<|R.q (q.dx rfl rfl Try.underlying28 (by omega)) rfl<|R.nil ?_
    refine R.aH rfl rfl ?_
    refine R.reg rfl<|R.u 1 rfl<|?_
    refine R.s (B':=(fun _u:Unit=>[af.box b1 [.pointer (some ⟨ap,0,none⟩),.int .i64 hh.Epoch,.int .i64 hh.Side,.int .i64 hh.Size,.int .i64 hh.First,.pointer none,.slice none 0 0] 100,af.box ap [ah,ak,ai,.int .i64 dk.Fuse,.bool dk.Down] 81,af.row 9 ah (dk.Kept:List ByteArray),af.row 9 ak (dk.Now:List ByteArray),af.row 83 ai (dk.Wait:List Turn),af.held w own])) (F':=(fun _u:Unit=>[])) rfl (s.bM (B0:=[]) (Br:=[af.box b1 [.pointer (some ⟨ap,0,none⟩),.int .i64 hh.Epoch,.int .i64 hh.Side,.int .i64 hh.Size,.int .i64 hh.First,.pointer none,.slice none 0 0] 100,af.box ap [ah,ak,ai,.int .i64 dk.Fuse,.bool dk.Down] 81,af.row 9 ah (dk.Kept:List ByteArray),af.row 9 ak (dk.Now:List ByteArray),af.row 83 ai (dk.Wait:List Turn),af.held w own]) (F0:=[]) [0,1,2,3,4,5] [] (fun _u:Unit => .agg #[.int .i64 (((aT ((aO dk (i:Int)).1))).Epoch),.int .i64 (((aT ((aO dk (i:Int)).1))).Side),.int .i64 (((aT ((aO dk (i:Int)).1))).Size),.int .i64 (((aT ((aO dk (i:Int)).1))).First)]) (fun _u:Unit=>[]) (fun _u:Unit=>[]) rfl rfl rfl vM rfl rfl (fun w own hw H=>mr ((aO dk (i:Int)).1) w own H (by first|omega|assumption)) rfl) fun _=>?_
    refine R.s rfl (s.alloc (cs:=[.int .i64 0,.int .i64 0,.int .i64 0,.int .i64 0]) eC rfl rfl) fun b2=>?_
    refine R.s rfl (s.st (us:=[.int .i64 ((aT ((aO dk (i:Int)).1)).Epoch),.int .i64 ((aT ((aO dk (i:Int)).1)).Side),.int .i64 ((aT ((aO dk (i:Int)).1)).Size),.int .i64 ((aT ((aO dk (i:Int)).1)).First)]) (cs':=[.int .i64 ((aT ((aO dk (i:Int)).1)).Epoch),.int .i64 ((aT ((aO dk (i:Int)).1)).Side),.int .i64 ((aT ((aO dk (i:Int)).1)).Size),.int .i64 ((aT ((aO dk (i:Int)).1)).First)]) 0 _ rfl rfl rfl rfl (.inl aM) rfl rfl rfl rfl) fun _=>?_
    refine R.nil ?_
    by_cases h2:hh.Epoch<(aT ((aO dk (i:Int)).1)).Epoch
    ·
      refine R.dC rfl mixed (by kernel_rfl)<|Q.q (q.bz (off':=0) rfl cR rfl) rfl<|Q.q (q.ld 0 rfl rfl aK rfl) rfl<|Q.u 1 rfl<|Q.q (q.a7 rfl) rfl<|Q.q (q.bz (off':=1) rfl cp rfl) rfl<|Q.q (q.bz (off':=1) rfl cR rfl) rfl<|Q.q (q.ld 1 rfl rfl aK rfl) rfl<|Q.q (q.gtr rfl rfl (decide_eq_true (by omega))) rfl<|Q.nil ?_
      refine R.aF rfl rfl ?_
      refine R.reg rfl<|R.u 1 rfl<|R.q (q.mO 0 rfl rfl aM) rfl<|R.q (q.a7 rfl) rfl<|R.q (q.bz (off':=1) rfl cp rfl) rfl<|?_
      refine R.s rfl (s.st (us:=[.int .i64 ((aT ((aO dk (i:Int)).1)).Epoch),.int .i64 ((aT ((aO dk (i:Int)).1)).Side),.int .i64 ((aT ((aO dk (i:Int)).1)).Size),.int .i64 ((aT ((aO dk (i:Int)).1)).First)]) (cs':=[.pointer (some ⟨ap,0,none⟩),.int .i64 ((aT ((aO dk (i:Int)).1)).Epoch),.int .i64 ((aT ((aO dk (i:Int)).1)).Side),.int .i64 ((aT ((aO dk (i:Int)).1)).Size),.int .i64 ((aT ((aO dk (i:Int)).1)).First),.pointer none,.slice none 0 0]) 1 _ rfl rfl rfl rfl (.inl aM) rfl rfl rfl rfl) fun _=>?_
      refine R.nil ?_
      refine R.reg rfl<|R.q (q.add (r:=((i+1:Nat):Int)) rfl rfl (wr (by omega))) rfl<|R.u 1 rfl<|R.nil ?_
      refine R.back (i+1,aT (aO dk (i:Int)).1) rfl (by (exact ⟨by omega,by show _=fX (ff dk i) (aT (aO dk (i:Int)).1);rw [← HK];unfold fX;first|rw [if_pos (by assumption)] | rw [if_neg (by assumption)]⟩)) (by dsimp only;omega) ⟨rfl,rfl,rfl,trivial⟩ (fun _=>Wd.ay [1,2,3,4,5,6] [] rfl rfl rfl)
    ·
      refine R.dC rfl mixed (by kernel_rfl)<|Q.q (q.bz (off':=0) rfl cR rfl) rfl<|Q.q (q.ld 0 rfl rfl aK rfl) rfl<|Q.u 1 rfl<|Q.q (q.a7 rfl) rfl<|Q.q (q.bz (off':=1) rfl cp rfl) rfl<|Q.q (q.bz (off':=1) rfl cR rfl) rfl<|Q.q (q.ld 1 rfl rfl aK rfl) rfl<|Q.q (q.gtr rfl rfl (decide_eq_false (by omega))) rfl<|Q.nil ?_
      refine R.aH rfl rfl ?_
      refine R.reg rfl<|R.q (q.add (r:=((i+1:Nat):Int)) rfl rfl (wr (by omega))) rfl<|R.u 1 rfl<|R.nil ?_
      refine R.back (i+1,hh) rfl (by (exact ⟨by omega,by show _=fX (ff dk i) (aT (aO dk (i:Int)).1);rw [← HK];unfold fX;first|rw [if_pos (by assumption)] | rw [if_neg (by assumption)]⟩)) (by dsimp only;omega) ⟨rfl,rfl,rfl,trivial⟩ (fun _=>Wd.ay [1,2,3,4,5,6] [] rfl rfl rfl)
  ·
    refine R.q (q.lss rfl rfl (decide_eq_false (by omega))) rfl<|R.nil ?_
    refine R.aH rfl rfl ?_
    have yy:hh=headD dk:=by rw [HK,show i=2 by omega];rfl
    have AF:¬ hh.Epoch=0:=by rw [yy];exact o2
    refine R.reg rfl<|R.u 1 rfl<|R.q (q.a7 rfl) rfl<|R.q (q.bz (off':=1) rfl cp rfl) rfl<|R.q (q.bz (off':=1) rfl cR rfl) rfl<|R.q (q.ld 0 rfl rfl aK rfl) rfl<|R.q (q.eql rfl rfl (beq_eq_false_iff_ne.2 (by omega))) rfl<|R.nil ?_
    refine R.aH rfl rfl ?_
    refine R.reg rfl<|R.u 1 rfl<|R.nil ?_
    refine R.reg rfl<|R.u 1 rfl<|R.nil ?_
    refine R.loop (fun g_:Nat×ByteArray=>[(0,.pointer (some ⟨ap,0,none⟩)),(4,.pointer (some ⟨b1,0,none⟩)),(9,.string g_.2),(64,.int .i64 (g_.1:Int))]) (fun g_:Nat×ByteArray=>[af.box b1 [.pointer (some ⟨ap,0,none⟩),.int .i64 hh.Epoch,.int .i64 hh.Side,.int .i64 hh.Size,.int .i64 hh.First,.pointer none,.slice none 0 0] 100,af.box ap [ah,ak,ai,.int .i64 dk.Fuse,.bool dk.Down] 81,af.row 9 ah (dk.Kept:List ByteArray),af.row 9 ak (dk.Now:List ByteArray),af.row 83 ai (dk.Wait:List Turn),af.held w own]) (fun g_:Nat×ByteArray=>[]) (fun g_:Nat×ByteArray=>g_.1≤50∧g_.2=lu dk (2+hh.Side*50) g_.1∧g_.2.size=48*g_.1) (fun g_:Nat×ByteArray=>50-g_.1) (0,(⟨#[]⟩:ByteArray)) rfl (by exact ⟨by omega,rfl,rfl⟩) ⟨rfl,rfl,rfl,rfl,trivial⟩ (fun _=>Wd.pick [0,1,2,3,4,5] [] rfl rfl rfl) ?_
    rintro ⟨j,tx⟩ ⟨hj,HT,hts⟩
    dsimp only at *
    refine R.reg rfl<|?_
    by_cases h3:j<50
    ·
      refine R.q (q.lss rfl rfl (decide_eq_true (by omega))) rfl<|R.nil ?_
      refine R.aF rfl rfl ?_
      refine R.reg rfl<|R.u 2 rfl<|R.nil ?_
      have hrd:=kt hD.1 hd (i:=2+hh.Side*50+(j:Int)) (by omega) (by omega);obtain ⟨hrd,hsz⟩:=hrd
      refine R.reg rfl<|R.u 2 rfl<|R.q (q.a7 rfl) rfl<|R.q (q.bz (off':=1) rfl cp rfl) rfl<|R.q (q.bz (off':=2) rfl ew rfl) rfl<|R.q (q.ld 0 rfl rfl aK rfl) rfl<|R.q (q.mul (r:=hh.Side*50) rfl rfl (wr (by omega))) rfl<|R.q (q.add (r:=2+(hh.Side*50)) rfl rfl (wr (by omega))) rfl<|R.u 1 rfl<|R.q (q.add (r:=(2+(hh.Side*50))+(j:Int)) rfl rfl (wr (by omega))) rfl<|R.c (q.call qL rfl rfl (fun w hw=>(jz ap ah ak ai  (dk) (((2+(hh.Side*50))+(j:Int))) w (hw.b 1 rfl) ((fun _=>Wd.row 2 rfl) w hw) ((fun _=>Wd.row 3 rfl) w hw) ((fun _=>Wd.row 4 rfl) w hw) ))) rfl<|R.u 5 rfl<|R.nil ?_
      refine R.reg rfl<|R.u 1 rfl<|R.q (q.dx rfl rfl Try.underlying28 (by omega)) rfl<|R.nil ?_
      refine R.aH rfl rfl ?_
      refine R.reg rfl<|R.u 2 rfl<|R.q (q.cat rfl rfl (by omega)) rfl<|R.u 1 rfl<|R.nil ?_
      refine R.reg rfl<|R.q (q.add (r:=((j+1:Nat):Int)) rfl rfl (wr (by omega))) rfl<|R.u 1 rfl<|R.nil ?_
      refine R.back (j+1,(tx++(aO dk ((2+(hh.Side*50))+(j:Int))).1)) rfl (by (exact ⟨by omega,by show _=lu dk (2+hh.Side*50) j++_;rw [← HT],by rw [ByteArray.size_append];omega⟩)) (by dsimp only;omega) ⟨rfl,rfl,rfl,rfl,trivial⟩ (fun _=>Wd.ay [0,1,2,3,4,5] [] rfl rfl rfl)
    ·
      refine R.q (q.lss rfl rfl (decide_eq_false (by omega))) rfl<|R.nil ?_
      refine R.aH rfl rfl ?_
      have hth:tx.extract 0 hh.Size.toNat=jP dk:=by rw [HT,yy,show j=50 by omega];rfl
      have hpb:(ct (tx.extract 0 hh.Size.toNat)).2=true:=by rw [hth];exact o3
      refine R.reg rfl<|R.u 2 rfl<|R.q (q.a7 rfl) rfl<|R.q (q.bz (off':=1) rfl cp rfl) rfl<|R.q (q.bz (off':=3) rfl fB rfl) rfl<|R.q (q.ld 0 rfl rfl aK rfl) rfl<|R.q (q.Ao (i:=hh.Size.toNat) rfl rfl Try.underlying9 (by omega) (by omega)) rfl<|?_
      refine R.s (B':=(fun bg:Value=>[af.row 51 bg (((ct (tx.extract 0 hh.Size.toNat))).1:List Change),af.box b1 [.pointer (some ⟨ap,0,none⟩),.int .i64 hh.Epoch,.int .i64 hh.Side,.int .i64 hh.Size,.int .i64 hh.First,.pointer none,.slice none 0 0] 100,af.box ap [ah,ak,ai,.int .i64 dk.Fuse,.bool dk.Down] 81,af.row 9 ah (dk.Kept:List ByteArray),af.row 9 ak (dk.Now:List ByteArray),af.row 83 ai (dk.Wait:List Turn),af.held w own])) (F':=(fun bg:Value=>[])) rfl (s.bM (B0:=[]) (Br:=[af.box b1 [.pointer (some ⟨ap,0,none⟩),.int .i64 hh.Epoch,.int .i64 hh.Side,.int .i64 hh.Size,.int .i64 hh.First,.pointer none,.slice none 0 0] 100,af.box ap [ah,ak,ai,.int .i64 dk.Fuse,.bool dk.Down] 81,af.row 9 ah (dk.Kept:List ByteArray),af.row 9 ak (dk.Now:List ByteArray),af.row 83 ai (dk.Wait:List Turn),af.held w own]) (F0:=[]) [0,1,2,3,4,5] [] (fun bg:Value => .tuple #[bg,.bool (((ct (tx.extract 0 hh.Size.toNat))).2)]) (fun bg:Value=>[af.row 51 bg (((ct (tx.extract 0 hh.Size.toNat))).1:List Change)]) (fun bg:Value=>[]) rfl rfl rfl x5 rfl rfl (fun w own hw H=>sh ((tx.extract 0 hh.Size.toNat)) w own H (by first|omega|assumption|(rw [ByteArray.size_extract];omega))) rfl) fun z1=>?_
      refine R.u 5 rfl<|R.nil ?_
      refine R.reg rfl<|R.u 1 rfl<|R.q (q.not rfl) rfl<|R.nil ?_
      refine R.cond rfl rfl (fun h4=>?_) (fun h4=>?_)
      · exact absurd h4 (by rw [hpb];decide)
      ·
        refine R.eX (fuel:=17) (Wd w (blks [af.box ap [ah,ak,ai,.int .i64 dk.Fuse,.bool dk.Down] 81,af.row 9 ah (dk.Kept:List ByteArray),af.row 9 ak (dk.Now:List ByteArray),af.row 83 ai (dk.Wait:List Turn)]++own) [af.row 51 z1 ((ct (tx.extract 0 hh.Size.toNat)).1:List Change),af.box b1 [.pointer (some ⟨ap,0,none⟩),.int .i64 hh.Epoch,.int .i64 hh.Side,.int .i64 hh.Size,.int .i64 hh.First,.pointer none,.slice none 0 0] 100,af.held w own] []) rfl mixed rfl ?_
        refine D.q (i:=0) rfl (by kernel_rfl) (fun _=>Wd.ay [0,1,6] [] rfl rfl rfl) rfl (q.mv rfl) rfl<|D.q (i:=1) rfl (by kernel_rfl) (fun _=>Wd.ay [0,1,6] [] rfl rfl rfl) rfl (q.mv rfl) rfl<|D.q (i:=4) rfl (by kernel_rfl) (fun _=>Wd.ay [0,1,6] [] rfl rfl rfl) rfl (q.mv rfl) rfl<|D.q (i:=5) rfl (by kernel_rfl) (fun _=>Wd.ay [0,1,6] [] rfl rfl rfl) rfl (q.a7 rfl) rfl<|D.q (i:=6) rfl (by kernel_rfl) (fun _=>Wd.ay [0,1,6] [] rfl rfl rfl) rfl (q.bz (off':=1) rfl cp rfl) rfl<|D.q (i:=7) rfl (by kernel_rfl) (fun _=>Wd.ay [0,1,6] [] rfl rfl rfl) rfl (q.bz (off':=4) rfl eT rfl) rfl<|D.q (i:=8) rfl (by kernel_rfl) (fun _=>Wd.ay [0,1,6] [] rfl rfl rfl) rfl (q.ld 1 rfl rfl aK rfl) rfl<|?_
        refine D.one (i:=2) (by kernel_rfl) rfl ?_
        refine Do.s (s.c (q.call ke rfl rfl (fun w hw=>(cJ ap ah ak ai  (dk) w (hw.b 2 rfl) ((fun _=>Wd.row 3 rfl) w hw) ((fun _=>Wd.row 4 rfl) w hw) ((fun _=>Wd.row 5 rfl) w hw) ))) rfl) (fun _=>(fun _=>Wd.ay [0,1,6] [] rfl rfl rfl)) rfl fun _=>?_
        refine D.q (i:=3) rfl (by kernel_rfl) (fun _=>Wd.ay [0,1,6] [] rfl rfl rfl) rfl (q.sub (r:=((dk.Now.length-102:Nat):Int)) rfl rfl (wr (by omega))) rfl<|?_
        refine D.one (i:=9) (by kernel_rfl) rfl ?_
        refine Do.s (B':=(fun g_:Value×Value×Value×Nat×Value×List dz=>[af.box ap [g_.1,g_.2.1,g_.2.2.1,.int .i64 ((dk).Fuse),.bool ((dk).Down)] 81,af.row 9 g_.1 ((dk).Kept:List ByteArray),af.row 9 g_.2.1 ((dk).Now:List ByteArray),af.row 83 g_.2.2.1 ((dk).Wait:List Turn),af.box g_.2.2.2.1 [.pointer (some ⟨ap,0,none⟩),.int .i64 (((⟨102,(((dk.Now.length-102):Nat):Int),hh.First,(cj dk 102 (Int.toNat (((dk.Now.length-102):Nat):Int)) hh.First:Int)⟩:Lg)).From),.int .i64 (((⟨102,(((dk.Now.length-102):Nat):Int),hh.First,(cj dk 102 (Int.toNat (((dk.Now.length-102):Nat):Int)) hh.First:Int)⟩:Lg)).Many),.int .i64 (((⟨102,(((dk.Now.length-102):Nat):Int),hh.First,(cj dk 102 (Int.toNat (((dk.Now.length-102):Nat):Int)) hh.First:Int)⟩:Lg)).First),.int .i64 (((⟨102,(((dk.Now.length-102):Nat):Int),hh.First,(cj dk 102 (Int.toNat (((dk.Now.length-102):Nat):Int)) hh.First:Int)⟩:Lg)).Next)] 85,af.row 51 z1 ((ct (tx.extract 0 hh.Size.toNat)).1:List Change),af.box b1 [.pointer (some ⟨ap,0,none⟩),.int .i64 hh.Epoch,.int .i64 hh.Side,.int .i64 hh.Size,.int .i64 hh.First,.pointer none,.slice none 0 0] 100,af.held w own])) (F':=(fun g_:Value×Value×Value×Nat×Value×List dz=>[af.ls g_.2.2.2.2.1 (g_.2.2.2.2.2:List dz),af.jl (g_.2.2.2.2.2:List dz) ((dL dk 102 (Int.toNat (((dk.Now.length-102):Nat):Int)) hh.First))])) (s.bM (B0:=[af.box ap [ah,ak,ai,.int .i64 dk.Fuse,.bool dk.Down] 81,af.row 9 ah (dk.Kept:List ByteArray),af.row 9 ak (dk.Now:List ByteArray),af.row 83 ai (dk.Wait:List Turn)]) (Br:=[af.row 51 z1 ((ct (tx.extract 0 hh.Size.toNat)).1:List Change),af.box b1 [.pointer (some ⟨ap,0,none⟩),.int .i64 hh.Epoch,.int .i64 hh.Side,.int .i64 hh.Size,.int .i64 hh.First,.pointer none,.slice none 0 0] 100,af.held w own]) (F0:=[]) [2,3,4,5,0,1,6] [] (fun g_:Value×Value×Value×Nat×Value×List dz => .tuple #[.pointer (some ⟨g_.2.2.2.1,0,none⟩),g_.2.2.2.2.1,.nilIface]) (fun g_:Value×Value×Value×Nat×Value×List dz=>[af.box ap [g_.1,g_.2.1,g_.2.2.1,.int .i64 ((dk).Fuse),.bool ((dk).Down)] 81,af.row 9 g_.1 ((dk).Kept:List ByteArray),af.row 9 g_.2.1 ((dk).Now:List ByteArray),af.row 83 g_.2.2.1 ((dk).Wait:List Turn),af.box g_.2.2.2.1 [.pointer (some ⟨ap,0,none⟩),.int .i64 (((⟨102,(((dk.Now.length-102):Nat):Int),hh.First,(cj dk 102 (Int.toNat (((dk.Now.length-102):Nat):Int)) hh.First:Int)⟩:Lg)).From),.int .i64 (((⟨102,(((dk.Now.length-102):Nat):Int),hh.First,(cj dk 102 (Int.toNat (((dk.Now.length-102):Nat):Int)) hh.First:Int)⟩:Lg)).Many),.int .i64 (((⟨102,(((dk.Now.length-102):Nat):Int),hh.First,(cj dk 102 (Int.toNat (((dk.Now.length-102):Nat):Int)) hh.First:Int)⟩:Lg)).First),.int .i64 (((⟨102,(((dk.Now.length-102):Nat):Int),hh.First,(cj dk 102 (Int.toNat (((dk.Now.length-102):Nat):Int)) hh.First:Int)⟩:Lg)).Next)] 85]) (fun g_:Value×Value×Value×Nat×Value×List dz=>[af.ls g_.2.2.2.2.1 (g_.2.2.2.2.2:List dz),af.jl (g_.2.2.2.2.2:List dz) ((dL dk 102 (Int.toNat (((dk.Now.length-102):Nat):Int)) hh.First))]) rfl rfl rfl vD rfl rfl (fun w own hw H=>pn ap ah ak ai (dk) (102) ((((dk.Now.length-102):Nat):Int)) (hh.First) w own H (by refine ⟨by decide,?_,?_,?_,?_⟩ <;> omega) (hd) (⟨hD.1,by omega⟩)) rfl) (fun _=>(fun _=>Wd.ay [5,6,7] [] rfl rfl rfl)) rfl ?_
        rintro ⟨z8,z9,gP,gK,z12,kV⟩
        dsimp only
        refine D.q (i:=10) rfl (by kernel_rfl) (fun _=>Wd.ay [5,6,7] [] rfl rfl rfl) rfl (q.mv rfl) rfl<|D.q (i:=11) rfl (by kernel_rfl) (fun _=>Wd.ay [5,6,7] [] rfl rfl rfl) rfl (q.ext rfl rfl) rfl<|D.q (i:=12) rfl (by kernel_rfl) (fun _=>Wd.ay [5,6,7] [] rfl rfl rfl) rfl (q.ext rfl rfl) rfl<|D.q (i:=13) rfl (by kernel_rfl) (fun _=>Wd.ay [5,6,7] [] rfl rfl rfl) rfl (q.ext rfl rfl) rfl<|D.q (i:=14) rfl (by kernel_rfl) (fun _=>Wd.ay [5,6,7] [] rfl rfl rfl) rfl (q.as rfl) rfl<|D.q (i:=15) rfl (by kernel_rfl) (fun _=>Wd.ay [5,6,7] [] rfl rfl rfl) rfl (q.as rfl) rfl<|D.q (i:=16) rfl (by kernel_rfl) (fun _=>Wd.ay [5,6,7] [] rfl rfl rfl) rfl (q.as rfl) rfl<|D.done (by kernel_rfl)<|?_
        refine R.reg rfl<|R.u 1 rfl<|R.q (q.nf rfl rfl Try.underlying28) rfl<|R.nil ?_
        refine R.aH rfl rfl ?_
        refine R.reg rfl<|R.u 4 rfl<|R.q (q.a7 rfl) rfl<|R.q (q.bz (off':=5) rfl eL rfl) rfl<|?_
        refine R.s rfl (s.st (us:=[.pointer (some ⟨gK,0,none⟩)]) (cs':=[.pointer (some ⟨ap,0,none⟩),.int .i64 hh.Epoch,.int .i64 hh.Side,.int .i64 hh.Size,.int .i64 hh.First,.pointer (some ⟨gK,0,none⟩),.slice none 0 0]) 6 _ rfl rfl rfl rfl (.inr ⟨dq,rfl⟩) rfl rfl rfl rfl) fun _=>?_
        refine Rg.wD (F':=[af.gj (kV:List dz),af.ls z12 (kV:List dz)]) 1 rfl rfl fun hE1=>?_
        refine R.q (q.a7 rfl) rfl<|R.q (q.bz (off':=6) rfl dZ rfl) rfl<|?_
        refine R.s rfl (s.pN (us:=[z1]) (cs':=[.pointer (some ⟨ap,0,none⟩),.int .i64 hh.Epoch,.int .i64 hh.Side,.int .i64 hh.Size,.int .i64 hh.First,.pointer (some ⟨gK,0,none⟩),z1]) 6 _ rfl rfl rfl (fun w hw=>Sl.dX ((fun _=>Wd.row 5 rfl) w hw)) (.inr ⟨bX,rfl⟩) (fun w hw=>(bN (Sl.one ((fun _=>Wd.row 5 rfl) w hw)) dD)) rfl rfl rfl) fun _=>?_
        refine R.nil ?_
        refine R.reg rfl<|R.u 1 rfl<|R.q (q.len' (fun _=>Wd.bV 1 rfl) rfl Try.underlying33) rfl<|R.u 1 rfl<|R.nil ?_
        refine R.mp (B':=[af.box ap [z8,z9,gP,.int .i64 dk.Fuse,.bool dk.Down] 81,af.row 9 z8 (dk.Kept:List ByteArray),af.row 9 z9 (dk.Now:List ByteArray),af.row 83 gP (dk.Wait:List Turn),af.box gK [.pointer (some ⟨ap,0,none⟩),.int .i64 102,.int .i64 (((dk.Now.length-102):Nat):Int),.int .i64 hh.First,.int .i64 (cj dk 102 (Int.toNat (((dk.Now.length-102):Nat):Int)) hh.First:Int)] 85,af.box b1 [.pointer (some ⟨ap,0,none⟩),.int .i64 hh.Epoch,.int .i64 hh.Side,.int .i64 hh.Size,.int .i64 hh.First,.pointer (some ⟨gK,0,none⟩),z1] 100,af.held w own]) (fun _ hw=>hw.gT 5 _ rfl rfl) ?_
        refine R.loop (fun g_:Nat×Value×(List Change)=>[(4,.pointer (some ⟨b1,0,none⟩)),(127,z12),(128,.int .i64 (kV.length:Int)),(129,.int .i64 (g_.1:Int))]) (fun g_:Nat×Value×(List Change)=>[af.box ap [z8,z9,gP,.int .i64 dk.Fuse,.bool dk.Down] 81,af.row 9 z8 (dk.Kept:List ByteArray),af.row 9 z9 (dk.Now:List ByteArray),af.row 83 gP (dk.Wait:List Turn),af.box gK [.pointer (some ⟨ap,0,none⟩),.int .i64 102,.int .i64 (((dk.Now.length-102):Nat):Int),.int .i64 hh.First,.int .i64 (cj dk 102 (Int.toNat (((dk.Now.length-102):Nat):Int)) hh.First:Int)] 85,af.box b1 [.pointer (some ⟨ap,0,none⟩),.int .i64 hh.Epoch,.int .i64 hh.Side,.int .i64 hh.Size,.int .i64 hh.First,.pointer (some ⟨gK,0,none⟩),g_.2.1] 100,af.held w own]) (fun g_:Nat×Value×(List Change)=>[af.ls g_.2.1 (g_.2.2:List Change),af.ls z1 ((ct (tx.extract 0 hh.Size.toNat)).1:List Change),af.gj (kV:List dz),af.ls z12 (kV:List dz)]) (fun g_:Nat×Value×(List Change)=>g_.1≤kV.length∧g_.2.2=fe (ct (jP dk)).1 ((kV.map dz.L).take g_.1)) (fun g_:Nat×Value×(List Change)=>kV.length-g_.1) (0,z1,(ct (tx.extract 0 hh.Size.toNat)).1) rfl (by exact ⟨by omega,by rw [hth];rfl⟩) ⟨rfl,rfl,rfl,rfl,trivial⟩ (fun _=>Wd.pick [0,1,2,3,4,5,6] [0,0,1,2] rfl rfl rfl) ?_
        rintro ⟨k,vr,rr⟩ ⟨hk,HR⟩
        dsimp only at *
        have Bh:=vk hE1;have hWs:∀c∈kV.map dz.L,c.length≤98:=fun c hc=>by rw [hE1] at hc;have:=qe c hc;omega
        have hrl:rr.length≤12004:=by have h1:=mF (M:=98) ((kV.map dz.L).take k) (ct (jP dk)).1 (fun c hc=>hWs c (List.mem_of_mem_take hc));have h2:=qc (jP dk);have h3:(jP dk).size≤2400:=(by rw [← hth,ByteArray.size_extract];omega);rw [List.length_take,List.length_map] at h1;rw [HR];omega
        refine R.reg rfl<|?_
        by_cases h5:k<kV.length
        ·
          refine R.q (q.lss rfl rfl (decide_eq_true (by omega))) rfl<|R.nil ?_
          refine R.aF rfl rfl ?_
          refine R.reg rfl<|?_
          obtain ⟨x1,hx1⟩:∃z,kV[k]? = some z:=⟨_,List.getElem?_eq_getElem (by omega)⟩
          refine R.q (q.idx (i:=k) (fun _=>Wd.bV 3 rfl) rfl rfl sV rfl hx1) rfl<|R.q (q.jS (fun _=>Wd.bV 3 rfl) hx1 rfl bX rfl) rfl<|R.u 1 rfl<|R.nil ?_
          have hxl:=hWs x1.L (List.mem_map_of_mem (List.mem_of_getElem? hx1))
          refine R.reg rfl<|R.u 2 rfl<|R.q (q.a7 rfl) rfl<|R.q (q.bz (off':=6) rfl dZ rfl) rfl<|R.q (q.ld 5 rfl rfl bX rfl) rfl<|R.u 1 rfl<|?_
          refine R.s (B':=(fun bg:Value=>[af.row 51 bg ((a8 rr x1.L):List Change),af.box ap [z8,z9,gP,.int .i64 dk.Fuse,.bool dk.Down] 81,af.row 9 z8 (dk.Kept:List ByteArray),af.row 9 z9 (dk.Now:List ByteArray),af.row 83 gP (dk.Wait:List Turn),af.box gK [.pointer (some ⟨ap,0,none⟩),.int .i64 102,.int .i64 (((dk.Now.length-102):Nat):Int),.int .i64 hh.First,.int .i64 (cj dk 102 (Int.toNat (((dk.Now.length-102):Nat):Int)) hh.First:Int)] 85,af.box b1 [.pointer (some ⟨ap,0,none⟩),.int .i64 hh.Epoch,.int .i64 hh.Side,.int .i64 hh.Size,.int .i64 hh.First,.pointer (some ⟨gK,0,none⟩),vr] 100,af.held w own])) (F':=(fun bg:Value=>[af.ls x1.cv (x1.L:List Change),af.ls vr (rr:List Change),af.ls z1 ((ct (tx.extract 0 hh.Size.toNat)).1:List Change),af.gj (kV:List dz),af.ls z12 (kV:List dz)])) rfl (s.pre (B2:=[af.box ap [z8,z9,gP,.int .i64 dk.Fuse,.bool dk.Down] 81,af.row 9 z8 (dk.Kept:List ByteArray),af.row 9 z9 (dk.Now:List ByteArray),af.row 83 gP (dk.Wait:List Turn),af.box gK [.pointer (some ⟨ap,0,none⟩),.int .i64 102,.int .i64 (((dk.Now.length-102):Nat):Int),.int .i64 hh.First,.int .i64 (cj dk 102 (Int.toNat (((dk.Now.length-102):Nat):Int)) hh.First:Int)] 85,af.box b1 [.pointer (some ⟨ap,0,none⟩),.int .i64 hh.Epoch,.int .i64 hh.Side,.int .i64 hh.Size,.int .i64 hh.First,.pointer (some ⟨gK,0,none⟩),vr] 100,af.held w own]) (F2:=[af.ls x1.cv (x1.L:List Change),af.ls vr (rr:List Change),af.ls z1 ((ct (tx.extract 0 hh.Size.toNat)).1:List Change),af.gj (kV:List dz),af.ls z12 (kV:List dz)]) (fun _ hw=>hw.wC (x:=x1) 2 rfl (List.mem_of_getElem? hx1)) (s.bM (B0:=[]) (Br:=[af.box ap [z8,z9,gP,.int .i64 dk.Fuse,.bool dk.Down] 81,af.row 9 z8 (dk.Kept:List ByteArray),af.row 9 z9 (dk.Now:List ByteArray),af.row 83 gP (dk.Wait:List Turn),af.box gK [.pointer (some ⟨ap,0,none⟩),.int .i64 102,.int .i64 (((dk.Now.length-102):Nat):Int),.int .i64 hh.First,.int .i64 (cj dk 102 (Int.toNat (((dk.Now.length-102):Nat):Int)) hh.First:Int)] 85,af.box b1 [.pointer (some ⟨ap,0,none⟩),.int .i64 hh.Epoch,.int .i64 hh.Side,.int .i64 hh.Size,.int .i64 hh.First,.pointer (some ⟨gK,0,none⟩),vr] 100,af.held w own]) (F0:=[af.ls vr (rr:List Change),af.ls x1.cv (x1.L:List Change)]) [0,1,2,3,4,5,6] [1,0] (fun bg:Value=>bg) (fun bg:Value=>[af.row 51 bg ((a8 rr x1.L):List Change)]) (fun bg:Value=>[]) rfl rfl rfl s9 rfl rfl (fun w own hw H=>iM vr (rr) x1.cv (x1.L) w own H (by first|omega|assumption|(simp;done)|(simp;omega))) rfl)) fun sH=>?_
          refine R.q (q.a7 rfl) rfl<|R.q (q.bz (off':=6) rfl dZ rfl) rfl<|?_
          refine R.s rfl (s.pN (us:=[sH]) (cs':=[.pointer (some ⟨ap,0,none⟩),.int .i64 hh.Epoch,.int .i64 hh.Side,.int .i64 hh.Size,.int .i64 hh.First,.pointer (some ⟨gK,0,none⟩),sH]) 6 _ rfl rfl rfl (fun w hw=>Sl.dX ((fun _=>Wd.row 0 rfl) w hw)) (.inr ⟨bX,rfl⟩) (fun w hw=>(bN (Sl.one ((fun _=>Wd.row 0 rfl) w hw)) dD)) rfl rfl rfl) fun _=>?_
          refine R.nil ?_
          refine R.reg rfl<|R.q (q.add (r:=((k+1:Nat):Int)) rfl rfl (wr (by omega))) rfl<|R.u 1 rfl<|R.nil ?_
          refine R.mp (B':=[af.box ap [z8,z9,gP,.int .i64 dk.Fuse,.bool dk.Down] 81,af.row 9 z8 (dk.Kept:List ByteArray),af.row 9 z9 (dk.Now:List ByteArray),af.row 83 gP (dk.Wait:List Turn),af.box gK [.pointer (some ⟨ap,0,none⟩),.int .i64 102,.int .i64 (((dk.Now.length-102):Nat):Int),.int .i64 hh.First,.int .i64 (cj dk 102 (Int.toNat (((dk.Now.length-102):Nat):Int)) hh.First:Int)] 85,af.box b1 [.pointer (some ⟨ap,0,none⟩),.int .i64 hh.Epoch,.int .i64 hh.Side,.int .i64 hh.Size,.int .i64 hh.First,.pointer (some ⟨gK,0,none⟩),sH] 100,af.held w own]) (fun _ hw=>hw.gT 0 _ rfl rfl) ?_
          refine R.back (k+1,sH,a8 rr x1.L) rfl (by (exact ⟨by omega,by rw [po (c:=x1.L) (by rw [List.getElem?_map,hx1];rfl),← HR]⟩)) (by dsimp only;omega) ⟨rfl,rfl,rfl,rfl,trivial⟩ (fun _=>Wd.ay [0,1,2,3,4,5,6] [0,3,4,5] rfl rfl rfl)
        ·
          refine R.q (q.lss rfl rfl (decide_eq_false (by omega))) rfl<|R.nil ?_
          refine R.aH rfl rfl ?_
          refine R.reg rfl<|R.u 3 rfl<|R.nil ?_
          have hz:(dk,(ao dk).c,(ao dk).L)=(dk,(⟨hh.Epoch,hh.Side,hh.Size,hh.First,rr⟩:ic),(⟨102,(((dk.Now.length-102):Nat):Int),hh.First,(cj dk 102 (Int.toNat (((dk.Now.length-102):Nat):Int)) hh.First:Int)⟩:Lg)):=by (rw [HR,List.take_of_length_le (by rw [List.length_map];omega),hE1,yy,show ((dk.Now.length-102:Nat):Int)=(dk.Now.length:Int)-102 by omega];rfl)
          have hz0:(ao dk).c=(⟨hh.Epoch,hh.Side,hh.Size,hh.First,rr⟩:ic):=congrArg (fun t_=>t_.2.1) hz
          rw [hz0]
          have hz1:(ao dk).L=(⟨102,(((dk.Now.length-102):Nat):Int),hh.First,(cj dk 102 (Int.toNat (((dk.Now.length-102):Nat):Int)) hh.First:Int)⟩:Lg):=congrArg (fun t_=>t_.2.2) hz
          rw [hz1]
          exact R.w2 (z8,z9,gP,b1,vr,gK) [0,1,2,3,5,4,6] [0] rfl Try.results22 (RV.tmp rfl) (RV.tmp rfl) rfl rfl rfl (mR rfl rfl)
end Go.Proofs.Ytpipachmngdegaa
end
