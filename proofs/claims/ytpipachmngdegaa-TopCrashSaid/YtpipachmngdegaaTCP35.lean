import Derived.Test.YtpipachmngdegaaTCP32
import Derived.Test.YtpipachmngdegaaTCP34
section
namespace Go.Proofs.Ytpipachmngdegaa
open Go Go.RowKit
set_option linter.unusedVariables false
set_option linter.unusedSimpArgs false
set_option maxRecDepth 100000
theorem jw (br:Nat)(aE:Value)(pS:Nat)(pU:Nat)(st:gV)(w:World)(yb:(ah.box br [.pointer (some ⟨pS,0,none⟩),.int .i64 st.Epoch,.int .i64 st.Side,.int .i64 st.Size,.int .i64 st.First,.pointer (some ⟨pU,0,none⟩),aE] 100).ok w)(pV:Sl w aE (st.Rows:List Change))(hl:st.Rows.length≤100000):Calls Try.prog 29 #[.pointer (some ⟨br,0,none⟩)] w fun e w' => ∃u,e = .returned u∧Own w.heap.size 51 w' u (st.Rows)∧Ext w w':=by
  refine R.enter (n:=8) (vs:=[.pointer (some ⟨br,0,none⟩)]) [] [(0,.pointer (some ⟨br,0,none⟩))] Try.func29 rfl rfl rfl rfl ?_
  refine R.iZ pV ?_
  refine R.lv (r:=ah.box br [.pointer (some ⟨pS,0,none⟩),.int .i64 st.Epoch,.int .i64 st.Side,.int .i64 st.Size,.int .i64 st.First,.pointer (some ⟨pU,0,none⟩),aE] 100) yb (iW yb) ?_
  refine R.reg rfl<|R.u 1 rfl<|R.nil ?_
  refine R.reg rfl<|R.u 1 rfl<|R.q (q.bm rfl) rfl<|R.q (q.bJ (off':=6) rfl dJ rfl) rfl<|R.q (q.pC 0 rfl rfl cj rfl) rfl<|?_
  refine R.s (B':=(fun aW:Value=>[ah.row 51 aW (st.Rows:List Change)])) (F':=(fun aW:Value=>[ah.box br [.pointer (some ⟨pS,0,none⟩),.int .i64 st.Epoch,.int .i64 st.Side,.int .i64 st.Size,.int .i64 st.First,.pointer (some ⟨pU,0,none⟩),aE] 100,ah.ls aE (st.Rows:List Change)])) rfl (s.bD (B0:=[]) (Br:=[]) (F0:=[ah.ls aE (st.Rows:List Change)]) [] [1] (fun aW:Value=>aW) (fun aW:Value=>[ah.row 51 aW (st.Rows:List Change)]) (fun aW:Value=>[]) rfl rfl rfl vz rfl rfl (fun w own hw H=>iK aE (st.Rows) w own H (by first|omega|assumption|(simp;done)|(simp;omega))) rfl) fun z1=>?_
  refine R.u 1 rfl<|R.nil ?_
  exact R.ro 0 rfl Try.results29 rfl rfl (by (first|omega|rfl))
def fS (d:bp):Nat→bq
  | 0=>⟨0,0,0,0⟩
  | k+1=>ij (fS d k) (bh (a6 d (k:Int)).1)
theorem pj (d:bp):∀k,0≤(fS d k).Epoch∧(fS d k).Epoch<4294967296∧0≤(fS d k).Side∧(fS d k).Side≤1∧0≤(fS d k).Size∧(fS d k).Size≤2400∧0≤(fS d k).First∧(fS d k).First<4294967296∧(¬ (fS d k).Epoch=0→1≤(fS d k).First)
  | 0=>by simp [fS]
  | k+1=>by
    unfold fS ij;split
    · exact lZ _
    · exact pj d k
theorem yc {d:bp}(h:jB d=0):¬ d.Now.length<166∧¬ (headD d).Epoch=0∧(cp (jA d)).2=true:=by
  unfold jB at h
  split at h
  · cases h
  ·
    split at h
    · cases h
    ·
      split at h
      · exact ⟨by assumption,by assumption,by assumption⟩
      · cases h
theorem pk:∀ (k:Nat) (t:ByteArray) (l:List Change),(iO k t l).1.length≤l.length+t.size
  | 0,t,l=>by rw [iO];show l.length≤_;omega
  | k+1,t,l=>by
    rw [iO]
    split
    · dsimp only;omega
    ·
      split
      · simp
      ·
        rename_i h1 h2
        split
        ·
          have:=pk k (t.extract (jf t) t.size) (a7 l [l4 t])
          have ha:=fj [l4 t] l
          rw [List.length_singleton] at ha
          rw [ByteArray.size_extract] at this
          have:3≤jf t:=by unfold jf;omega
          omega
        · simp
theorem pW (t:ByteArray):(cp t).1.length≤t.size:=by
  have:=pk (t.size+1) t []
  simpa [cp] using this
theorem me {M:Nat}:∀ (l:List ByteArray) (n:Int) (out:List (List Change)) (deed:List Change) (used pos:Nat),(∀c∈out,c.length≤M)→deed.length+l.length≤M → ∀c∈(dF l n out deed used pos).1,c.length≤M
  | [],n,out,deed,used,pos,h,hd=>h
  | s::r,n,out,deed,used,pos,h,hd=>by
    rw [List.length_cons] at hd
    rw [dF]
    split
    ·
      refine me r _ _ _ _ _ (fun c hc=>?_) (by simp;omega)
      rcases List.mem_append.1 hc with hc|hc
      · exact h c hc
      · rw [List.mem_singleton.1 hc];omega
    ·
      split
      · exact me r _ _ _ _ _ h (by simp;omega)
      · exact h
theorem pX {d:bp}{f:Int}{k:Nat}{first:Int}:∀c∈dz d f k first,c.length≤k:=by
  unfold dz scan
  exact me _ _ _ _ _ _ (by simp) (by rw [fI];simp)
theorem mg {M:Nat}:∀ (W:List (List Change)) (rows:List Change),(∀c∈W,c.length≤M)→(eS rows W).length≤rows.length+M*W.length
  | [],rows,h=>by simp [eS]
  | c::W,rows,h=>by
    have h1:=mg W (a7 rows c) (fun x hx=>h x (List.mem_cons_of_mem _ hx))
    have h2:=fj c rows
    have h3:=h c (List.mem_cons_self ..)
    show (eS (a7 rows c) W).length≤_
    rw [List.length_cons,Nat.mul_add,Nat.mul_one]
    omega
attribute [local irreducible] bY dz cp
set_option maxRecDepth 100000 in
set_option maxHeartbeats 1600000 in
theorem il (au:Nat)(ao ap ak:Value)(dk:bp)(w:World)(own:List Nat)(H:Wd w (blks [ah.box au [ao,ap,ak,.int .i64 dk.Fuse,.bool dk.Down] 81,ah.row 9 ao (dk.Kept:List ByteArray),ah.row 9 ap (dk.Now:List ByteArray),ah.row 83 ak (dk.Wait:List Turn)]++own) ([ah.box au [ao,ap,ak,.int .i64 dk.Fuse,.bool dk.Down] 81,ah.row 9 ao (dk.Kept:List ByteArray),ah.row 9 ap (dk.Now:List ByteArray),ah.row 83 ak (dk.Wait:List Turn)]++[ah.held w own]) [] w)(hd:dk.Down=false)(ho:jB dk=0)(hD:cz dk.Now.length 90000 dk∧dk.Now.length≤200):Calls Try.prog 22 #[.pointer (some ⟨au,0,none⟩)] w fun e w' => ∃z:Value×Value×Value×Nat×Value×Nat,e = .returned (.tuple #[.pointer (some ⟨z.2.2.2.1,0,none⟩),.nilIface])∧Wd w (blks [ah.box au [ao,ap,ak,.int .i64 dk.Fuse,.bool dk.Down] 81,ah.row 9 ao (dk.Kept:List ByteArray),ah.row 9 ap (dk.Now:List ByteArray),ah.row 83 ak (dk.Wait:List Turn)]++own) ([ah.box au [z.1,z.2.1,z.2.2.1,.int .i64 ((dk).Fuse),.bool ((dk).Down)] 81,ah.row 9 z.1 ((dk).Kept:List ByteArray),ah.row 9 z.2.1 ((dk).Now:List ByteArray),ah.row 83 z.2.2.1 ((dk).Wait:List Turn),ah.box z.2.2.2.1 [.pointer (some ⟨au,0,none⟩),.int .i64 ((((af dk).c)).Epoch),.int .i64 ((((af dk).c)).Side),.int .i64 ((((af dk).c)).Size),.int .i64 ((((af dk).c)).First),.pointer (some ⟨z.2.2.2.2.2,0,none⟩),z.2.2.2.2.1] 100,ah.box z.2.2.2.2.2 [.pointer (some ⟨au,0,none⟩),.int .i64 ((((af dk).L)).From),.int .i64 ((((af dk).L)).Many),.int .i64 ((((af dk).L)).First),.int .i64 ((((af dk).L)).Next)] 85]++[ah.held w own]) [ah.ls z.2.2.2.2.1 ((((af dk).c)).Rows:List Change)] w':=by
  have cM:=H.cap 1 rfl;have cN:=H.aU 1 rfl
  have dv:=H.cap 2 rfl;have dw:=H.aU 2 rfl
  have cO:=H.cap 3 rfl;have cQ:=H.aU 3 rfl
  obtain ⟨o1,o2,o3⟩:=yc ho
  refine R.bW (n:=144) (vs:=[.pointer (some ⟨au,0,none⟩)]) (B:=[ah.box au [ao,ap,ak,.int .i64 dk.Fuse,.bool dk.Down] 81,ah.row 9 ao (dk.Kept:List ByteArray),ah.row 9 ap (dk.Now:List ByteArray),ah.row 83 ak (dk.Wait:List Turn),ah.held w own]) [(0,.pointer (some ⟨au,0,none⟩))] Try.func22 rfl rfl rfl rfl H ?_
  refine R.reg rfl<|R.u 2 rfl<|R.nil ?_
  refine R.reg rfl<|R.u 1 rfl<|R.c (q.call vw rfl rfl (fun w hw=>(cv (congrArg Value.bool hd) (m7 au ao ap ak  (dk) w (hw.b 0 rfl) ((fun _=>Wd.row 1 rfl) w hw) ((fun _=>Wd.row 2 rfl) w hw) ((fun _=>Wd.row 3 rfl) w hw) )))) rfl<|R.nil ?_
  refine R.aI rfl rfl ?_
  refine R.reg rfl<|R.u 1 rfl<|R.c (q.call kI rfl rfl (fun w hw=>(c9 au ao ap ak  (dk) w (hw.b 0 rfl) ((fun _=>Wd.row 1 rfl) w hw) ((fun _=>Wd.row 2 rfl) w hw) ((fun _=>Wd.row 3 rfl) w hw) ))) rfl<|R.q (q.lss rfl rfl (decide_eq_false (by omega))) rfl<|R.nil ?_
  refine R.aI rfl rfl ?_
  refine R.reg rfl<|R.u 1 rfl<|R.q (q.build (cs:=[.pointer (some ⟨au,0,none⟩),.int .i64 0,.int .i64 0,.int .i64 0,.int .i64 0,.pointer none,.slice none 0 0]) vX rfl rfl) rfl<|?_
  refine R.s rfl (s.box (cs:=[.pointer (some ⟨au,0,none⟩),.int .i64 0,.int .i64 0,.int .i64 0,.int .i64 0,.pointer none,.slice none 0 0]) rfl rfl rfl) fun b1=>?_
  refine R.u 1 rfl<|R.nil ?_
  refine R.reg rfl<|R.u 1 rfl<|R.nil ?_
  refine R.loop (fun g_:Nat×bq=>[(0,.pointer (some ⟨au,0,none⟩)),(4,.pointer (some ⟨b1,0,none⟩)),(30,.int .i64 (g_.1:Int))]) (fun g_:Nat×bq=>[ah.box b1 [.pointer (some ⟨au,0,none⟩),.int .i64 g_.2.Epoch,.int .i64 g_.2.Side,.int .i64 g_.2.Size,.int .i64 g_.2.First,.pointer none,.slice none 0 0] 100,ah.box au [ao,ap,ak,.int .i64 dk.Fuse,.bool dk.Down] 81,ah.row 9 ao (dk.Kept:List ByteArray),ah.row 9 ap (dk.Now:List ByteArray),ah.row 83 ak (dk.Wait:List Turn),ah.held w own]) (fun g_:Nat×bq=>[]) (fun g_:Nat×bq=>g_.1≤2∧g_.2=fS dk g_.1) (fun g_:Nat×bq=>2-g_.1) (0,(⟨0,0,0,0⟩:bq)) rfl (by exact ⟨by omega,rfl⟩) ⟨rfl,rfl,rfl,trivial⟩ (fun _=>Wd.pick [0,1,2,3,4,5] [] rfl rfl rfl) ?_
  rintro ⟨i,hh⟩ ⟨hi,HK⟩
  dsimp only at *
  have hin:=pj dk i;rw [← HK] at hin
  refine R.reg rfl<|?_
  by_cases h1:i<2
  ·
    refine R.q (q.lss rfl rfl (decide_eq_true (by omega))) rfl<|R.nil ?_
    refine R.aK rfl rfl ?_
    refine R.reg rfl<|R.u 2 rfl<|R.nil ?_
    have hrd:=lW hD.1 hd (i:=(i:Int)) (by omega) (by omega);obtain ⟨hrd,hsz⟩:=hrd;have hin2:=lZ (a6 dk (i:Int)).1
    refine R.reg rfl<|R.u 2 rfl<|R.c (q.call sN rfl rfl (fun w hw=>(ku au ao ap ak  (dk) ((i:Int)) w (hw.b 1 rfl) ((fun _=>Wd.row 2 rfl) w hw) ((fun _=>Wd.row 3 rfl) w hw) ((fun _=>Wd.row 4 rfl) w hw) ))) rfl<|R.u 5 rfl<|R.nil ?_
    refine R.reg rfl<|R.u 1 rfl<|R.q (q.dj rfl rfl Try.underlying28 (by omega)) rfl<|R.nil ?_
    refine R.aI rfl rfl ?_
    refine R.reg rfl<|R.u 1 rfl<|?_
    refine R.s (B':=(fun _u:Unit=>[ah.box b1 [.pointer (some ⟨au,0,none⟩),.int .i64 hh.Epoch,.int .i64 hh.Side,.int .i64 hh.Size,.int .i64 hh.First,.pointer none,.slice none 0 0] 100,ah.box au [ao,ap,ak,.int .i64 dk.Fuse,.bool dk.Down] 81,ah.row 9 ao (dk.Kept:List ByteArray),ah.row 9 ap (dk.Now:List ByteArray),ah.row 83 ak (dk.Wait:List Turn),ah.held w own])) (F':=(fun _u:Unit=>[])) rfl (s.bD (B0:=[]) (Br:=[ah.box b1 [.pointer (some ⟨au,0,none⟩),.int .i64 hh.Epoch,.int .i64 hh.Side,.int .i64 hh.Size,.int .i64 hh.First,.pointer none,.slice none 0 0] 100,ah.box au [ao,ap,ak,.int .i64 dk.Fuse,.bool dk.Down] 81,ah.row 9 ao (dk.Kept:List ByteArray),ah.row 9 ap (dk.Now:List ByteArray),ah.row 83 ak (dk.Wait:List Turn),ah.held w own]) (F0:=[]) [0,1,2,3,4,5] [] (fun _u:Unit => .agg #[.int .i64 (((bh ((a6 dk (i:Int)).1))).Epoch),.int .i64 (((bh ((a6 dk (i:Int)).1))).Side),.int .i64 (((bh ((a6 dk (i:Int)).1))).Size),.int .i64 (((bh ((a6 dk (i:Int)).1))).First)]) (fun _u:Unit=>[]) (fun _u:Unit=>[]) rfl rfl rfl xF rfl rfl (fun w own hw H=>pQ ((a6 dk (i:Int)).1) w own H (by first|omega|assumption)) rfl) fun _=>?_
    refine R.s rfl (s.alloc (cs:=[.int .i64 0,.int .i64 0,.int .i64 0,.int .i64 0]) eP rfl rfl) fun b2=>?_
    refine R.s rfl (s.st (us:=[.int .i64 ((bh ((a6 dk (i:Int)).1)).Epoch),.int .i64 ((bh ((a6 dk (i:Int)).1)).Side),.int .i64 ((bh ((a6 dk (i:Int)).1)).Size),.int .i64 ((bh ((a6 dk (i:Int)).1)).First)]) (cs':=[.int .i64 ((bh ((a6 dk (i:Int)).1)).Epoch),.int .i64 ((bh ((a6 dk (i:Int)).1)).Side),.int .i64 ((bh ((a6 dk (i:Int)).1)).Size),.int .i64 ((bh ((a6 dk (i:Int)).1)).First)]) 0 _ rfl rfl rfl rfl (.inl aN) rfl rfl rfl rfl) fun _=>?_
    refine R.nil ?_
    by_cases h2:hh.Epoch<(bh ((a6 dk (i:Int)).1)).Epoch
    ·
      refine R.d9 rfl mixed (by kernel_rfl)<|Q.q (q.bJ (off':=0) rfl eG rfl) rfl<|Q.q (q.ld 0 rfl rfl aS rfl) rfl<|Q.u 1 rfl<|Q.q (q.bm rfl) rfl<|Q.q (q.bJ (off':=1) rfl di rfl) rfl<|Q.q (q.bJ (off':=1) rfl eG rfl) rfl<|Q.q (q.ld 1 rfl rfl aS rfl) rfl<|Q.q (q.gtr rfl rfl (decide_eq_true (by omega))) rfl<|Q.nil ?_
      refine R.aK rfl rfl ?_
      refine R.reg rfl<|R.u 1 rfl<|R.q (q.mD 0 rfl rfl aN) rfl<|R.q (q.bm rfl) rfl<|R.q (q.bJ (off':=1) rfl di rfl) rfl<|?_
      refine R.s rfl (s.st (us:=[.int .i64 ((bh ((a6 dk (i:Int)).1)).Epoch),.int .i64 ((bh ((a6 dk (i:Int)).1)).Side),.int .i64 ((bh ((a6 dk (i:Int)).1)).Size),.int .i64 ((bh ((a6 dk (i:Int)).1)).First)]) (cs':=[.pointer (some ⟨au,0,none⟩),.int .i64 ((bh ((a6 dk (i:Int)).1)).Epoch),.int .i64 ((bh ((a6 dk (i:Int)).1)).Side),.int .i64 ((bh ((a6 dk (i:Int)).1)).Size),.int .i64 ((bh ((a6 dk (i:Int)).1)).First),.pointer none,.slice none 0 0]) 1 _ rfl rfl rfl rfl (.inl aN) rfl rfl rfl rfl) fun _=>?_
      refine R.nil ?_
      refine R.reg rfl<|R.q (q.add (r:=((i+1:Nat):Int)) rfl rfl (wr (by omega))) rfl<|R.u 1 rfl<|R.nil ?_
      refine R.back (i+1,bh (a6 dk (i:Int)).1) rfl (by (exact ⟨by omega,by show _=ij (fS dk i) (bh (a6 dk (i:Int)).1);rw [← HK];unfold ij;first|rw [if_pos (by assumption)] | rw [if_neg (by assumption)]⟩)) (by dsimp only;omega) ⟨rfl,rfl,rfl,trivial⟩ (fun _=>Wd.aA [1,2,3,4,5,6] [] rfl rfl rfl)
    ·
      refine R.d9 rfl mixed (by kernel_rfl)<|Q.q (q.bJ (off':=0) rfl eG rfl) rfl<|Q.q (q.ld 0 rfl rfl aS rfl) rfl<|Q.u 1 rfl<|Q.q (q.bm rfl) rfl<|Q.q (q.bJ (off':=1) rfl di rfl) rfl<|Q.q (q.bJ (off':=1) rfl eG rfl) rfl<|Q.q (q.ld 1 rfl rfl aS rfl) rfl<|Q.q (q.gtr rfl rfl (decide_eq_false (by omega))) rfl<|Q.nil ?_
      refine R.aI rfl rfl ?_
      refine R.reg rfl<|R.q (q.add (r:=((i+1:Nat):Int)) rfl rfl (wr (by omega))) rfl<|R.u 1 rfl<|R.nil ?_
      refine R.back (i+1,hh) rfl (by (exact ⟨by omega,by show _=ij (fS dk i) (bh (a6 dk (i:Int)).1);rw [← HK];unfold ij;first|rw [if_pos (by assumption)] | rw [if_neg (by assumption)]⟩)) (by dsimp only;omega) ⟨rfl,rfl,rfl,trivial⟩ (fun _=>Wd.aA [1,2,3,4,5,6] [] rfl rfl rfl)
  ·
    refine R.q (q.lss rfl rfl (decide_eq_false (by omega))) rfl<|R.nil ?_
    refine R.aI rfl rfl ?_
    have yU:hh=headD dk:=by rw [HK,show i=2 by omega];rfl
    have AF:¬ hh.Epoch=0:=by rw [yU];exact o2
    refine R.reg rfl<|R.u 1 rfl<|R.q (q.bm rfl) rfl<|R.q (q.bJ (off':=1) rfl di rfl) rfl<|R.q (q.bJ (off':=1) rfl eG rfl) rfl<|R.q (q.ld 0 rfl rfl aS rfl) rfl<|R.q (q.eql rfl rfl (beq_eq_false_iff_ne.2 (by omega))) rfl<|R.nil ?_
    refine R.aI rfl rfl ?_
    refine R.reg rfl<|R.u 1 rfl<|R.nil ?_
    refine R.reg rfl<|R.u 1 rfl<|R.nil ?_
    refine R.loop (fun g_:Nat×ByteArray=>[(0,.pointer (some ⟨au,0,none⟩)),(4,.pointer (some ⟨b1,0,none⟩)),(9,.string g_.2),(64,.int .i64 (g_.1:Int))]) (fun g_:Nat×ByteArray=>[ah.box b1 [.pointer (some ⟨au,0,none⟩),.int .i64 hh.Epoch,.int .i64 hh.Side,.int .i64 hh.Size,.int .i64 hh.First,.pointer none,.slice none 0 0] 100,ah.box au [ao,ap,ak,.int .i64 dk.Fuse,.bool dk.Down] 81,ah.row 9 ao (dk.Kept:List ByteArray),ah.row 9 ap (dk.Now:List ByteArray),ah.row 83 ak (dk.Wait:List Turn),ah.held w own]) (fun g_:Nat×ByteArray=>[]) (fun g_:Nat×ByteArray=>g_.1≤50∧g_.2=kX dk (2+hh.Side*50) g_.1∧g_.2.size=48*g_.1) (fun g_:Nat×ByteArray=>50-g_.1) (0,(⟨#[]⟩:ByteArray)) rfl (by exact ⟨by omega,rfl,rfl⟩) ⟨rfl,rfl,rfl,rfl,trivial⟩ (fun _=>Wd.pick [0,1,2,3,4,5] [] rfl rfl rfl) ?_
    rintro ⟨j,tx⟩ ⟨hj,HT,hts⟩
    dsimp only at *
    refine R.reg rfl<|?_
    by_cases h3:j<50
    ·
      refine R.q (q.lss rfl rfl (decide_eq_true (by omega))) rfl<|R.nil ?_
      refine R.aK rfl rfl ?_
      refine R.reg rfl<|R.u 2 rfl<|R.nil ?_
      have hrd:=lW hD.1 hd (i:=2+hh.Side*50+(j:Int)) (by omega) (by omega);obtain ⟨hrd,hsz⟩:=hrd
      refine R.reg rfl<|R.u 2 rfl<|R.q (q.bm rfl) rfl<|R.q (q.bJ (off':=1) rfl di rfl) rfl<|R.q (q.bJ (off':=2) rfl dY rfl) rfl<|R.q (q.ld 0 rfl rfl aS rfl) rfl<|R.q (q.mul (r:=hh.Side*50) rfl rfl (wr (by omega))) rfl<|R.q (q.add (r:=2+(hh.Side*50)) rfl rfl (wr (by omega))) rfl<|R.u 1 rfl<|R.q (q.add (r:=(2+(hh.Side*50))+(j:Int)) rfl rfl (wr (by omega))) rfl<|R.c (q.call sN rfl rfl (fun w hw=>(ku au ao ap ak  (dk) (((2+(hh.Side*50))+(j:Int))) w (hw.b 1 rfl) ((fun _=>Wd.row 2 rfl) w hw) ((fun _=>Wd.row 3 rfl) w hw) ((fun _=>Wd.row 4 rfl) w hw) ))) rfl<|R.u 5 rfl<|R.nil ?_
      refine R.reg rfl<|R.u 1 rfl<|R.q (q.dj rfl rfl Try.underlying28 (by omega)) rfl<|R.nil ?_
      refine R.aI rfl rfl ?_
      refine R.reg rfl<|R.u 2 rfl<|R.q (q.cat rfl rfl (by omega)) rfl<|R.u 1 rfl<|R.nil ?_
      refine R.reg rfl<|R.q (q.add (r:=((j+1:Nat):Int)) rfl rfl (wr (by omega))) rfl<|R.u 1 rfl<|R.nil ?_
      refine R.back (j+1,(tx++(a6 dk ((2+(hh.Side*50))+(j:Int))).1)) rfl (by (exact ⟨by omega,by show _=kX dk (2+hh.Side*50) j++_;rw [← HT],by rw [ByteArray.size_append];omega⟩)) (by dsimp only;omega) ⟨rfl,rfl,rfl,rfl,trivial⟩ (fun _=>Wd.aA [0,1,2,3,4,5] [] rfl rfl rfl)
    ·
      refine R.q (q.lss rfl rfl (decide_eq_false (by omega))) rfl<|R.nil ?_
      refine R.aI rfl rfl ?_
      have hth:tx.extract 0 hh.Size.toNat=jA dk:=by rw [HT,yU,show j=50 by omega];rfl
      have hpb:(cp (tx.extract 0 hh.Size.toNat)).2=true:=by rw [hth];exact o3
      refine R.reg rfl<|R.u 2 rfl<|R.q (q.bm rfl) rfl<|R.q (q.bJ (off':=1) rfl di rfl) rfl<|R.q (q.bJ (off':=3) rfl eZ rfl) rfl<|R.q (q.ld 0 rfl rfl aS rfl) rfl<|R.q (q.zI (i:=hh.Size.toNat) rfl rfl Try.underlying9 (by omega) (by omega)) rfl<|?_
      refine R.s (B':=(fun aW:Value=>[ah.row 51 aW (((cp (tx.extract 0 hh.Size.toNat))).1:List Change),ah.box b1 [.pointer (some ⟨au,0,none⟩),.int .i64 hh.Epoch,.int .i64 hh.Side,.int .i64 hh.Size,.int .i64 hh.First,.pointer none,.slice none 0 0] 100,ah.box au [ao,ap,ak,.int .i64 dk.Fuse,.bool dk.Down] 81,ah.row 9 ao (dk.Kept:List ByteArray),ah.row 9 ap (dk.Now:List ByteArray),ah.row 83 ak (dk.Wait:List Turn),ah.held w own])) (F':=(fun aW:Value=>[])) rfl (s.bD (B0:=[]) (Br:=[ah.box b1 [.pointer (some ⟨au,0,none⟩),.int .i64 hh.Epoch,.int .i64 hh.Side,.int .i64 hh.Size,.int .i64 hh.First,.pointer none,.slice none 0 0] 100,ah.box au [ao,ap,ak,.int .i64 dk.Fuse,.bool dk.Down] 81,ah.row 9 ao (dk.Kept:List ByteArray),ah.row 9 ap (dk.Now:List ByteArray),ah.row 83 ak (dk.Wait:List Turn),ah.held w own]) (F0:=[]) [0,1,2,3,4,5] [] (fun aW:Value => .tuple #[aW,.bool (((cp (tx.extract 0 hh.Size.toNat))).2)]) (fun aW:Value=>[ah.row 51 aW (((cp (tx.extract 0 hh.Size.toNat))).1:List Change)]) (fun aW:Value=>[]) rfl rfl rfl xG rfl rfl (fun w own hw H=>rX ((tx.extract 0 hh.Size.toNat)) w own H (by first|omega|assumption|(rw [ByteArray.size_extract];omega))) rfl) fun z1=>?_
      refine R.u 5 rfl<|R.nil ?_
      refine R.reg rfl<|R.u 1 rfl<|R.q (q.not rfl) rfl<|R.nil ?_
      refine R.cond rfl rfl (fun h4=>?_) (fun h4=>?_)
      · exact absurd h4 (by rw [hpb];decide)
      ·
        refine R.eT (fuel:=17) (Wd w (blks [ah.box au [ao,ap,ak,.int .i64 dk.Fuse,.bool dk.Down] 81,ah.row 9 ao (dk.Kept:List ByteArray),ah.row 9 ap (dk.Now:List ByteArray),ah.row 83 ak (dk.Wait:List Turn)]++own) [ah.row 51 z1 ((cp (tx.extract 0 hh.Size.toNat)).1:List Change),ah.box b1 [.pointer (some ⟨au,0,none⟩),.int .i64 hh.Epoch,.int .i64 hh.Side,.int .i64 hh.Size,.int .i64 hh.First,.pointer none,.slice none 0 0] 100,ah.held w own] []) rfl mixed rfl ?_
        refine D.q (i:=0) rfl (by kernel_rfl) (fun _=>Wd.aA [0,1,6] [] rfl rfl rfl) rfl (q.mv rfl) rfl<|D.q (i:=1) rfl (by kernel_rfl) (fun _=>Wd.aA [0,1,6] [] rfl rfl rfl) rfl (q.mv rfl) rfl<|D.q (i:=4) rfl (by kernel_rfl) (fun _=>Wd.aA [0,1,6] [] rfl rfl rfl) rfl (q.mv rfl) rfl<|D.q (i:=5) rfl (by kernel_rfl) (fun _=>Wd.aA [0,1,6] [] rfl rfl rfl) rfl (q.bm rfl) rfl<|D.q (i:=6) rfl (by kernel_rfl) (fun _=>Wd.aA [0,1,6] [] rfl rfl rfl) rfl (q.bJ (off':=1) rfl di rfl) rfl<|D.q (i:=7) rfl (by kernel_rfl) (fun _=>Wd.aA [0,1,6] [] rfl rfl rfl) rfl (q.bJ (off':=4) rfl eH rfl) rfl<|D.q (i:=8) rfl (by kernel_rfl) (fun _=>Wd.aA [0,1,6] [] rfl rfl rfl) rfl (q.ld 1 rfl rfl aS rfl) rfl<|?_
        refine D.one (i:=2) (by kernel_rfl) rfl ?_
        refine Do.s (s.c (q.call kI rfl rfl (fun w hw=>(c9 au ao ap ak  (dk) w (hw.b 2 rfl) ((fun _=>Wd.row 3 rfl) w hw) ((fun _=>Wd.row 4 rfl) w hw) ((fun _=>Wd.row 5 rfl) w hw) ))) rfl) (fun _=>(fun _=>Wd.aA [0,1,6] [] rfl rfl rfl)) rfl fun _=>?_
        refine D.q (i:=3) rfl (by kernel_rfl) (fun _=>Wd.aA [0,1,6] [] rfl rfl rfl) rfl (q.sub (r:=((dk.Now.length-102:Nat):Int)) rfl rfl (wr (by omega))) rfl<|?_
        refine D.one (i:=9) (by kernel_rfl) rfl ?_
        refine Do.s (B':=(fun g_:Value×Value×Value×Nat×Value×List bS=>[ah.box au [g_.1,g_.2.1,g_.2.2.1,.int .i64 ((dk).Fuse),.bool ((dk).Down)] 81,ah.row 9 g_.1 ((dk).Kept:List ByteArray),ah.row 9 g_.2.1 ((dk).Now:List ByteArray),ah.row 83 g_.2.2.1 ((dk).Wait:List Turn),ah.box g_.2.2.2.1 [.pointer (some ⟨au,0,none⟩),.int .i64 (((⟨102,(((dk.Now.length-102):Nat):Int),hh.First,(bY dk 102 (Int.toNat (((dk.Now.length-102):Nat):Int)) hh.First:Int)⟩:Lg)).From),.int .i64 (((⟨102,(((dk.Now.length-102):Nat):Int),hh.First,(bY dk 102 (Int.toNat (((dk.Now.length-102):Nat):Int)) hh.First:Int)⟩:Lg)).Many),.int .i64 (((⟨102,(((dk.Now.length-102):Nat):Int),hh.First,(bY dk 102 (Int.toNat (((dk.Now.length-102):Nat):Int)) hh.First:Int)⟩:Lg)).First),.int .i64 (((⟨102,(((dk.Now.length-102):Nat):Int),hh.First,(bY dk 102 (Int.toNat (((dk.Now.length-102):Nat):Int)) hh.First:Int)⟩:Lg)).Next)] 85,ah.row 51 z1 ((cp (tx.extract 0 hh.Size.toNat)).1:List Change),ah.box b1 [.pointer (some ⟨au,0,none⟩),.int .i64 hh.Epoch,.int .i64 hh.Side,.int .i64 hh.Size,.int .i64 hh.First,.pointer none,.slice none 0 0] 100,ah.held w own])) (F':=(fun g_:Value×Value×Value×Nat×Value×List bS=>[ah.ls g_.2.2.2.2.1 (g_.2.2.2.2.2:List bS),ah.i5 (g_.2.2.2.2.2:List bS) ((dz dk 102 (Int.toNat (((dk.Now.length-102):Nat):Int)) hh.First))])) (s.bD (B0:=[ah.box au [ao,ap,ak,.int .i64 dk.Fuse,.bool dk.Down] 81,ah.row 9 ao (dk.Kept:List ByteArray),ah.row 9 ap (dk.Now:List ByteArray),ah.row 83 ak (dk.Wait:List Turn)]) (Br:=[ah.row 51 z1 ((cp (tx.extract 0 hh.Size.toNat)).1:List Change),ah.box b1 [.pointer (some ⟨au,0,none⟩),.int .i64 hh.Epoch,.int .i64 hh.Side,.int .i64 hh.Size,.int .i64 hh.First,.pointer none,.slice none 0 0] 100,ah.held w own]) (F0:=[]) [2,3,4,5,0,1,6] [] (fun g_:Value×Value×Value×Nat×Value×List bS => .tuple #[.pointer (some ⟨g_.2.2.2.1,0,none⟩),g_.2.2.2.2.1,.nilIface]) (fun g_:Value×Value×Value×Nat×Value×List bS=>[ah.box au [g_.1,g_.2.1,g_.2.2.1,.int .i64 ((dk).Fuse),.bool ((dk).Down)] 81,ah.row 9 g_.1 ((dk).Kept:List ByteArray),ah.row 9 g_.2.1 ((dk).Now:List ByteArray),ah.row 83 g_.2.2.1 ((dk).Wait:List Turn),ah.box g_.2.2.2.1 [.pointer (some ⟨au,0,none⟩),.int .i64 (((⟨102,(((dk.Now.length-102):Nat):Int),hh.First,(bY dk 102 (Int.toNat (((dk.Now.length-102):Nat):Int)) hh.First:Int)⟩:Lg)).From),.int .i64 (((⟨102,(((dk.Now.length-102):Nat):Int),hh.First,(bY dk 102 (Int.toNat (((dk.Now.length-102):Nat):Int)) hh.First:Int)⟩:Lg)).Many),.int .i64 (((⟨102,(((dk.Now.length-102):Nat):Int),hh.First,(bY dk 102 (Int.toNat (((dk.Now.length-102):Nat):Int)) hh.First:Int)⟩:Lg)).First),.int .i64 (((⟨102,(((dk.Now.length-102):Nat):Int),hh.First,(bY dk 102 (Int.toNat (((dk.Now.length-102):Nat):Int)) hh.First:Int)⟩:Lg)).Next)] 85]) (fun g_:Value×Value×Value×Nat×Value×List bS=>[ah.ls g_.2.2.2.2.1 (g_.2.2.2.2.2:List bS),ah.i5 (g_.2.2.2.2.2:List bS) ((dz dk 102 (Int.toNat (((dk.Now.length-102):Nat):Int)) hh.First))]) rfl rfl rfl vn rfl rfl (fun w own hw H=>o8 au ao ap ak (dk) (102) ((((dk.Now.length-102):Nat):Int)) (hh.First) w own H (by refine ⟨by decide,?_,?_,?_,?_⟩ <;> omega) (hd) (⟨hD.1,by omega⟩)) rfl) (fun _=>(fun _=>Wd.aA [5,6,7] [] rfl rfl rfl)) rfl ?_
        rintro ⟨z8,z9,gU,fx,z12,jK⟩
        dsimp only
        refine D.q (i:=10) rfl (by kernel_rfl) (fun _=>Wd.aA [5,6,7] [] rfl rfl rfl) rfl (q.mv rfl) rfl<|D.q (i:=11) rfl (by kernel_rfl) (fun _=>Wd.aA [5,6,7] [] rfl rfl rfl) rfl (q.ext rfl rfl) rfl<|D.q (i:=12) rfl (by kernel_rfl) (fun _=>Wd.aA [5,6,7] [] rfl rfl rfl) rfl (q.ext rfl rfl) rfl<|D.q (i:=13) rfl (by kernel_rfl) (fun _=>Wd.aA [5,6,7] [] rfl rfl rfl) rfl (q.ext rfl rfl) rfl<|D.q (i:=14) rfl (by kernel_rfl) (fun _=>Wd.aA [5,6,7] [] rfl rfl rfl) rfl (q.as rfl) rfl<|D.q (i:=15) rfl (by kernel_rfl) (fun _=>Wd.aA [5,6,7] [] rfl rfl rfl) rfl (q.as rfl) rfl<|D.q (i:=16) rfl (by kernel_rfl) (fun _=>Wd.aA [5,6,7] [] rfl rfl rfl) rfl (q.as rfl) rfl<|D.done (by kernel_rfl)<|?_
        refine R.reg rfl<|R.u 1 rfl<|R.q (q.qn rfl rfl Try.underlying28) rfl<|R.nil ?_
        refine R.aI rfl rfl ?_
        refine R.reg rfl<|R.u 4 rfl<|R.q (q.bm rfl) rfl<|R.q (q.bJ (off':=5) rfl fa rfl) rfl<|?_
        refine R.s rfl (s.st (us:=[.pointer (some ⟨fx,0,none⟩)]) (cs':=[.pointer (some ⟨au,0,none⟩),.int .i64 hh.Epoch,.int .i64 hh.Side,.int .i64 hh.Size,.int .i64 hh.First,.pointer (some ⟨fx,0,none⟩),.slice none 0 0]) 6 _ rfl rfl rfl rfl (.inr ⟨dr,rfl⟩) rfl rfl rfl rfl) fun _=>?_
        refine Rg.vV (F':=[ah.cw (jK:List bS),ah.ls z12 (jK:List bS)]) 1 rfl rfl fun hE1=>?_
        refine R.q (q.bm rfl) rfl<|R.q (q.bJ (off':=6) rfl dJ rfl) rfl<|?_
        refine R.s rfl (s.su (us:=[z1]) (cs':=[.pointer (some ⟨au,0,none⟩),.int .i64 hh.Epoch,.int .i64 hh.Side,.int .i64 hh.Size,.int .i64 hh.First,.pointer (some ⟨fx,0,none⟩),z1]) 6 _ rfl rfl rfl (fun w hw=>Sl.eu ((fun _=>Wd.row 5 rfl) w hw)) (.inr ⟨cj,rfl⟩) (fun w hw=>(dA (Sl.one ((fun _=>Wd.row 5 rfl) w hw)) eh)) rfl rfl rfl) fun _=>?_
        refine R.nil ?_
        refine R.reg rfl<|R.u 1 rfl<|R.q (q.len' (fun _=>Wd.bZ 1 rfl) rfl Try.underlying33) rfl<|R.u 1 rfl<|R.nil ?_
        refine R.mp (B':=[ah.box au [z8,z9,gU,.int .i64 dk.Fuse,.bool dk.Down] 81,ah.row 9 z8 (dk.Kept:List ByteArray),ah.row 9 z9 (dk.Now:List ByteArray),ah.row 83 gU (dk.Wait:List Turn),ah.box fx [.pointer (some ⟨au,0,none⟩),.int .i64 102,.int .i64 (((dk.Now.length-102):Nat):Int),.int .i64 hh.First,.int .i64 (bY dk 102 (Int.toNat (((dk.Now.length-102):Nat):Int)) hh.First:Int)] 85,ah.box b1 [.pointer (some ⟨au,0,none⟩),.int .i64 hh.Epoch,.int .i64 hh.Side,.int .i64 hh.Size,.int .i64 hh.First,.pointer (some ⟨fx,0,none⟩),z1] 100,ah.held w own]) (fun _ hw=>hw.fR 5 _ rfl rfl) ?_
        refine R.loop (fun g_:Nat×Value×(List Change)=>[(4,.pointer (some ⟨b1,0,none⟩)),(127,z12),(128,.int .i64 (jK.length:Int)),(129,.int .i64 (g_.1:Int))]) (fun g_:Nat×Value×(List Change)=>[ah.box au [z8,z9,gU,.int .i64 dk.Fuse,.bool dk.Down] 81,ah.row 9 z8 (dk.Kept:List ByteArray),ah.row 9 z9 (dk.Now:List ByteArray),ah.row 83 gU (dk.Wait:List Turn),ah.box fx [.pointer (some ⟨au,0,none⟩),.int .i64 102,.int .i64 (((dk.Now.length-102):Nat):Int),.int .i64 hh.First,.int .i64 (bY dk 102 (Int.toNat (((dk.Now.length-102):Nat):Int)) hh.First:Int)] 85,ah.box b1 [.pointer (some ⟨au,0,none⟩),.int .i64 hh.Epoch,.int .i64 hh.Side,.int .i64 hh.Size,.int .i64 hh.First,.pointer (some ⟨fx,0,none⟩),g_.2.1] 100,ah.held w own]) (fun g_:Nat×Value×(List Change)=>[ah.ls g_.2.1 (g_.2.2:List Change),ah.ls z1 ((cp (tx.extract 0 hh.Size.toNat)).1:List Change),ah.cw (jK:List bS),ah.ls z12 (jK:List bS)]) (fun g_:Nat×Value×(List Change)=>g_.1≤jK.length∧g_.2.2=eS (cp (jA dk)).1 ((jK.map bS.L).take g_.1)) (fun g_:Nat×Value×(List Change)=>jK.length-g_.1) (0,z1,(cp (tx.extract 0 hh.Size.toNat)).1) rfl (by exact ⟨by omega,by rw [hth];rfl⟩) ⟨rfl,rfl,rfl,rfl,trivial⟩ (fun _=>Wd.pick [0,1,2,3,4,5,6] [0,0,1,2] rfl rfl rfl) ?_
        rintro ⟨k,vr,rr⟩ ⟨hk,HR⟩
        dsimp only at *
        have AG:=uW hE1;have hWs:∀c∈jK.map bS.L,c.length≤98:=fun c hc=>by rw [hE1] at hc;have:=pX c hc;omega
        have hrl:rr.length≤12004:=by have h1:=mg (M:=98) ((jK.map bS.L).take k) (cp (jA dk)).1 (fun c hc=>hWs c (List.mem_of_mem_take hc));have h2:=pW (jA dk);have h3:(jA dk).size≤2400:=(by rw [← hth,ByteArray.size_extract];omega);rw [List.length_take,List.length_map] at h1;rw [HR];omega
        refine R.reg rfl<|?_
        by_cases h5:k<jK.length
        ·
          refine R.q (q.lss rfl rfl (decide_eq_true (by omega))) rfl<|R.nil ?_
          refine R.aK rfl rfl ?_
          refine R.reg rfl<|?_
          obtain ⟨x1,hx1⟩:∃z,jK[k]? = some z:=⟨_,List.getElem?_eq_getElem (by omega)⟩
          refine R.q (q.idx (i:=k) (fun _=>Wd.bZ 3 rfl) rfl rfl iw rfl hx1) rfl<|R.q (q.iP (fun _=>Wd.bZ 3 rfl) hx1 rfl cj rfl) rfl<|R.u 1 rfl<|R.nil ?_
          have hxl:=hWs x1.L (List.mem_map_of_mem (List.mem_of_getElem? hx1))
          refine R.reg rfl<|R.u 2 rfl<|R.q (q.bm rfl) rfl<|R.q (q.bJ (off':=6) rfl dJ rfl) rfl<|R.q (q.ld 5 rfl rfl cj rfl) rfl<|R.u 1 rfl<|?_
          refine R.s (B':=(fun aW:Value=>[ah.row 51 aW ((a7 rr x1.L):List Change),ah.box au [z8,z9,gU,.int .i64 dk.Fuse,.bool dk.Down] 81,ah.row 9 z8 (dk.Kept:List ByteArray),ah.row 9 z9 (dk.Now:List ByteArray),ah.row 83 gU (dk.Wait:List Turn),ah.box fx [.pointer (some ⟨au,0,none⟩),.int .i64 102,.int .i64 (((dk.Now.length-102):Nat):Int),.int .i64 hh.First,.int .i64 (bY dk 102 (Int.toNat (((dk.Now.length-102):Nat):Int)) hh.First:Int)] 85,ah.box b1 [.pointer (some ⟨au,0,none⟩),.int .i64 hh.Epoch,.int .i64 hh.Side,.int .i64 hh.Size,.int .i64 hh.First,.pointer (some ⟨fx,0,none⟩),vr] 100,ah.held w own])) (F':=(fun aW:Value=>[ah.ls x1.cv (x1.L:List Change),ah.ls vr (rr:List Change),ah.ls z1 ((cp (tx.extract 0 hh.Size.toNat)).1:List Change),ah.cw (jK:List bS),ah.ls z12 (jK:List bS)])) rfl (s.pre (B2:=[ah.box au [z8,z9,gU,.int .i64 dk.Fuse,.bool dk.Down] 81,ah.row 9 z8 (dk.Kept:List ByteArray),ah.row 9 z9 (dk.Now:List ByteArray),ah.row 83 gU (dk.Wait:List Turn),ah.box fx [.pointer (some ⟨au,0,none⟩),.int .i64 102,.int .i64 (((dk.Now.length-102):Nat):Int),.int .i64 hh.First,.int .i64 (bY dk 102 (Int.toNat (((dk.Now.length-102):Nat):Int)) hh.First:Int)] 85,ah.box b1 [.pointer (some ⟨au,0,none⟩),.int .i64 hh.Epoch,.int .i64 hh.Side,.int .i64 hh.Size,.int .i64 hh.First,.pointer (some ⟨fx,0,none⟩),vr] 100,ah.held w own]) (F2:=[ah.ls x1.cv (x1.L:List Change),ah.ls vr (rr:List Change),ah.ls z1 ((cp (tx.extract 0 hh.Size.toNat)).1:List Change),ah.cw (jK:List bS),ah.ls z12 (jK:List bS)]) (fun _ hw=>hw.pI (x:=x1) 2 rfl (List.mem_of_getElem? hx1)) (s.bD (B0:=[]) (Br:=[ah.box au [z8,z9,gU,.int .i64 dk.Fuse,.bool dk.Down] 81,ah.row 9 z8 (dk.Kept:List ByteArray),ah.row 9 z9 (dk.Now:List ByteArray),ah.row 83 gU (dk.Wait:List Turn),ah.box fx [.pointer (some ⟨au,0,none⟩),.int .i64 102,.int .i64 (((dk.Now.length-102):Nat):Int),.int .i64 hh.First,.int .i64 (bY dk 102 (Int.toNat (((dk.Now.length-102):Nat):Int)) hh.First:Int)] 85,ah.box b1 [.pointer (some ⟨au,0,none⟩),.int .i64 hh.Epoch,.int .i64 hh.Side,.int .i64 hh.Size,.int .i64 hh.First,.pointer (some ⟨fx,0,none⟩),vr] 100,ah.held w own]) (F0:=[ah.ls vr (rr:List Change),ah.ls x1.cv (x1.L:List Change)]) [0,1,2,3,4,5,6] [1,0] (fun aW:Value=>aW) (fun aW:Value=>[ah.row 51 aW ((a7 rr x1.L):List Change)]) (fun aW:Value=>[]) rfl rfl rfl sR rfl rfl (fun w own hw H=>iE vr (rr) x1.cv (x1.L) w own H (by first|omega|assumption|(simp;done)|(simp;omega))) rfl)) fun o9=>?_
          refine R.q (q.bm rfl) rfl<|R.q (q.bJ (off':=6) rfl dJ rfl) rfl<|?_
          refine R.s rfl (s.su (us:=[o9]) (cs':=[.pointer (some ⟨au,0,none⟩),.int .i64 hh.Epoch,.int .i64 hh.Side,.int .i64 hh.Size,.int .i64 hh.First,.pointer (some ⟨fx,0,none⟩),o9]) 6 _ rfl rfl rfl (fun w hw=>Sl.eu ((fun _=>Wd.row 0 rfl) w hw)) (.inr ⟨cj,rfl⟩) (fun w hw=>(dA (Sl.one ((fun _=>Wd.row 0 rfl) w hw)) eh)) rfl rfl rfl) fun _=>?_
          refine R.nil ?_
          refine R.reg rfl<|R.q (q.add (r:=((k+1:Nat):Int)) rfl rfl (wr (by omega))) rfl<|R.u 1 rfl<|R.nil ?_
          refine R.mp (B':=[ah.box au [z8,z9,gU,.int .i64 dk.Fuse,.bool dk.Down] 81,ah.row 9 z8 (dk.Kept:List ByteArray),ah.row 9 z9 (dk.Now:List ByteArray),ah.row 83 gU (dk.Wait:List Turn),ah.box fx [.pointer (some ⟨au,0,none⟩),.int .i64 102,.int .i64 (((dk.Now.length-102):Nat):Int),.int .i64 hh.First,.int .i64 (bY dk 102 (Int.toNat (((dk.Now.length-102):Nat):Int)) hh.First:Int)] 85,ah.box b1 [.pointer (some ⟨au,0,none⟩),.int .i64 hh.Epoch,.int .i64 hh.Side,.int .i64 hh.Size,.int .i64 hh.First,.pointer (some ⟨fx,0,none⟩),o9] 100,ah.held w own]) (fun _ hw=>hw.fR 0 _ rfl rfl) ?_
          refine R.back (k+1,o9,a7 rr x1.L) rfl (by (exact ⟨by omega,by rw [pb (c:=x1.L) (by rw [List.getElem?_map,hx1];rfl),← HR]⟩)) (by dsimp only;omega) ⟨rfl,rfl,rfl,rfl,trivial⟩ (fun _=>Wd.aA [0,1,2,3,4,5,6] [0,3,4,5] rfl rfl rfl)
        ·
          refine R.q (q.lss rfl rfl (decide_eq_false (by omega))) rfl<|R.nil ?_
          refine R.aI rfl rfl ?_
          refine R.reg rfl<|R.u 3 rfl<|R.nil ?_
          have hz:(dk,(af dk).c,(af dk).L)=(dk,(⟨hh.Epoch,hh.Side,hh.Size,hh.First,rr⟩:gV),(⟨102,(((dk.Now.length-102):Nat):Int),hh.First,(bY dk 102 (Int.toNat (((dk.Now.length-102):Nat):Int)) hh.First:Int)⟩:Lg)):=by (rw [HR,List.take_of_length_le (by rw [List.length_map];omega),hE1,yU,show ((dk.Now.length-102:Nat):Int)=(dk.Now.length:Int)-102 by omega];rfl)
          have hz0:(af dk).c=(⟨hh.Epoch,hh.Side,hh.Size,hh.First,rr⟩:gV):=congrArg (fun t_=>t_.2.1) hz
          rw [hz0]
          have hz1:(af dk).L=(⟨102,(((dk.Now.length-102):Nat):Int),hh.First,(bY dk 102 (Int.toNat (((dk.Now.length-102):Nat):Int)) hh.First:Int)⟩:Lg):=congrArg (fun t_=>t_.2.2) hz
          rw [hz1]
          exact R.w2 (z8,z9,gU,b1,vr,fx) [0,1,2,3,5,4,6] [0] rfl Try.results22 (RV.tmp rfl) (RV.tmp rfl) rfl rfl rfl (oD rfl rfl)
end Go.Proofs.Ytpipachmngdegaa
end
