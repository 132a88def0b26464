import Derived.Test.YtpipachmngdegaaTCP17
import Derived.Test.YtpipachmngdegaaTCP14
import Derived.Test.YtpipachmngdegaaTCP18
section
namespace Go.Proofs.Ytpipachmngdegaa
open Go Go.RowKit
set_option linter.unusedVariables false
set_option linter.unusedSimpArgs false
set_option maxRecDepth 100000
theorem kU (bR:Value)(l:List ByteArray)(w:World)(own:List Nat)(H:Wd w (blks []++own) ([]++[ah.held w own]) [ah.ls bR (l:List ByteArray)] w)(hl:l.length≤1000000):Calls Try.prog 40 #[bR] w fun e w' => ∃z:Value,e = .returned (z)∧Wd w (blks []++own) ([ah.row 9 z (l:List ByteArray)]++[ah.held w own]) [] w':=by
  have vC:=H.jD 0 rfl
  refine R.bW (n:=8) (vs:=[bR]) (B:=[ah.held w own]) [(0,bR)] Try.func40 rfl rfl rfl rfl H ?_
  refine R.reg rfl<|R.u 1 rfl<|R.nil ?_
  refine R.reg rfl<|R.u 1 rfl<|?_
  rcases Bool.eq_false_or_eq_true (lC bR) with h1|h1
  ·
    refine R.q (q.xh (congrArg Value.bool h1) (q.qu (fun _=>Wd.bZ 0 rfl) rfl rfl Try.underlying22)) rfl<|R.nil ?_
    refine R.aK rfl rfl ?_
    refine R.reg rfl<|R.u 1 rfl<|R.nil ?_
    refine R.row0 (α:=ByteArray) 9 ?_
    have hz:l=[]:=by (first|rfl|exact (List.nil_append _).symm|exact Sl.lC (H.bZ 0 rfl) (by assumption))
    rw [hz]
    exact R.w1 (.slice none 0 0) [0,1] [] rfl Try.results40 (RV.tmp rfl) rfl rfl rfl rfl
  ·
    refine R.q (q.xh (congrArg Value.bool h1) (q.qu (fun _=>Wd.bZ 0 rfl) rfl rfl Try.underlying22)) rfl<|R.nil ?_
    refine R.aI rfl rfl ?_
    refine R.reg rfl<|?_
    refine R.s rfl (s.bs (l:=([]:List ByteArray)) du qz rfl rfl rfl rfl rfl rfl rfl) fun b1=>?_
    refine R.u 1 rfl<|?_
    refine R.s rfl (s.app (l2:=l) 0 _ rfl rfl rfl (fun _=>Wd.bZ 0 rfl) uz (by simp;omega) (by simp;omega) (fun _=>rfl) rfl) fun v1=>?_
    refine R.u 1 rfl<|R.nil ?_
    have hz:l=(([])++l):=by (first|rfl|exact (List.nil_append _).symm|exact Sl.lC (H.bZ 0 rfl) (by assumption))
    rw [hz]
    exact R.w1 v1 [0,1] [] rfl Try.results40 (RV.tmp rfl) rfl rfl rfl rfl
theorem lL (sx:ByteArray)(w:World)(hs:sx.size≤48):Calls Try.prog 39 #[.string sx] w fun e w'=>e = .returned (.string (full sx))∧Ext w w':=by
  refine R.enter (n:=10) (vs:=[.string sx]) [] [(0,.string sx)] Try.func39 rfl rfl rfl rfl ?_
  refine R.reg rfl<|R.u 1 rfl<|R.nil ?_
  refine R.reg rfl<|R.u 2 rfl<|R.q (q.fN rfl Try.underlying9) rfl<|R.q (q.sub (r:=((48-sx.size:Nat):Int)) rfl rfl (wr (by omega))) rfl<|?_
  refine R.s rfl (s.yD (m:=(48-sx.size)) aJ rfl rfl rfl rfl rfl (by omega) rfl) fun b1=>?_
  refine R.q (q.eM (fun _=>Wd.row 0 rfl) rfl aJ Try.underlying5 Try.underlying9) rfl<|R.q (q.cat rfl rfl (by rw [aD (List.replicate _ _),List.length_replicate];omega)) rfl<|R.u 1 rfl<|R.nil ?_
  exact R.rv rfl Try.results39 rfl (rS (by (rfl)))
theorem oM (n:Nat)(w:World)(hn:n≤1000000):Calls Try.prog 61 #[.int .u64 ((1:Nat):Int),.int .u64 (n:Int)] w fun e w'=>e = .returned (.tuple #[.int .u64 0,.int .u64 (n:Int)])∧Ext w w' :=
  (Try.bits_Mul 1 n (by decide) (by omega) w).mono fun e w' ⟨h1,h2⟩=>⟨by
    rw [h1,Nat.one_mul,Nat.div_eq_of_lt (by omega),Nat.mod_eq_of_lt (by omega)];rfl,by rw [h2];exact Ext.refl _⟩
theorem oN (a n:Nat)(w:World)(hn:a=1∧n≤1000000):Calls Try.prog 61 #[.int .u64 (a:Int),.int .u64 (n:Int)] w fun e w'=>e = .returned (.tuple #[.int .u64 0,.int .u64 (n:Int)])∧Ext w w':=by
  obtain ⟨rfl,hn⟩:=hn;exact oM n w hn
theorem oO {α:Type}{l x:List α}{a:α}{n k:Nat}(hx:x=List.replicate k a++l)(m:Nat)(hm:m≤k)(hl:k+m≤x.length):x.take k++(x.take k).take m++x.drop (k+m)=List.replicate (k+m) a++l.drop m:=by
  subst hx
  have h1:(List.replicate k a).length=k:=List.length_replicate
  rw [List.take_left' h1,List.take_replicate,Nat.min_eq_left hm,List.drop_append,h1,List.drop_of_length_le (by rw [h1];omega),List.nil_append,show k+m-k=m by omega,← List.replicate_append_replicate]
theorem oP (bR:Value)(l:List ByteArray)(n:Nat)(w:World)(own:List Nat)(H:Wd w (blks []++own) ([]++[ah.held w own]) [ah.ls bR (l:List ByteArray)] w)(hl:l.length=1)(hn:1≤n∧n≤1000):Calls Try.prog 38 #[bR,.int .i64 (n:Int)] w fun e w' => ∃z:Value,e = .returned (z)∧Wd w (blks []++own) ([ah.row 9 z ((List.replicate n (l.headD ⟨#[]⟩)):List ByteArray)]++[ah.held w own]) [] w':=by
  have vC:=H.jD 0 rfl
  refine R.bW (n:=48) (vs:=[bR,.int .i64 (n:Int)]) (B:=[ah.held w own]) [(0,bR),(1,.int .i64 (n:Int))] Try.func38 rfl rfl rfl rfl H ?_
  refine R.reg rfl<|R.u 1 rfl<|R.nil ?_
  refine R.reg rfl<|R.u 1 rfl<|R.q (q.lss rfl rfl (decide_eq_false (by omega))) rfl<|R.nil ?_
  refine R.aI rfl rfl ?_
  refine R.reg rfl<|R.u 1 rfl<|R.q (q.len' (fun _=>Wd.bZ 0 rfl) rfl Try.underlying22) rfl<|R.q (q.iu (r:=((l.length:Nat):Int)) rfl (by rw [Try.underlying3];rfl) Try.underlying111 (pF (by omega))) rfl<|R.u 1 rfl<|R.q (q.iu (r:=((n:Nat):Int)) rfl (by rw [Try.underlying3];rfl) Try.underlying111 (pF (by omega))) rfl<|R.c (q.call xJ rfl rfl (fun w hw=>(oN (l.length) (n) w  (by omega)))) rfl<|R.u 5 rfl<|R.nil ?_
  refine R.reg rfl<|R.u 1 rfl<|R.q (q.gtr (b:=false) rfl rfl (by decide)) rfl<|R.u 2 rfl<|R.qg rfl (q.gtr rfl rfl (decide_eq_false (by omega))) rfl<|R.u 1 rfl<|R.nil ?_
  refine R.aI rfl rfl ?_
  refine R.reg rfl<|R.u 1 rfl<|R.q (q.iu (r:=((n:Nat):Int)) rfl (by rw [Try.underlying111];rfl) Try.underlying3 (wr (by omega))) rfl<|?_
  refine R.s rfl (s.xl (m:=n) (z0:=(⟨#[]⟩:ByteArray)) du rfl rfl rfl (by decide) rfl rfl (by simp [Enc.k];omega) rfl) fun b1=>?_
  refine R.u 1 rfl<|R.nil ?_
  refine R.reg rfl<|R.u 2 rfl<|?_
  refine R.s rfl (s.pG (o:=0) (m:=1) (l2:=l) 0 _ rfl (fun _=>Wd.bZ 0 rfl) rfl (.inr ⟨rfl,rfl⟩) rfl du (by first|omega|(simp;omega)) (by first|omega|(simp;omega)) (by first|omega|(simp;omega)) (by first|omega|(simp;omega)) rfl rfl) fun _=>?_
  refine R.u 1 rfl<|R.nil ?_
  refine R.loop (fun g_:Nat×Value×(List ByteArray)=>[(7,g_.2.1),(8,.int .i64 (g_.1:Int))]) (fun g_:Nat×Value×(List ByteArray)=>[ah.row 9 g_.2.1 (g_.2.2:List ByteArray),ah.held w own]) (fun g_:Nat×Value×(List ByteArray)=>[ah.ls bR (l:List ByteArray)]) (fun g_:Nat×Value×(List ByteArray)=>1≤g_.1∧g_.1≤n∧g_.2.2=List.replicate g_.1 (l.headD ⟨#[]⟩)++List.replicate (n-g_.1) (⟨#[]⟩:ByteArray)) (fun g_:Nat×Value×(List ByteArray)=>n-g_.1) (1,(.slice (some ⟨b1,0,none⟩) n n),((List.replicate n (⟨#[]⟩:ByteArray)).take 0++l.take 1++(List.replicate n (⟨#[]⟩:ByteArray)).drop (0+1))) rfl (by refine ⟨by omega,by omega,?_⟩;match l,hl with | [a],_=>simp) ⟨rfl,rfl,trivial⟩ (fun _=>Wd.pick [0,1] [0] rfl rfl rfl) ?_
  rintro ⟨k,u,rs⟩ ⟨hk0,hk,HR⟩
  dsimp only at *
  have hrl:rs.length=n:=by rw [HR];simp;omega
  refine R.reg rfl<|R.u 2 rfl<|R.q (q.len' (fun _=>Wd.row 0 rfl) rfl Try.underlying22) rfl<|?_
  by_cases h1:k<rs.length
  ·
    refine R.q (q.lss rfl rfl (decide_eq_true (by omega))) rfl<|R.nil ?_
    refine R.aK rfl rfl ?_
    refine R.eT (fuel:=10) (Wd w (blks []++own) [ah.held w own] [ah.ls bR (l:List ByteArray)]) rfl mixed rfl ?_
    refine D.q (i:=0) rfl (by kernel_rfl) (fun _=>Wd.aA [1] [0] rfl rfl rfl) rfl (q.mv rfl) rfl<|D.q (i:=1) rfl (by kernel_rfl) (fun _=>Wd.aA [1] [0] rfl rfl rfl) rfl (q.mv rfl) rfl<|D.q (i:=2) rfl (by kernel_rfl) (fun _=>Wd.aA [1] [0] rfl rfl rfl) rfl (q.mv rfl) rfl<|D.q (i:=4) rfl (by kernel_rfl) (fun _=>Wd.aA [1] [0] rfl rfl rfl) rfl (q.mv rfl) rfl<|D.q (i:=5) rfl (by kernel_rfl) (fun _=>Wd.aA [1] [0] rfl rfl rfl) rfl (q.mv rfl) rfl<|?_
    refine D.two (i:=3) (j:=6) (by kernel_rfl) rfl rfl ?_ ?_
    ·
      refine Do.s (s.c (Qt.a (q.cJ (i:=k) (fun _=>Wd.row 0 rfl) rfl rfl du rfl (by first|omega|(simp;omega)))) rfl) (fun _=>(fun _=>Wd.aA [1] [0] rfl rfl rfl)) rfl fun _=>?_
      refine D.one (i:=6) (by kernel_rfl) rfl ?_
      refine Do.s (s.c (Qt.a (q.iV (i:=k) (fun _=>Wd.row 0 rfl) rfl rfl Try.underlying22 qD rfl (by first|omega|(simp;omega)))) rfl) (fun _=>(fun _=>Wd.aA [1] [0] rfl rfl rfl)) rfl fun _=>?_
      refine D.one (i:=7) (by kernel_rfl) rfl ?_
      refine Do.s (s.pG (o:=k) (m:=(min k (n-k))) (l2:=(rs.take k)) 0 _ rfl (fun w hw=>Sl.to ((fun _=>Wd.row 0 rfl) w hw) (by omega)) rfl (.inl rfl) rfl du (by first|omega|(simp;omega)) (by first|omega|(simp;omega)) (by first|omega|(simp;omega)) (by first|omega|(simp;omega)) rfl rfl) (fun _=>(fun _=>Wd.aA [1] [0] rfl rfl rfl)) rfl fun _=>?_
      refine D.q (i:=8) rfl (by kernel_rfl) (fun _=>Wd.aA [1] [0] rfl rfl rfl) rfl (q.add (r:=((k+(min k (n-k)):Nat):Int)) rfl rfl (wr (by omega))) rfl<|D.q (i:=9) rfl (by kernel_rfl) (fun _=>Wd.aA [1] [0] rfl rfl rfl) rfl (q.as rfl) rfl<|D.done (by kernel_rfl)<|?_
      refine R.back (k+min k (n-k),u,(rs.take k++(rs.take k).take (min k (n-k))++rs.drop (k+(min k (n-k))))) rfl (by (refine ⟨by omega,by omega,?_⟩;rw [oO (n:=n) HR (min k (n-k)) (by omega) (by omega),List.drop_replicate,show n-k-min k (n-k)=n-(k+min k (n-k)) by omega])) (by dsimp only;omega) ⟨rfl,rfl,trivial⟩ (fun _=>Wd.aA [0,1] [0] rfl rfl rfl)
    ·
      refine Do.s (s.c (Qt.a (q.iV (i:=k) (fun _=>Wd.row 0 rfl) rfl rfl Try.underlying22 qD rfl (by first|omega|(simp;omega)))) rfl) (fun _=>(fun _=>Wd.aA [1] [0] rfl rfl rfl)) rfl fun _=>?_
      refine D.one (i:=3) (by kernel_rfl) rfl ?_
      refine Do.s (s.c (Qt.a (q.cJ (i:=k) (fun _=>Wd.row 0 rfl) rfl rfl du rfl (by first|omega|(simp;omega)))) rfl) (fun _=>(fun _=>Wd.aA [1] [0] rfl rfl rfl)) rfl fun _=>?_
      refine D.one (i:=7) (by kernel_rfl) rfl ?_
      refine Do.s (s.pG (o:=k) (m:=(min k (n-k))) (l2:=(rs.take k)) 0 _ rfl (fun w hw=>Sl.to ((fun _=>Wd.row 0 rfl) w hw) (by omega)) rfl (.inl rfl) rfl du (by first|omega|(simp;omega)) (by first|omega|(simp;omega)) (by first|omega|(simp;omega)) (by first|omega|(simp;omega)) rfl rfl) (fun _=>(fun _=>Wd.aA [1] [0] rfl rfl rfl)) rfl fun _=>?_
      refine D.q (i:=8) rfl (by kernel_rfl) (fun _=>Wd.aA [1] [0] rfl rfl rfl) rfl (q.add (r:=((k+(min k (n-k)):Nat):Int)) rfl rfl (wr (by omega))) rfl<|D.q (i:=9) rfl (by kernel_rfl) (fun _=>Wd.aA [1] [0] rfl rfl rfl) rfl (q.as rfl) rfl<|D.done (by kernel_rfl)<|?_
      refine R.back (k+min k (n-k),u,(rs.take k++(rs.take k).take (min k (n-k))++rs.drop (k+(min k (n-k))))) rfl (by (refine ⟨by omega,by omega,?_⟩;rw [oO (n:=n) HR (min k (n-k)) (by omega) (by omega),List.drop_replicate,show n-k-min k (n-k)=n-(k+min k (n-k)) by omega])) (by dsimp only;omega) ⟨rfl,rfl,trivial⟩ (fun _=>Wd.aA [0,1] [0] rfl rfl rfl)
  ·
    refine R.q (q.lss rfl rfl (decide_eq_false (by omega))) rfl<|R.nil ?_
    refine R.aI rfl rfl ?_
    refine R.reg rfl<|R.u 2 rfl<|R.nil ?_
    have hz:List.replicate n (l.headD ⟨#[]⟩)=rs:=by (rw [HR,show k=n by omega];simp)
    rw [hz]
    exact R.w1 u [0,1] [] rfl Try.results38 (RV.tmp rfl) rfl rfl rfl rfl
theorem sT (n:Int)(w:World)(own:List Nat)(H:Wd w (blks []++own) ([]++[ah.held w own]) [] w)(hn:1≤n∧n≤200):Calls Try.prog 9 #[.int .i64 n] w fun e w' => ∃z:Nat×Value×Value×Value,e = .returned (.tuple #[.pointer (some ⟨z.1,0,none⟩),.nilIface])∧Wd w (blks []++own) ([ah.box z.1 [z.2.1,z.2.2.1,z.2.2.2,.int .i64 (((dNew (Int.toNat n))).Fuse),.bool (((dNew (Int.toNat n))).Down)] 81,ah.row 9 z.2.1 (((dNew (Int.toNat n))).Kept:List ByteArray),ah.row 9 z.2.2.1 (((dNew (Int.toNat n))).Now:List ByteArray),ah.row 83 z.2.2.2 (((dNew (Int.toNat n))).Wait:List Turn)]++[ah.held w own]) [] w':=by
  obtain ⟨nN,zK⟩:∃m:Nat,n=(m:Int):=⟨n.toNat,by omega⟩;subst zK
  refine R.bW (n:=21) (vs:=[.int .i64 (nN:Int)]) (B:=[ah.held w own]) [(0,.int .i64 (nN:Int))] Try.func9 rfl rfl rfl rfl H ?_
  refine R.reg rfl<|R.u 2 rfl<|R.nil ?_
  refine R.reg rfl<|R.u 1 rfl<|R.q (q.lss rfl rfl (decide_eq_false (by omega))) rfl<|R.u 2 rfl<|R.qg rfl (q.gtr rfl rfl (decide_eq_false (by omega))) rfl<|R.u 1 rfl<|R.nil ?_
  refine R.aI rfl rfl ?_
  refine R.reg rfl<|R.c (q.call sQ rfl rfl (fun w hw=>(lL (⟨#[]⟩) w  (by first|omega|assumption|(simp;done)|decide)))) rfl<|?_
  refine R.s rfl (s.bs (l:=([full (⟨#[]⟩)]:List ByteArray)) du qz rfl rfl rfl rfl rfl rfl rfl) fun b1=>?_
  refine R.u 1 rfl<|?_
  refine R.s (B':=(fun aW:Value=>[ah.row 9 aW ((List.replicate nN (([full (⟨#[]⟩)]).headD ⟨#[]⟩)):List ByteArray),ah.row 9 (.slice (some ⟨b1,0,none⟩) 1 1) ([full (⟨#[]⟩)]:List ByteArray),ah.held w own])) (F':=(fun aW:Value=>[])) rfl (s.sH (B0:=[]) (Bl:=[ah.row 9 (.slice (some ⟨b1,0,none⟩) 1 1) ([full (⟨#[]⟩)]:List ByteArray)]) (Br:=[ah.held w own]) (F0:=[ah.ls (.slice (some ⟨b1,0,none⟩) 1 1) ([full (⟨#[]⟩)]:List ByteArray)]) (Fl:=[ah.ls (.slice (some ⟨b1,0,none⟩) 1 1) ([full (⟨#[]⟩)]:List ByteArray)]) [0,1] [0] (fun aW:Value=>aW) (fun aW:Value=>[ah.row 9 aW ((List.replicate nN (([full (⟨#[]⟩)]).headD ⟨#[]⟩)):List ByteArray)]) rfl rfl (mX oH) rfl xx rfl rfl (fun w own hw H=>oP (.slice (some ⟨b1,0,none⟩) 1 1) ([full (⟨#[]⟩)]) (nN) w own H (by first|rfl|omega) (by omega)) rfl) fun z1=>?_
  refine R.u 1 rfl<|R.nil ?_
  refine R.reg rfl<|R.u 2 rfl<|?_
  refine R.s (B':=(fun aW:Value=>[ah.row 9 aW ((List.replicate nN (([full (⟨#[]⟩)]).headD ⟨#[]⟩)):List ByteArray),ah.row 9 z1 (List.replicate nN (([full (⟨#[]⟩)]).headD ⟨#[]⟩):List ByteArray),ah.row 9 (.slice (some ⟨b1,0,none⟩) 1 1) ([full (⟨#[]⟩)]:List ByteArray),ah.held w own])) (F':=(fun aW:Value=>[])) rfl (s.sH (B0:=[]) (Bl:=[ah.row 9 z1 (List.replicate nN (([full (⟨#[]⟩)]).headD ⟨#[]⟩):List ByteArray)]) (Br:=[ah.row 9 (.slice (some ⟨b1,0,none⟩) 1 1) ([full (⟨#[]⟩)]:List ByteArray),ah.held w own]) (F0:=[ah.ls z1 (List.replicate nN (([full (⟨#[]⟩)]).headD ⟨#[]⟩):List ByteArray)]) (Fl:=[ah.ls z1 (List.replicate nN (([full (⟨#[]⟩)]).headD ⟨#[]⟩):List ByteArray)]) [0,1,2] [0] (fun aW:Value=>aW) (fun aW:Value=>[ah.row 9 aW ((List.replicate nN (([full (⟨#[]⟩)]).headD ⟨#[]⟩)):List ByteArray)]) rfl rfl (mX oH) rfl xy rfl rfl (fun w own hw H=>kU z1 (List.replicate nN (([full (⟨#[]⟩)]).headD ⟨#[]⟩)) w own H (by first|omega|assumption|(simp;done)|(simp;omega))) rfl) fun z2=>?_
  refine R.q (q.vT (cs:=[z1,z2,.slice none 0 0,.int .i64 (-1),.bool false]) xp rfl (fun w hw=>(nL (Sl.pH ((fun _=>Wd.row 1 rfl) w hw)) (nL (Sl.pH ((fun _=>Wd.row 0 rfl) w hw)) (nL rfl vS)))) rfl) rfl<|?_
  refine R.s rfl (s.box (cs:=[z1,z2,.slice none 0 0,.int .i64 (-1),.bool false]) rfl rfl rfl) fun b2=>?_
  refine R.u 2 rfl<|R.nil ?_
  refine R.row0 (α:=Turn) 83 ?_
  have hz:dNew (Int.toNat ((nN:Nat):Int))=(⟨List.replicate nN (([full (⟨#[]⟩)]).headD ⟨#[]⟩),(List.replicate nN (([full (⟨#[]⟩)]).headD ⟨#[]⟩)),[],-1,false⟩:bp):=by (rfl)
  rw [hz]
  exact R.w2 (b2,z1,z2,(.slice none 0 0)) [1,3,2,0,5] [] rfl Try.results9 (RV.tmp rfl) (RV.tmp rfl) rfl rfl rfl (oD rfl rfl)
theorem c9 (au:Nat)(ao ap ak:Value)(dk:bp)(w:World)(lM:(ah.box au [ao,ap,ak,.int .i64 dk.Fuse,.bool dk.Down] 81).ok w)(ey:Sl w ao (dk.Kept:List ByteArray))(fe:Sl w ap (dk.Now:List ByteArray))(ez:Sl w ak (dk.Wait:List Turn)):Calls Try.prog 12 #[.pointer (some ⟨au,0,none⟩)] w fun e w'=>e = .returned (.int .i64 (dk.Now.length:Int))∧Ext w w':=by
  refine R.enter (n:=8) (vs:=[.pointer (some ⟨au,0,none⟩)]) [] [(0,.pointer (some ⟨au,0,none⟩))] Try.func12 rfl rfl rfl rfl ?_
  refine R.iZ ey ?_
  refine R.iZ fe ?_
  refine R.iZ ez ?_
  refine R.lv (r:=ah.box au [ao,ap,ak,.int .i64 dk.Fuse,.bool dk.Down] 81) lM (iW lM) ?_
  refine R.reg rfl<|R.u 1 rfl<|R.nil ?_
  refine R.reg rfl<|R.u 1 rfl<|R.q (q.bm rfl) rfl<|R.q (q.bJ (off':=1) rfl dW rfl) rfl<|R.q (q.pC 0 rfl rfl cG rfl) rfl<|R.q (q.len' (fun _=>Wd.bZ 2 rfl) rfl Try.underlying22) rfl<|R.u 1 rfl<|R.nil ?_
  exact R.rv rfl Try.results12 rfl (rI (by (rfl)))
theorem m7 (au:Nat)(ao ap ak:Value)(dk:bp)(w:World)(lM:(ah.box au [ao,ap,ak,.int .i64 dk.Fuse,.bool dk.Down] 81).ok w)(ey:Sl w ao (dk.Kept:List ByteArray))(fe:Sl w ap (dk.Now:List ByteArray))(ez:Sl w ak (dk.Wait:List Turn)):Calls Try.prog 42 #[.pointer (some ⟨au,0,none⟩)] w fun e w'=>e = .returned (.bool dk.Down)∧Ext w w':=by
  refine R.enter (n:=7) (vs:=[.pointer (some ⟨au,0,none⟩)]) [] [(0,.pointer (some ⟨au,0,none⟩))] Try.func42 rfl rfl rfl rfl ?_
  refine R.iZ ey ?_
  refine R.iZ fe ?_
  refine R.iZ ez ?_
  refine R.lv (r:=ah.box au [ao,ap,ak,.int .i64 dk.Fuse,.bool dk.Down] 81) lM (iW lM) ?_
  refine R.reg rfl<|R.u 1 rfl<|R.nil ?_
  refine R.reg rfl<|R.u 1 rfl<|R.q (q.bm rfl) rfl<|R.q (q.bJ (off':=4) rfl dX rfl) rfl<|R.q (q.pC 0 rfl rfl eO rfl) rfl<|R.u 1 rfl<|R.nil ?_
  exact R.rv rfl Try.results42 rfl (rB (by (rfl)))
theorem ku (au:Nat)(ao ap ak:Value)(dk:bp)(i:Int)(w:World)(lM:(ah.box au [ao,ap,ak,.int .i64 dk.Fuse,.bool dk.Down] 81).ok w)(ey:Sl w ao (dk.Kept:List ByteArray))(fe:Sl w ap (dk.Now:List ByteArray))(ez:Sl w ak (dk.Wait:List Turn)):Calls Try.prog 14 #[.pointer (some ⟨au,0,none⟩),.int .i64 i] w fun e w'=>e = .returned (.tuple #[.string ((a6 dk i).1),bF ((a6 dk i).2)])∧Ext w w':=by
  refine R.enter (n:=30) (vs:=[.pointer (some ⟨au,0,none⟩),.int .i64 i]) [] [(0,.pointer (some ⟨au,0,none⟩)),(1,.int .i64 i)] Try.func14 rfl rfl rfl rfl ?_
  refine R.iZ ey ?_
  refine R.iZ fe ?_
  refine R.iZ ez ?_
  refine R.lv (r:=ah.box au [ao,ap,ak,.int .i64 dk.Fuse,.bool dk.Down] 81) lM (iW lM) ?_
  refine R.reg rfl<|R.u 2 rfl<|R.nil ?_
  refine R.reg rfl<|R.u 1 rfl<|R.q (q.bm rfl) rfl<|R.q (q.bJ (off':=4) rfl dX rfl) rfl<|R.q (q.pC 0 rfl rfl eO rfl) rfl<|R.nil ?_
  refine R.cond rfl rfl (fun h1=>?_) (fun h1=>?_)
  ·
    refine R.reg rfl<|R.q (q.iface rfl cD) rfl<|R.u 2 rfl<|R.nil ?_
    exact R.uh rfl Try.results14 rfl rfl (rS (by (first|(rw [dK (by assumption)];done)|(rw [eI (by assumption) (by omega)];done)|(rw [dL (by assumption) (by omega) rfl];done)))) (fO (by decide) (by (first|(rw [dK (by assumption)];done)|(rw [eI (by assumption) (by omega)];done)|(rw [dL (by assumption) (by omega) rfl];done))))
  ·
    refine R.reg rfl<|R.u 1 rfl<|?_
    by_cases h2:i<0
    ·
      refine R.q (q.lss rfl rfl (decide_eq_true (by omega))) rfl<|R.u 9 rfl<|R.nil ?_
      refine R.aK rfl rfl ?_
      refine R.reg rfl<|R.q (q.iface rfl cD) rfl<|R.u 2 rfl<|R.nil ?_
      exact R.uh rfl Try.results14 rfl rfl (rS (by (first|(rw [dK (by assumption)];done)|(rw [eI (by assumption) (by omega)];done)|(rw [dL (by assumption) (by omega) rfl];done)))) (fO (by decide) (by (first|(rw [dK (by assumption)];done)|(rw [eI (by assumption) (by omega)];done)|(rw [dL (by assumption) (by omega) rfl];done))))
    ·
      refine R.q (q.lss rfl rfl (decide_eq_false (by omega))) rfl<|R.u 3 rfl<|R.qg rfl (q.bm rfl) rfl<|R.qg rfl (q.bJ (off':=1) rfl dW rfl) rfl<|R.qg rfl (q.pC 0 rfl rfl cG rfl) rfl<|R.qg rfl (q.len' (fun _=>Wd.bZ 2 rfl) rfl Try.underlying22) rfl<|?_
      by_cases h3:i<(dk.Now.length:Int)
      ·
        refine R.qg rfl (q.geq rfl rfl (decide_eq_false (by omega))) rfl<|R.u 1 rfl<|R.nil ?_
        refine R.aI rfl rfl ?_
        refine R.reg rfl<|R.u 1 rfl<|R.q (q.bm rfl) rfl<|R.q (q.bJ (off':=1) rfl dW rfl) rfl<|R.q (q.pC 0 rfl rfl cG rfl) rfl<|R.u 1 rfl<|?_
        obtain ⟨x1,hx1⟩:∃z,dk.Now[i.toNat]? = some z:=⟨_,List.getElem?_eq_getElem (by omega)⟩
        refine R.q (q.idx (i:=i.toNat) (fun _=>Wd.bZ 2 rfl) rfl rfl du (by omega) hx1) rfl<|R.q (q.iP (fun _=>Wd.bZ 2 rfl) hx1 rfl bB rfl) rfl<|R.u 2 rfl<|R.nil ?_
        exact R.uh rfl Try.results14 rfl rfl (rS (by (first|(rw [dK (by assumption)];done)|(rw [eI (by assumption) (by omega)];done)|(rw [dL (by assumption) (by omega) hx1];done)))) (lp (by (first|(rw [dK (by assumption)];done)|(rw [eI (by assumption) (by omega)];done)|(rw [dL (by assumption) (by omega) hx1];done))))
      ·
        refine R.qg rfl (q.geq rfl rfl (decide_eq_true (by omega))) rfl<|R.u 1 rfl<|R.nil ?_
        refine R.aK rfl rfl ?_
        refine R.reg rfl<|R.q (q.iface rfl cD) rfl<|R.u 2 rfl<|R.nil ?_
        exact R.uh rfl Try.results14 rfl rfl (rS (by (first|(rw [dK (by assumption)];done)|(rw [eI (by assumption) (by omega)];done)|(rw [dL (by assumption) (by omega) rfl];done)))) (fO (by decide) (by (first|(rw [dK (by assumption)];done)|(rw [eI (by assumption) (by omega)];done)|(rw [dL (by assumption) (by omega) rfl];done))))
theorem m8 (au:Nat)(ao ap ak:Value)(dk:bp)(w:World)(own:List Nat)(H:Wd w (blks [ah.box au [ao,ap,ak,.int .i64 dk.Fuse,.bool dk.Down] 81,ah.row 9 ao (dk.Kept:List ByteArray),ah.row 9 ap (dk.Now:List ByteArray),ah.row 83 ak (dk.Wait:List Turn)]++own) ([ah.box au [ao,ap,ak,.int .i64 dk.Fuse,.bool dk.Down] 81,ah.row 9 ao (dk.Kept:List ByteArray),ah.row 9 ap (dk.Now:List ByteArray),ah.row 83 ak (dk.Wait:List Turn)]++[ah.held w own]) [] w)(hf : -1≤dk.Fuse∧dk.Fuse≤9223372036854775807):Calls Try.prog 41 #[.pointer (some ⟨au,0,none⟩)] w fun e w' => ∃z:Value×Value×Value,e = .returned (bF (((aH dk)).2))∧Wd w (blks [ah.box au [ao,ap,ak,.int .i64 dk.Fuse,.bool dk.Down] 81,ah.row 9 ao (dk.Kept:List ByteArray),ah.row 9 ap (dk.Now:List ByteArray),ah.row 83 ak (dk.Wait:List Turn)]++own) ([ah.box au [z.1,z.2.1,z.2.2,.int .i64 ((((aH dk)).1).Fuse),.bool ((((aH dk)).1).Down)] 81,ah.row 9 z.1 ((((aH dk)).1).Kept:List ByteArray),ah.row 9 z.2.1 ((((aH dk)).1).Now:List ByteArray),ah.row 83 z.2.2 ((((aH dk)).1).Wait:List Turn)]++[ah.held w own]) [] w':=by
  have cM:=H.cap 1 rfl;have cN:=H.aU 1 rfl
  have dv:=H.cap 2 rfl;have dw:=H.aU 2 rfl
  have cO:=H.cap 3 rfl;have cQ:=H.aU 3 rfl
  refine R.bW (n:=35) (vs:=[.pointer (some ⟨au,0,none⟩)]) (B:=[ah.box au [ao,ap,ak,.int .i64 dk.Fuse,.bool dk.Down] 81,ah.row 9 ao (dk.Kept:List ByteArray),ah.row 9 ap (dk.Now:List ByteArray),ah.row 83 ak (dk.Wait:List Turn),ah.held w own]) [(0,.pointer (some ⟨au,0,none⟩))] Try.func41 rfl rfl rfl rfl H ?_
  refine R.reg rfl<|R.u 1 rfl<|R.nil ?_
  refine R.reg rfl<|R.u 1 rfl<|R.q (q.bm rfl) rfl<|R.q (q.bJ (off':=4) rfl dX rfl) rfl<|R.q (q.ld 0 rfl rfl eO rfl) rfl<|R.q (q.not rfl) rfl<|R.u 1 rfl<|?_
  rcases Bool.eq_false_or_eq_true (dk.Down) with h1|h1
  ·
    rw [h1]
    refine R.u 6 rfl<|R.nil ?_
    refine R.aI rfl rfl ?_
    refine R.reg rfl<|R.u 1 rfl<|R.q (q.bm rfl) rfl<|R.q (q.bJ (off':=4) rfl dX rfl) rfl<|R.q (q.ld 0 rfl rfl eO rfl) rfl<|R.nil ?_
    refine R.aK rfl rfl ?_
    refine R.reg rfl<|R.q (q.iface rfl cD) rfl<|R.u 1 rfl<|R.nil ?_
    have hz:aH dk=((⟨dk.Kept,dk.Now,dk.Wait,dk.Fuse,true⟩:bp),10):=by (first|exact iB (by assumption)|exact gy (by assumption) (by assumption)|exact ia (by assumption) (by assumption))
    rw [hz]
    exact R.w1 (ao,ap,ak) [0,1,2,3,4] [] rfl Try.results41 (RV.tmp rfl) rfl rfl rfl (fO (by decide) rfl)
  ·
    rw [h1]
    refine R.u 1 rfl<|R.qg rfl (q.bm rfl) rfl<|R.qg rfl (q.bJ (off':=3) rfl eW rfl) rfl<|R.qg rfl (q.ld 0 rfl rfl aS rfl) rfl<|?_
    by_cases h2:dk.Fuse=0
    ·
      refine R.qg rfl (q.eql rfl rfl (beq_iff_eq.2 (by omega))) rfl<|R.u 1 rfl<|R.nil ?_
      refine R.aK rfl rfl ?_
      refine R.reg rfl<|R.u 2 rfl<|R.q (q.bm rfl) rfl<|R.q (q.bJ (off':=4) rfl dX rfl) rfl<|?_
      refine R.s rfl (s.st (us:=[.bool true]) (cs':=[ao,ap,ak,.int .i64 dk.Fuse,.bool true]) 0 _ rfl rfl rfl rfl (.inr ⟨eO,rfl⟩) rfl rfl rfl rfl) fun _=>?_
      refine R.q (q.bm rfl) rfl<|R.q (q.bJ (off':=3) rfl eW rfl) rfl<|?_
      refine R.s rfl (s.st (us:=[.int .i64 (-1)]) (cs':=[ao,ap,ak,.int .i64 (-1),.bool true]) 0 _ rfl rfl rfl rfl (.inr ⟨aS,rfl⟩) rfl rfl rfl rfl) fun _=>?_
      refine R.nil ?_
      refine R.reg rfl<|R.u 1 rfl<|R.q (q.bm rfl) rfl<|R.q (q.bJ (off':=4) rfl dX rfl) rfl<|R.q (q.ld 0 rfl rfl eO rfl) rfl<|R.nil ?_
      refine R.aK rfl rfl ?_
      refine R.reg rfl<|R.q (q.iface rfl cD) rfl<|R.u 1 rfl<|R.nil ?_
      have hz:aH dk=((⟨dk.Kept,dk.Now,dk.Wait,-1,true⟩:bp),10):=by (first|exact iB (by assumption)|exact gy (by assumption) (by assumption)|exact ia (by assumption) (by assumption))
      rw [hz]
      exact R.w1 (ao,ap,ak) [0,1,2,3,4] [] rfl Try.results41 (RV.tmp rfl) rfl rfl rfl (fO (by decide) rfl)
    ·
      refine R.qg rfl (q.eql rfl rfl (beq_eq_false_iff_ne.2 (by omega))) rfl<|R.u 1 rfl<|R.nil ?_
      refine R.aI rfl rfl ?_
      refine R.reg rfl<|R.u 1 rfl<|R.q (q.bm rfl) rfl<|R.q (q.bJ (off':=4) rfl dX rfl) rfl<|R.q (q.ld 0 rfl rfl eO rfl) rfl<|R.nil ?_
      refine R.aI rfl rfl ?_
      refine R.reg rfl<|R.u 2 rfl<|R.q (q.bm rfl) rfl<|R.q (q.bJ (off':=3) rfl eW rfl) rfl<|R.q (q.ld 0 rfl rfl aS rfl) rfl<|R.q (q.sub (r:=dk.Fuse-1) rfl rfl (wr (by omega))) rfl<|R.q (q.max (r:=max (dk.Fuse-1) (-1)) rfl rfl rfl) rfl<|R.q (q.bm rfl) rfl<|R.q (q.bJ (off':=3) rfl eW rfl) rfl<|?_
      refine R.s rfl (s.st (us:=[.int .i64 (max (dk.Fuse-1) (-1))]) (cs':=[ao,ap,ak,.int .i64 (max (dk.Fuse-1) (-1)),.bool false]) 0 _ rfl rfl rfl rfl (.inr ⟨aS,rfl⟩) rfl rfl rfl rfl) fun _=>?_
      refine R.nil ?_
      refine R.reg rfl<|R.u 1 rfl<|R.nil ?_
      have hz:aH dk=((⟨dk.Kept,dk.Now,dk.Wait,(max (dk.Fuse-1) (-1)),false⟩:bp),0):=by (first|exact iB (by assumption)|exact gy (by assumption) (by assumption)|exact ia (by assumption) (by assumption))
      rw [hz]
      exact R.w1 (ao,ap,ak) [0,1,2,3,4] [] rfl Try.results41 (RV.tmp rfl) rfl rfl rfl (lp rfl)
theorem dM (au:Nat)(ao ap ak:Value)(dk:bp)(i:Int)(sx:ByteArray)(w:World)(own:List Nat)(H:Wd w (blks [ah.box au [ao,ap,ak,.int .i64 dk.Fuse,.bool dk.Down] 81,ah.row 9 ao (dk.Kept:List ByteArray),ah.row 9 ap (dk.Now:List ByteArray),ah.row 83 ak (dk.Wait:List Turn)]++own) ([ah.box au [ao,ap,ak,.int .i64 dk.Fuse,.bool dk.Down] 81,ah.row 9 ao (dk.Kept:List ByteArray),ah.row 9 ap (dk.Now:List ByteArray),ah.row 83 ak (dk.Wait:List Turn)]++[ah.held w own]) [] w)(hd:dk.Kept.length=dk.Now.length∧dk.Now.length≤100000∧dk.Wait.length≤100000 ∧ -1≤dk.Fuse∧dk.Fuse≤9223372036854775807):Calls Try.prog 10 #[.pointer (some ⟨au,0,none⟩),.int .i64 i,.string sx] w fun e w' => ∃z:Value×Value×Value,e = .returned (bF (((ar dk i sx)).2))∧Wd w (blks [ah.box au [ao,ap,ak,.int .i64 dk.Fuse,.bool dk.Down] 81,ah.row 9 ao (dk.Kept:List ByteArray),ah.row 9 ap (dk.Now:List ByteArray),ah.row 83 ak (dk.Wait:List Turn)]++own) ([ah.box au [z.1,z.2.1,z.2.2,.int .i64 ((((ar dk i sx)).1).Fuse),.bool ((((ar dk i sx)).1).Down)] 81,ah.row 9 z.1 ((((ar dk i sx)).1).Kept:List ByteArray),ah.row 9 z.2.1 ((((ar dk i sx)).1).Now:List ByteArray),ah.row 83 z.2.2 ((((ar dk i sx)).1).Wait:List Turn)]++[ah.held w own]) [] w':=by
  have cM:=H.cap 1 rfl;have cN:=H.aU 1 rfl
  have dv:=H.cap 2 rfl;have dw:=H.aU 2 rfl
  have cO:=H.cap 3 rfl;have cQ:=H.aU 3 rfl
  have hsl:=gM dk;have hs1:=congrArg List.length hsl.1;have hs2:=congrArg List.length hsl.2.1;have hs3:=congrArg List.length hsl.2.2
  refine R.bW (n:=56) (vs:=[.pointer (some ⟨au,0,none⟩),.int .i64 i,.string sx]) (B:=[ah.box au [ao,ap,ak,.int .i64 dk.Fuse,.bool dk.Down] 81,ah.row 9 ao (dk.Kept:List ByteArray),ah.row 9 ap (dk.Now:List ByteArray),ah.row 83 ak (dk.Wait:List Turn),ah.held w own]) [(0,.pointer (some ⟨au,0,none⟩)),(1,.int .i64 i),(2,.string sx)] Try.func10 rfl rfl rfl rfl H ?_
  refine R.reg rfl<|R.u 1 rfl<|R.nil ?_
  refine R.reg rfl<|R.u 1 rfl<|?_
  by_cases h1:i<0
  ·
    refine R.q (q.lss rfl rfl (decide_eq_true (by omega))) rfl<|R.u 14 rfl<|R.nil ?_
    refine R.aK rfl rfl ?_
    refine R.reg rfl<|R.q (q.iface rfl cD) rfl<|R.u 1 rfl<|R.nil ?_
    have hz:ar dk i sx=(dk,1):=by (first|exact cE (by omega)|exact cT (by omega) (by omega) (by omega) (by assumption)|(rw [bG (by omega) (by omega) (by omega) (by assumption)];first|done|rfl)|(rw [bG (by omega) (by omega) (by omega) (by assumption)];simp_all;done))
    rw [hz]
    exact R.w1 (ao,ap,ak) [0,1,2,3,4] [] rfl Try.results10 (RV.tmp rfl) rfl rfl rfl (fO (by decide) rfl)
  ·
    refine R.q (q.lss rfl rfl (decide_eq_false (by omega))) rfl<|R.u 3 rfl<|R.qg rfl (q.bm rfl) rfl<|R.qg rfl (q.bJ (off':=1) rfl dW rfl) rfl<|R.qg rfl (q.ld 0 rfl rfl cG rfl) rfl<|R.qg rfl (q.len' (fun _=>Wd.row 2 rfl) rfl Try.underlying22) rfl<|?_
    by_cases h2:i<(dk.Now.length:Int)
    ·
      refine R.qg rfl (q.geq rfl rfl (decide_eq_false (by omega))) rfl<|R.u 3 rfl<|R.qg rfl (q.fN rfl Try.underlying9) rfl<|?_
      by_cases h3:48<sx.size
      ·
        refine R.qg rfl (q.gtr rfl rfl (decide_eq_true (by omega))) rfl<|R.u 1 rfl<|R.nil ?_
        refine R.aK rfl rfl ?_
        refine R.reg rfl<|R.q (q.iface rfl cD) rfl<|R.u 1 rfl<|R.nil ?_
        have hz:ar dk i sx=(dk,1):=by (first|exact cE (by omega)|exact cT (by omega) (by omega) (by omega) (by assumption)|(rw [bG (by omega) (by omega) (by omega) (by assumption)];first|done|rfl)|(rw [bG (by omega) (by omega) (by omega) (by assumption)];simp_all;done))
        rw [hz]
        exact R.w1 (ao,ap,ak) [0,1,2,3,4] [] rfl Try.results10 (RV.tmp rfl) rfl rfl rfl (fO (by decide) rfl)
      ·
        refine R.qg rfl (q.gtr rfl rfl (decide_eq_false (by omega))) rfl<|R.u 1 rfl<|R.nil ?_
        refine R.aI rfl rfl ?_
        refine R.reg rfl<|R.u 1 rfl<|?_
        refine R.s (B':=(fun g_:Value×Value×Value=>[ah.box au [g_.1,g_.2.1,g_.2.2,.int .i64 ((((aH dk)).1).Fuse),.bool ((((aH dk)).1).Down)] 81,ah.row 9 g_.1 ((((aH dk)).1).Kept:List ByteArray),ah.row 9 g_.2.1 ((((aH dk)).1).Now:List ByteArray),ah.row 83 g_.2.2 ((((aH dk)).1).Wait:List Turn),ah.held w own])) (F':=(fun g_:Value×Value×Value=>[])) rfl (s.bD (B0:=[ah.box au [ao,ap,ak,.int .i64 dk.Fuse,.bool dk.Down] 81,ah.row 9 ao (dk.Kept:List ByteArray),ah.row 9 ap (dk.Now:List ByteArray),ah.row 83 ak (dk.Wait:List Turn)]) (Br:=[ah.held w own]) (F0:=[]) [0,1,2,3,4] [] (fun g_:Value×Value×Value=>bF (((aH dk)).2)) (fun g_:Value×Value×Value=>[ah.box au [g_.1,g_.2.1,g_.2.2,.int .i64 ((((aH dk)).1).Fuse),.bool ((((aH dk)).1).Down)] 81,ah.row 9 g_.1 ((((aH dk)).1).Kept:List ByteArray),ah.row 9 g_.2.1 ((((aH dk)).1).Now:List ByteArray),ah.row 83 g_.2.2 ((((aH dk)).1).Wait:List Turn)]) (fun g_:Value×Value×Value=>[]) rfl rfl rfl vv rfl rfl (fun w own hw H=>m8 au ao ap ak (dk) w own H (by first|assumption|omega)) rfl) ?_
        rintro ⟨z1,z2,z3⟩
        dsimp only
        refine R.u 1 rfl<|R.nil ?_
        refine R.reg rfl<|R.u 1 rfl<|?_
        by_cases h4:(aH dk).2=0
        ·
          refine R.q (q.hG rfl rfl Try.underlying28 (by omega)) rfl<|R.nil ?_
          refine R.aK rfl rfl ?_
          obtain ⟨x1,hx1⟩:∃z,(((aH dk).1).Now)[i.toNat]? = some z:=⟨_,List.getElem?_eq_getElem (by first|omega|(simp;omega))⟩
          refine R.eT (fuel:=9) (Wd w (blks [ah.box au [ao,ap,ak,.int .i64 dk.Fuse,.bool dk.Down] 81,ah.row 9 ao (dk.Kept:List ByteArray),ah.row 9 ap (dk.Now:List ByteArray),ah.row 83 ak (dk.Wait:List Turn)]++own) [ah.row 9 z1 (((aH dk).1).Kept:List ByteArray),ah.row 83 z3 (((aH dk).1).Wait:List Turn),ah.held w own] []) rfl mixed rfl ?_
          refine D.q (i:=0) rfl (by kernel_rfl) (fun _=>Wd.aA [1,3,4] [] rfl rfl rfl) rfl (q.mv rfl) rfl<|D.q (i:=1) rfl (by kernel_rfl) (fun _=>Wd.aA [1,3,4] [] rfl rfl rfl) rfl (q.bm rfl) rfl<|D.q (i:=2) rfl (by kernel_rfl) (fun _=>Wd.aA [1,3,4] [] rfl rfl rfl) rfl (q.bJ (off':=1) rfl dW rfl) rfl<|D.q (i:=4) rfl (by kernel_rfl) (fun _=>Wd.aA [1,3,4] [] rfl rfl rfl) rfl (q.mv rfl) rfl<|D.q (i:=5) rfl (by kernel_rfl) (fun _=>Wd.aA [1,3,4] [] rfl rfl rfl) rfl (q.mv rfl) rfl<|?_
          refine D.two (i:=3) (j:=6) (by kernel_rfl) rfl rfl ?_ ?_
          ·
            refine Do.s (s.c (Qt.a (q.ld 0 rfl rfl cG rfl)) rfl) (fun _=>(fun _=>Wd.aA [1,3,4] [] rfl rfl rfl)) rfl fun _=>?_
            refine D.one (i:=6) (by kernel_rfl) rfl ?_
            refine Do.s (s.c (q.call sQ rfl rfl (fun w hw=>(lL (sx) w  (by first|omega|assumption|(simp;done)|decide)))) rfl) (fun _=>(fun _=>Wd.aA [1,3,4] [] rfl rfl rfl)) rfl fun _=>?_
            refine D.one (i:=7) (by kernel_rfl) rfl ?_
            refine Do.s (s.c (Qt.a (q.idx (i:=i.toNat) (fun _=>Wd.row 2 rfl) rfl rfl du (by omega) hx1)) rfl) (fun _=>(fun _=>Wd.aA [1,3,4] [] rfl rfl rfl)) rfl fun _=>?_
            refine D.one (i:=8) (by kernel_rfl) rfl ?_
            refine Do.s (s.yp (z:=full sx) 2 _ rfl hx1 rfl rfl rfl rfl (.inr ⟨bB,rfl⟩) rfl) (fun _=>(fun _=>Wd.aA [1,3,4] [] rfl rfl rfl)) rfl fun _=>?_
            refine D.done (by kernel_rfl)<|?_
            obtain ⟨x2,hx2⟩:∃z,((((aH dk).1).Now).set i.toNat (full sx))[i.toNat]? = some z:=⟨_,List.getElem?_eq_getElem (by first|omega|(simp;omega))⟩
            refine R.eT (fuel:=19) (Wd w (blks [ah.box au [ao,ap,ak,.int .i64 dk.Fuse,.bool dk.Down] 81,ah.row 9 ao (dk.Kept:List ByteArray),ah.row 9 ap (dk.Now:List ByteArray),ah.row 83 ak (dk.Wait:List Turn)]++own) [ah.row 9 z1 (((aH dk).1).Kept:List ByteArray),ah.row 9 z2 (((((aH dk).1).Now).set i.toNat (full sx)):List ByteArray),ah.held w own] []) rfl mixed rfl ?_
            refine D.q (i:=0) rfl (by kernel_rfl) (fun _=>Wd.aA [1,2,4] [] rfl rfl rfl) rfl (q.mv rfl) rfl<|D.q (i:=1) rfl (by kernel_rfl) (fun _=>Wd.aA [1,2,4] [] rfl rfl rfl) rfl (q.mv rfl) rfl<|D.q (i:=2) rfl (by kernel_rfl) (fun _=>Wd.aA [1,2,4] [] rfl rfl rfl) rfl (q.bm rfl) rfl<|D.q (i:=3) rfl (by kernel_rfl) (fun _=>Wd.aA [1,2,4] [] rfl rfl rfl) rfl (q.bJ (off':=2) rfl cL rfl) rfl<|D.q (i:=5) rfl (by kernel_rfl) (fun _=>Wd.aA [1,2,4] [] rfl rfl rfl) rfl (q.mv rfl) rfl<|D.q (i:=6) rfl (by kernel_rfl) (fun _=>Wd.aA [1,2,4] [] rfl rfl rfl) rfl (q.mv rfl) rfl<|D.q (i:=7) rfl (by kernel_rfl) (fun _=>Wd.aA [1,2,4] [] rfl rfl rfl) rfl (q.bm rfl) rfl<|D.q (i:=8) rfl (by kernel_rfl) (fun _=>Wd.aA [1,2,4] [] rfl rfl rfl) rfl (q.bJ (off':=1) rfl dW rfl) rfl<|D.q (i:=10) rfl (by kernel_rfl) (fun _=>Wd.aA [1,2,4] [] rfl rfl rfl) rfl (q.mv rfl) rfl<|?_
            refine D.two (i:=4) (j:=9) (by kernel_rfl) rfl rfl ?_ ?_
            ·
              refine Do.s (s.c (Qt.a (q.ld 0 rfl rfl cZ rfl)) rfl) (fun _=>(fun _=>Wd.aA [1,2,4] [] rfl rfl rfl)) rfl fun _=>?_
              refine D.one (i:=9) (by kernel_rfl) rfl ?_
              refine Do.s (s.c (Qt.a (q.ld 0 rfl rfl cG rfl)) rfl) (fun _=>(fun _=>Wd.aA [1,2,4] [] rfl rfl rfl)) rfl fun _=>?_
              refine D.q (i:=11) rfl (by kernel_rfl) (fun _=>Wd.aA [1,2,4] [] rfl rfl rfl) rfl (q.idx (i:=i.toNat) (fun _=>Wd.row 1 rfl) rfl rfl du (by omega) hx2) rfl<|D.q (i:=12) rfl (by kernel_rfl) (fun _=>Wd.aA [1,2,4] [] rfl rfl rfl) rfl (q.iP (fun _=>Wd.row 1 rfl) hx2 rfl bB rfl) rfl<|D.q (i:=13) rfl (by kernel_rfl) (fun _=>Wd.aA [1,2,4] [] rfl rfl rfl) rfl (q.build (cs:=[.int .i64 i,.string x2]) qC rfl rfl) rfl<|?_
              refine D.one (i:=14) (by kernel_rfl) rfl ?_
              refine Do.s (s.bs (l:=([(⟨i,x2⟩:Turn)]:List Turn)) jE gv rfl rfl rfl rfl rfl rfl rfl) (fun _=>(fun _=>Wd.aA [2,3,5] [] rfl rfl rfl)) rfl fun b1=>?_
              refine D.one (i:=15) (by kernel_rfl) rfl ?_
              refine Do.s (s.app (l2:=[(⟨i,x2⟩:Turn)]) 4 _ rfl rfl rfl (fun _=>Wd.row 0 rfl) jl (by first|omega|(simp;omega)) (by first|omega|(simp;omega)) (fun _=>rfl) rfl) (fun _=>(fun _=>Wd.aA [2,3,5] [] rfl rfl rfl)) rfl fun v1=>?_
              refine D.q (i:=16) rfl (by kernel_rfl) (fun _=>Wd.aA [2,3,5] [] rfl rfl rfl) rfl (q.bm rfl) rfl<|D.q (i:=17) rfl (by kernel_rfl) (fun _=>Wd.aA [2,3,5] [] rfl rfl rfl) rfl (q.bJ (off':=2) rfl cL rfl) rfl<|?_
              refine D.one (i:=18) (by kernel_rfl) rfl ?_
              refine Do.s (s.su (us:=[v1]) (cs':=[z1,z2,v1,.int .i64 (((aH dk).1).Fuse),.bool (((aH dk).1).Down)]) 1 _ rfl rfl rfl (fun w hw=>Sl.eu ((fun _=>Wd.row 4 rfl) w hw)) (.inr ⟨cZ,rfl⟩) (fun w hw=>(dA (Sl.one ((fun _=>Wd.row 4 rfl) w hw)) eh)) rfl rfl rfl) (fun _=>(fun _=>Wd.aA [2,3,5] [] rfl rfl rfl)) rfl fun _=>?_
              refine D.done (by kernel_rfl)<|?_
              refine R.reg rfl<|R.u 2 rfl<|R.nil ?_
              have hz:ar dk i sx=((⟨((aH dk).1).Kept,((((aH dk).1).Now).set i.toNat (full sx)),((((aH dk).1).Wait)++([(⟨i,x2⟩:Turn)])),((aH dk).1).Fuse,((aH dk).1).Down⟩:bp),(aH dk).2):=by (first|exact cE (by omega)|exact cT (by omega) (by omega) (by omega) (by assumption)|(rw [bG (by omega) (by omega) (by omega) (by assumption)];first|done|rfl)|(rw [bG (by omega) (by omega) (by omega) (by assumption)];simp_all;done))
              rw [hz]
              exact R.w1 (z1,z2,v1) [1,2,3,4,5] [] rfl Try.results10 (RV.tmp rfl) rfl rfl rfl rfl
            ·
              refine Do.s (s.c (Qt.a (q.ld 0 rfl rfl cG rfl)) rfl) (fun _=>(fun _=>Wd.aA [1,2,4] [] rfl rfl rfl)) rfl fun _=>?_
              refine D.q (i:=11) rfl (by kernel_rfl) (fun _=>Wd.aA [1,2,4] [] rfl rfl rfl) rfl (q.idx (i:=i.toNat) (fun _=>Wd.row 1 rfl) rfl rfl du (by omega) hx2) rfl<|D.q (i:=12) rfl (by kernel_rfl) (fun _=>Wd.aA [1,2,4] [] rfl rfl rfl) rfl (q.iP (fun _=>Wd.row 1 rfl) hx2 rfl bB rfl) rfl<|D.q (i:=13) rfl (by kernel_rfl) (fun _=>Wd.aA [1,2,4] [] rfl rfl rfl) rfl (q.build (cs:=[.int .i64 i,.string x2]) qC rfl rfl) rfl<|?_
              refine D.two (i:=4) (j:=14) (by kernel_rfl) rfl rfl ?_ ?_
              ·
                refine Do.s (s.c (Qt.a (q.ld 0 rfl rfl cZ rfl)) rfl) (fun _=>(fun _=>Wd.aA [1,2,4] [] rfl rfl rfl)) rfl fun _=>?_
                refine D.one (i:=14) (by kernel_rfl) rfl ?_
                refine Do.s (s.bs (l:=([(⟨i,x2⟩:Turn)]:List Turn)) jE gv rfl rfl rfl rfl rfl rfl rfl) (fun _=>(fun _=>Wd.aA [2,3,5] [] rfl rfl rfl)) rfl fun b2=>?_
                refine D.one (i:=15) (by kernel_rfl) rfl ?_
                refine Do.s (s.app (l2:=[(⟨i,x2⟩:Turn)]) 4 _ rfl rfl rfl (fun _=>Wd.row 0 rfl) jl (by first|omega|(simp;omega)) (by first|omega|(simp;omega)) (fun _=>rfl) rfl) (fun _=>(fun _=>Wd.aA [2,3,5] [] rfl rfl rfl)) rfl fun v2=>?_
                refine D.q (i:=16) rfl (by kernel_rfl) (fun _=>Wd.aA [2,3,5] [] rfl rfl rfl) rfl (q.bm rfl) rfl<|D.q (i:=17) rfl (by kernel_rfl) (fun _=>Wd.aA [2,3,5] [] rfl rfl rfl) rfl (q.bJ (off':=2) rfl cL rfl) rfl<|?_
                refine D.one (i:=18) (by kernel_rfl) rfl ?_
                refine Do.s (s.su (us:=[v2]) (cs':=[z1,z2,v2,.int .i64 (((aH dk).1).Fuse),.bool (((aH dk).1).Down)]) 1 _ rfl rfl rfl (fun w hw=>Sl.eu ((fun _=>Wd.row 4 rfl) w hw)) (.inr ⟨cZ,rfl⟩) (fun w hw=>(dA (Sl.one ((fun _=>Wd.row 4 rfl) w hw)) eh)) rfl rfl rfl) (fun _=>(fun _=>Wd.aA [2,3,5] [] rfl rfl rfl)) rfl fun _=>?_
                refine D.done (by kernel_rfl)<|?_
                refine R.reg rfl<|R.u 2 rfl<|R.nil ?_
                have hz:ar dk i sx=((⟨((aH dk).1).Kept,((((aH dk).1).Now).set i.toNat (full sx)),((((aH dk).1).Wait)++([(⟨i,x2⟩:Turn)])),((aH dk).1).Fuse,((aH dk).1).Down⟩:bp),(aH dk).2):=by (first|exact cE (by omega)|exact cT (by omega) (by omega) (by omega) (by assumption)|(rw [bG (by omega) (by omega) (by omega) (by assumption)];first|done|rfl)|(rw [bG (by omega) (by omega) (by omega) (by assumption)];simp_all;done))
                rw [hz]
                exact R.w1 (z1,z2,v2) [1,2,3,4,5] [] rfl Try.results10 (RV.tmp rfl) rfl rfl rfl rfl
              ·
                refine Do.s (s.bs (l:=([(⟨i,x2⟩:Turn)]:List Turn)) jE gv rfl rfl rfl rfl rfl rfl rfl) (fun _=>(fun _=>Wd.aA [2,3,5] [] rfl rfl rfl)) rfl fun b3=>?_
                refine D.one (i:=4) (by kernel_rfl) rfl ?_
                refine Do.s (s.c (Qt.a (q.ld 1 rfl rfl cZ rfl)) rfl) (fun _=>(fun _=>Wd.aA [2,3,5] [] rfl rfl rfl)) rfl fun _=>?_
                refine D.one (i:=15) (by kernel_rfl) rfl ?_
                refine Do.s (s.app (l2:=[(⟨i,x2⟩:Turn)]) 4 _ rfl rfl rfl (fun _=>Wd.row 0 rfl) jl (by first|omega|(simp;omega)) (by first|omega|(simp;omega)) (fun _=>rfl) rfl) (fun _=>(fun _=>Wd.aA [2,3,5] [] rfl rfl rfl)) rfl fun v3=>?_
                refine D.q (i:=16) rfl (by kernel_rfl) (fun _=>Wd.aA [2,3,5] [] rfl rfl rfl) rfl (q.bm rfl) rfl<|D.q (i:=17) rfl (by kernel_rfl) (fun _=>Wd.aA [2,3,5] [] rfl rfl rfl) rfl (q.bJ (off':=2) rfl cL rfl) rfl<|?_
                refine D.one (i:=18) (by kernel_rfl) rfl ?_
                refine Do.s (s.su (us:=[v3]) (cs':=[z1,z2,v3,.int .i64 (((aH dk).1).Fuse),.bool (((aH dk).1).Down)]) 1 _ rfl rfl rfl (fun w hw=>Sl.eu ((fun _=>Wd.row 4 rfl) w hw)) (.inr ⟨cZ,rfl⟩) (fun w hw=>(dA (Sl.one ((fun _=>Wd.row 4 rfl) w hw)) eh)) rfl rfl rfl) (fun _=>(fun _=>Wd.aA [2,3,5] [] rfl rfl rfl)) rfl fun _=>?_
                refine D.done (by kernel_rfl)<|?_
                refine R.reg rfl<|R.u 2 rfl<|R.nil ?_
                have hz:ar dk i sx=((⟨((aH dk).1).Kept,((((aH dk).1).Now).set i.toNat (full sx)),((((aH dk).1).Wait)++([(⟨i,x2⟩:Turn)])),((aH dk).1).Fuse,((aH dk).1).Down⟩:bp),(aH dk).2):=by (first|exact cE (by omega)|exact cT (by omega) (by omega) (by omega) (by assumption)|(rw [bG (by omega) (by omega) (by omega) (by assumption)];first|done|rfl)|(rw [bG (by omega) (by omega) (by omega) (by assumption)];simp_all;done))
                rw [hz]
                exact R.w1 (z1,z2,v3) [1,2,3,4,5] [] rfl Try.results10 (RV.tmp rfl) rfl rfl rfl rfl
          ·
            refine Do.s (s.c (q.call sQ rfl rfl (fun w hw=>(lL (sx) w  (by first|omega|assumption|(simp;done)|decide)))) rfl) (fun _=>(fun _=>Wd.aA [1,3,4] [] rfl rfl rfl)) rfl fun _=>?_
            refine D.one (i:=3) (by kernel_rfl) rfl ?_
            refine Do.s (s.c (Qt.a (q.ld 0 rfl rfl cG rfl)) rfl) (fun _=>(fun _=>Wd.aA [1,3,4] [] rfl rfl rfl)) rfl fun _=>?_
            refine D.one (i:=7) (by kernel_rfl) rfl ?_
            refine Do.s (s.c (Qt.a (q.idx (i:=i.toNat) (fun _=>Wd.row 2 rfl) rfl rfl du (by omega) hx1)) rfl) (fun _=>(fun _=>Wd.aA [1,3,4] [] rfl rfl rfl)) rfl fun _=>?_
            refine D.one (i:=8) (by kernel_rfl) rfl ?_
            refine Do.s (s.yp (z:=full sx) 2 _ rfl hx1 rfl rfl rfl rfl (.inr ⟨bB,rfl⟩) rfl) (fun _=>(fun _=>Wd.aA [1,3,4] [] rfl rfl rfl)) rfl fun _=>?_
            refine D.done (by kernel_rfl)<|?_
            obtain ⟨x3,hx3⟩:∃z,((((aH dk).1).Now).set i.toNat (full sx))[i.toNat]? = some z:=⟨_,List.getElem?_eq_getElem (by first|omega|(simp;omega))⟩
            refine R.eT (fuel:=19) (Wd w (blks [ah.box au [ao,ap,ak,.int .i64 dk.Fuse,.bool dk.Down] 81,ah.row 9 ao (dk.Kept:List ByteArray),ah.row 9 ap (dk.Now:List ByteArray),ah.row 83 ak (dk.Wait:List Turn)]++own) [ah.row 9 z1 (((aH dk).1).Kept:List ByteArray),ah.row 9 z2 (((((aH dk).1).Now).set i.toNat (full sx)):List ByteArray),ah.held w own] []) rfl mixed rfl ?_
            refine D.q (i:=0) rfl (by kernel_rfl) (fun _=>Wd.aA [1,2,4] [] rfl rfl rfl) rfl (q.mv rfl) rfl<|D.q (i:=1) rfl (by kernel_rfl) (fun _=>Wd.aA [1,2,4] [] rfl rfl rfl) rfl (q.mv rfl) rfl<|D.q (i:=2) rfl (by kernel_rfl) (fun _=>Wd.aA [1,2,4] [] rfl rfl rfl) rfl (q.bm rfl) rfl<|D.q (i:=3) rfl (by kernel_rfl) (fun _=>Wd.aA [1,2,4] [] rfl rfl rfl) rfl (q.bJ (off':=2) rfl cL rfl) rfl<|D.q (i:=5) rfl (by kernel_rfl) (fun _=>Wd.aA [1,2,4] [] rfl rfl rfl) rfl (q.mv rfl) rfl<|D.q (i:=6) rfl (by kernel_rfl) (fun _=>Wd.aA [1,2,4] [] rfl rfl rfl) rfl (q.mv rfl) rfl<|D.q (i:=7) rfl (by kernel_rfl) (fun _=>Wd.aA [1,2,4] [] rfl rfl rfl) rfl (q.bm rfl) rfl<|D.q (i:=8) rfl (by kernel_rfl) (fun _=>Wd.aA [1,2,4] [] rfl rfl rfl) rfl (q.bJ (off':=1) rfl dW rfl) rfl<|D.q (i:=10) rfl (by kernel_rfl) (fun _=>Wd.aA [1,2,4] [] rfl rfl rfl) rfl (q.mv rfl) rfl<|?_
            refine D.two (i:=4) (j:=9) (by kernel_rfl) rfl rfl ?_ ?_
            ·
              refine Do.s (s.c (Qt.a (q.ld 0 rfl rfl cZ rfl)) rfl) (fun _=>(fun _=>Wd.aA [1,2,4] [] rfl rfl rfl)) rfl fun _=>?_
              refine D.one (i:=9) (by kernel_rfl) rfl ?_
              refine Do.s (s.c (Qt.a (q.ld 0 rfl rfl cG rfl)) rfl) (fun _=>(fun _=>Wd.aA [1,2,4] [] rfl rfl rfl)) rfl fun _=>?_
              refine D.q (i:=11) rfl (by kernel_rfl) (fun _=>Wd.aA [1,2,4] [] rfl rfl rfl) rfl (q.idx (i:=i.toNat) (fun _=>Wd.row 1 rfl) rfl rfl du (by omega) hx3) rfl<|D.q (i:=12) rfl (by kernel_rfl) (fun _=>Wd.aA [1,2,4] [] rfl rfl rfl) rfl (q.iP (fun _=>Wd.row 1 rfl) hx3 rfl bB rfl) rfl<|D.q (i:=13) rfl (by kernel_rfl) (fun _=>Wd.aA [1,2,4] [] rfl rfl rfl) rfl (q.build (cs:=[.int .i64 i,.string x3]) qC rfl rfl) rfl<|?_
              refine D.one (i:=14) (by kernel_rfl) rfl ?_
              refine Do.s (s.bs (l:=([(⟨i,x3⟩:Turn)]:List Turn)) jE gv rfl rfl rfl rfl rfl rfl rfl) (fun _=>(fun _=>Wd.aA [2,3,5] [] rfl rfl rfl)) rfl fun b4=>?_
              refine D.one (i:=15) (by kernel_rfl) rfl ?_
              refine Do.s (s.app (l2:=[(⟨i,x3⟩:Turn)]) 4 _ rfl rfl rfl (fun _=>Wd.row 0 rfl) jl (by first|omega|(simp;omega)) (by first|omega|(simp;omega)) (fun _=>rfl) rfl) (fun _=>(fun _=>Wd.aA [2,3,5] [] rfl rfl rfl)) rfl fun v4=>?_
              refine D.q (i:=16) rfl (by kernel_rfl) (fun _=>Wd.aA [2,3,5] [] rfl rfl rfl) rfl (q.bm rfl) rfl<|D.q (i:=17) rfl (by kernel_rfl) (fun _=>Wd.aA [2,3,5] [] rfl rfl rfl) rfl (q.bJ (off':=2) rfl cL rfl) rfl<|?_
              refine D.one (i:=18) (by kernel_rfl) rfl ?_
              refine Do.s (s.su (us:=[v4]) (cs':=[z1,z2,v4,.int .i64 (((aH dk).1).Fuse),.bool (((aH dk).1).Down)]) 1 _ rfl rfl rfl (fun w hw=>Sl.eu ((fun _=>Wd.row 4 rfl) w hw)) (.inr ⟨cZ,rfl⟩) (fun w hw=>(dA (Sl.one ((fun _=>Wd.row 4 rfl) w hw)) eh)) rfl rfl rfl) (fun _=>(fun _=>Wd.aA [2,3,5] [] rfl rfl rfl)) rfl fun _=>?_
              refine D.done (by kernel_rfl)<|?_
              refine R.reg rfl<|R.u 2 rfl<|R.nil ?_
              have hz:ar dk i sx=((⟨((aH dk).1).Kept,((((aH dk).1).Now).set i.toNat (full sx)),((((aH dk).1).Wait)++([(⟨i,x3⟩:Turn)])),((aH dk).1).Fuse,((aH dk).1).Down⟩:bp),(aH dk).2):=by (first|exact cE (by omega)|exact cT (by omega) (by omega) (by omega) (by assumption)|(rw [bG (by omega) (by omega) (by omega) (by assumption)];first|done|rfl)|(rw [bG (by omega) (by omega) (by omega) (by assumption)];simp_all;done))
              rw [hz]
              exact R.w1 (z1,z2,v4) [1,2,3,4,5] [] rfl Try.results10 (RV.tmp rfl) rfl rfl rfl rfl
            ·
              refine Do.s (s.c (Qt.a (q.ld 0 rfl rfl cG rfl)) rfl) (fun _=>(fun _=>Wd.aA [1,2,4] [] rfl rfl rfl)) rfl fun _=>?_
              refine D.q (i:=11) rfl (by kernel_rfl) (fun _=>Wd.aA [1,2,4] [] rfl rfl rfl) rfl (q.idx (i:=i.toNat) (fun _=>Wd.row 1 rfl) rfl rfl du (by omega) hx3) rfl<|D.q (i:=12) rfl (by kernel_rfl) (fun _=>Wd.aA [1,2,4] [] rfl rfl rfl) rfl (q.iP (fun _=>Wd.row 1 rfl) hx3 rfl bB rfl) rfl<|D.q (i:=13) rfl (by kernel_rfl) (fun _=>Wd.aA [1,2,4] [] rfl rfl rfl) rfl (q.build (cs:=[.int .i64 i,.string x3]) qC rfl rfl) rfl<|?_
              refine D.two (i:=4) (j:=14) (by kernel_rfl) rfl rfl ?_ ?_
              ·
                refine Do.s (s.c (Qt.a (q.ld 0 rfl rfl cZ rfl)) rfl) (fun _=>(fun _=>Wd.aA [1,2,4] [] rfl rfl rfl)) rfl fun _=>?_
                refine D.one (i:=14) (by kernel_rfl) rfl ?_
                refine Do.s (s.bs (l:=([(⟨i,x3⟩:Turn)]:List Turn)) jE gv rfl rfl rfl rfl rfl rfl rfl) (fun _=>(fun _=>Wd.aA [2,3,5] [] rfl rfl rfl)) rfl fun b5=>?_
                refine D.one (i:=15) (by kernel_rfl) rfl ?_
                refine Do.s (s.app (l2:=[(⟨i,x3⟩:Turn)]) 4 _ rfl rfl rfl (fun _=>Wd.row 0 rfl) jl (by first|omega|(simp;omega)) (by first|omega|(simp;omega)) (fun _=>rfl) rfl) (fun _=>(fun _=>Wd.aA [2,3,5] [] rfl rfl rfl)) rfl fun v5=>?_
                refine D.q (i:=16) rfl (by kernel_rfl) (fun _=>Wd.aA [2,3,5] [] rfl rfl rfl) rfl (q.bm rfl) rfl<|D.q (i:=17) rfl (by kernel_rfl) (fun _=>Wd.aA [2,3,5] [] rfl rfl rfl) rfl (q.bJ (off':=2) rfl cL rfl) rfl<|?_
                refine D.one (i:=18) (by kernel_rfl) rfl ?_
                refine Do.s (s.su (us:=[v5]) (cs':=[z1,z2,v5,.int .i64 (((aH dk).1).Fuse),.bool (((aH dk).1).Down)]) 1 _ rfl rfl rfl (fun w hw=>Sl.eu ((fun _=>Wd.row 4 rfl) w hw)) (.inr ⟨cZ,rfl⟩) (fun w hw=>(dA (Sl.one ((fun _=>Wd.row 4 rfl) w hw)) eh)) rfl rfl rfl) (fun _=>(fun _=>Wd.aA [2,3,5] [] rfl rfl rfl)) rfl fun _=>?_
                refine D.done (by kernel_rfl)<|?_
                refine R.reg rfl<|R.u 2 rfl<|R.nil ?_
                have hz:ar dk i sx=((⟨((aH dk).1).Kept,((((aH dk).1).Now).set i.toNat (full sx)),((((aH dk).1).Wait)++([(⟨i,x3⟩:Turn)])),((aH dk).1).Fuse,((aH dk).1).Down⟩:bp),(aH dk).2):=by (first|exact cE (by omega)|exact cT (by omega) (by omega) (by omega) (by assumption)|(rw [bG (by omega) (by omega) (by omega) (by assumption)];first|done|rfl)|(rw [bG (by omega) (by omega) (by omega) (by assumption)];simp_all;done))
                rw [hz]
                exact R.w1 (z1,z2,v5) [1,2,3,4,5] [] rfl Try.results10 (RV.tmp rfl) rfl rfl rfl rfl
              ·
                refine Do.s (s.bs (l:=([(⟨i,x3⟩:Turn)]:List Turn)) jE gv rfl rfl rfl rfl rfl rfl rfl) (fun _=>(fun _=>Wd.aA [2,3,5] [] rfl rfl rfl)) rfl fun b6=>?_
                refine D.one (i:=4) (by kernel_rfl) rfl ?_
                refine Do.s (s.c (Qt.a (q.ld 1 rfl rfl cZ rfl)) rfl) (fun _=>(fun _=>Wd.aA [2,3,5] [] rfl rfl rfl)) rfl fun _=>?_
                refine D.one (i:=15) (by kernel_rfl) rfl ?_
                refine Do.s (s.app (l2:=[(⟨i,x3⟩:Turn)]) 4 _ rfl rfl rfl (fun _=>Wd.row 0 rfl) jl (by first|omega|(simp;omega)) (by first|omega|(simp;omega)) (fun _=>rfl) rfl) (fun _=>(fun _=>Wd.aA [2,3,5] [] rfl rfl rfl)) rfl fun v6=>?_
                refine D.q (i:=16) rfl (by kernel_rfl) (fun _=>Wd.aA [2,3,5] [] rfl rfl rfl) rfl (q.bm rfl) rfl<|D.q (i:=17) rfl (by kernel_rfl) (fun _=>Wd.aA [2,3,5] [] rfl rfl rfl) rfl (q.bJ (off':=2) rfl cL rfl) rfl<|?_
                refine D.one (i:=18) (by kernel_rfl) rfl ?_
                refine Do.s (s.su (us:=[v6]) (cs':=[z1,z2,v6,.int .i64 (((aH dk).1).Fuse),.bool (((aH dk).1).Down)]) 1 _ rfl rfl rfl (fun w hw=>Sl.eu ((fun _=>Wd.row 4 rfl) w hw)) (.inr ⟨cZ,rfl⟩) (fun w hw=>(dA (Sl.one ((fun _=>Wd.row 4 rfl) w hw)) eh)) rfl rfl rfl) (fun _=>(fun _=>Wd.aA [2,3,5] [] rfl rfl rfl)) rfl fun _=>?_
                refine D.done (by kernel_rfl)<|?_
                refine R.reg rfl<|R.u 2 rfl<|R.nil ?_
                have hz:ar dk i sx=((⟨((aH dk).1).Kept,((((aH dk).1).Now).set i.toNat (full sx)),((((aH dk).1).Wait)++([(⟨i,x3⟩:Turn)])),((aH dk).1).Fuse,((aH dk).1).Down⟩:bp),(aH dk).2):=by (first|exact cE (by omega)|exact cT (by omega) (by omega) (by omega) (by assumption)|(rw [bG (by omega) (by omega) (by omega) (by assumption)];first|done|rfl)|(rw [bG (by omega) (by omega) (by omega) (by assumption)];simp_all;done))
                rw [hz]
                exact R.w1 (z1,z2,v6) [1,2,3,4,5] [] rfl Try.results10 (RV.tmp rfl) rfl rfl rfl rfl
        ·
          refine R.q (q.eF rfl rfl Try.underlying28 (by omega)) rfl<|R.nil ?_
          refine R.aI rfl rfl ?_
          refine R.reg rfl<|R.u 2 rfl<|R.nil ?_
          have hz:ar dk i sx=(((aH dk).1),(aH dk).2):=by (first|exact cE (by omega)|exact cT (by omega) (by omega) (by omega) (by assumption)|(rw [bG (by omega) (by omega) (by omega) (by assumption)];first|done|rfl)|(rw [bG (by omega) (by omega) (by omega) (by assumption)];simp_all;done))
          rw [hz]
          exact R.w1 (z1,z2,z3) [0,1,2,3,4] [] rfl Try.results10 (RV.tmp rfl) rfl rfl rfl rfl
    ·
      refine R.qg rfl (q.geq rfl rfl (decide_eq_true (by omega))) rfl<|R.u 6 rfl<|R.nil ?_
      refine R.aK rfl rfl ?_
      refine R.reg rfl<|R.q (q.iface rfl cD) rfl<|R.u 1 rfl<|R.nil ?_
      have hz:ar dk i sx=(dk,1):=by (first|exact cE (by omega)|exact cT (by omega) (by omega) (by omega) (by assumption)|(rw [bG (by omega) (by omega) (by omega) (by assumption)];first|done|rfl)|(rw [bG (by omega) (by omega) (by omega) (by assumption)];simp_all;done))
      rw [hz]
      exact R.w1 (ao,ap,ak) [0,1,2,3,4] [] rfl Try.results10 (RV.tmp rfl) rfl rfl rfl (fO (by decide) rfl)
theorem ff (au:Nat)(ao ap ak:Value)(dk:bp)(w:World)(own:List Nat)(H:Wd w (blks [ah.box au [ao,ap,ak,.int .i64 dk.Fuse,.bool dk.Down] 81,ah.row 9 ao (dk.Kept:List ByteArray),ah.row 9 ap (dk.Now:List ByteArray),ah.row 83 ak (dk.Wait:List Turn)]++own) ([ah.box au [ao,ap,ak,.int .i64 dk.Fuse,.bool dk.Down] 81,ah.row 9 ao (dk.Kept:List ByteArray),ah.row 9 ap (dk.Now:List ByteArray),ah.row 83 ak (dk.Wait:List Turn)]++[ah.held w own]) [] w)(hd:dk.Kept.length=dk.Now.length∧dk.Now.length≤100000∧dk.Wait.length≤100000 ∧ -1≤dk.Fuse∧dk.Fuse≤9223372036854775807):Calls Try.prog 51 #[.pointer (some ⟨au,0,none⟩)] w fun e w' => ∃z:Value×Value×Value,e = .returned (bF (((aj dk)).2))∧Wd w (blks [ah.box au [ao,ap,ak,.int .i64 dk.Fuse,.bool dk.Down] 81,ah.row 9 ao (dk.Kept:List ByteArray),ah.row 9 ap (dk.Now:List ByteArray),ah.row 83 ak (dk.Wait:List Turn)]++own) ([ah.box au [z.1,z.2.1,z.2.2,.int .i64 ((((aj dk)).1).Fuse),.bool ((((aj dk)).1).Down)] 81,ah.row 9 z.1 ((((aj dk)).1).Kept:List ByteArray),ah.row 9 z.2.1 ((((aj dk)).1).Now:List ByteArray),ah.row 83 z.2.2 ((((aj dk)).1).Wait:List Turn)]++[ah.held w own]) [] w':=by
  have cM:=H.cap 1 rfl;have cN:=H.aU 1 rfl
  have dv:=H.cap 2 rfl;have dw:=H.aU 2 rfl
  have cO:=H.cap 3 rfl;have cQ:=H.aU 3 rfl
  have hsl:=gM dk;have hs1:=congrArg List.length hsl.1;have hs2:=congrArg List.length hsl.2.1;have hs3:=congrArg List.length hsl.2.2
  refine R.bW (n:=21) (vs:=[.pointer (some ⟨au,0,none⟩)]) (B:=[ah.box au [ao,ap,ak,.int .i64 dk.Fuse,.bool dk.Down] 81,ah.row 9 ao (dk.Kept:List ByteArray),ah.row 9 ap (dk.Now:List ByteArray),ah.row 83 ak (dk.Wait:List Turn),ah.held w own]) [(0,.pointer (some ⟨au,0,none⟩))] Try.func51 rfl rfl rfl rfl H ?_
  refine R.reg rfl<|R.u 1 rfl<|R.nil ?_
  refine R.reg rfl<|R.u 1 rfl<|?_
  refine R.s (B':=(fun g_:Value×Value×Value=>[ah.box au [g_.1,g_.2.1,g_.2.2,.int .i64 ((((aH dk)).1).Fuse),.bool ((((aH dk)).1).Down)] 81,ah.row 9 g_.1 ((((aH dk)).1).Kept:List ByteArray),ah.row 9 g_.2.1 ((((aH dk)).1).Now:List ByteArray),ah.row 83 g_.2.2 ((((aH dk)).1).Wait:List Turn),ah.held w own])) (F':=(fun g_:Value×Value×Value=>[])) rfl (s.bD (B0:=[ah.box au [ao,ap,ak,.int .i64 dk.Fuse,.bool dk.Down] 81,ah.row 9 ao (dk.Kept:List ByteArray),ah.row 9 ap (dk.Now:List ByteArray),ah.row 83 ak (dk.Wait:List Turn)]) (Br:=[ah.held w own]) (F0:=[]) [0,1,2,3,4] [] (fun g_:Value×Value×Value=>bF (((aH dk)).2)) (fun g_:Value×Value×Value=>[ah.box au [g_.1,g_.2.1,g_.2.2,.int .i64 ((((aH dk)).1).Fuse),.bool ((((aH dk)).1).Down)] 81,ah.row 9 g_.1 ((((aH dk)).1).Kept:List ByteArray),ah.row 9 g_.2.1 ((((aH dk)).1).Now:List ByteArray),ah.row 83 g_.2.2 ((((aH dk)).1).Wait:List Turn)]) (fun g_:Value×Value×Value=>[]) rfl rfl rfl vv rfl rfl (fun w own hw H=>m8 au ao ap ak (dk) w own H (by first|assumption|omega)) rfl) ?_
  rintro ⟨z1,z2,z3⟩
  dsimp only
  refine R.u 1 rfl<|R.nil ?_
  refine R.reg rfl<|R.u 1 rfl<|?_
  by_cases h1:(aH dk).2=0
  ·
    refine R.q (q.hG rfl rfl Try.underlying28 (by omega)) rfl<|R.nil ?_
    refine R.aK rfl rfl ?_
    refine R.eT (fuel:=9) (Wd w (blks [ah.box au [ao,ap,ak,.int .i64 dk.Fuse,.bool dk.Down] 81,ah.row 9 ao (dk.Kept:List ByteArray),ah.row 9 ap (dk.Now:List ByteArray),ah.row 83 ak (dk.Wait:List Turn)]++own) [ah.row 9 z2 (((aH dk).1).Now:List ByteArray),ah.row 83 z3 (((aH dk).1).Wait:List Turn),ah.held w own] []) rfl mixed rfl ?_
    refine D.q (i:=0) rfl (by kernel_rfl) (fun _=>Wd.aA [2,3,4] [] rfl rfl rfl) rfl (q.mv rfl) rfl<|D.q (i:=1) rfl (by kernel_rfl) (fun _=>Wd.aA [2,3,4] [] rfl rfl rfl) rfl (q.bm rfl) rfl<|D.q (i:=2) rfl (by kernel_rfl) (fun _=>Wd.aA [2,3,4] [] rfl rfl rfl) rfl (q.bJ (off':=0) rfl ko rfl) rfl<|D.q (i:=4) rfl (by kernel_rfl) (fun _=>Wd.aA [2,3,4] [] rfl rfl rfl) rfl (q.mv rfl) rfl<|D.q (i:=5) rfl (by kernel_rfl) (fun _=>Wd.aA [2,3,4] [] rfl rfl rfl) rfl (q.bm rfl) rfl<|D.q (i:=6) rfl (by kernel_rfl) (fun _=>Wd.aA [2,3,4] [] rfl rfl rfl) rfl (q.bJ (off':=1) rfl dW rfl) rfl<|?_
    refine D.two (i:=3) (j:=7) (by kernel_rfl) rfl rfl ?_ ?_
    ·
      refine Do.s (s.c (Qt.a (q.ld 0 rfl rfl cG rfl)) rfl) (fun _=>(fun _=>Wd.aA [2,3,4] [] rfl rfl rfl)) rfl fun _=>?_
      refine D.one (i:=7) (by kernel_rfl) rfl ?_
      refine Do.s (s.c (Qt.a (q.ld 0 rfl rfl cG rfl)) rfl) (fun _=>(fun _=>Wd.aA [2,3,4] [] rfl rfl rfl)) rfl fun _=>?_
      refine D.one (i:=8) (by kernel_rfl) rfl ?_
      refine Do.s (s.copy (l2:=((aH dk).1).Now) 1 _ rfl (fun _=>Wd.row 2 rfl) rfl rfl rfl du (by first|omega|assumption|(simp;omega)) rfl rfl) (fun _=>(fun _=>Wd.aA [2,3,4] [] rfl rfl rfl)) rfl fun _=>?_
      refine D.done (by kernel_rfl)<|?_
      refine R.reg rfl<|R.u 1 rfl<|R.q (q.bm rfl) rfl<|R.q (q.bJ (off':=2) rfl cL rfl) rfl<|?_
      refine R.s rfl (s.st (us:=[.slice none 0 0]) (cs':=[z1,z2,.slice none 0 0,.int .i64 (((aH dk).1).Fuse),.bool (((aH dk).1).Down)]) 0 _ rfl rfl rfl rfl (.inr ⟨cZ,rfl⟩) rfl rfl rfl rfl) fun _=>?_
      refine R.nil ?_
      refine R.reg rfl<|R.u 2 rfl<|R.nil ?_
      refine R.row0 (α:=Turn) 83 ?_
      have hz:aj dk=((⟨((aH dk).1).Now,((aH dk).1).Now,[],((aH dk).1).Fuse,((aH dk).1).Down⟩:bp),(aH dk).2):=by (unfold aj;first|(rw [if_pos (by assumption)];first|done|rfl|simp_all)|(rw [if_neg (by assumption)];first|done|rfl))
      rw [hz]
      exact R.w1 (z1,z2,(.slice none 0 0)) [1,2,3,0,5] [] rfl Try.results51 (RV.tmp rfl) rfl rfl rfl rfl
    ·
      refine Do.s (s.c (Qt.a (q.ld 0 rfl rfl cG rfl)) rfl) (fun _=>(fun _=>Wd.aA [2,3,4] [] rfl rfl rfl)) rfl fun _=>?_
      refine D.one (i:=3) (by kernel_rfl) rfl ?_
      refine Do.s (s.c (Qt.a (q.ld 0 rfl rfl cG rfl)) rfl) (fun _=>(fun _=>Wd.aA [2,3,4] [] rfl rfl rfl)) rfl fun _=>?_
      refine D.one (i:=8) (by kernel_rfl) rfl ?_
      refine Do.s (s.copy (l2:=((aH dk).1).Now) 1 _ rfl (fun _=>Wd.row 2 rfl) rfl rfl rfl du (by first|omega|assumption|(simp;omega)) rfl rfl) (fun _=>(fun _=>Wd.aA [2,3,4] [] rfl rfl rfl)) rfl fun _=>?_
      refine D.done (by kernel_rfl)<|?_
      refine R.reg rfl<|R.u 1 rfl<|R.q (q.bm rfl) rfl<|R.q (q.bJ (off':=2) rfl cL rfl) rfl<|?_
      refine R.s rfl (s.st (us:=[.slice none 0 0]) (cs':=[z1,z2,.slice none 0 0,.int .i64 (((aH dk).1).Fuse),.bool (((aH dk).1).Down)]) 0 _ rfl rfl rfl rfl (.inr ⟨cZ,rfl⟩) rfl rfl rfl rfl) fun _=>?_
      refine R.nil ?_
      refine R.reg rfl<|R.u 2 rfl<|R.nil ?_
      refine R.row0 (α:=Turn) 83 ?_
      have hz:aj dk=((⟨((aH dk).1).Now,((aH dk).1).Now,[],((aH dk).1).Fuse,((aH dk).1).Down⟩:bp),(aH dk).2):=by (unfold aj;first|(rw [if_pos (by assumption)];first|done|rfl|simp_all)|(rw [if_neg (by assumption)];first|done|rfl))
      rw [hz]
      exact R.w1 (z1,z2,(.slice none 0 0)) [1,2,3,0,5] [] rfl Try.results51 (RV.tmp rfl) rfl rfl rfl rfl
  ·
    refine R.q (q.eF rfl rfl Try.underlying28 (by omega)) rfl<|R.nil ?_
    refine R.aI rfl rfl ?_
    refine R.reg rfl<|R.u 2 rfl<|R.nil ?_
    have hz:aj dk=(((aH dk).1),(aH dk).2):=by (unfold aj;first|(rw [if_pos (by assumption)];first|done|rfl|simp_all)|(rw [if_neg (by assumption)];first|done|rfl))
    rw [hz]
    exact R.w1 (z1,z2,z3) [0,1,2,3,4] [] rfl Try.results51 (RV.tmp rfl) rfl rfl rfl rfl
theorem sU (au:Nat)(ao ap ak:Value)(dk:bp)(n:Int)(w:World)(own:List Nat)(H:Wd w (blks [ah.box au [ao,ap,ak,.int .i64 dk.Fuse,.bool dk.Down] 81,ah.row 9 ao (dk.Kept:List ByteArray),ah.row 9 ap (dk.Now:List ByteArray),ah.row 83 ak (dk.Wait:List Turn)]++own) ([ah.box au [ao,ap,ak,.int .i64 dk.Fuse,.bool dk.Down] 81,ah.row 9 ao (dk.Kept:List ByteArray),ah.row 9 ap (dk.Now:List ByteArray),ah.row 83 ak (dk.Wait:List Turn)]++[ah.held w own]) [] w)  : Calls Try.prog 31 #[.pointer (some ⟨au,0,none⟩),.int .i64 n] w fun e w' => ∃z:Value×Value×Value,e = .returned (.tuple #[])∧Wd w (blks [ah.box au [ao,ap,ak,.int .i64 dk.Fuse,.bool dk.Down] 81,ah.row 9 ao (dk.Kept:List ByteArray),ah.row 9 ap (dk.Now:List ByteArray),ah.row 83 ak (dk.Wait:List Turn)]++own) ([ah.box au [z.1,z.2.1,z.2.2,.int .i64 (((gG dk n)).Fuse),.bool (((gG dk n)).Down)] 81,ah.row 9 z.1 (((gG dk n)).Kept:List ByteArray),ah.row 9 z.2.1 (((gG dk n)).Now:List ByteArray),ah.row 83 z.2.2 (((gG dk n)).Wait:List Turn)]++[ah.held w own]) [] w':=by
  have cM:=H.cap 1 rfl;have cN:=H.aU 1 rfl
  have dv:=H.cap 2 rfl;have dw:=H.aU 2 rfl
  have cO:=H.cap 3 rfl;have cQ:=H.aU 3 rfl
  refine R.bW (n:=9) (vs:=[.pointer (some ⟨au,0,none⟩),.int .i64 n]) (B:=[ah.box au [ao,ap,ak,.int .i64 dk.Fuse,.bool dk.Down] 81,ah.row 9 ao (dk.Kept:List ByteArray),ah.row 9 ap (dk.Now:List ByteArray),ah.row 83 ak (dk.Wait:List Turn),ah.held w own]) [(0,.pointer (some ⟨au,0,none⟩)),(1,.int .i64 n)] Try.func31 rfl rfl rfl rfl H ?_
  refine R.reg rfl<|R.u 2 rfl<|R.q (q.max (r:=max n (-1)) rfl rfl rfl) rfl<|R.q (q.bm rfl) rfl<|R.q (q.bJ (off':=3) rfl eW rfl) rfl<|?_
  refine R.s rfl (s.st (us:=[.int .i64 (max n (-1))]) (cs':=[ao,ap,ak,.int .i64 (max n (-1)),.bool dk.Down]) 0 _ rfl rfl rfl rfl (.inr ⟨aS,rfl⟩) rfl rfl rfl rfl) fun _=>?_
  refine R.nil ?_
  have hz:gG dk n=(⟨dk.Kept,dk.Now,dk.Wait,(max n (-1)),dk.Down⟩:bp):=by (rfl)
  rw [hz]
  exact R.w0 (ao,ap,ak) [0,1,2,3,4] [] (by first|exact .inl rfl|exact .inr ⟨_,rfl⟩) Try.results31  rfl rfl rfl rfl
theorem nQ (au:Nat)(ao ap ak:Value)(dk:bp)(kp:Int)(w:World)(own:List Nat)(H:Wd w (blks [ah.box au [ao,ap,ak,.int .i64 dk.Fuse,.bool dk.Down] 81,ah.row 9 ao (dk.Kept:List ByteArray),ah.row 9 ap (dk.Now:List ByteArray),ah.row 83 ak (dk.Wait:List Turn)]++own) ([ah.box au [ao,ap,ak,.int .i64 dk.Fuse,.bool dk.Down] 81,ah.row 9 ao (dk.Kept:List ByteArray),ah.row 9 ap (dk.Now:List ByteArray),ah.row 83 ak (dk.Wait:List Turn)]++[ah.held w own]) [] w)(hd:dk.Kept.length=dk.Now.length∧dk.Wait.length≤100000∧(∀t∈dk.Wait,0≤t.At∧t.At<(dk.Kept.length:Int)))(hk:0≤kp∧kp≤18446744073709551615):Calls Try.prog 33 #[.pointer (some ⟨au,0,none⟩),.int .u64 kp] w fun e w' => ∃z:Value×Value×Value,e = .returned (.tuple #[])∧Wd w (blks [ah.box au [ao,ap,ak,.int .i64 dk.Fuse,.bool dk.Down] 81,ah.row 9 ao (dk.Kept:List ByteArray),ah.row 9 ap (dk.Now:List ByteArray),ah.row 83 ak (dk.Wait:List Turn)]++own) ([ah.box au [z.1,z.2.1,z.2.2,.int .i64 (((ae dk kp)).Fuse),.bool (((ae dk kp)).Down)] 81,ah.row 9 z.1 (((ae dk kp)).Kept:List ByteArray),ah.row 9 z.2.1 (((ae dk kp)).Now:List ByteArray),ah.row 83 z.2.2 (((ae dk kp)).Wait:List Turn)]++[ah.held w own]) [] w':=by
  have cM:=H.cap 1 rfl;have cN:=H.aU 1 rfl
  have dv:=H.cap 2 rfl;have dw:=H.aU 2 rfl
  have cO:=H.cap 3 rfl;have cQ:=H.aU 3 rfl
  refine R.bW (n:=50) (vs:=[.pointer (some ⟨au,0,none⟩),.int .u64 kp]) (B:=[ah.box au [ao,ap,ak,.int .i64 dk.Fuse,.bool dk.Down] 81,ah.row 9 ao (dk.Kept:List ByteArray),ah.row 9 ap (dk.Now:List ByteArray),ah.row 83 ak (dk.Wait:List Turn),ah.held w own]) [(0,.pointer (some ⟨au,0,none⟩)),(1,.int .u64 kp)] Try.func33 rfl rfl rfl rfl H ?_
  refine R.reg rfl<|R.u 1 rfl<|R.q (q.bm rfl) rfl<|R.q (q.bJ (off':=2) rfl cL rfl) rfl<|R.q (q.ld 0 rfl rfl cZ rfl) rfl<|R.q (q.len' (fun _=>Wd.row 3 rfl) rfl Try.underlying79) rfl<|R.u 1 rfl<|R.nil ?_
  refine R.loop (fun g_:Nat×Value×(List ByteArray)=>[(0,.pointer (some ⟨au,0,none⟩)),(1,.int .u64 kp),(9,ak),(10,.int .i64 (dk.Wait.length:Int)),(11,.int .i64 (g_.1:Int))]) (fun g_:Nat×Value×(List ByteArray)=>[ah.box au [g_.2.1,ap,ak,.int .i64 dk.Fuse,.bool dk.Down] 81,ah.row 9 g_.2.1 (g_.2.2:List ByteArray),ah.row 9 ap (dk.Now:List ByteArray),ah.row 83 ak (dk.Wait:List Turn),ah.held w own]) (fun g_:Nat×Value×(List ByteArray)=>[]) (fun g_:Nat×Value×(List ByteArray)=>g_.1≤dk.Wait.length∧g_.2.2=fA kp (dk.Wait.take g_.1) dk.Kept) (fun g_:Nat×Value×(List ByteArray)=>dk.Wait.length-g_.1) (0,ao,dk.Kept) rfl (by exact ⟨by omega,rfl⟩) ⟨rfl,rfl,rfl,rfl,rfl,trivial⟩ (fun _=>Wd.pick [0,1,2,3,4] [] rfl rfl rfl) ?_
  rintro ⟨j,qk,ks⟩ ⟨hj,HK⟩
  dsimp only at *
  have hkl:ks.length=dk.Kept.length:=by rw [HK];exact lJ
  refine R.reg rfl<|?_
  by_cases h1:j<dk.Wait.length
  ·
    refine R.q (q.lss rfl rfl (decide_eq_true (by omega))) rfl<|R.nil ?_
    refine R.aK rfl rfl ?_
    refine R.reg rfl<|R.u 1 rfl<|?_
    obtain ⟨x1,hx1⟩:∃z,dk.Wait[j]? = some z:=⟨_,List.getElem?_eq_getElem (by omega)⟩
    have Ap:=hd.2.2 x1 (List.mem_of_getElem? hx1)
    refine R.q (q.idx (i:=j) (fun _=>Wd.row 3 rfl) rfl rfl jE rfl hx1) rfl<|R.q (q.iU (ds:=[.int .i64 x1.At,.string x1.Data]) (fun _=>Wd.row 3 rfl) hx1 rfl qB rfl) rfl<|?_
    refine R.s rfl (s.alloc (cs:=[.int .i64 0,.string (⟨#[]⟩)]) gv rfl rfl) fun b1=>?_
    refine R.u 1 rfl<|?_
    refine R.s rfl (s.st (us:=[.int .i64 x1.At,.string x1.Data]) (cs':=[.int .i64 x1.At,.string x1.Data]) 0 _ rfl rfl rfl rfl (.inl qB) rfl rfl rfl rfl) fun _=>?_
    refine R.nil ?_
    refine R.reg rfl<|R.u 2 rfl<|R.q (q.rem (r:=(((j % 64):Nat):Int)) rfl rfl (by omega) (yM rfl)) rfl<|R.q (q.shr (r:=kp / ((2 ^ (j % 64):Nat):Int)) rfl rfl (by omega) (yL rfl (by omega))) rfl<|R.q (q.and (r:=(kp / ((2 ^ (j % 64):Nat):Int)) % 2) rfl rfl (u64_and1 ⟨rfl,Int.ediv_nonneg hk.1 (Int.natCast_nonneg _),Int.le_trans (Int.ediv_le_self _ hk.1) hk.2⟩)) rfl<|?_
    by_cases h2:((kp / ((2 ^ (j % 64):Nat):Int)) % 2)=1
    ·
      refine R.q (q.eql rfl rfl (beq_iff_eq.2 (by omega))) rfl<|R.nil ?_
      refine R.aK rfl rfl ?_
      obtain ⟨x2,hx2⟩:∃z,ks[x1.At.toNat]? = some z:=⟨_,List.getElem?_eq_getElem (by omega)⟩
      refine R.eT (fuel:=10) (Wd w (blks [ah.box au [ao,ap,ak,.int .i64 dk.Fuse,.bool dk.Down] 81,ah.row 9 ao (dk.Kept:List ByteArray),ah.row 9 ap (dk.Now:List ByteArray),ah.row 83 ak (dk.Wait:List Turn)]++own) [ah.box b1 [.int .i64 x1.At,.string x1.Data] 83,ah.row 9 ap (dk.Now:List ByteArray),ah.row 83 ak (dk.Wait:List Turn),ah.held w own] []) rfl mixed rfl ?_
      refine D.q (i:=0) rfl (by kernel_rfl) (fun _=>Wd.aA [0,3,4,5] [] rfl rfl rfl) rfl (q.mv rfl) rfl<|D.q (i:=1) rfl (by kernel_rfl) (fun _=>Wd.aA [0,3,4,5] [] rfl rfl rfl) rfl (q.bm rfl) rfl<|D.q (i:=2) rfl (by kernel_rfl) (fun _=>Wd.aA [0,3,4,5] [] rfl rfl rfl) rfl (q.bJ (off':=0) rfl ko rfl) rfl<|D.q (i:=4) rfl (by kernel_rfl) (fun _=>Wd.aA [0,3,4,5] [] rfl rfl rfl) rfl (q.bJ (off':=0) rfl rF rfl) rfl<|D.q (i:=5) rfl (by kernel_rfl) (fun _=>Wd.aA [0,3,4,5] [] rfl rfl rfl) rfl (q.ld 0 rfl rfl aS rfl) rfl<|D.q (i:=6) rfl (by kernel_rfl) (fun _=>Wd.aA [0,3,4,5] [] rfl rfl rfl) rfl (q.bJ (off':=1) rfl rG rfl) rfl<|D.q (i:=7) rfl (by kernel_rfl) (fun _=>Wd.aA [0,3,4,5] [] rfl rfl rfl) rfl (q.ld 0 rfl rfl bB rfl) rfl<|?_
      refine D.one (i:=3) (by kernel_rfl) rfl ?_
      refine Do.s (s.c (Qt.a (q.ld 1 rfl rfl cG rfl)) rfl) (fun _=>(fun _=>Wd.aA [0,3,4,5] [] rfl rfl rfl)) rfl fun _=>?_
      refine D.one (i:=8) (by kernel_rfl) rfl ?_
      refine Do.s (s.c (Qt.a (q.idx (i:=x1.At.toNat) (fun _=>Wd.row 2 rfl) rfl rfl du (by omega) hx2)) rfl) (fun _=>(fun _=>Wd.aA [0,3,4,5] [] rfl rfl rfl)) rfl fun _=>?_
      refine D.one (i:=9) (by kernel_rfl) rfl ?_
      refine Do.s (s.yp (z:=x1.Data) 2 _ rfl hx2 rfl rfl rfl rfl (.inr ⟨bB,rfl⟩) rfl) (fun _=>(fun _=>Wd.aA [0,3,4,5] [] rfl rfl rfl)) rfl fun _=>?_
      refine D.done (by kernel_rfl)<|?_
      refine R.reg rfl<|R.q (q.add (r:=((j+1:Nat):Int)) rfl rfl (wr (by omega))) rfl<|R.u 1 rfl<|R.nil ?_
      refine R.back (j+1,qk,(ks.set x1.At.toNat x1.Data)) rfl (by (exact ⟨by omega,by rw [m6 hx1,← HK];show _=(if kJ kp j=true then ks.set x1.At.toNat x1.Data else ks);first|(rw [if_pos (show kJ kp j=true from decide_eq_true (by assumption))];done)|(rw [if_neg (show ¬ kJ kp j=true from fun hh=>absurd (of_decide_eq_true (show decide (kp / ((2 ^ (j % 64):Nat):Int) % 2=1)=true from hh)) (by assumption))];done)⟩)) (by dsimp only;omega) ⟨rfl,rfl,rfl,rfl,rfl,trivial⟩ (fun _=>Wd.aA [1,2,3,4,5] [] rfl rfl rfl)
    ·
      refine R.q (q.eql rfl rfl (beq_eq_false_iff_ne.2 (by omega))) rfl<|R.nil ?_
      refine R.aI rfl rfl ?_
      refine R.reg rfl<|R.q (q.add (r:=((j+1:Nat):Int)) rfl rfl (wr (by omega))) rfl<|R.u 1 rfl<|R.nil ?_
      refine R.back (j+1,qk,ks) rfl (by (exact ⟨by omega,by rw [m6 hx1,← HK];show _=(if kJ kp j=true then ks.set x1.At.toNat x1.Data else ks);first|(rw [if_pos (show kJ kp j=true from decide_eq_true (by assumption))];done)|(rw [if_neg (show ¬ kJ kp j=true from fun hh=>absurd (of_decide_eq_true (show decide (kp / ((2 ^ (j % 64):Nat):Int) % 2=1)=true from hh)) (by assumption))];done)⟩)) (by dsimp only;omega) ⟨rfl,rfl,rfl,rfl,rfl,trivial⟩ (fun _=>Wd.aA [1,2,3,4,5] [] rfl rfl rfl)
  ·
    refine R.q (q.lss rfl rfl (decide_eq_false (by omega))) rfl<|R.nil ?_
    refine R.aI rfl rfl ?_
    refine R.eT (fuel:=9) (Wd w (blks [ah.box au [ao,ap,ak,.int .i64 dk.Fuse,.bool dk.Down] 81,ah.row 9 ao (dk.Kept:List ByteArray),ah.row 9 ap (dk.Now:List ByteArray),ah.row 83 ak (dk.Wait:List Turn)]++own) [ah.row 9 qk (ks:List ByteArray),ah.row 83 ak (dk.Wait:List Turn),ah.held w own] []) rfl mixed rfl ?_
    refine D.q (i:=0) rfl (by kernel_rfl) (fun _=>Wd.aA [1,3,4] [] rfl rfl rfl) rfl (q.mv rfl) rfl<|D.q (i:=1) rfl (by kernel_rfl) (fun _=>Wd.aA [1,3,4] [] rfl rfl rfl) rfl (q.bm rfl) rfl<|D.q (i:=2) rfl (by kernel_rfl) (fun _=>Wd.aA [1,3,4] [] rfl rfl rfl) rfl (q.bJ (off':=1) rfl dW rfl) rfl<|D.q (i:=4) rfl (by kernel_rfl) (fun _=>Wd.aA [1,3,4] [] rfl rfl rfl) rfl (q.mv rfl) rfl<|D.q (i:=5) rfl (by kernel_rfl) (fun _=>Wd.aA [1,3,4] [] rfl rfl rfl) rfl (q.bm rfl) rfl<|D.q (i:=6) rfl (by kernel_rfl) (fun _=>Wd.aA [1,3,4] [] rfl rfl rfl) rfl (q.bJ (off':=0) rfl ko rfl) rfl<|?_
    refine D.two (i:=3) (j:=7) (by kernel_rfl) rfl rfl ?_ ?_
    ·
      refine Do.s (s.c (Qt.a (q.ld 0 rfl rfl cG rfl)) rfl) (fun _=>(fun _=>Wd.aA [1,3,4] [] rfl rfl rfl)) rfl fun _=>?_
      refine D.one (i:=7) (by kernel_rfl) rfl ?_
      refine Do.s (s.c (Qt.a (q.ld 0 rfl rfl cG rfl)) rfl) (fun _=>(fun _=>Wd.aA [1,3,4] [] rfl rfl rfl)) rfl fun _=>?_
      refine D.one (i:=8) (by kernel_rfl) rfl ?_
      refine Do.s (s.copy (l2:=ks) 2 _ rfl (fun _=>Wd.row 1 rfl) rfl rfl rfl du (by first|omega|assumption|(simp;omega)) rfl rfl) (fun _=>(fun _=>Wd.aA [1,3,4] [] rfl rfl rfl)) rfl fun _=>?_
      refine D.done (by kernel_rfl)<|?_
      refine R.reg rfl<|R.u 3 rfl<|R.q (q.bm rfl) rfl<|R.q (q.bJ (off':=2) rfl cL rfl) rfl<|?_
      refine R.s rfl (s.st (us:=[.slice none 0 0]) (cs':=[qk,ap,.slice none 0 0,.int .i64 dk.Fuse,.bool dk.Down]) 0 _ rfl rfl rfl rfl (.inr ⟨cZ,rfl⟩) rfl rfl rfl rfl) fun _=>?_
      refine R.q (q.bm rfl) rfl<|R.q (q.bJ (off':=4) rfl dX rfl) rfl<|?_
      refine R.s rfl (s.st (us:=[.bool false]) (cs':=[qk,ap,.slice none 0 0,.int .i64 dk.Fuse,.bool false]) 0 _ rfl rfl rfl rfl (.inr ⟨eO,rfl⟩) rfl rfl rfl rfl) fun _=>?_
      refine R.q (q.bm rfl) rfl<|R.q (q.bJ (off':=3) rfl eW rfl) rfl<|?_
      refine R.s rfl (s.st (us:=[.int .i64 (-1)]) (cs':=[qk,ap,.slice none 0 0,.int .i64 (-1),.bool false]) 0 _ rfl rfl rfl rfl (.inr ⟨aS,rfl⟩) rfl rfl rfl rfl) fun _=>?_
      refine R.nil ?_
      refine R.row0 (α:=Turn) 83 ?_
      have hz:ae dk kp=(⟨ks,ks,[],-1,false⟩:bp):=by (rw [List.take_of_length_le (by omega)] at HK;unfold ae;rw [← HK])
      rw [hz]
      exact R.w0 (qk,ap,(.slice none 0 0)) [1,2,3,0,5] [] (by first|exact .inl rfl|exact .inr ⟨_,rfl⟩) Try.results33  rfl rfl rfl rfl
    ·
      refine Do.s (s.c (Qt.a (q.ld 0 rfl rfl cG rfl)) rfl) (fun _=>(fun _=>Wd.aA [1,3,4] [] rfl rfl rfl)) rfl fun _=>?_
      refine D.one (i:=3) (by kernel_rfl) rfl ?_
      refine Do.s (s.c (Qt.a (q.ld 0 rfl rfl cG rfl)) rfl) (fun _=>(fun _=>Wd.aA [1,3,4] [] rfl rfl rfl)) rfl fun _=>?_
      refine D.one (i:=8) (by kernel_rfl) rfl ?_
      refine Do.s (s.copy (l2:=ks) 2 _ rfl (fun _=>Wd.row 1 rfl) rfl rfl rfl du (by first|omega|assumption|(simp;omega)) rfl rfl) (fun _=>(fun _=>Wd.aA [1,3,4] [] rfl rfl rfl)) rfl fun _=>?_
      refine D.done (by kernel_rfl)<|?_
      refine R.reg rfl<|R.u 3 rfl<|R.q (q.bm rfl) rfl<|R.q (q.bJ (off':=2) rfl cL rfl) rfl<|?_
      refine R.s rfl (s.st (us:=[.slice none 0 0]) (cs':=[qk,ap,.slice none 0 0,.int .i64 dk.Fuse,.bool dk.Down]) 0 _ rfl rfl rfl rfl (.inr ⟨cZ,rfl⟩) rfl rfl rfl rfl) fun _=>?_
      refine R.q (q.bm rfl) rfl<|R.q (q.bJ (off':=4) rfl dX rfl) rfl<|?_
      refine R.s rfl (s.st (us:=[.bool false]) (cs':=[qk,ap,.slice none 0 0,.int .i64 dk.Fuse,.bool false]) 0 _ rfl rfl rfl rfl (.inr ⟨eO,rfl⟩) rfl rfl rfl rfl) fun _=>?_
      refine R.q (q.bm rfl) rfl<|R.q (q.bJ (off':=3) rfl eW rfl) rfl<|?_
      refine R.s rfl (s.st (us:=[.int .i64 (-1)]) (cs':=[qk,ap,.slice none 0 0,.int .i64 (-1),.bool false]) 0 _ rfl rfl rfl rfl (.inr ⟨aS,rfl⟩) rfl rfl rfl rfl) fun _=>?_
      refine R.nil ?_
      refine R.row0 (α:=Turn) 83 ?_
      have hz:ae dk kp=(⟨ks,ks,[],-1,false⟩:bp):=by (rw [List.take_of_length_le (by omega)] at HK;unfold ae;rw [← HK])
      rw [hz]
      exact R.w0 (qk,ap,(.slice none 0 0)) [1,2,3,0,5] [] (by first|exact .inl rfl|exact .inr ⟨_,rfl⟩) Try.results33  rfl rfl rfl rfl
end Go.Proofs.Ytpipachmngdegaa
end
