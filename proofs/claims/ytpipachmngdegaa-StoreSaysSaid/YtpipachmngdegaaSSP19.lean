import Derived.Test.YtpipachmngdegaaSSP15
import Derived.Test.YtpipachmngdegaaSSP16
import Derived.Test.YtpipachmngdegaaSSP17
import Derived.Test.YtpipachmngdegaaSSP18
section
namespace Go.Proofs.Ytpipachmngdegaa
open Go Go.RowKit
set_option linter.unusedVariables false
set_option linter.unusedSimpArgs false
set_option maxRecDepth 100000
theorem ln (bZ:Value)(l:List ByteArray)(w:World)(own:List Nat)(H:Wd w (blks []++own) ([]++[af.held w own]) [af.ls bZ (l:List ByteArray)] w)(hl:l.length≤1000000):Calls Try.prog 40 #[bZ] w fun e w' => ∃z:Value,e = .returned (z)∧Wd w (blks []++own) ([af.row 9 z (l:List ByteArray)]++[af.held w own]) [] w':=by
  have uJ:=H.jd 0 rfl
  refine R.bY (n:=8) (vs:=[bZ]) (B:=[af.held w own]) [(0,bZ)] Try.func40 rfl rfl rfl rfl H ?_
  refine R.reg rfl<|R.u 1 rfl<|R.nil ?_
  refine R.reg rfl<|R.u 1 rfl<|?_
  rcases Bool.eq_false_or_eq_true (lQ bZ) with h1|h1
  ·
    refine R.q (q.xG (congrArg Value.bool h1) (q.qD (fun _=>Wd.bV 0 rfl) rfl rfl Try.underlying22)) rfl<|R.nil ?_
    refine R.aF rfl rfl ?_
    refine R.reg rfl<|R.u 1 rfl<|R.nil ?_
    refine R.row0 (α:=ByteArray) 9 ?_
    have hz:l=[]:=by (first|rfl|exact (List.nil_append _).symm|exact Sl.lQ (H.bV 0 rfl) (by assumption))
    rw [hz]
    exact R.w1 (.slice none 0 0) [0,1] [] rfl Try.results40 (RV.tmp rfl) rfl rfl rfl rfl
  ·
    refine R.q (q.xG (congrArg Value.bool h1) (q.qD (fun _=>Wd.bV 0 rfl) rfl rfl Try.underlying22)) rfl<|R.nil ?_
    refine R.aH rfl rfl ?_
    refine R.reg rfl<|?_
    refine R.s rfl (s.bs (l:=([]:List ByteArray)) dY qG rfl rfl rfl rfl rfl rfl rfl) fun b1=>?_
    refine R.u 1 rfl<|?_
    refine R.s rfl (s.app (l2:=l) 0 _ rfl rfl rfl (fun _=>Wd.bV 0 rfl) uH (by simp;omega) (by simp;omega) (fun _=>rfl) rfl) fun v1=>?_
    refine R.u 1 rfl<|R.nil ?_
    have hz:l=(([])++l):=by (first|rfl|exact (List.nil_append _).symm|exact Sl.lQ (H.bV 0 rfl) (by assumption))
    rw [hz]
    exact R.w1 v1 [0,1] [] rfl Try.results40 (RV.tmp rfl) rfl rfl rfl rfl
theorem lX (sx:ByteArray)(w:World)(hs:sx.size≤48):Calls Try.prog 39 #[.string sx] w fun e w'=>e = .returned (.string (full sx))∧Ext w w':=by
  refine R.enter (n:=10) (vs:=[.string sx]) [] [(0,.string sx)] Try.func39 rfl rfl rfl rfl ?_
  refine R.reg rfl<|R.u 1 rfl<|R.nil ?_
  refine R.reg rfl<|R.u 2 rfl<|R.q (q.eW rfl Try.underlying9) rfl<|R.q (q.sub (r:=((48-sx.size:Nat):Int)) rfl rfl (wr (by omega))) rfl<|?_
  refine R.s rfl (s.zb (m:=(48-sx.size)) aJ rfl rfl rfl rfl rfl (by omega) rfl) fun b1=>?_
  refine R.q (q.e9 (fun _=>Wd.row 0 rfl) rfl aJ Try.underlying5 Try.underlying9) rfl<|R.q (q.cat rfl rfl (by rw [aC (List.replicate _ _),List.length_replicate];omega)) rfl<|R.u 1 rfl<|R.nil ?_
  exact R.rv rfl Try.results39 rfl (rS (by (rfl)))
theorem oU (n:Nat)(w:World)(hn:n≤1000000):Calls Try.prog 61 #[.int .u64 ((1:Nat):Int),.int .u64 (n:Int)] w fun e w'=>e = .returned (.tuple #[.int .u64 0,.int .u64 (n:Int)])∧Ext w w' :=
  (Try.bits_Mul 1 n (by decide) (by omega) w).mono fun e w' ⟨h1,h2⟩=>⟨by
    rw [h1,Nat.one_mul,Nat.div_eq_of_lt (by omega),Nat.mod_eq_of_lt (by omega)];rfl,by rw [h2];exact Ext.refl _⟩
theorem oV (a n:Nat)(w:World)(hn:a=1∧n≤1000000):Calls Try.prog 61 #[.int .u64 (a:Int),.int .u64 (n:Int)] w fun e w'=>e = .returned (.tuple #[.int .u64 0,.int .u64 (n:Int)])∧Ext w w':=by
  obtain ⟨rfl,hn⟩:=hn;exact oU n w hn
theorem oW {α:Type}{l x:List α}{a:α}{n k:Nat}(hx:x=List.replicate k a++l)(m:Nat)(hm:m≤k)(hl:k+m≤x.length):x.take k++(x.take k).take m++x.drop (k+m)=List.replicate (k+m) a++l.drop m:=by
  subst hx
  have h1:(List.replicate k a).length=k:=List.length_replicate
  rw [List.take_left' h1,List.take_replicate,Nat.min_eq_left hm,List.drop_append,h1,List.drop_of_length_le (by rw [h1];omega),List.nil_append,show k+m-k=m by omega,← List.replicate_append_replicate]
theorem oX (bZ:Value)(l:List ByteArray)(n:Nat)(w:World)(own:List Nat)(H:Wd w (blks []++own) ([]++[af.held w own]) [af.ls bZ (l:List ByteArray)] w)(hl:l.length=1)(hn:1≤n∧n≤1000):Calls Try.prog 38 #[bZ,.int .i64 (n:Int)] w fun e w' => ∃z:Value,e = .returned (z)∧Wd w (blks []++own) ([af.row 9 z ((List.replicate n (l.headD ⟨#[]⟩)):List ByteArray)]++[af.held w own]) [] w':=by
  have uJ:=H.jd 0 rfl
  refine R.bY (n:=48) (vs:=[bZ,.int .i64 (n:Int)]) (B:=[af.held w own]) [(0,bZ),(1,.int .i64 (n:Int))] Try.func38 rfl rfl rfl rfl H ?_
  refine R.reg rfl<|R.u 1 rfl<|R.nil ?_
  refine R.reg rfl<|R.u 1 rfl<|R.q (q.lss rfl rfl (decide_eq_false (by omega))) rfl<|R.nil ?_
  refine R.aH rfl rfl ?_
  refine R.reg rfl<|R.u 1 rfl<|R.q (q.len' (fun _=>Wd.bV 0 rfl) rfl Try.underlying22) rfl<|R.q (q.iD (r:=((l.length:Nat):Int)) rfl (by rw [Try.underlying3];rfl) Try.underlying111 (pO (by omega))) rfl<|R.u 1 rfl<|R.q (q.iD (r:=((n:Nat):Int)) rfl (by rw [Try.underlying3];rfl) Try.underlying111 (pO (by omega))) rfl<|R.c (q.call x8 rfl rfl (fun w hw=>(oV (l.length) (n) w  (by omega)))) rfl<|R.u 5 rfl<|R.nil ?_
  refine R.reg rfl<|R.u 1 rfl<|R.q (q.gtr (b:=false) rfl rfl (by decide)) rfl<|R.u 2 rfl<|R.qg rfl (q.gtr rfl rfl (decide_eq_false (by omega))) rfl<|R.u 1 rfl<|R.nil ?_
  refine R.aH rfl rfl ?_
  refine R.reg rfl<|R.u 1 rfl<|R.q (q.iD (r:=((n:Nat):Int)) rfl (by rw [Try.underlying111];rfl) Try.underlying3 (wr (by omega))) rfl<|?_
  refine R.s rfl (s.yl (m:=n) (z0:=(⟨#[]⟩:ByteArray)) dY rfl rfl rfl (by decide) rfl rfl (by simp [Enc.k];omega) rfl) fun b1=>?_
  refine R.u 1 rfl<|R.nil ?_
  refine R.reg rfl<|R.u 2 rfl<|?_
  refine R.s rfl (s.pR (o:=0) (m:=1) (l2:=l) 0 _ rfl (fun _=>Wd.bV 0 rfl) rfl (.inr ⟨rfl,rfl⟩) rfl dY (by first|omega|(simp;omega)) (by first|omega|(simp;omega)) (by first|omega|(simp;omega)) (by first|omega|(simp;omega)) rfl rfl) fun _=>?_
  refine R.u 1 rfl<|R.nil ?_
  refine R.loop (fun g_:Nat×Value×(List ByteArray)=>[(7,g_.2.1),(8,.int .i64 (g_.1:Int))]) (fun g_:Nat×Value×(List ByteArray)=>[af.row 9 g_.2.1 (g_.2.2:List ByteArray),af.held w own]) (fun g_:Nat×Value×(List ByteArray)=>[af.ls bZ (l:List ByteArray)]) (fun g_:Nat×Value×(List ByteArray)=>1≤g_.1∧g_.1≤n∧g_.2.2=List.replicate g_.1 (l.headD ⟨#[]⟩)++List.replicate (n-g_.1) (⟨#[]⟩:ByteArray)) (fun g_:Nat×Value×(List ByteArray)=>n-g_.1) (1,(.slice (some ⟨b1,0,none⟩) n n),((List.replicate n (⟨#[]⟩:ByteArray)).take 0++l.take 1++(List.replicate n (⟨#[]⟩:ByteArray)).drop (0+1))) rfl (by refine ⟨by omega,by omega,?_⟩;match l,hl with | [a],_=>simp) ⟨rfl,rfl,trivial⟩ (fun _=>Wd.pick [0,1] [0] rfl rfl rfl) ?_
  rintro ⟨k,u,rs⟩ ⟨hk0,hk,HR⟩
  dsimp only at *
  have hrl:rs.length=n:=by rw [HR];simp;omega
  refine R.reg rfl<|R.u 2 rfl<|R.q (q.len' (fun _=>Wd.row 0 rfl) rfl Try.underlying22) rfl<|?_
  by_cases h1:k<rs.length
  ·
    refine R.q (q.lss rfl rfl (decide_eq_true (by omega))) rfl<|R.nil ?_
    refine R.aF rfl rfl ?_
    refine R.eX (fuel:=10) (Wd w (blks []++own) [af.held w own] [af.ls bZ (l:List ByteArray)]) rfl mixed rfl ?_
    refine D.q (i:=0) rfl (by kernel_rfl) (fun _=>Wd.ay [1] [0] rfl rfl rfl) rfl (q.mv rfl) rfl<|D.q (i:=1) rfl (by kernel_rfl) (fun _=>Wd.ay [1] [0] rfl rfl rfl) rfl (q.mv rfl) rfl<|D.q (i:=2) rfl (by kernel_rfl) (fun _=>Wd.ay [1] [0] rfl rfl rfl) rfl (q.mv rfl) rfl<|D.q (i:=4) rfl (by kernel_rfl) (fun _=>Wd.ay [1] [0] rfl rfl rfl) rfl (q.mv rfl) rfl<|D.q (i:=5) rfl (by kernel_rfl) (fun _=>Wd.ay [1] [0] rfl rfl rfl) rfl (q.mv rfl) rfl<|?_
    refine D.two (i:=3) (j:=6) (by kernel_rfl) rfl rfl ?_ ?_
    ·
      refine Do.s (s.c (Qt.a (q.cO (i:=k) (fun _=>Wd.row 0 rfl) rfl rfl dY rfl (by first|omega|(simp;omega)))) rfl) (fun _=>(fun _=>Wd.ay [1] [0] rfl rfl rfl)) rfl fun _=>?_
      refine D.one (i:=6) (by kernel_rfl) rfl ?_
      refine Do.s (s.c (Qt.a (q.i6 (i:=k) (fun _=>Wd.row 0 rfl) rfl rfl Try.underlying22 qK rfl (by first|omega|(simp;omega)))) rfl) (fun _=>(fun _=>Wd.ay [1] [0] rfl rfl rfl)) rfl fun _=>?_
      refine D.one (i:=7) (by kernel_rfl) rfl ?_
      refine Do.s (s.pR (o:=k) (m:=(min k (n-k))) (l2:=(rs.take k)) 0 _ rfl (fun w hw=>Sl.to ((fun _=>Wd.row 0 rfl) w hw) (by omega)) rfl (.inl rfl) rfl dY (by first|omega|(simp;omega)) (by first|omega|(simp;omega)) (by first|omega|(simp;omega)) (by first|omega|(simp;omega)) rfl rfl) (fun _=>(fun _=>Wd.ay [1] [0] rfl rfl rfl)) rfl fun _=>?_
      refine D.q (i:=8) rfl (by kernel_rfl) (fun _=>Wd.ay [1] [0] rfl rfl rfl) rfl (q.add (r:=((k+(min k (n-k)):Nat):Int)) rfl rfl (wr (by omega))) rfl<|D.q (i:=9) rfl (by kernel_rfl) (fun _=>Wd.ay [1] [0] rfl rfl rfl) rfl (q.as rfl) rfl<|D.done (by kernel_rfl)<|?_
      refine R.back (k+min k (n-k),u,(rs.take k++(rs.take k).take (min k (n-k))++rs.drop (k+(min k (n-k))))) rfl (by (refine ⟨by omega,by omega,?_⟩;rw [oW (n:=n) HR (min k (n-k)) (by omega) (by omega),List.drop_replicate,show n-k-min k (n-k)=n-(k+min k (n-k)) by omega])) (by dsimp only;omega) ⟨rfl,rfl,trivial⟩ (fun _=>Wd.ay [0,1] [0] rfl rfl rfl)
    ·
      refine Do.s (s.c (Qt.a (q.i6 (i:=k) (fun _=>Wd.row 0 rfl) rfl rfl Try.underlying22 qK rfl (by first|omega|(simp;omega)))) rfl) (fun _=>(fun _=>Wd.ay [1] [0] rfl rfl rfl)) rfl fun _=>?_
      refine D.one (i:=3) (by kernel_rfl) rfl ?_
      refine Do.s (s.c (Qt.a (q.cO (i:=k) (fun _=>Wd.row 0 rfl) rfl rfl dY rfl (by first|omega|(simp;omega)))) rfl) (fun _=>(fun _=>Wd.ay [1] [0] rfl rfl rfl)) rfl fun _=>?_
      refine D.one (i:=7) (by kernel_rfl) rfl ?_
      refine Do.s (s.pR (o:=k) (m:=(min k (n-k))) (l2:=(rs.take k)) 0 _ rfl (fun w hw=>Sl.to ((fun _=>Wd.row 0 rfl) w hw) (by omega)) rfl (.inl rfl) rfl dY (by first|omega|(simp;omega)) (by first|omega|(simp;omega)) (by first|omega|(simp;omega)) (by first|omega|(simp;omega)) rfl rfl) (fun _=>(fun _=>Wd.ay [1] [0] rfl rfl rfl)) rfl fun _=>?_
      refine D.q (i:=8) rfl (by kernel_rfl) (fun _=>Wd.ay [1] [0] rfl rfl rfl) rfl (q.add (r:=((k+(min k (n-k)):Nat):Int)) rfl rfl (wr (by omega))) rfl<|D.q (i:=9) rfl (by kernel_rfl) (fun _=>Wd.ay [1] [0] rfl rfl rfl) rfl (q.as rfl) rfl<|D.done (by kernel_rfl)<|?_
      refine R.back (k+min k (n-k),u,(rs.take k++(rs.take k).take (min k (n-k))++rs.drop (k+(min k (n-k))))) rfl (by (refine ⟨by omega,by omega,?_⟩;rw [oW (n:=n) HR (min k (n-k)) (by omega) (by omega),List.drop_replicate,show n-k-min k (n-k)=n-(k+min k (n-k)) by omega])) (by dsimp only;omega) ⟨rfl,rfl,trivial⟩ (fun _=>Wd.ay [0,1] [0] rfl rfl rfl)
  ·
    refine R.q (q.lss rfl rfl (decide_eq_false (by omega))) rfl<|R.nil ?_
    refine R.aH rfl rfl ?_
    refine R.reg rfl<|R.u 2 rfl<|R.nil ?_
    have hz:List.replicate n (l.headD ⟨#[]⟩)=rs:=by (rw [HR,show k=n by omega];simp)
    rw [hz]
    exact R.w1 u [0,1] [] rfl Try.results38 (RV.tmp rfl) rfl rfl rfl rfl
theorem oY (n:Int)(w:World)(own:List Nat)(H:Wd w (blks []++own) ([]++[af.held w own]) [] w)(hn:1≤n∧n≤200):Calls Try.prog 9 #[.int .i64 n] w fun e w' => ∃z:Nat×Value×Value×Value,e = .returned (.tuple #[.pointer (some ⟨z.1,0,none⟩),.nilIface])∧Wd w (blks []++own) ([af.box z.1 [z.2.1,z.2.2.1,z.2.2.2,.int .i64 (((dNew (Int.toNat n))).Fuse),.bool (((dNew (Int.toNat n))).Down)] 81,af.row 9 z.2.1 (((dNew (Int.toNat n))).Kept:List ByteArray),af.row 9 z.2.2.1 (((dNew (Int.toNat n))).Now:List ByteArray),af.row 83 z.2.2.2 (((dNew (Int.toNat n))).Wait:List Turn)]++[af.held w own]) [] w':=by
  obtain ⟨nN,Ap⟩:∃m:Nat,n=(m:Int):=⟨n.toNat,by omega⟩;subst Ap
  refine R.bY (n:=21) (vs:=[.int .i64 (nN:Int)]) (B:=[af.held w own]) [(0,.int .i64 (nN:Int))] Try.func9 rfl rfl rfl rfl H ?_
  refine R.reg rfl<|R.u 2 rfl<|R.nil ?_
  refine R.reg rfl<|R.u 1 rfl<|R.q (q.lss rfl rfl (decide_eq_false (by omega))) rfl<|R.u 2 rfl<|R.qg rfl (q.gtr rfl rfl (decide_eq_false (by omega))) rfl<|R.u 1 rfl<|R.nil ?_
  refine R.aH rfl rfl ?_
  refine R.reg rfl<|R.c (q.call s7 rfl rfl (fun w hw=>(lX (⟨#[]⟩) w  (by first|omega|assumption|(simp;done)|decide)))) rfl<|?_
  refine R.s rfl (s.bs (l:=([full (⟨#[]⟩)]:List ByteArray)) dY qG rfl rfl rfl rfl rfl rfl rfl) fun b1=>?_
  refine R.u 1 rfl<|?_
  refine R.s (B':=(fun bg:Value=>[af.row 9 bg ((List.replicate nN (([full (⟨#[]⟩)]).headD ⟨#[]⟩)):List ByteArray),af.row 9 (.slice (some ⟨b1,0,none⟩) 1 1) ([full (⟨#[]⟩)]:List ByteArray),af.held w own])) (F':=(fun bg:Value=>[])) rfl (s.td (B0:=[]) (Bl:=[af.row 9 (.slice (some ⟨b1,0,none⟩) 1 1) ([full (⟨#[]⟩)]:List ByteArray)]) (Br:=[af.held w own]) (F0:=[af.ls (.slice (some ⟨b1,0,none⟩) 1 1) ([full (⟨#[]⟩)]:List ByteArray)]) (Fl:=[af.ls (.slice (some ⟨b1,0,none⟩) 1 1) ([full (⟨#[]⟩)]:List ByteArray)]) [0,1] [0] (fun bg:Value=>bg) (fun bg:Value=>[af.row 9 bg ((List.replicate nN (([full (⟨#[]⟩)]).headD ⟨#[]⟩)):List ByteArray)]) rfl rfl (nq oP) rfl xS rfl rfl (fun w own hw H=>oX (.slice (some ⟨b1,0,none⟩) 1 1) ([full (⟨#[]⟩)]) (nN) w own H (by first|rfl|omega) (by omega)) rfl) fun z1=>?_
  refine R.u 1 rfl<|R.nil ?_
  refine R.reg rfl<|R.u 2 rfl<|?_
  refine R.s (B':=(fun bg:Value=>[af.row 9 bg ((List.replicate nN (([full (⟨#[]⟩)]).headD ⟨#[]⟩)):List ByteArray),af.row 9 z1 (List.replicate nN (([full (⟨#[]⟩)]).headD ⟨#[]⟩):List ByteArray),af.row 9 (.slice (some ⟨b1,0,none⟩) 1 1) ([full (⟨#[]⟩)]:List ByteArray),af.held w own])) (F':=(fun bg:Value=>[])) rfl (s.td (B0:=[]) (Bl:=[af.row 9 z1 (List.replicate nN (([full (⟨#[]⟩)]).headD ⟨#[]⟩):List ByteArray)]) (Br:=[af.row 9 (.slice (some ⟨b1,0,none⟩) 1 1) ([full (⟨#[]⟩)]:List ByteArray),af.held w own]) (F0:=[af.ls z1 (List.replicate nN (([full (⟨#[]⟩)]).headD ⟨#[]⟩):List ByteArray)]) (Fl:=[af.ls z1 (List.replicate nN (([full (⟨#[]⟩)]).headD ⟨#[]⟩):List ByteArray)]) [0,1,2] [0] (fun bg:Value=>bg) (fun bg:Value=>[af.row 9 bg ((List.replicate nN (([full (⟨#[]⟩)]).headD ⟨#[]⟩)):List ByteArray)]) rfl rfl (nq oP) rfl xU rfl rfl (fun w own hw H=>ln z1 (List.replicate nN (([full (⟨#[]⟩)]).headD ⟨#[]⟩)) w own H (by first|omega|assumption|(simp;done)|(simp;omega))) rfl) fun z2=>?_
  refine R.q (q.wu (cs:=[z1,z2,.slice none 0 0,.int .i64 (-1),.bool false]) xJ rfl (fun w hw=>(oa (Sl.pS ((fun _=>Wd.row 1 rfl) w hw)) (oa (Sl.pS ((fun _=>Wd.row 0 rfl) w hw)) (oa rfl wt)))) rfl) rfl<|?_
  refine R.s rfl (s.box (cs:=[z1,z2,.slice none 0 0,.int .i64 (-1),.bool false]) rfl rfl rfl) fun b2=>?_
  refine R.u 2 rfl<|R.nil ?_
  refine R.row0 (α:=Turn) 83 ?_
  have hz:dNew (Int.toNat ((nN:Nat):Int))=(⟨List.replicate nN (([full (⟨#[]⟩)]).headD ⟨#[]⟩),(List.replicate nN (([full (⟨#[]⟩)]).headD ⟨#[]⟩)),[],-1,false⟩:bA):=by (rfl)
  rw [hz]
  exact R.w2 (b2,z1,z2,(.slice none 0 0)) [1,3,2,0,5] [] rfl Try.results9 (RV.tmp rfl) (RV.tmp rfl) rfl rfl rfl (mR rfl rfl)
theorem tg (n:Int)(w:World)(hn:¬ (1≤n∧n≤200)):Calls Try.prog 9 #[.int .i64 n] w fun e w'=>e = .returned (.tuple #[.pointer none,bG 1])∧Ext w w':=by
  refine R.enter (n:=21) (vs:=[.int .i64 n]) [] [(0,.int .i64 n)] Try.func9 rfl rfl rfl rfl ?_
  refine R.reg rfl<|R.u 2 rfl<|R.nil ?_
  refine R.reg rfl<|R.u 1 rfl<|?_
  by_cases h1:n<1
  ·
    refine R.q (q.lss rfl rfl (decide_eq_true (by omega))) rfl<|R.u 4 rfl<|R.nil ?_
    refine R.aF rfl rfl ?_
    refine R.reg rfl<|R.q (q.iface rfl cm) rfl<|R.u 2 rfl<|R.nil ?_
    exact R.sG rfl Try.results9 rfl rfl rfl (fu (by decide) (by (rfl)))
  ·
    refine R.q (q.lss rfl rfl (decide_eq_false (by omega))) rfl<|R.u 2 rfl<|?_
    by_cases h2:200<n
    ·
      refine R.qg rfl (q.gtr rfl rfl (decide_eq_true (by omega))) rfl<|R.u 1 rfl<|R.nil ?_
      refine R.aF rfl rfl ?_
      refine R.reg rfl<|R.q (q.iface rfl cm) rfl<|R.u 2 rfl<|R.nil ?_
      exact R.sG rfl Try.results9 rfl rfl rfl (fu (by decide) (by (rfl)))
    · exfalso;omega
theorem cJ (ap:Nat)(ah ak ai:Value)(dk:bA)(w:World)(lY:(af.box ap [ah,ak,ai,.int .i64 dk.Fuse,.bool dk.Down] 81).ok w)(eM:Sl w ah (dk.Kept:List ByteArray))(fD:Sl w ak (dk.Now:List ByteArray))(eN:Sl w ai (dk.Wait:List Turn)):Calls Try.prog 12 #[.pointer (some ⟨ap,0,none⟩)] w fun e w'=>e = .returned (.int .i64 (dk.Now.length:Int))∧Ext w w':=by
  refine R.enter (n:=8) (vs:=[.pointer (some ⟨ap,0,none⟩)]) [] [(0,.pointer (some ⟨ap,0,none⟩))] Try.func12 rfl rfl rfl rfl ?_
  refine R.iY eM ?_
  refine R.iY fD ?_
  refine R.iY eN ?_
  refine R.kD (r:=af.box ap [ah,ak,ai,.int .i64 dk.Fuse,.bool dk.Down] 81) lY (hZ lY) ?_
  refine R.reg rfl<|R.u 1 rfl<|R.nil ?_
  refine R.reg rfl<|R.u 1 rfl<|R.q (q.a7 rfl) rfl<|R.q (q.bz (off':=1) rfl eS rfl) rfl<|R.q (q.oK 0 rfl rfl dS rfl) rfl<|R.q (q.len' (fun _=>Wd.bV 2 rfl) rfl Try.underlying22) rfl<|R.u 1 rfl<|R.nil ?_
  exact R.rv rfl Try.results12 rfl (rI (by (rfl)))
theorem kH (ap:Nat)(ah ak ai:Value)(dk:bA)(w:World)(lY:(af.box ap [ah,ak,ai,.int .i64 dk.Fuse,.bool dk.Down] 81).ok w)(eM:Sl w ah (dk.Kept:List ByteArray))(fD:Sl w ak (dk.Now:List ByteArray))(eN:Sl w ai (dk.Wait:List Turn)):Calls Try.prog 42 #[.pointer (some ⟨ap,0,none⟩)] w fun e w'=>e = .returned (.bool dk.Down)∧Ext w w':=by
  refine R.enter (n:=7) (vs:=[.pointer (some ⟨ap,0,none⟩)]) [] [(0,.pointer (some ⟨ap,0,none⟩))] Try.func42 rfl rfl rfl rfl ?_
  refine R.iY eM ?_
  refine R.iY fD ?_
  refine R.iY eN ?_
  refine R.kD (r:=af.box ap [ah,ak,ai,.int .i64 dk.Fuse,.bool dk.Down] 81) lY (hZ lY) ?_
  refine R.reg rfl<|R.u 1 rfl<|R.nil ?_
  refine R.reg rfl<|R.u 1 rfl<|R.q (q.a7 rfl) rfl<|R.q (q.bz (off':=4) rfl fx rfl) rfl<|R.q (q.oK 0 rfl rfl fw rfl) rfl<|R.u 1 rfl<|R.nil ?_
  exact R.rv rfl Try.results42 rfl (rB (by (rfl)))
theorem jz (ap:Nat)(ah ak ai:Value)(dk:bA)(i:Int)(w:World)(lY:(af.box ap [ah,ak,ai,.int .i64 dk.Fuse,.bool dk.Down] 81).ok w)(eM:Sl w ah (dk.Kept:List ByteArray))(fD:Sl w ak (dk.Now:List ByteArray))(eN:Sl w ai (dk.Wait:List Turn)):Calls Try.prog 14 #[.pointer (some ⟨ap,0,none⟩),.int .i64 i] w fun e w'=>e = .returned (.tuple #[.string ((aO dk i).1),bG ((aO dk i).2)])∧Ext w w':=by
  refine R.enter (n:=30) (vs:=[.pointer (some ⟨ap,0,none⟩),.int .i64 i]) [] [(0,.pointer (some ⟨ap,0,none⟩)),(1,.int .i64 i)] Try.func14 rfl rfl rfl rfl ?_
  refine R.iY eM ?_
  refine R.iY fD ?_
  refine R.iY eN ?_
  refine R.kD (r:=af.box ap [ah,ak,ai,.int .i64 dk.Fuse,.bool dk.Down] 81) lY (hZ lY) ?_
  refine R.reg rfl<|R.u 2 rfl<|R.nil ?_
  refine R.reg rfl<|R.u 1 rfl<|R.q (q.a7 rfl) rfl<|R.q (q.bz (off':=4) rfl fx rfl) rfl<|R.q (q.oK 0 rfl rfl fw rfl) rfl<|R.nil ?_
  refine R.cond rfl rfl (fun h1=>?_) (fun h1=>?_)
  ·
    refine R.reg rfl<|R.q (q.iface rfl cm) rfl<|R.u 2 rfl<|R.nil ?_
    exact R.sG rfl Try.results14 rfl rfl (rS (by (first|(rw [d8 (by assumption)];done)|(rw [eU (by assumption) (by omega)];done)|(rw [d9 (by assumption) (by omega) rfl];done)))) (fu (by decide) (by (first|(rw [d8 (by assumption)];done)|(rw [eU (by assumption) (by omega)];done)|(rw [d9 (by assumption) (by omega) rfl];done))))
  ·
    refine R.reg rfl<|R.u 1 rfl<|?_
    by_cases h2:i<0
    ·
      refine R.q (q.lss rfl rfl (decide_eq_true (by omega))) rfl<|R.u 9 rfl<|R.nil ?_
      refine R.aF rfl rfl ?_
      refine R.reg rfl<|R.q (q.iface rfl cm) rfl<|R.u 2 rfl<|R.nil ?_
      exact R.sG rfl Try.results14 rfl rfl (rS (by (first|(rw [d8 (by assumption)];done)|(rw [eU (by assumption) (by omega)];done)|(rw [d9 (by assumption) (by omega) rfl];done)))) (fu (by decide) (by (first|(rw [d8 (by assumption)];done)|(rw [eU (by assumption) (by omega)];done)|(rw [d9 (by assumption) (by omega) rfl];done))))
    ·
      refine R.q (q.lss rfl rfl (decide_eq_false (by omega))) rfl<|R.u 3 rfl<|R.qg rfl (q.a7 rfl) rfl<|R.qg rfl (q.bz (off':=1) rfl eS rfl) rfl<|R.qg rfl (q.oK 0 rfl rfl dS rfl) rfl<|R.qg rfl (q.len' (fun _=>Wd.bV 2 rfl) rfl Try.underlying22) rfl<|?_
      by_cases h3:i<(dk.Now.length:Int)
      ·
        refine R.qg rfl (q.geq rfl rfl (decide_eq_false (by omega))) rfl<|R.u 1 rfl<|R.nil ?_
        refine R.aH rfl rfl ?_
        refine R.reg rfl<|R.u 1 rfl<|R.q (q.a7 rfl) rfl<|R.q (q.bz (off':=1) rfl eS rfl) rfl<|R.q (q.oK 0 rfl rfl dS rfl) rfl<|R.u 1 rfl<|?_
        obtain ⟨x1,hx1⟩:∃z,dk.Now[i.toNat]? = some z:=⟨_,List.getElem?_eq_getElem (by omega)⟩
        refine R.q (q.idx (i:=i.toNat) (fun _=>Wd.bV 2 rfl) rfl rfl dY (by omega) hx1) rfl<|R.q (q.jS (fun _=>Wd.bV 2 rfl) hx1 rfl bu rfl) rfl<|R.u 2 rfl<|R.nil ?_
        exact R.sG rfl Try.results14 rfl rfl (rS (by (first|(rw [d8 (by assumption)];done)|(rw [eU (by assumption) (by omega)];done)|(rw [d9 (by assumption) (by omega) hx1];done)))) (lH (by (first|(rw [d8 (by assumption)];done)|(rw [eU (by assumption) (by omega)];done)|(rw [d9 (by assumption) (by omega) hx1];done))))
      ·
        refine R.qg rfl (q.geq rfl rfl (decide_eq_true (by omega))) rfl<|R.u 1 rfl<|R.nil ?_
        refine R.aF rfl rfl ?_
        refine R.reg rfl<|R.q (q.iface rfl cm) rfl<|R.u 2 rfl<|R.nil ?_
        exact R.sG rfl Try.results14 rfl rfl (rS (by (first|(rw [d8 (by assumption)];done)|(rw [eU (by assumption) (by omega)];done)|(rw [d9 (by assumption) (by omega) rfl];done)))) (fu (by decide) (by (first|(rw [d8 (by assumption)];done)|(rw [eU (by assumption) (by omega)];done)|(rw [d9 (by assumption) (by omega) rfl];done))))
theorem nr (ap:Nat)(ah ak ai:Value)(dk:bA)(w:World)(own:List Nat)(H:Wd w (blks [af.box ap [ah,ak,ai,.int .i64 dk.Fuse,.bool dk.Down] 81,af.row 9 ah (dk.Kept:List ByteArray),af.row 9 ak (dk.Now:List ByteArray),af.row 83 ai (dk.Wait:List Turn)]++own) ([af.box ap [ah,ak,ai,.int .i64 dk.Fuse,.bool dk.Down] 81,af.row 9 ah (dk.Kept:List ByteArray),af.row 9 ak (dk.Now:List ByteArray),af.row 83 ai (dk.Wait:List Turn)]++[af.held w own]) [] w)(hf : -1≤dk.Fuse∧dk.Fuse≤9223372036854775807):Calls Try.prog 41 #[.pointer (some ⟨ap,0,none⟩)] w fun e w' => ∃z:Value×Value×Value,e = .returned (bG (((aI dk)).2))∧Wd w (blks [af.box ap [ah,ak,ai,.int .i64 dk.Fuse,.bool dk.Down] 81,af.row 9 ah (dk.Kept:List ByteArray),af.row 9 ak (dk.Now:List ByteArray),af.row 83 ai (dk.Wait:List Turn)]++own) ([af.box ap [z.1,z.2.1,z.2.2,.int .i64 ((((aI dk)).1).Fuse),.bool ((((aI dk)).1).Down)] 81,af.row 9 z.1 ((((aI dk)).1).Kept:List ByteArray),af.row 9 z.2.1 ((((aI dk)).1).Now:List ByteArray),af.row 83 z.2.2 ((((aI dk)).1).Wait:List Turn)]++[af.held w own]) [] w':=by
  have cZ:=H.cap 1 rfl;have da:=H.aX 1 rfl
  have dJ:=H.cap 2 rfl;have dK:=H.aX 2 rfl
  have dc:=H.cap 3 rfl;have df:=H.aX 3 rfl
  refine R.bY (n:=35) (vs:=[.pointer (some ⟨ap,0,none⟩)]) (B:=[af.box ap [ah,ak,ai,.int .i64 dk.Fuse,.bool dk.Down] 81,af.row 9 ah (dk.Kept:List ByteArray),af.row 9 ak (dk.Now:List ByteArray),af.row 83 ai (dk.Wait:List Turn),af.held w own]) [(0,.pointer (some ⟨ap,0,none⟩))] Try.func41 rfl rfl rfl rfl H ?_
  refine R.reg rfl<|R.u 1 rfl<|R.nil ?_
  refine R.reg rfl<|R.u 1 rfl<|R.q (q.a7 rfl) rfl<|R.q (q.bz (off':=4) rfl fx rfl) rfl<|R.q (q.ld 0 rfl rfl fw rfl) rfl<|R.q (q.not rfl) rfl<|R.u 1 rfl<|?_
  rcases Bool.eq_false_or_eq_true (dk.Down) with h1|h1
  ·
    rw [h1]
    refine R.u 6 rfl<|R.nil ?_
    refine R.aH rfl rfl ?_
    refine R.reg rfl<|R.u 1 rfl<|R.q (q.a7 rfl) rfl<|R.q (q.bz (off':=4) rfl fx rfl) rfl<|R.q (q.ld 0 rfl rfl fw rfl) rfl<|R.nil ?_
    refine R.aF rfl rfl ?_
    refine R.reg rfl<|R.q (q.iface rfl cm) rfl<|R.u 1 rfl<|R.nil ?_
    have hz:aI dk=((⟨dk.Kept,dk.Now,dk.Wait,dk.Fuse,true⟩:bA),10):=by (first|exact iH (by assumption)|exact gI (by assumption) (by assumption)|exact iw (by assumption) (by assumption))
    rw [hz]
    exact R.w1 (ah,ak,ai) [0,1,2,3,4] [] rfl Try.results41 (RV.tmp rfl) rfl rfl rfl (fu (by decide) rfl)
  ·
    rw [h1]
    refine R.u 1 rfl<|R.qg rfl (q.a7 rfl) rfl<|R.qg rfl (q.bz (off':=3) rfl jw rfl) rfl<|R.qg rfl (q.ld 0 rfl rfl aK rfl) rfl<|?_
    by_cases h2:dk.Fuse=0
    ·
      refine R.qg rfl (q.eql rfl rfl (beq_iff_eq.2 (by omega))) rfl<|R.u 1 rfl<|R.nil ?_
      refine R.aF rfl rfl ?_
      refine R.reg rfl<|R.u 2 rfl<|R.q (q.a7 rfl) rfl<|R.q (q.bz (off':=4) rfl fx rfl) rfl<|?_
      refine R.s rfl (s.st (us:=[.bool true]) (cs':=[ah,ak,ai,.int .i64 dk.Fuse,.bool true]) 0 _ rfl rfl rfl rfl (.inr ⟨fw,rfl⟩) rfl rfl rfl rfl) fun _=>?_
      refine R.q (q.a7 rfl) rfl<|R.q (q.bz (off':=3) rfl jw rfl) rfl<|?_
      refine R.s rfl (s.st (us:=[.int .i64 (-1)]) (cs':=[ah,ak,ai,.int .i64 (-1),.bool true]) 0 _ rfl rfl rfl rfl (.inr ⟨aK,rfl⟩) rfl rfl rfl rfl) fun _=>?_
      refine R.nil ?_
      refine R.reg rfl<|R.u 1 rfl<|R.q (q.a7 rfl) rfl<|R.q (q.bz (off':=4) rfl fx rfl) rfl<|R.q (q.ld 0 rfl rfl fw rfl) rfl<|R.nil ?_
      refine R.aF rfl rfl ?_
      refine R.reg rfl<|R.q (q.iface rfl cm) rfl<|R.u 1 rfl<|R.nil ?_
      have hz:aI dk=((⟨dk.Kept,dk.Now,dk.Wait,-1,true⟩:bA),10):=by (first|exact iH (by assumption)|exact gI (by assumption) (by assumption)|exact iw (by assumption) (by assumption))
      rw [hz]
      exact R.w1 (ah,ak,ai) [0,1,2,3,4] [] rfl Try.results41 (RV.tmp rfl) rfl rfl rfl (fu (by decide) rfl)
    ·
      refine R.qg rfl (q.eql rfl rfl (beq_eq_false_iff_ne.2 (by omega))) rfl<|R.u 1 rfl<|R.nil ?_
      refine R.aH rfl rfl ?_
      refine R.reg rfl<|R.u 1 rfl<|R.q (q.a7 rfl) rfl<|R.q (q.bz (off':=4) rfl fx rfl) rfl<|R.q (q.ld 0 rfl rfl fw rfl) rfl<|R.nil ?_
      refine R.aH rfl rfl ?_
      refine R.reg rfl<|R.u 2 rfl<|R.q (q.a7 rfl) rfl<|R.q (q.bz (off':=3) rfl jw rfl) rfl<|R.q (q.ld 0 rfl rfl aK rfl) rfl<|R.q (q.sub (r:=dk.Fuse-1) rfl rfl (wr (by omega))) rfl<|R.q (q.max (r:=max (dk.Fuse-1) (-1)) rfl rfl rfl) rfl<|R.q (q.a7 rfl) rfl<|R.q (q.bz (off':=3) rfl jw rfl) rfl<|?_
      refine R.s rfl (s.st (us:=[.int .i64 (max (dk.Fuse-1) (-1))]) (cs':=[ah,ak,ai,.int .i64 (max (dk.Fuse-1) (-1)),.bool false]) 0 _ rfl rfl rfl rfl (.inr ⟨aK,rfl⟩) rfl rfl rfl rfl) fun _=>?_
      refine R.nil ?_
      refine R.reg rfl<|R.u 1 rfl<|R.nil ?_
      have hz:aI dk=((⟨dk.Kept,dk.Now,dk.Wait,(max (dk.Fuse-1) (-1)),false⟩:bA),0):=by (first|exact iH (by assumption)|exact gI (by assumption) (by assumption)|exact iw (by assumption) (by assumption))
      rw [hz]
      exact R.w1 (ah,ak,ai) [0,1,2,3,4] [] rfl Try.results41 (RV.tmp rfl) rfl rfl rfl (lH rfl)
theorem ea (ap:Nat)(ah ak ai:Value)(dk:bA)(i:Int)(sx:ByteArray)(w:World)(own:List Nat)(H:Wd w (blks [af.box ap [ah,ak,ai,.int .i64 dk.Fuse,.bool dk.Down] 81,af.row 9 ah (dk.Kept:List ByteArray),af.row 9 ak (dk.Now:List ByteArray),af.row 83 ai (dk.Wait:List Turn)]++own) ([af.box ap [ah,ak,ai,.int .i64 dk.Fuse,.bool dk.Down] 81,af.row 9 ah (dk.Kept:List ByteArray),af.row 9 ak (dk.Now:List ByteArray),af.row 83 ai (dk.Wait:List Turn)]++[af.held w own]) [] w)(hd:dk.Kept.length=dk.Now.length∧dk.Now.length≤100000∧dk.Wait.length≤100000 ∧ -1≤dk.Fuse∧dk.Fuse≤9223372036854775807):Calls Try.prog 10 #[.pointer (some ⟨ap,0,none⟩),.int .i64 i,.string sx] w fun e w' => ∃z:Value×Value×Value,e = .returned (bG (((aj dk i sx)).2))∧Wd w (blks [af.box ap [ah,ak,ai,.int .i64 dk.Fuse,.bool dk.Down] 81,af.row 9 ah (dk.Kept:List ByteArray),af.row 9 ak (dk.Now:List ByteArray),af.row 83 ai (dk.Wait:List Turn)]++own) ([af.box ap [z.1,z.2.1,z.2.2,.int .i64 ((((aj dk i sx)).1).Fuse),.bool ((((aj dk i sx)).1).Down)] 81,af.row 9 z.1 ((((aj dk i sx)).1).Kept:List ByteArray),af.row 9 z.2.1 ((((aj dk i sx)).1).Now:List ByteArray),af.row 83 z.2.2 ((((aj dk i sx)).1).Wait:List Turn)]++[af.held w own]) [] w':=by
  have cZ:=H.cap 1 rfl;have da:=H.aX 1 rfl
  have dJ:=H.cap 2 rfl;have dK:=H.aX 2 rfl
  have dc:=H.cap 3 rfl;have df:=H.aX 3 rfl
  have hsl:=gW dk;have hs1:=congrArg List.length hsl.1;have hs2:=congrArg List.length hsl.2.1;have hs3:=congrArg List.length hsl.2.2
  refine R.bY (n:=56) (vs:=[.pointer (some ⟨ap,0,none⟩),.int .i64 i,.string sx]) (B:=[af.box ap [ah,ak,ai,.int .i64 dk.Fuse,.bool dk.Down] 81,af.row 9 ah (dk.Kept:List ByteArray),af.row 9 ak (dk.Now:List ByteArray),af.row 83 ai (dk.Wait:List Turn),af.held w own]) [(0,.pointer (some ⟨ap,0,none⟩)),(1,.int .i64 i),(2,.string sx)] Try.func10 rfl rfl rfl rfl H ?_
  refine R.reg rfl<|R.u 1 rfl<|R.nil ?_
  refine R.reg rfl<|R.u 1 rfl<|?_
  by_cases h1:i<0
  ·
    refine R.q (q.lss rfl rfl (decide_eq_true (by omega))) rfl<|R.u 14 rfl<|R.nil ?_
    refine R.aF rfl rfl ?_
    refine R.reg rfl<|R.q (q.iface rfl cm) rfl<|R.u 1 rfl<|R.nil ?_
    have hz:aj dk i sx=(dk,1):=by (first|exact cG (by omega)|exact cU (by omega) (by omega) (by omega) (by assumption)|(rw [bE (by omega) (by omega) (by omega) (by assumption)];first|done|rfl)|(rw [bE (by omega) (by omega) (by omega) (by assumption)];simp_all;done))
    rw [hz]
    exact R.w1 (ah,ak,ai) [0,1,2,3,4] [] rfl Try.results10 (RV.tmp rfl) rfl rfl rfl (fu (by decide) rfl)
  ·
    refine R.q (q.lss rfl rfl (decide_eq_false (by omega))) rfl<|R.u 3 rfl<|R.qg rfl (q.a7 rfl) rfl<|R.qg rfl (q.bz (off':=1) rfl eS rfl) rfl<|R.qg rfl (q.ld 0 rfl rfl dS rfl) rfl<|R.qg rfl (q.len' (fun _=>Wd.row 2 rfl) rfl Try.underlying22) rfl<|?_
    by_cases h2:i<(dk.Now.length:Int)
    ·
      refine R.qg rfl (q.geq rfl rfl (decide_eq_false (by omega))) rfl<|R.u 3 rfl<|R.qg rfl (q.eW rfl Try.underlying9) rfl<|?_
      by_cases h3:48<sx.size
      ·
        refine R.qg rfl (q.gtr rfl rfl (decide_eq_true (by omega))) rfl<|R.u 1 rfl<|R.nil ?_
        refine R.aF rfl rfl ?_
        refine R.reg rfl<|R.q (q.iface rfl cm) rfl<|R.u 1 rfl<|R.nil ?_
        have hz:aj dk i sx=(dk,1):=by (first|exact cG (by omega)|exact cU (by omega) (by omega) (by omega) (by assumption)|(rw [bE (by omega) (by omega) (by omega) (by assumption)];first|done|rfl)|(rw [bE (by omega) (by omega) (by omega) (by assumption)];simp_all;done))
        rw [hz]
        exact R.w1 (ah,ak,ai) [0,1,2,3,4] [] rfl Try.results10 (RV.tmp rfl) rfl rfl rfl (fu (by decide) rfl)
      ·
        refine R.qg rfl (q.gtr rfl rfl (decide_eq_false (by omega))) rfl<|R.u 1 rfl<|R.nil ?_
        refine R.aH rfl rfl ?_
        refine R.reg rfl<|R.u 1 rfl<|?_
        refine R.s (B':=(fun g_:Value×Value×Value=>[af.box ap [g_.1,g_.2.1,g_.2.2,.int .i64 ((((aI dk)).1).Fuse),.bool ((((aI dk)).1).Down)] 81,af.row 9 g_.1 ((((aI dk)).1).Kept:List ByteArray),af.row 9 g_.2.1 ((((aI dk)).1).Now:List ByteArray),af.row 83 g_.2.2 ((((aI dk)).1).Wait:List Turn),af.held w own])) (F':=(fun g_:Value×Value×Value=>[])) rfl (s.bM (B0:=[af.box ap [ah,ak,ai,.int .i64 dk.Fuse,.bool dk.Down] 81,af.row 9 ah (dk.Kept:List ByteArray),af.row 9 ak (dk.Now:List ByteArray),af.row 83 ai (dk.Wait:List Turn)]) (Br:=[af.held w own]) (F0:=[]) [0,1,2,3,4] [] (fun g_:Value×Value×Value=>bG (((aI dk)).2)) (fun g_:Value×Value×Value=>[af.box ap [g_.1,g_.2.1,g_.2.2,.int .i64 ((((aI dk)).1).Fuse),.bool ((((aI dk)).1).Down)] 81,af.row 9 g_.1 ((((aI dk)).1).Kept:List ByteArray),af.row 9 g_.2.1 ((((aI dk)).1).Now:List ByteArray),af.row 83 g_.2.2 ((((aI dk)).1).Wait:List Turn)]) (fun g_:Value×Value×Value=>[]) rfl rfl rfl vK rfl rfl (fun w own hw H=>nr ap ah ak ai (dk) w own H (by first|assumption|omega)) rfl) ?_
        rintro ⟨z1,z2,z3⟩
        dsimp only
        refine R.u 1 rfl<|R.nil ?_
        refine R.reg rfl<|R.u 1 rfl<|?_
        by_cases h4:(aI dk).2=0
        ·
          refine R.q (q.i7 rfl rfl Try.underlying28 (by omega)) rfl<|R.nil ?_
          refine R.aF rfl rfl ?_
          obtain ⟨x1,hx1⟩:∃z,(((aI dk).1).Now)[i.toNat]? = some z:=⟨_,List.getElem?_eq_getElem (by first|omega|(simp;omega))⟩
          refine R.eX (fuel:=9) (Wd w (blks [af.box ap [ah,ak,ai,.int .i64 dk.Fuse,.bool dk.Down] 81,af.row 9 ah (dk.Kept:List ByteArray),af.row 9 ak (dk.Now:List ByteArray),af.row 83 ai (dk.Wait:List Turn)]++own) [af.row 9 z1 (((aI dk).1).Kept:List ByteArray),af.row 83 z3 (((aI dk).1).Wait:List Turn),af.held w own] []) rfl mixed rfl ?_
          refine D.q (i:=0) rfl (by kernel_rfl) (fun _=>Wd.ay [1,3,4] [] rfl rfl rfl) rfl (q.mv rfl) rfl<|D.q (i:=1) rfl (by kernel_rfl) (fun _=>Wd.ay [1,3,4] [] rfl rfl rfl) rfl (q.a7 rfl) rfl<|D.q (i:=2) rfl (by kernel_rfl) (fun _=>Wd.ay [1,3,4] [] rfl rfl rfl) rfl (q.bz (off':=1) rfl eS rfl) rfl<|D.q (i:=4) rfl (by kernel_rfl) (fun _=>Wd.ay [1,3,4] [] rfl rfl rfl) rfl (q.mv rfl) rfl<|D.q (i:=5) rfl (by kernel_rfl) (fun _=>Wd.ay [1,3,4] [] rfl rfl rfl) rfl (q.mv rfl) rfl<|?_
          refine D.two (i:=3) (j:=6) (by kernel_rfl) rfl rfl ?_ ?_
          ·
            refine Do.s (s.c (Qt.a (q.ld 0 rfl rfl dS rfl)) rfl) (fun _=>(fun _=>Wd.ay [1,3,4] [] rfl rfl rfl)) rfl fun _=>?_
            refine D.one (i:=6) (by kernel_rfl) rfl ?_
            refine Do.s (s.c (q.call s7 rfl rfl (fun w hw=>(lX (sx) w  (by first|omega|assumption|(simp;done)|decide)))) rfl) (fun _=>(fun _=>Wd.ay [1,3,4] [] rfl rfl rfl)) rfl fun _=>?_
            refine D.one (i:=7) (by kernel_rfl) rfl ?_
            refine Do.s (s.c (Qt.a (q.idx (i:=i.toNat) (fun _=>Wd.row 2 rfl) rfl rfl dY (by omega) hx1)) rfl) (fun _=>(fun _=>Wd.ay [1,3,4] [] rfl rfl rfl)) rfl fun _=>?_
            refine D.one (i:=8) (by kernel_rfl) rfl ?_
            refine Do.s (s.zc (z:=full sx) 2 _ rfl hx1 rfl rfl rfl rfl (.inr ⟨bu,rfl⟩) rfl) (fun _=>(fun _=>Wd.ay [1,3,4] [] rfl rfl rfl)) rfl fun _=>?_
            refine D.done (by kernel_rfl)<|?_
            obtain ⟨x2,hx2⟩:∃z,((((aI dk).1).Now).set i.toNat (full sx))[i.toNat]? = some z:=⟨_,List.getElem?_eq_getElem (by first|omega|(simp;omega))⟩
            refine R.eX (fuel:=19) (Wd w (blks [af.box ap [ah,ak,ai,.int .i64 dk.Fuse,.bool dk.Down] 81,af.row 9 ah (dk.Kept:List ByteArray),af.row 9 ak (dk.Now:List ByteArray),af.row 83 ai (dk.Wait:List Turn)]++own) [af.row 9 z1 (((aI dk).1).Kept:List ByteArray),af.row 9 z2 (((((aI dk).1).Now).set i.toNat (full sx)):List ByteArray),af.held w own] []) rfl mixed rfl ?_
            refine D.q (i:=0) rfl (by kernel_rfl) (fun _=>Wd.ay [1,2,4] [] rfl rfl rfl) rfl (q.mv rfl) rfl<|D.q (i:=1) rfl (by kernel_rfl) (fun _=>Wd.ay [1,2,4] [] rfl rfl rfl) rfl (q.mv rfl) rfl<|D.q (i:=2) rfl (by kernel_rfl) (fun _=>Wd.ay [1,2,4] [] rfl rfl rfl) rfl (q.a7 rfl) rfl<|D.q (i:=3) rfl (by kernel_rfl) (fun _=>Wd.ay [1,2,4] [] rfl rfl rfl) rfl (q.bz (off':=2) rfl dO rfl) rfl<|D.q (i:=5) rfl (by kernel_rfl) (fun _=>Wd.ay [1,2,4] [] rfl rfl rfl) rfl (q.mv rfl) rfl<|D.q (i:=6) rfl (by kernel_rfl) (fun _=>Wd.ay [1,2,4] [] rfl rfl rfl) rfl (q.mv rfl) rfl<|D.q (i:=7) rfl (by kernel_rfl) (fun _=>Wd.ay [1,2,4] [] rfl rfl rfl) rfl (q.a7 rfl) rfl<|D.q (i:=8) rfl (by kernel_rfl) (fun _=>Wd.ay [1,2,4] [] rfl rfl rfl) rfl (q.bz (off':=1) rfl eS rfl) rfl<|D.q (i:=10) rfl (by kernel_rfl) (fun _=>Wd.ay [1,2,4] [] rfl rfl rfl) rfl (q.mv rfl) rfl<|?_
            refine D.two (i:=4) (j:=9) (by kernel_rfl) rfl rfl ?_ ?_
            ·
              refine Do.s (s.c (Qt.a (q.ld 0 rfl rfl dU rfl)) rfl) (fun _=>(fun _=>Wd.ay [1,2,4] [] rfl rfl rfl)) rfl fun _=>?_
              refine D.one (i:=9) (by kernel_rfl) rfl ?_
              refine Do.s (s.c (Qt.a (q.ld 0 rfl rfl dS rfl)) rfl) (fun _=>(fun _=>Wd.ay [1,2,4] [] rfl rfl rfl)) rfl fun _=>?_
              refine D.q (i:=11) rfl (by kernel_rfl) (fun _=>Wd.ay [1,2,4] [] rfl rfl rfl) rfl (q.idx (i:=i.toNat) (fun _=>Wd.row 1 rfl) rfl rfl dY (by omega) hx2) rfl<|D.q (i:=12) rfl (by kernel_rfl) (fun _=>Wd.ay [1,2,4] [] rfl rfl rfl) rfl (q.jS (fun _=>Wd.row 1 rfl) hx2 rfl bu rfl) rfl<|D.q (i:=13) rfl (by kernel_rfl) (fun _=>Wd.ay [1,2,4] [] rfl rfl rfl) rfl (q.build (cs:=[.int .i64 i,.string x2]) qJ rfl rfl) rfl<|?_
              refine D.one (i:=14) (by kernel_rfl) rfl ?_
              refine Do.s (s.bs (l:=([(⟨i,x2⟩:Turn)]:List Turn)) kF iq rfl rfl rfl rfl rfl rfl rfl) (fun _=>(fun _=>Wd.ay [2,3,5] [] rfl rfl rfl)) rfl fun b1=>?_
              refine D.one (i:=15) (by kernel_rfl) rfl ?_
              refine Do.s (s.app (l2:=[(⟨i,x2⟩:Turn)]) 4 _ rfl rfl rfl (fun _=>Wd.row 0 rfl) jy (by first|omega|(simp;omega)) (by first|omega|(simp;omega)) (fun _=>rfl) rfl) (fun _=>(fun _=>Wd.ay [2,3,5] [] rfl rfl rfl)) rfl fun v1=>?_
              refine D.q (i:=16) rfl (by kernel_rfl) (fun _=>Wd.ay [2,3,5] [] rfl rfl rfl) rfl (q.a7 rfl) rfl<|D.q (i:=17) rfl (by kernel_rfl) (fun _=>Wd.ay [2,3,5] [] rfl rfl rfl) rfl (q.bz (off':=2) rfl dO rfl) rfl<|?_
              refine D.one (i:=18) (by kernel_rfl) rfl ?_
              refine Do.s (s.pN (us:=[v1]) (cs':=[z1,z2,v1,.int .i64 (((aI dk).1).Fuse),.bool (((aI dk).1).Down)]) 1 _ rfl rfl rfl (fun w hw=>Sl.dX ((fun _=>Wd.row 4 rfl) w hw)) (.inr ⟨dU,rfl⟩) (fun w hw=>(bN (Sl.one ((fun _=>Wd.row 4 rfl) w hw)) dD)) rfl rfl rfl) (fun _=>(fun _=>Wd.ay [2,3,5] [] rfl rfl rfl)) rfl fun _=>?_
              refine D.done (by kernel_rfl)<|?_
              refine R.reg rfl<|R.u 2 rfl<|R.nil ?_
              have hz:aj dk i sx=((⟨((aI dk).1).Kept,((((aI dk).1).Now).set i.toNat (full sx)),((((aI dk).1).Wait)++([(⟨i,x2⟩:Turn)])),((aI dk).1).Fuse,((aI dk).1).Down⟩:bA),(aI dk).2):=by (first|exact cG (by omega)|exact cU (by omega) (by omega) (by omega) (by assumption)|(rw [bE (by omega) (by omega) (by omega) (by assumption)];first|done|rfl)|(rw [bE (by omega) (by omega) (by omega) (by assumption)];simp_all;done))
              rw [hz]
              exact R.w1 (z1,z2,v1) [1,2,3,4,5] [] rfl Try.results10 (RV.tmp rfl) rfl rfl rfl rfl
            ·
              refine Do.s (s.c (Qt.a (q.ld 0 rfl rfl dS rfl)) rfl) (fun _=>(fun _=>Wd.ay [1,2,4] [] rfl rfl rfl)) rfl fun _=>?_
              refine D.q (i:=11) rfl (by kernel_rfl) (fun _=>Wd.ay [1,2,4] [] rfl rfl rfl) rfl (q.idx (i:=i.toNat) (fun _=>Wd.row 1 rfl) rfl rfl dY (by omega) hx2) rfl<|D.q (i:=12) rfl (by kernel_rfl) (fun _=>Wd.ay [1,2,4] [] rfl rfl rfl) rfl (q.jS (fun _=>Wd.row 1 rfl) hx2 rfl bu rfl) rfl<|D.q (i:=13) rfl (by kernel_rfl) (fun _=>Wd.ay [1,2,4] [] rfl rfl rfl) rfl (q.build (cs:=[.int .i64 i,.string x2]) qJ rfl rfl) rfl<|?_
              refine D.two (i:=4) (j:=14) (by kernel_rfl) rfl rfl ?_ ?_
              ·
                refine Do.s (s.c (Qt.a (q.ld 0 rfl rfl dU rfl)) rfl) (fun _=>(fun _=>Wd.ay [1,2,4] [] rfl rfl rfl)) rfl fun _=>?_
                refine D.one (i:=14) (by kernel_rfl) rfl ?_
                refine Do.s (s.bs (l:=([(⟨i,x2⟩:Turn)]:List Turn)) kF iq rfl rfl rfl rfl rfl rfl rfl) (fun _=>(fun _=>Wd.ay [2,3,5] [] rfl rfl rfl)) rfl fun b2=>?_
                refine D.one (i:=15) (by kernel_rfl) rfl ?_
                refine Do.s (s.app (l2:=[(⟨i,x2⟩:Turn)]) 4 _ rfl rfl rfl (fun _=>Wd.row 0 rfl) jy (by first|omega|(simp;omega)) (by first|omega|(simp;omega)) (fun _=>rfl) rfl) (fun _=>(fun _=>Wd.ay [2,3,5] [] rfl rfl rfl)) rfl fun v2=>?_
                refine D.q (i:=16) rfl (by kernel_rfl) (fun _=>Wd.ay [2,3,5] [] rfl rfl rfl) rfl (q.a7 rfl) rfl<|D.q (i:=17) rfl (by kernel_rfl) (fun _=>Wd.ay [2,3,5] [] rfl rfl rfl) rfl (q.bz (off':=2) rfl dO rfl) rfl<|?_
                refine D.one (i:=18) (by kernel_rfl) rfl ?_
                refine Do.s (s.pN (us:=[v2]) (cs':=[z1,z2,v2,.int .i64 (((aI dk).1).Fuse),.bool (((aI dk).1).Down)]) 1 _ rfl rfl rfl (fun w hw=>Sl.dX ((fun _=>Wd.row 4 rfl) w hw)) (.inr ⟨dU,rfl⟩) (fun w hw=>(bN (Sl.one ((fun _=>Wd.row 4 rfl) w hw)) dD)) rfl rfl rfl) (fun _=>(fun _=>Wd.ay [2,3,5] [] rfl rfl rfl)) rfl fun _=>?_
                refine D.done (by kernel_rfl)<|?_
                refine R.reg rfl<|R.u 2 rfl<|R.nil ?_
                have hz:aj dk i sx=((⟨((aI dk).1).Kept,((((aI dk).1).Now).set i.toNat (full sx)),((((aI dk).1).Wait)++([(⟨i,x2⟩:Turn)])),((aI dk).1).Fuse,((aI dk).1).Down⟩:bA),(aI dk).2):=by (first|exact cG (by omega)|exact cU (by omega) (by omega) (by omega) (by assumption)|(rw [bE (by omega) (by omega) (by omega) (by assumption)];first|done|rfl)|(rw [bE (by omega) (by omega) (by omega) (by assumption)];simp_all;done))
                rw [hz]
                exact R.w1 (z1,z2,v2) [1,2,3,4,5] [] rfl Try.results10 (RV.tmp rfl) rfl rfl rfl rfl
              ·
                refine Do.s (s.bs (l:=([(⟨i,x2⟩:Turn)]:List Turn)) kF iq rfl rfl rfl rfl rfl rfl rfl) (fun _=>(fun _=>Wd.ay [2,3,5] [] rfl rfl rfl)) rfl fun b3=>?_
                refine D.one (i:=4) (by kernel_rfl) rfl ?_
                refine Do.s (s.c (Qt.a (q.ld 1 rfl rfl dU rfl)) rfl) (fun _=>(fun _=>Wd.ay [2,3,5] [] rfl rfl rfl)) rfl fun _=>?_
                refine D.one (i:=15) (by kernel_rfl) rfl ?_
                refine Do.s (s.app (l2:=[(⟨i,x2⟩:Turn)]) 4 _ rfl rfl rfl (fun _=>Wd.row 0 rfl) jy (by first|omega|(simp;omega)) (by first|omega|(simp;omega)) (fun _=>rfl) rfl) (fun _=>(fun _=>Wd.ay [2,3,5] [] rfl rfl rfl)) rfl fun v3=>?_
                refine D.q (i:=16) rfl (by kernel_rfl) (fun _=>Wd.ay [2,3,5] [] rfl rfl rfl) rfl (q.a7 rfl) rfl<|D.q (i:=17) rfl (by kernel_rfl) (fun _=>Wd.ay [2,3,5] [] rfl rfl rfl) rfl (q.bz (off':=2) rfl dO rfl) rfl<|?_
                refine D.one (i:=18) (by kernel_rfl) rfl ?_
                refine Do.s (s.pN (us:=[v3]) (cs':=[z1,z2,v3,.int .i64 (((aI dk).1).Fuse),.bool (((aI dk).1).Down)]) 1 _ rfl rfl rfl (fun w hw=>Sl.dX ((fun _=>Wd.row 4 rfl) w hw)) (.inr ⟨dU,rfl⟩) (fun w hw=>(bN (Sl.one ((fun _=>Wd.row 4 rfl) w hw)) dD)) rfl rfl rfl) (fun _=>(fun _=>Wd.ay [2,3,5] [] rfl rfl rfl)) rfl fun _=>?_
                refine D.done (by kernel_rfl)<|?_
                refine R.reg rfl<|R.u 2 rfl<|R.nil ?_
                have hz:aj dk i sx=((⟨((aI dk).1).Kept,((((aI dk).1).Now).set i.toNat (full sx)),((((aI dk).1).Wait)++([(⟨i,x2⟩:Turn)])),((aI dk).1).Fuse,((aI dk).1).Down⟩:bA),(aI dk).2):=by (first|exact cG (by omega)|exact cU (by omega) (by omega) (by omega) (by assumption)|(rw [bE (by omega) (by omega) (by omega) (by assumption)];first|done|rfl)|(rw [bE (by omega) (by omega) (by omega) (by assumption)];simp_all;done))
                rw [hz]
                exact R.w1 (z1,z2,v3) [1,2,3,4,5] [] rfl Try.results10 (RV.tmp rfl) rfl rfl rfl rfl
          ·
            refine Do.s (s.c (q.call s7 rfl rfl (fun w hw=>(lX (sx) w  (by first|omega|assumption|(simp;done)|decide)))) rfl) (fun _=>(fun _=>Wd.ay [1,3,4] [] rfl rfl rfl)) rfl fun _=>?_
            refine D.one (i:=3) (by kernel_rfl) rfl ?_
            refine Do.s (s.c (Qt.a (q.ld 0 rfl rfl dS rfl)) rfl) (fun _=>(fun _=>Wd.ay [1,3,4] [] rfl rfl rfl)) rfl fun _=>?_
            refine D.one (i:=7) (by kernel_rfl) rfl ?_
            refine Do.s (s.c (Qt.a (q.idx (i:=i.toNat) (fun _=>Wd.row 2 rfl) rfl rfl dY (by omega) hx1)) rfl) (fun _=>(fun _=>Wd.ay [1,3,4] [] rfl rfl rfl)) rfl fun _=>?_
            refine D.one (i:=8) (by kernel_rfl) rfl ?_
            refine Do.s (s.zc (z:=full sx) 2 _ rfl hx1 rfl rfl rfl rfl (.inr ⟨bu,rfl⟩) rfl) (fun _=>(fun _=>Wd.ay [1,3,4] [] rfl rfl rfl)) rfl fun _=>?_
            refine D.done (by kernel_rfl)<|?_
            obtain ⟨x3,hx3⟩:∃z,((((aI dk).1).Now).set i.toNat (full sx))[i.toNat]? = some z:=⟨_,List.getElem?_eq_getElem (by first|omega|(simp;omega))⟩
            refine R.eX (fuel:=19) (Wd w (blks [af.box ap [ah,ak,ai,.int .i64 dk.Fuse,.bool dk.Down] 81,af.row 9 ah (dk.Kept:List ByteArray),af.row 9 ak (dk.Now:List ByteArray),af.row 83 ai (dk.Wait:List Turn)]++own) [af.row 9 z1 (((aI dk).1).Kept:List ByteArray),af.row 9 z2 (((((aI dk).1).Now).set i.toNat (full sx)):List ByteArray),af.held w own] []) rfl mixed rfl ?_
            refine D.q (i:=0) rfl (by kernel_rfl) (fun _=>Wd.ay [1,2,4] [] rfl rfl rfl) rfl (q.mv rfl) rfl<|D.q (i:=1) rfl (by kernel_rfl) (fun _=>Wd.ay [1,2,4] [] rfl rfl rfl) rfl (q.mv rfl) rfl<|D.q (i:=2) rfl (by kernel_rfl) (fun _=>Wd.ay [1,2,4] [] rfl rfl rfl) rfl (q.a7 rfl) rfl<|D.q (i:=3) rfl (by kernel_rfl) (fun _=>Wd.ay [1,2,4] [] rfl rfl rfl) rfl (q.bz (off':=2) rfl dO rfl) rfl<|D.q (i:=5) rfl (by kernel_rfl) (fun _=>Wd.ay [1,2,4] [] rfl rfl rfl) rfl (q.mv rfl) rfl<|D.q (i:=6) rfl (by kernel_rfl) (fun _=>Wd.ay [1,2,4] [] rfl rfl rfl) rfl (q.mv rfl) rfl<|D.q (i:=7) rfl (by kernel_rfl) (fun _=>Wd.ay [1,2,4] [] rfl rfl rfl) rfl (q.a7 rfl) rfl<|D.q (i:=8) rfl (by kernel_rfl) (fun _=>Wd.ay [1,2,4] [] rfl rfl rfl) rfl (q.bz (off':=1) rfl eS rfl) rfl<|D.q (i:=10) rfl (by kernel_rfl) (fun _=>Wd.ay [1,2,4] [] rfl rfl rfl) rfl (q.mv rfl) rfl<|?_
            refine D.two (i:=4) (j:=9) (by kernel_rfl) rfl rfl ?_ ?_
            ·
              refine Do.s (s.c (Qt.a (q.ld 0 rfl rfl dU rfl)) rfl) (fun _=>(fun _=>Wd.ay [1,2,4] [] rfl rfl rfl)) rfl fun _=>?_
              refine D.one (i:=9) (by kernel_rfl) rfl ?_
              refine Do.s (s.c (Qt.a (q.ld 0 rfl rfl dS rfl)) rfl) (fun _=>(fun _=>Wd.ay [1,2,4] [] rfl rfl rfl)) rfl fun _=>?_
              refine D.q (i:=11) rfl (by kernel_rfl) (fun _=>Wd.ay [1,2,4] [] rfl rfl rfl) rfl (q.idx (i:=i.toNat) (fun _=>Wd.row 1 rfl) rfl rfl dY (by omega) hx3) rfl<|D.q (i:=12) rfl (by kernel_rfl) (fun _=>Wd.ay [1,2,4] [] rfl rfl rfl) rfl (q.jS (fun _=>Wd.row 1 rfl) hx3 rfl bu rfl) rfl<|D.q (i:=13) rfl (by kernel_rfl) (fun _=>Wd.ay [1,2,4] [] rfl rfl rfl) rfl (q.build (cs:=[.int .i64 i,.string x3]) qJ rfl rfl) rfl<|?_
              refine D.one (i:=14) (by kernel_rfl) rfl ?_
              refine Do.s (s.bs (l:=([(⟨i,x3⟩:Turn)]:List Turn)) kF iq rfl rfl rfl rfl rfl rfl rfl) (fun _=>(fun _=>Wd.ay [2,3,5] [] rfl rfl rfl)) rfl fun b4=>?_
              refine D.one (i:=15) (by kernel_rfl) rfl ?_
              refine Do.s (s.app (l2:=[(⟨i,x3⟩:Turn)]) 4 _ rfl rfl rfl (fun _=>Wd.row 0 rfl) jy (by first|omega|(simp;omega)) (by first|omega|(simp;omega)) (fun _=>rfl) rfl) (fun _=>(fun _=>Wd.ay [2,3,5] [] rfl rfl rfl)) rfl fun v4=>?_
              refine D.q (i:=16) rfl (by kernel_rfl) (fun _=>Wd.ay [2,3,5] [] rfl rfl rfl) rfl (q.a7 rfl) rfl<|D.q (i:=17) rfl (by kernel_rfl) (fun _=>Wd.ay [2,3,5] [] rfl rfl rfl) rfl (q.bz (off':=2) rfl dO rfl) rfl<|?_
              refine D.one (i:=18) (by kernel_rfl) rfl ?_
              refine Do.s (s.pN (us:=[v4]) (cs':=[z1,z2,v4,.int .i64 (((aI dk).1).Fuse),.bool (((aI dk).1).Down)]) 1 _ rfl rfl rfl (fun w hw=>Sl.dX ((fun _=>Wd.row 4 rfl) w hw)) (.inr ⟨dU,rfl⟩) (fun w hw=>(bN (Sl.one ((fun _=>Wd.row 4 rfl) w hw)) dD)) rfl rfl rfl) (fun _=>(fun _=>Wd.ay [2,3,5] [] rfl rfl rfl)) rfl fun _=>?_
              refine D.done (by kernel_rfl)<|?_
              refine R.reg rfl<|R.u 2 rfl<|R.nil ?_
              have hz:aj dk i sx=((⟨((aI dk).1).Kept,((((aI dk).1).Now).set i.toNat (full sx)),((((aI dk).1).Wait)++([(⟨i,x3⟩:Turn)])),((aI dk).1).Fuse,((aI dk).1).Down⟩:bA),(aI dk).2):=by (first|exact cG (by omega)|exact cU (by omega) (by omega) (by omega) (by assumption)|(rw [bE (by omega) (by omega) (by omega) (by assumption)];first|done|rfl)|(rw [bE (by omega) (by omega) (by omega) (by assumption)];simp_all;done))
              rw [hz]
              exact R.w1 (z1,z2,v4) [1,2,3,4,5] [] rfl Try.results10 (RV.tmp rfl) rfl rfl rfl rfl
            ·
              refine Do.s (s.c (Qt.a (q.ld 0 rfl rfl dS rfl)) rfl) (fun _=>(fun _=>Wd.ay [1,2,4] [] rfl rfl rfl)) rfl fun _=>?_
              refine D.q (i:=11) rfl (by kernel_rfl) (fun _=>Wd.ay [1,2,4] [] rfl rfl rfl) rfl (q.idx (i:=i.toNat) (fun _=>Wd.row 1 rfl) rfl rfl dY (by omega) hx3) rfl<|D.q (i:=12) rfl (by kernel_rfl) (fun _=>Wd.ay [1,2,4] [] rfl rfl rfl) rfl (q.jS (fun _=>Wd.row 1 rfl) hx3 rfl bu rfl) rfl<|D.q (i:=13) rfl (by kernel_rfl) (fun _=>Wd.ay [1,2,4] [] rfl rfl rfl) rfl (q.build (cs:=[.int .i64 i,.string x3]) qJ rfl rfl) rfl<|?_
              refine D.two (i:=4) (j:=14) (by kernel_rfl) rfl rfl ?_ ?_
              ·
                refine Do.s (s.c (Qt.a (q.ld 0 rfl rfl dU rfl)) rfl) (fun _=>(fun _=>Wd.ay [1,2,4] [] rfl rfl rfl)) rfl fun _=>?_
                refine D.one (i:=14) (by kernel_rfl) rfl ?_
                refine Do.s (s.bs (l:=([(⟨i,x3⟩:Turn)]:List Turn)) kF iq rfl rfl rfl rfl rfl rfl rfl) (fun _=>(fun _=>Wd.ay [2,3,5] [] rfl rfl rfl)) rfl fun b5=>?_
                refine D.one (i:=15) (by kernel_rfl) rfl ?_
                refine Do.s (s.app (l2:=[(⟨i,x3⟩:Turn)]) 4 _ rfl rfl rfl (fun _=>Wd.row 0 rfl) jy (by first|omega|(simp;omega)) (by first|omega|(simp;omega)) (fun _=>rfl) rfl) (fun _=>(fun _=>Wd.ay [2,3,5] [] rfl rfl rfl)) rfl fun v5=>?_
                refine D.q (i:=16) rfl (by kernel_rfl) (fun _=>Wd.ay [2,3,5] [] rfl rfl rfl) rfl (q.a7 rfl) rfl<|D.q (i:=17) rfl (by kernel_rfl) (fun _=>Wd.ay [2,3,5] [] rfl rfl rfl) rfl (q.bz (off':=2) rfl dO rfl) rfl<|?_
                refine D.one (i:=18) (by kernel_rfl) rfl ?_
                refine Do.s (s.pN (us:=[v5]) (cs':=[z1,z2,v5,.int .i64 (((aI dk).1).Fuse),.bool (((aI dk).1).Down)]) 1 _ rfl rfl rfl (fun w hw=>Sl.dX ((fun _=>Wd.row 4 rfl) w hw)) (.inr ⟨dU,rfl⟩) (fun w hw=>(bN (Sl.one ((fun _=>Wd.row 4 rfl) w hw)) dD)) rfl rfl rfl) (fun _=>(fun _=>Wd.ay [2,3,5] [] rfl rfl rfl)) rfl fun _=>?_
                refine D.done (by kernel_rfl)<|?_
                refine R.reg rfl<|R.u 2 rfl<|R.nil ?_
                have hz:aj dk i sx=((⟨((aI dk).1).Kept,((((aI dk).1).Now).set i.toNat (full sx)),((((aI dk).1).Wait)++([(⟨i,x3⟩:Turn)])),((aI dk).1).Fuse,((aI dk).1).Down⟩:bA),(aI dk).2):=by (first|exact cG (by omega)|exact cU (by omega) (by omega) (by omega) (by assumption)|(rw [bE (by omega) (by omega) (by omega) (by assumption)];first|done|rfl)|(rw [bE (by omega) (by omega) (by omega) (by assumption)];simp_all;done))
                rw [hz]
                exact R.w1 (z1,z2,v5) [1,2,3,4,5] [] rfl Try.results10 (RV.tmp rfl) rfl rfl rfl rfl
              ·
                refine Do.s (s.bs (l:=([(⟨i,x3⟩:Turn)]:List Turn)) kF iq rfl rfl rfl rfl rfl rfl rfl) (fun _=>(fun _=>Wd.ay [2,3,5] [] rfl rfl rfl)) rfl fun b6=>?_
                refine D.one (i:=4) (by kernel_rfl) rfl ?_
                refine Do.s (s.c (Qt.a (q.ld 1 rfl rfl dU rfl)) rfl) (fun _=>(fun _=>Wd.ay [2,3,5] [] rfl rfl rfl)) rfl fun _=>?_
                refine D.one (i:=15) (by kernel_rfl) rfl ?_
                refine Do.s (s.app (l2:=[(⟨i,x3⟩:Turn)]) 4 _ rfl rfl rfl (fun _=>Wd.row 0 rfl) jy (by first|omega|(simp;omega)) (by first|omega|(simp;omega)) (fun _=>rfl) rfl) (fun _=>(fun _=>Wd.ay [2,3,5] [] rfl rfl rfl)) rfl fun v6=>?_
                refine D.q (i:=16) rfl (by kernel_rfl) (fun _=>Wd.ay [2,3,5] [] rfl rfl rfl) rfl (q.a7 rfl) rfl<|D.q (i:=17) rfl (by kernel_rfl) (fun _=>Wd.ay [2,3,5] [] rfl rfl rfl) rfl (q.bz (off':=2) rfl dO rfl) rfl<|?_
                refine D.one (i:=18) (by kernel_rfl) rfl ?_
                refine Do.s (s.pN (us:=[v6]) (cs':=[z1,z2,v6,.int .i64 (((aI dk).1).Fuse),.bool (((aI dk).1).Down)]) 1 _ rfl rfl rfl (fun w hw=>Sl.dX ((fun _=>Wd.row 4 rfl) w hw)) (.inr ⟨dU,rfl⟩) (fun w hw=>(bN (Sl.one ((fun _=>Wd.row 4 rfl) w hw)) dD)) rfl rfl rfl) (fun _=>(fun _=>Wd.ay [2,3,5] [] rfl rfl rfl)) rfl fun _=>?_
                refine D.done (by kernel_rfl)<|?_
                refine R.reg rfl<|R.u 2 rfl<|R.nil ?_
                have hz:aj dk i sx=((⟨((aI dk).1).Kept,((((aI dk).1).Now).set i.toNat (full sx)),((((aI dk).1).Wait)++([(⟨i,x3⟩:Turn)])),((aI dk).1).Fuse,((aI dk).1).Down⟩:bA),(aI dk).2):=by (first|exact cG (by omega)|exact cU (by omega) (by omega) (by omega) (by assumption)|(rw [bE (by omega) (by omega) (by omega) (by assumption)];first|done|rfl)|(rw [bE (by omega) (by omega) (by omega) (by assumption)];simp_all;done))
                rw [hz]
                exact R.w1 (z1,z2,v6) [1,2,3,4,5] [] rfl Try.results10 (RV.tmp rfl) rfl rfl rfl rfl
        ·
          refine R.q (q.fq rfl rfl Try.underlying28 (by omega)) rfl<|R.nil ?_
          refine R.aH rfl rfl ?_
          refine R.reg rfl<|R.u 2 rfl<|R.nil ?_
          have hz:aj dk i sx=(((aI dk).1),(aI dk).2):=by (first|exact cG (by omega)|exact cU (by omega) (by omega) (by omega) (by assumption)|(rw [bE (by omega) (by omega) (by omega) (by assumption)];first|done|rfl)|(rw [bE (by omega) (by omega) (by omega) (by assumption)];simp_all;done))
          rw [hz]
          exact R.w1 (z1,z2,z3) [0,1,2,3,4] [] rfl Try.results10 (RV.tmp rfl) rfl rfl rfl rfl
    ·
      refine R.qg rfl (q.geq rfl rfl (decide_eq_true (by omega))) rfl<|R.u 6 rfl<|R.nil ?_
      refine R.aF rfl rfl ?_
      refine R.reg rfl<|R.q (q.iface rfl cm) rfl<|R.u 1 rfl<|R.nil ?_
      have hz:aj dk i sx=(dk,1):=by (first|exact cG (by omega)|exact cU (by omega) (by omega) (by omega) (by assumption)|(rw [bE (by omega) (by omega) (by omega) (by assumption)];first|done|rfl)|(rw [bE (by omega) (by omega) (by omega) (by assumption)];simp_all;done))
      rw [hz]
      exact R.w1 (ah,ak,ai) [0,1,2,3,4] [] rfl Try.results10 (RV.tmp rfl) rfl rfl rfl (fu (by decide) rfl)
theorem fE (ap:Nat)(ah ak ai:Value)(dk:bA)(w:World)(own:List Nat)(H:Wd w (blks [af.box ap [ah,ak,ai,.int .i64 dk.Fuse,.bool dk.Down] 81,af.row 9 ah (dk.Kept:List ByteArray),af.row 9 ak (dk.Now:List ByteArray),af.row 83 ai (dk.Wait:List Turn)]++own) ([af.box ap [ah,ak,ai,.int .i64 dk.Fuse,.bool dk.Down] 81,af.row 9 ah (dk.Kept:List ByteArray),af.row 9 ak (dk.Now:List ByteArray),af.row 83 ai (dk.Wait:List Turn)]++[af.held w own]) [] w)(hd:dk.Kept.length=dk.Now.length∧dk.Now.length≤100000∧dk.Wait.length≤100000 ∧ -1≤dk.Fuse∧dk.Fuse≤9223372036854775807):Calls Try.prog 51 #[.pointer (some ⟨ap,0,none⟩)] w fun e w' => ∃z:Value×Value×Value,e = .returned (bG (((ag dk)).2))∧Wd w (blks [af.box ap [ah,ak,ai,.int .i64 dk.Fuse,.bool dk.Down] 81,af.row 9 ah (dk.Kept:List ByteArray),af.row 9 ak (dk.Now:List ByteArray),af.row 83 ai (dk.Wait:List Turn)]++own) ([af.box ap [z.1,z.2.1,z.2.2,.int .i64 ((((ag dk)).1).Fuse),.bool ((((ag dk)).1).Down)] 81,af.row 9 z.1 ((((ag dk)).1).Kept:List ByteArray),af.row 9 z.2.1 ((((ag dk)).1).Now:List ByteArray),af.row 83 z.2.2 ((((ag dk)).1).Wait:List Turn)]++[af.held w own]) [] w':=by
  have cZ:=H.cap 1 rfl;have da:=H.aX 1 rfl
  have dJ:=H.cap 2 rfl;have dK:=H.aX 2 rfl
  have dc:=H.cap 3 rfl;have df:=H.aX 3 rfl
  have hsl:=gW dk;have hs1:=congrArg List.length hsl.1;have hs2:=congrArg List.length hsl.2.1;have hs3:=congrArg List.length hsl.2.2
  refine R.bY (n:=21) (vs:=[.pointer (some ⟨ap,0,none⟩)]) (B:=[af.box ap [ah,ak,ai,.int .i64 dk.Fuse,.bool dk.Down] 81,af.row 9 ah (dk.Kept:List ByteArray),af.row 9 ak (dk.Now:List ByteArray),af.row 83 ai (dk.Wait:List Turn),af.held w own]) [(0,.pointer (some ⟨ap,0,none⟩))] Try.func51 rfl rfl rfl rfl H ?_
  refine R.reg rfl<|R.u 1 rfl<|R.nil ?_
  refine R.reg rfl<|R.u 1 rfl<|?_
  refine R.s (B':=(fun g_:Value×Value×Value=>[af.box ap [g_.1,g_.2.1,g_.2.2,.int .i64 ((((aI dk)).1).Fuse),.bool ((((aI dk)).1).Down)] 81,af.row 9 g_.1 ((((aI dk)).1).Kept:List ByteArray),af.row 9 g_.2.1 ((((aI dk)).1).Now:List ByteArray),af.row 83 g_.2.2 ((((aI dk)).1).Wait:List Turn),af.held w own])) (F':=(fun g_:Value×Value×Value=>[])) rfl (s.bM (B0:=[af.box ap [ah,ak,ai,.int .i64 dk.Fuse,.bool dk.Down] 81,af.row 9 ah (dk.Kept:List ByteArray),af.row 9 ak (dk.Now:List ByteArray),af.row 83 ai (dk.Wait:List Turn)]) (Br:=[af.held w own]) (F0:=[]) [0,1,2,3,4] [] (fun g_:Value×Value×Value=>bG (((aI dk)).2)) (fun g_:Value×Value×Value=>[af.box ap [g_.1,g_.2.1,g_.2.2,.int .i64 ((((aI dk)).1).Fuse),.bool ((((aI dk)).1).Down)] 81,af.row 9 g_.1 ((((aI dk)).1).Kept:List ByteArray),af.row 9 g_.2.1 ((((aI dk)).1).Now:List ByteArray),af.row 83 g_.2.2 ((((aI dk)).1).Wait:List Turn)]) (fun g_:Value×Value×Value=>[]) rfl rfl rfl vK rfl rfl (fun w own hw H=>nr ap ah ak ai (dk) w own H (by first|assumption|omega)) rfl) ?_
  rintro ⟨z1,z2,z3⟩
  dsimp only
  refine R.u 1 rfl<|R.nil ?_
  refine R.reg rfl<|R.u 1 rfl<|?_
  by_cases h1:(aI dk).2=0
  ·
    refine R.q (q.i7 rfl rfl Try.underlying28 (by omega)) rfl<|R.nil ?_
    refine R.aF rfl rfl ?_
    refine R.eX (fuel:=9) (Wd w (blks [af.box ap [ah,ak,ai,.int .i64 dk.Fuse,.bool dk.Down] 81,af.row 9 ah (dk.Kept:List ByteArray),af.row 9 ak (dk.Now:List ByteArray),af.row 83 ai (dk.Wait:List Turn)]++own) [af.row 9 z2 (((aI dk).1).Now:List ByteArray),af.row 83 z3 (((aI dk).1).Wait:List Turn),af.held w own] []) rfl mixed rfl ?_
    refine D.q (i:=0) rfl (by kernel_rfl) (fun _=>Wd.ay [2,3,4] [] rfl rfl rfl) rfl (q.mv rfl) rfl<|D.q (i:=1) rfl (by kernel_rfl) (fun _=>Wd.ay [2,3,4] [] rfl rfl rfl) rfl (q.a7 rfl) rfl<|D.q (i:=2) rfl (by kernel_rfl) (fun _=>Wd.ay [2,3,4] [] rfl rfl rfl) rfl (q.bz (off':=0) rfl rN rfl) rfl<|D.q (i:=4) rfl (by kernel_rfl) (fun _=>Wd.ay [2,3,4] [] rfl rfl rfl) rfl (q.mv rfl) rfl<|D.q (i:=5) rfl (by kernel_rfl) (fun _=>Wd.ay [2,3,4] [] rfl rfl rfl) rfl (q.a7 rfl) rfl<|D.q (i:=6) rfl (by kernel_rfl) (fun _=>Wd.ay [2,3,4] [] rfl rfl rfl) rfl (q.bz (off':=1) rfl eS rfl) rfl<|?_
    refine D.two (i:=3) (j:=7) (by kernel_rfl) rfl rfl ?_ ?_
    ·
      refine Do.s (s.c (Qt.a (q.ld 0 rfl rfl dS rfl)) rfl) (fun _=>(fun _=>Wd.ay [2,3,4] [] rfl rfl rfl)) rfl fun _=>?_
      refine D.one (i:=7) (by kernel_rfl) rfl ?_
      refine Do.s (s.c (Qt.a (q.ld 0 rfl rfl dS rfl)) rfl) (fun _=>(fun _=>Wd.ay [2,3,4] [] rfl rfl rfl)) rfl fun _=>?_
      refine D.one (i:=8) (by kernel_rfl) rfl ?_
      refine Do.s (s.copy (l2:=((aI dk).1).Now) 1 _ rfl (fun _=>Wd.row 2 rfl) rfl rfl rfl dY (by first|omega|assumption|(simp;omega)) rfl rfl) (fun _=>(fun _=>Wd.ay [2,3,4] [] rfl rfl rfl)) rfl fun _=>?_
      refine D.done (by kernel_rfl)<|?_
      refine R.reg rfl<|R.u 1 rfl<|R.q (q.a7 rfl) rfl<|R.q (q.bz (off':=2) rfl dO rfl) rfl<|?_
      refine R.s rfl (s.st (us:=[.slice none 0 0]) (cs':=[z1,z2,.slice none 0 0,.int .i64 (((aI dk).1).Fuse),.bool (((aI dk).1).Down)]) 0 _ rfl rfl rfl rfl (.inr ⟨dU,rfl⟩) rfl rfl rfl rfl) fun _=>?_
      refine R.nil ?_
      refine R.reg rfl<|R.u 2 rfl<|R.nil ?_
      refine R.row0 (α:=Turn) 83 ?_
      have hz:ag dk=((⟨((aI dk).1).Now,((aI dk).1).Now,[],((aI dk).1).Fuse,((aI dk).1).Down⟩:bA),(aI dk).2):=by (unfold ag;first|(rw [if_pos (by assumption)];first|done|rfl|simp_all)|(rw [if_neg (by assumption)];first|done|rfl))
      rw [hz]
      exact R.w1 (z1,z2,(.slice none 0 0)) [1,2,3,0,5] [] rfl Try.results51 (RV.tmp rfl) rfl rfl rfl rfl
    ·
      refine Do.s (s.c (Qt.a (q.ld 0 rfl rfl dS rfl)) rfl) (fun _=>(fun _=>Wd.ay [2,3,4] [] rfl rfl rfl)) rfl fun _=>?_
      refine D.one (i:=3) (by kernel_rfl) rfl ?_
      refine Do.s (s.c (Qt.a (q.ld 0 rfl rfl dS rfl)) rfl) (fun _=>(fun _=>Wd.ay [2,3,4] [] rfl rfl rfl)) rfl fun _=>?_
      refine D.one (i:=8) (by kernel_rfl) rfl ?_
      refine Do.s (s.copy (l2:=((aI dk).1).Now) 1 _ rfl (fun _=>Wd.row 2 rfl) rfl rfl rfl dY (by first|omega|assumption|(simp;omega)) rfl rfl) (fun _=>(fun _=>Wd.ay [2,3,4] [] rfl rfl rfl)) rfl fun _=>?_
      refine D.done (by kernel_rfl)<|?_
      refine R.reg rfl<|R.u 1 rfl<|R.q (q.a7 rfl) rfl<|R.q (q.bz (off':=2) rfl dO rfl) rfl<|?_
      refine R.s rfl (s.st (us:=[.slice none 0 0]) (cs':=[z1,z2,.slice none 0 0,.int .i64 (((aI dk).1).Fuse),.bool (((aI dk).1).Down)]) 0 _ rfl rfl rfl rfl (.inr ⟨dU,rfl⟩) rfl rfl rfl rfl) fun _=>?_
      refine R.nil ?_
      refine R.reg rfl<|R.u 2 rfl<|R.nil ?_
      refine R.row0 (α:=Turn) 83 ?_
      have hz:ag dk=((⟨((aI dk).1).Now,((aI dk).1).Now,[],((aI dk).1).Fuse,((aI dk).1).Down⟩:bA),(aI dk).2):=by (unfold ag;first|(rw [if_pos (by assumption)];first|done|rfl|simp_all)|(rw [if_neg (by assumption)];first|done|rfl))
      rw [hz]
      exact R.w1 (z1,z2,(.slice none 0 0)) [1,2,3,0,5] [] rfl Try.results51 (RV.tmp rfl) rfl rfl rfl rfl
  ·
    refine R.q (q.fq rfl rfl Try.underlying28 (by omega)) rfl<|R.nil ?_
    refine R.aH rfl rfl ?_
    refine R.reg rfl<|R.u 2 rfl<|R.nil ?_
    have hz:ag dk=(((aI dk).1),(aI dk).2):=by (unfold ag;first|(rw [if_pos (by assumption)];first|done|rfl|simp_all)|(rw [if_neg (by assumption)];first|done|rfl))
    rw [hz]
    exact R.w1 (z1,z2,z3) [0,1,2,3,4] [] rfl Try.results51 (RV.tmp rfl) rfl rfl rfl rfl
end Go.Proofs.Ytpipachmngdegaa
end
