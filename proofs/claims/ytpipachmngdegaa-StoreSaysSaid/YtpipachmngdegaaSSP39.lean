import Derived.Test.YtpipachmngdegaaSSP38
import Derived.Test.YtpipachmngdegaaSSP30
section
namespace Go.Proofs.Ytpipachmngdegaa
open Go Go.RowKit
set_option linter.unusedVariables false
set_option linter.unusedSimpArgs false
set_option maxRecDepth 100000
section
variable {s:jo} {d:bA} {l:List Change} {e:Int} {n m:Nat}
end
set_option maxHeartbeats 3200000 in
theorem mG (bp:Nat)(aB:Value)(st:ic)(bZ:Value)(l:List Change)(ap:Nat)(ah ak ai:Value)(dk:bA)(aG:Nat)(lg:Lg)(w:World)(own:List Nat)(H:Wd w (blks [af.box bp [.pointer (some ⟨ap,0,none⟩),.int .i64 st.Epoch,.int .i64 st.Side,.int .i64 st.Size,.int .i64 st.First,.pointer (some ⟨aG,0,none⟩),aB] 100,af.box ap [ah,ak,ai,.int .i64 dk.Fuse,.bool dk.Down] 81,af.row 9 ah (dk.Kept:List ByteArray),af.row 9 ak (dk.Now:List ByteArray),af.row 83 ai (dk.Wait:List Turn),af.box aG [.pointer (some ⟨ap,0,none⟩),.int .i64 lg.From,.int .i64 lg.Many,.int .i64 lg.First,.int .i64 lg.Next] 85]++own) ([af.box bp [.pointer (some ⟨ap,0,none⟩),.int .i64 st.Epoch,.int .i64 st.Side,.int .i64 st.Size,.int .i64 st.First,.pointer (some ⟨aG,0,none⟩),aB] 100,af.box ap [ah,ak,ai,.int .i64 dk.Fuse,.bool dk.Down] 81,af.row 9 ah (dk.Kept:List ByteArray),af.row 9 ak (dk.Now:List ByteArray),af.row 83 ai (dk.Wait:List Turn),af.box aG [.pointer (some ⟨ap,0,none⟩),.int .i64 lg.From,.int .i64 lg.Many,.int .i64 lg.First,.int .i64 lg.Next] 85]++[af.held w own]) [af.ls aB (st.Rows:List Change),af.ls bZ (l:List Change)] w)(hD:cI dk.Now.length 60000 dk∧dk.Now.length≤200∧166≤dk.Now.length)(hS:0≤st.Epoch∧st.Epoch≤1000000000∧0≤st.Side∧st.Side≤1∧0≤lg.Many∧lg.Many≤1000∧1≤lg.First∧lg.First≤1000000000∧0≤lg.From∧lg.From≤1000∧0≤lg.Next∧lg.Next≤1000)(hl:st.Rows.length≤60)(hF:∀c∈st.Rows,dH c=0)(hn:l.length≤10000):Calls Try.prog 24 #[.pointer (some ⟨bp,0,none⟩),bZ] w fun e w' => ∃z:Value×Value×Value×Value×Nat,e = .returned (bG (((aD (mkS st lg) dk l).2.2)))∧Wd w (blks [af.box bp [.pointer (some ⟨ap,0,none⟩),.int .i64 st.Epoch,.int .i64 st.Side,.int .i64 st.Size,.int .i64 st.First,.pointer (some ⟨aG,0,none⟩),aB] 100,af.box ap [ah,ak,ai,.int .i64 dk.Fuse,.bool dk.Down] 81,af.row 9 ah (dk.Kept:List ByteArray),af.row 9 ak (dk.Now:List ByteArray),af.row 83 ai (dk.Wait:List Turn),af.box aG [.pointer (some ⟨ap,0,none⟩),.int .i64 lg.From,.int .i64 lg.Many,.int .i64 lg.First,.int .i64 lg.Next] 85]++own) ([af.box bp [.pointer (some ⟨ap,0,none⟩),.int .i64 ((((aD (mkS st lg) dk l).1.c)).Epoch),.int .i64 ((((aD (mkS st lg) dk l).1.c)).Side),.int .i64 ((((aD (mkS st lg) dk l).1.c)).Size),.int .i64 ((((aD (mkS st lg) dk l).1.c)).First),.pointer (some ⟨z.2.2.2.2,0,none⟩),z.1] 100,af.box ap [z.2.1,z.2.2.1,z.2.2.2.1,.int .i64 ((((aD (mkS st lg) dk l).2.1)).Fuse),.bool ((((aD (mkS st lg) dk l).2.1)).Down)] 81,af.row 9 z.2.1 ((((aD (mkS st lg) dk l).2.1)).Kept:List ByteArray),af.row 9 z.2.2.1 ((((aD (mkS st lg) dk l).2.1)).Now:List ByteArray),af.row 83 z.2.2.2.1 ((((aD (mkS st lg) dk l).2.1)).Wait:List Turn),af.box z.2.2.2.2 [.pointer (some ⟨ap,0,none⟩),.int .i64 ((((aD (mkS st lg) dk l).1.L)).From),.int .i64 ((((aD (mkS st lg) dk l).1.L)).Many),.int .i64 ((((aD (mkS st lg) dk l).1.L)).First),.int .i64 ((((aD (mkS st lg) dk l).1.L)).Next)] 85]++[af.held w own]) [af.ls z.1 ((((aD (mkS st lg) dk l).1.c)).Rows:List Change)] w':=by
  have cZ:=H.cap 2 rfl;have da:=H.aX 2 rfl
  have dJ:=H.cap 3 rfl;have dK:=H.aX 3 rfl
  have dc:=H.cap 4 rfl;have df:=H.aX 4 rfl
  have sy:=H.jd 0 rfl
  have uJ:=H.jd 1 rfl
  have hal:=lA hF;have hc0:cI dk.Now.length 70000 dk∧dk.Now.length≤200∧166≤dk.Now.length:=⟨hD.1.up (by omega),hD.2.1,hD.2.2⟩;have hc1:=tV (s:=mkS st lg) hD.1 (Nat.le_trans hal (by omega));have hc2:=hc1.nl
  have hb0:cI dk.Now.length 80000 dk∧dk.Now.length≤100000:=⟨hD.1.up (by omega),by omega⟩;have hb1:cI (aQ (mkS st lg) dk).2.1.Now.length 80000 (aQ (mkS st lg) dk).2.1∧(aQ (mkS st lg) dk).2.1.Now.length≤100000:=⟨hc2.symm▸hc1.up (by omega),by omega⟩
  refine R.bY (n:=76) (vs:=[.pointer (some ⟨bp,0,none⟩),bZ]) (B:=[af.box bp [.pointer (some ⟨ap,0,none⟩),.int .i64 st.Epoch,.int .i64 st.Side,.int .i64 st.Size,.int .i64 st.First,.pointer (some ⟨aG,0,none⟩),aB] 100,af.box ap [ah,ak,ai,.int .i64 dk.Fuse,.bool dk.Down] 81,af.row 9 ah (dk.Kept:List ByteArray),af.row 9 ak (dk.Now:List ByteArray),af.row 83 ai (dk.Wait:List Turn),af.box aG [.pointer (some ⟨ap,0,none⟩),.int .i64 lg.From,.int .i64 lg.Many,.int .i64 lg.First,.int .i64 lg.Next] 85,af.held w own]) [(0,.pointer (some ⟨bp,0,none⟩)),(1,bZ)] Try.func24 rfl rfl rfl rfl H ?_
  refine R.reg rfl<|R.u 1 rfl<|R.nil ?_
  refine R.reg rfl<|R.u 1 rfl<|R.q (q.len' (fun _=>Wd.bV 1 rfl) rfl Try.underlying46) rfl<|?_
  by_cases h1:62<l.length
  ·
    refine R.q (q.gtr rfl rfl (decide_eq_true (by omega))) rfl<|R.nil ?_
    refine R.aF rfl rfl ?_
    refine R.reg rfl<|R.q (q.iface rfl cm) rfl<|R.u 1 rfl<|R.nil ?_
    have hz:((aD (mkS st lg) dk l).1.c,(aD (mkS st lg) dk l).2.1,(aD (mkS st lg) dk l).1.L,(aD (mkS st lg) dk l).2.2)=(st,dk,lg,2):=by (rw [yv (by assumption)];rfl)
    have hz0:(aD (mkS st lg) dk l).1.c=st:=congrArg (fun t_=>t_.1) hz
    rw [hz0]
    have hz1:(aD (mkS st lg) dk l).2.1=dk:=congrArg (fun t_=>t_.2.1) hz
    rw [hz1]
    have hz2:(aD (mkS st lg) dk l).1.L=lg:=congrArg (fun t_=>t_.2.2.1) hz
    rw [hz2]
    have hz3:(aD (mkS st lg) dk l).2.2=2:=congrArg (fun t_=>t_.2.2.2) hz
    rw [hz3]
    exact R.w1 (aB,ah,ak,ai,aG) [0,1,2,3,4,5,6] [0] rfl Try.results24 (RV.tmp rfl) rfl rfl rfl (fu (by decide) rfl)
  ·
    refine R.q (q.gtr rfl rfl (decide_eq_false (by omega))) rfl<|R.nil ?_
    refine R.aH rfl rfl ?_
    refine R.reg rfl<|R.u 1 rfl<|R.q (q.len' (fun _=>Wd.bV 1 rfl) rfl Try.underlying46) rfl<|R.u 1 rfl<|R.nil ?_
    refine R.loop (fun i:Nat=>[(0,.pointer (some ⟨bp,0,none⟩)),(1,bZ),(15,bZ),(16,.int .i64 (l.length:Int)),(17,.int .i64 (i:Int))]) (fun i:Nat=>[af.box bp [.pointer (some ⟨ap,0,none⟩),.int .i64 st.Epoch,.int .i64 st.Side,.int .i64 st.Size,.int .i64 st.First,.pointer (some ⟨aG,0,none⟩),aB] 100,af.box ap [ah,ak,ai,.int .i64 dk.Fuse,.bool dk.Down] 81,af.row 9 ah (dk.Kept:List ByteArray),af.row 9 ak (dk.Now:List ByteArray),af.row 83 ai (dk.Wait:List Turn),af.box aG [.pointer (some ⟨ap,0,none⟩),.int .i64 lg.From,.int .i64 lg.Many,.int .i64 lg.First,.int .i64 lg.Next] 85,af.held w own]) (fun i:Nat=>[af.ls aB (st.Rows:List Change),af.ls bZ (l:List Change)]) (fun i:Nat=>i≤l.length∧dF (l.drop i)=dF l) (fun i:Nat=>l.length-i) 0 rfl (by exact ⟨by omega,rfl⟩) ⟨rfl,rfl,rfl,rfl,rfl,trivial⟩ (fun _=>Wd.pick [0,1,2,3,4,5,6] [0,1] rfl rfl rfl) ?_
    rintro i ⟨hi,HL⟩
    refine R.reg rfl<|?_
    by_cases h2:i<l.length
    ·
      refine R.q (q.lss rfl rfl (decide_eq_true (by omega))) rfl<|R.nil ?_
      refine R.aF rfl rfl ?_
      refine R.reg rfl<|?_
      obtain ⟨x1,hx1⟩:∃z,l[i]? = some z:=⟨_,List.getElem?_eq_getElem (by omega)⟩
      have xe:=aS x1
      refine R.q (q.idx (i:=i) (fun _=>Wd.bV 1 rfl) rfl rfl aU rfl hx1) rfl<|R.q (q.iX (ds:=[.string x1.Key,.string x1.Val,.bool x1.Gone]) (fun _=>Wd.bV 1 rfl) hx1 rfl aY rfl) rfl<|?_
      refine R.s rfl (s.alloc (cs:=[.string (⟨#[]⟩),.string (⟨#[]⟩),.bool false]) bT rfl rfl) fun b1=>?_
      refine R.s rfl (s.st (us:=[.string x1.Key,.string x1.Val,.bool x1.Gone]) (cs':=[.string x1.Key,.string x1.Val,.bool x1.Gone]) 0 _ rfl rfl rfl rfl (.inl aY) rfl rfl rfl rfl) fun _=>?_
      refine R.nil ?_
      refine R.reg rfl<|R.q (q.mO 0 rfl rfl aY) rfl<|R.c (q.call nj rfl rfl (fun w hw=>(ey (x1) w  ))) rfl<|R.u 1 rfl<|R.nil ?_
      refine R.reg rfl<|R.u 1 rfl<|?_
      by_cases h3:dH x1=0
      ·
        refine R.q (q.dx rfl rfl Try.underlying28 (by omega)) rfl<|R.nil ?_
        refine R.aH rfl rfl ?_
        refine R.reg rfl<|R.q (q.add (r:=((i+1:Nat):Int)) rfl rfl (wr (by omega))) rfl<|R.u 1 rfl<|R.nil ?_
        refine R.back (i+1) rfl (by (exact ⟨by omega,rl HL hx1 (by omega)⟩)) (by omega) ⟨rfl,rfl,rfl,rfl,rfl,trivial⟩ (fun _=>Wd.ay [1,2,3,4,5,6,7] [0,1] rfl rfl rfl)
      ·
        refine R.q (q.e8 rfl rfl Try.underlying28 (by omega)) rfl<|R.nil ?_
        refine R.aF rfl rfl ?_
        refine R.reg rfl<|R.u 2 rfl<|R.nil ?_
        have hz:((aD (mkS st lg) dk l).1.c,(aD (mkS st lg) dk l).2.1,(aD (mkS st lg) dk l).1.L,(aD (mkS st lg) dk l).2.2)=(st,dk,lg,dH x1):=by (rw [yw (by assumption) (lz HL hx1 (by assumption)) (by assumption)];rfl)
        have hz0:(aD (mkS st lg) dk l).1.c=st:=congrArg (fun t_=>t_.1) hz
        rw [hz0]
        have hz1:(aD (mkS st lg) dk l).2.1=dk:=congrArg (fun t_=>t_.2.1) hz
        rw [hz1]
        have hz2:(aD (mkS st lg) dk l).1.L=lg:=congrArg (fun t_=>t_.2.2.1) hz
        rw [hz2]
        have hz3:(aD (mkS st lg) dk l).2.2=dH x1:=congrArg (fun t_=>t_.2.2.2) hz
        rw [hz3]
        exact R.w1 (aB,ah,ak,ai,aG) [1,2,3,4,5,6,7] [0] rfl Try.results24 (RV.tmp rfl) rfl rfl rfl rfl
    ·
      refine R.q (q.lss rfl rfl (decide_eq_false (by omega))) rfl<|R.nil ?_
      refine R.aH rfl rfl ?_
      have g0:dF l=0:=p8 HL (by omega);have AQ:=fG l st.Rows
      refine R.reg rfl<|R.u 1 rfl<|R.q (q.a7 rfl) rfl<|R.q (q.bz (off':=6) rfl dZ rfl) rfl<|R.q (q.ld 0 rfl rfl bX rfl) rfl<|R.u 1 rfl<|?_
      refine R.s (B':=(fun bg:Value=>[af.row 51 bg ((a8 st.Rows l):List Change),af.box bp [.pointer (some ⟨ap,0,none⟩),.int .i64 st.Epoch,.int .i64 st.Side,.int .i64 st.Size,.int .i64 st.First,.pointer (some ⟨aG,0,none⟩),aB] 100,af.box ap [ah,ak,ai,.int .i64 dk.Fuse,.bool dk.Down] 81,af.row 9 ah (dk.Kept:List ByteArray),af.row 9 ak (dk.Now:List ByteArray),af.row 83 ai (dk.Wait:List Turn),af.box aG [.pointer (some ⟨ap,0,none⟩),.int .i64 lg.From,.int .i64 lg.Many,.int .i64 lg.First,.int .i64 lg.Next] 85,af.held w own])) (F':=(fun bg:Value=>[af.ls aB (st.Rows:List Change),af.ls bZ (l:List Change)])) rfl (s.bM (B0:=[]) (Br:=[af.box bp [.pointer (some ⟨ap,0,none⟩),.int .i64 st.Epoch,.int .i64 st.Side,.int .i64 st.Size,.int .i64 st.First,.pointer (some ⟨aG,0,none⟩),aB] 100,af.box ap [ah,ak,ai,.int .i64 dk.Fuse,.bool dk.Down] 81,af.row 9 ah (dk.Kept:List ByteArray),af.row 9 ak (dk.Now:List ByteArray),af.row 83 ai (dk.Wait:List Turn),af.box aG [.pointer (some ⟨ap,0,none⟩),.int .i64 lg.From,.int .i64 lg.Many,.int .i64 lg.First,.int .i64 lg.Next] 85,af.held w own]) (F0:=[af.ls aB (st.Rows:List Change),af.ls bZ (l:List Change)]) [0,1,2,3,4,5,6] [0,1] (fun bg:Value=>bg) (fun bg:Value=>[af.row 51 bg ((a8 st.Rows l):List Change)]) (fun bg:Value=>[]) rfl rfl rfl s9 rfl rfl (fun w own hw H=>iM aB (st.Rows) bZ (l) w own H (by first|omega|assumption|(simp;done)|(simp;omega))) rfl) fun z1=>?_
      refine R.u 1 rfl<|R.nil ?_
      refine R.reg rfl<|R.u 1 rfl<|R.q (q.len' (fun _=>Wd.row 0 rfl) rfl Try.underlying46) rfl<|?_
      by_cases h4:60<(a8 st.Rows l).length
      ·
        refine R.q (q.gtr rfl rfl (decide_eq_true (by omega))) rfl<|R.u 12 rfl<|R.nil ?_
        refine R.aF rfl rfl ?_
        refine R.reg rfl<|R.q (q.iface rfl cm) rfl<|R.u 1 rfl<|R.nil ?_
        have hz:((aD (mkS st lg) dk l).1.c,(aD (mkS st lg) dk l).2.1,(aD (mkS st lg) dk l).1.L,(aD (mkS st lg) dk l).2.2)=(st,dk,lg,9):=by (first|(rw [mo (s:=mkS st lg) (by assumption) g0 (by first|exact .inl (by assumption)|exact .inr (by omega))];rfl)|(have hf:=jX (s:=mkS st lg) (d:=dk) (l:=l) (by assumption) g0 (by intro hh;rcases hh with hh|hh <;> first|(exact absurd hh (by assumption))|omega);first|(rw [kX hf (by show lg.Many-lg.Next<_;omega) (by assumption)])|(rw [kY hf (by show lg.Many-lg.Next<_;omega) (by assumption) (by assumption)];first|done|rfl)|(rw [kZ hf (by show lg.Many-lg.Next<_;omega) (by assumption) (by assumption)];first|done|rfl)|(rw [k0 hf (by show ¬ lg.Many-lg.Next<_;omega) (by assumption)];first|done|rfl)|(rw [k9 hf (by show ¬ lg.Many-lg.Next<_;omega) (by assumption)];first|done|rfl)))
        have hz0:(aD (mkS st lg) dk l).1.c=st:=congrArg (fun t_=>t_.1) hz
        rw [hz0]
        have hz1:(aD (mkS st lg) dk l).2.1=dk:=congrArg (fun t_=>t_.2.1) hz
        rw [hz1]
        have hz2:(aD (mkS st lg) dk l).1.L=lg:=congrArg (fun t_=>t_.2.2.1) hz
        rw [hz2]
        have hz3:(aD (mkS st lg) dk l).2.2=9:=congrArg (fun t_=>t_.2.2.2) hz
        rw [hz3]
        exact R.w1 (aB,ah,ak,ai,aG) [1,2,3,4,5,6,7] [0] rfl Try.results24 (RV.tmp rfl) rfl rfl rfl (fu (by decide) rfl)
      ·
        refine R.q (q.gtr rfl rfl (decide_eq_false (by omega))) rfl<|R.u 2 rfl<|R.qg rfl (q.len' (fun _=>Wd.bV 1 rfl) rfl Try.underlying46) rfl<|R.qg rfl (q.add (r:=((l.length+1:Nat):Int)) rfl rfl (wr (by omega))) rfl<|R.u 1 rfl<|R.qg rfl (q.a7 rfl) rfl<|R.qg rfl (q.bz (off':=0) rfl eK rfl) rfl<|R.qg rfl (q.ld 1 rfl rfl eo rfl) rfl<|R.cg rfl (q.call ke rfl rfl (fun w hw=>(cJ ap ah ak ai  (dk) w (hw.b 2 rfl) ((fun _=>Wd.row 3 rfl) w hw) ((fun _=>Wd.row 4 rfl) w hw) ((fun _=>Wd.row 5 rfl) w hw) ))) rfl<|R.qg rfl (q.sub (r:=((dk.Now.length-102:Nat):Int)) rfl rfl (wr (by omega))) rfl<|?_
        by_cases h5:(dk.Now.length-102)<(l.length+1)
        ·
          refine R.qg rfl (q.gtr rfl rfl (decide_eq_true (by omega))) rfl<|R.u 1 rfl<|R.nil ?_
          refine R.aF rfl rfl ?_
          refine R.reg rfl<|R.q (q.iface rfl cm) rfl<|R.u 1 rfl<|R.nil ?_
          have hz:((aD (mkS st lg) dk l).1.c,(aD (mkS st lg) dk l).2.1,(aD (mkS st lg) dk l).1.L,(aD (mkS st lg) dk l).2.2)=(st,dk,lg,9):=by (first|(rw [mo (s:=mkS st lg) (by assumption) g0 (by first|exact .inl (by assumption)|exact .inr (by omega))];rfl)|(have hf:=jX (s:=mkS st lg) (d:=dk) (l:=l) (by assumption) g0 (by intro hh;rcases hh with hh|hh <;> first|(exact absurd hh (by assumption))|omega);first|(rw [kX hf (by show lg.Many-lg.Next<_;omega) (by assumption)])|(rw [kY hf (by show lg.Many-lg.Next<_;omega) (by assumption) (by assumption)];first|done|rfl)|(rw [kZ hf (by show lg.Many-lg.Next<_;omega) (by assumption) (by assumption)];first|done|rfl)|(rw [k0 hf (by show ¬ lg.Many-lg.Next<_;omega) (by assumption)];first|done|rfl)|(rw [k9 hf (by show ¬ lg.Many-lg.Next<_;omega) (by assumption)];first|done|rfl)))
          have hz0:(aD (mkS st lg) dk l).1.c=st:=congrArg (fun t_=>t_.1) hz
          rw [hz0]
          have hz1:(aD (mkS st lg) dk l).2.1=dk:=congrArg (fun t_=>t_.2.1) hz
          rw [hz1]
          have hz2:(aD (mkS st lg) dk l).1.L=lg:=congrArg (fun t_=>t_.2.2.1) hz
          rw [hz2]
          have hz3:(aD (mkS st lg) dk l).2.2=9:=congrArg (fun t_=>t_.2.2.2) hz
          rw [hz3]
          exact R.w1 (aB,ah,ak,ai,aG) [1,2,3,4,5,6,7] [0] rfl Try.results24 (RV.tmp rfl) rfl rfl rfl (fu (by decide) rfl)
        ·
          refine R.qg rfl (q.gtr rfl rfl (decide_eq_false (by omega))) rfl<|R.u 1 rfl<|R.nil ?_
          refine R.aH rfl rfl ?_
          refine R.reg rfl<|R.u 1 rfl<|R.q (q.len' (fun _=>Wd.bV 1 rfl) rfl Try.underlying46) rfl<|R.q (q.add (r:=((l.length+1:Nat):Int)) rfl rfl (wr (by omega))) rfl<|R.u 1 rfl<|R.q (q.a7 rfl) rfl<|R.q (q.bz (off':=5) rfl eL rfl) rfl<|R.q (q.ld 1 rfl rfl dq rfl) rfl<|R.c (q.call qM rfl rfl (fun w hw=>(ku aG  ap (lg) w (hw.b 6 rfl) (by first|assumption|omega|(dsimp only;omega))))) rfl<|?_
          by_cases h6:lg.Many-lg.Next<((l.length+1):Int)
          ·
            refine R.q (q.gtr rfl rfl (decide_eq_true (by omega))) rfl<|R.nil ?_
            refine R.aF rfl rfl ?_
            refine R.reg rfl<|R.u 1 rfl<|?_
            refine R.s (B':=(fun g_:Value×Value×Value×Value×Nat=>[af.box bp [.pointer (some ⟨ap,0,none⟩),.int .i64 ((((aQ (mkS st lg) dk).1.c)).Epoch),.int .i64 ((((aQ (mkS st lg) dk).1.c)).Side),.int .i64 ((((aQ (mkS st lg) dk).1.c)).Size),.int .i64 ((((aQ (mkS st lg) dk).1.c)).First),.pointer (some ⟨g_.2.2.2.2,0,none⟩),g_.1] 100,af.box ap [g_.2.1,g_.2.2.1,g_.2.2.2.1,.int .i64 ((((aQ (mkS st lg) dk).2.1)).Fuse),.bool ((((aQ (mkS st lg) dk).2.1)).Down)] 81,af.row 9 g_.2.1 ((((aQ (mkS st lg) dk).2.1)).Kept:List ByteArray),af.row 9 g_.2.2.1 ((((aQ (mkS st lg) dk).2.1)).Now:List ByteArray),af.row 83 g_.2.2.2.1 ((((aQ (mkS st lg) dk).2.1)).Wait:List Turn),af.box g_.2.2.2.2 [.pointer (some ⟨ap,0,none⟩),.int .i64 ((((aQ (mkS st lg) dk).1.L)).From),.int .i64 ((((aQ (mkS st lg) dk).1.L)).Many),.int .i64 ((((aQ (mkS st lg) dk).1.L)).First),.int .i64 ((((aQ (mkS st lg) dk).1.L)).Next)] 85,af.row 51 z1 (a8 st.Rows l:List Change),af.held w own])) (F':=(fun g_:Value×Value×Value×Value×Nat=>[af.ls g_.1 ((((aQ (mkS st lg) dk).1.c)).Rows:List Change),af.ls aB (st.Rows:List Change),af.ls bZ (l:List Change)])) rfl (s.bM (B0:=[af.box bp [.pointer (some ⟨ap,0,none⟩),.int .i64 st.Epoch,.int .i64 st.Side,.int .i64 st.Size,.int .i64 st.First,.pointer (some ⟨aG,0,none⟩),aB] 100,af.box ap [ah,ak,ai,.int .i64 dk.Fuse,.bool dk.Down] 81,af.row 9 ah (dk.Kept:List ByteArray),af.row 9 ak (dk.Now:List ByteArray),af.row 83 ai (dk.Wait:List Turn),af.box aG [.pointer (some ⟨ap,0,none⟩),.int .i64 lg.From,.int .i64 lg.Many,.int .i64 lg.First,.int .i64 lg.Next] 85]) (Br:=[af.row 51 z1 (a8 st.Rows l:List Change),af.held w own]) (F0:=[af.ls aB (st.Rows:List Change)]) [1,2,3,4,5,6,0,7] [0] (fun g_:Value×Value×Value×Value×Nat=>bG (((aQ (mkS st lg) dk).2.2))) (fun g_:Value×Value×Value×Value×Nat=>[af.box bp [.pointer (some ⟨ap,0,none⟩),.int .i64 ((((aQ (mkS st lg) dk).1.c)).Epoch),.int .i64 ((((aQ (mkS st lg) dk).1.c)).Side),.int .i64 ((((aQ (mkS st lg) dk).1.c)).Size),.int .i64 ((((aQ (mkS st lg) dk).1.c)).First),.pointer (some ⟨g_.2.2.2.2,0,none⟩),g_.1] 100,af.box ap [g_.2.1,g_.2.2.1,g_.2.2.2.1,.int .i64 ((((aQ (mkS st lg) dk).2.1)).Fuse),.bool ((((aQ (mkS st lg) dk).2.1)).Down)] 81,af.row 9 g_.2.1 ((((aQ (mkS st lg) dk).2.1)).Kept:List ByteArray),af.row 9 g_.2.2.1 ((((aQ (mkS st lg) dk).2.1)).Now:List ByteArray),af.row 83 g_.2.2.2.1 ((((aQ (mkS st lg) dk).2.1)).Wait:List Turn),af.box g_.2.2.2.2 [.pointer (some ⟨ap,0,none⟩),.int .i64 ((((aQ (mkS st lg) dk).1.L)).From),.int .i64 ((((aQ (mkS st lg) dk).1.L)).Many),.int .i64 ((((aQ (mkS st lg) dk).1.L)).First),.int .i64 ((((aQ (mkS st lg) dk).1.L)).Next)] 85]) (fun g_:Value×Value×Value×Value×Nat=>[af.ls g_.1 ((((aQ (mkS st lg) dk).1.c)).Rows:List Change)]) rfl rfl rfl vI rfl rfl (fun w own hw H=>pA bp aB (st) ap ah ak ai (dk) aG  (lg) w own H (by first|assumption|exact ⟨by assumption,by omega,by omega⟩) (by first|assumption|omega) (by first|omega|assumption) (by assumption)) rfl) ?_
            rintro ⟨z2,z3,z4,z5,z6⟩
            dsimp only
            refine R.u 1 rfl<|R.nil ?_
            have hk:(aQ (mkS st lg) dk).2.2=0→0≤(aQ (mkS st lg) dk).1.L.From∧(aQ (mkS st lg) dk).1.L.From≤1000000000∧0≤(aQ (mkS st lg) dk).1.L.Next∧(aQ (mkS st lg) dk).1.L.Next≤1000000000∧0≤(aQ (mkS st lg) dk).1.L.First∧(aQ (mkS st lg) dk).1.L.First≤4000000000000000000∧0≤(aQ (mkS st lg) dk).1.L.Many∧(aQ (mkS st lg) dk).1.L.Many≤1000000000:=fun hk1=>by have hk3:=vh (aQ (mkS st lg) dk).2.1 102 (((aQ (mkS st lg) dk).2.1.Now.length:Int)-102).toNat ((mkS st lg).L.First+(mkS st lg).L.Many);rw [wO hk1];unfold yr;dsimp only;have e1:(mkS st lg).L.First=lg.First:=rfl;have e2:(mkS st lg).L.Many=lg.Many:=rfl;refine ⟨?_,?_,?_,?_,?_,?_,?_,?_⟩ <;> omega
            refine R.reg rfl<|R.u 1 rfl<|?_
            by_cases h7:(aQ (mkS st lg) dk).2.2=0
            ·
              refine R.q (q.dx rfl rfl Try.underlying28 (by omega)) rfl<|R.nil ?_
              refine R.aH rfl rfl ?_
              first|(have hkk:=hk (by assumption))|skip
              refine R.reg rfl<|R.u 1 rfl<|R.q (q.a7 rfl) rfl<|R.q (q.bz (off':=5) rfl eL rfl) rfl<|R.q (q.ld 0 rfl rfl dq rfl) rfl<|R.u 1 rfl<|?_
              refine R.s (B':=(fun g_:Value×Value×Value=>[af.box z6 [.pointer (some ⟨ap,0,none⟩),.int .i64 ((((aR ((aQ (mkS st lg) dk).1.L) ((aQ (mkS st lg) dk).2.1) l)).1).From),.int .i64 ((((aR ((aQ (mkS st lg) dk).1.L) ((aQ (mkS st lg) dk).2.1) l)).1).Many),.int .i64 ((((aR ((aQ (mkS st lg) dk).1.L) ((aQ (mkS st lg) dk).2.1) l)).1).First),.int .i64 ((((aR ((aQ (mkS st lg) dk).1.L) ((aQ (mkS st lg) dk).2.1) l)).1).Next)] 85,af.box ap [g_.1,g_.2.1,g_.2.2,.int .i64 ((((aR ((aQ (mkS st lg) dk).1.L) ((aQ (mkS st lg) dk).2.1) l)).2.1).Fuse),.bool ((((aR ((aQ (mkS st lg) dk).1.L) ((aQ (mkS st lg) dk).2.1) l)).2.1).Down)] 81,af.row 9 g_.1 ((((aR ((aQ (mkS st lg) dk).1.L) ((aQ (mkS st lg) dk).2.1) l)).2.1).Kept:List ByteArray),af.row 9 g_.2.1 ((((aR ((aQ (mkS st lg) dk).1.L) ((aQ (mkS st lg) dk).2.1) l)).2.1).Now:List ByteArray),af.row 83 g_.2.2 ((((aR ((aQ (mkS st lg) dk).1.L) ((aQ (mkS st lg) dk).2.1) l)).2.1).Wait:List Turn),af.box bp [.pointer (some ⟨ap,0,none⟩),.int .i64 (((aQ (mkS st lg) dk).1.c).Epoch),.int .i64 (((aQ (mkS st lg) dk).1.c).Side),.int .i64 (((aQ (mkS st lg) dk).1.c).Size),.int .i64 (((aQ (mkS st lg) dk).1.c).First),.pointer (some ⟨z6,0,none⟩),z2] 100,af.row 51 z1 (a8 st.Rows l:List Change),af.held w own])) (F':=(fun g_:Value×Value×Value=>[af.ls z2 (((aQ (mkS st lg) dk).1.c).Rows:List Change),af.ls aB (st.Rows:List Change),af.ls bZ (l:List Change)])) rfl (s.bM (B0:=[af.box z6 [.pointer (some ⟨ap,0,none⟩),.int .i64 (((aQ (mkS st lg) dk).1.L).From),.int .i64 (((aQ (mkS st lg) dk).1.L).Many),.int .i64 (((aQ (mkS st lg) dk).1.L).First),.int .i64 (((aQ (mkS st lg) dk).1.L).Next)] 85,af.box ap [z3,z4,z5,.int .i64 (((aQ (mkS st lg) dk).2.1).Fuse),.bool (((aQ (mkS st lg) dk).2.1).Down)] 81,af.row 9 z3 (((aQ (mkS st lg) dk).2.1).Kept:List ByteArray),af.row 9 z4 (((aQ (mkS st lg) dk).2.1).Now:List ByteArray),af.row 83 z5 (((aQ (mkS st lg) dk).2.1).Wait:List Turn)]) (Br:=[af.box bp [.pointer (some ⟨ap,0,none⟩),.int .i64 (((aQ (mkS st lg) dk).1.c).Epoch),.int .i64 (((aQ (mkS st lg) dk).1.c).Side),.int .i64 (((aQ (mkS st lg) dk).1.c).Size),.int .i64 (((aQ (mkS st lg) dk).1.c).First),.pointer (some ⟨z6,0,none⟩),z2] 100,af.row 51 z1 (a8 st.Rows l:List Change),af.held w own]) (F0:=[af.ls bZ (l:List Change)]) [5,1,2,3,4,0,6,7] [2] (fun g_:Value×Value×Value=>bG (((aR ((aQ (mkS st lg) dk).1.L) ((aQ (mkS st lg) dk).2.1) l)).2.2)) (fun g_:Value×Value×Value=>[af.box z6 [.pointer (some ⟨ap,0,none⟩),.int .i64 ((((aR ((aQ (mkS st lg) dk).1.L) ((aQ (mkS st lg) dk).2.1) l)).1).From),.int .i64 ((((aR ((aQ (mkS st lg) dk).1.L) ((aQ (mkS st lg) dk).2.1) l)).1).Many),.int .i64 ((((aR ((aQ (mkS st lg) dk).1.L) ((aQ (mkS st lg) dk).2.1) l)).1).First),.int .i64 ((((aR ((aQ (mkS st lg) dk).1.L) ((aQ (mkS st lg) dk).2.1) l)).1).Next)] 85,af.box ap [g_.1,g_.2.1,g_.2.2,.int .i64 ((((aR ((aQ (mkS st lg) dk).1.L) ((aQ (mkS st lg) dk).2.1) l)).2.1).Fuse),.bool ((((aR ((aQ (mkS st lg) dk).1.L) ((aQ (mkS st lg) dk).2.1) l)).2.1).Down)] 81,af.row 9 g_.1 ((((aR ((aQ (mkS st lg) dk).1.L) ((aQ (mkS st lg) dk).2.1) l)).2.1).Kept:List ByteArray),af.row 9 g_.2.1 ((((aR ((aQ (mkS st lg) dk).1.L) ((aQ (mkS st lg) dk).2.1) l)).2.1).Now:List ByteArray),af.row 83 g_.2.2 ((((aR ((aQ (mkS st lg) dk).1.L) ((aQ (mkS st lg) dk).2.1) l)).2.1).Wait:List Turn)]) (fun g_:Value×Value×Value=>[]) rfl rfl rfl vF rfl rfl (fun w own hw H=>rm z6  (((aQ (mkS st lg) dk).1.L)) bZ (l) ap z3 z4 z5 (((aQ (mkS st lg) dk).2.1)) w own H (by first|assumption|omega|(dsimp only;omega)) (by first|assumption|exact ⟨by assumption,by omega⟩)) rfl) ?_
              rintro ⟨z7,z8,z9⟩
              dsimp only
              refine R.u 1 rfl<|R.nil ?_
              refine R.reg rfl<|R.u 1 rfl<|?_
              by_cases h8:(aR ((aQ (mkS st lg) dk).1.L) ((aQ (mkS st lg) dk).2.1) l).2.2=0
              ·
                refine R.q (q.i7 rfl rfl Try.underlying28 (by omega)) rfl<|R.nil ?_
                refine R.aF rfl rfl ?_
                refine R.reg rfl<|R.u 2 rfl<|R.q (q.a7 rfl) rfl<|R.q (q.bz (off':=6) rfl dZ rfl) rfl<|?_
                refine R.s rfl (s.pN (us:=[z1]) (cs':=[.pointer (some ⟨ap,0,none⟩),.int .i64 (((aQ (mkS st lg) dk).1.c).Epoch),.int .i64 (((aQ (mkS st lg) dk).1.c).Side),.int .i64 (((aQ (mkS st lg) dk).1.c).Size),.int .i64 (((aQ (mkS st lg) dk).1.c).First),.pointer (some ⟨z6,0,none⟩),z1]) 5 _ rfl rfl rfl (fun w hw=>Sl.dX ((fun _=>Wd.row 6 rfl) w hw)) (.inr ⟨bX,rfl⟩) (fun w hw=>(bN (Sl.one ((fun _=>Wd.row 6 rfl) w hw)) dD)) rfl rfl rfl) fun _=>?_
                refine R.nil ?_
                refine R.reg rfl<|R.u 2 rfl<|R.nil ?_
                refine R.mp (B':=[af.box z6 [.pointer (some ⟨ap,0,none⟩),.int .i64 (((aR ((aQ (mkS st lg) dk).1.L) ((aQ (mkS st lg) dk).2.1) l).1).From),.int .i64 (((aR ((aQ (mkS st lg) dk).1.L) ((aQ (mkS st lg) dk).2.1) l).1).Many),.int .i64 (((aR ((aQ (mkS st lg) dk).1.L) ((aQ (mkS st lg) dk).2.1) l).1).First),.int .i64 (((aR ((aQ (mkS st lg) dk).1.L) ((aQ (mkS st lg) dk).2.1) l).1).Next)] 85,af.box ap [z7,z8,z9,.int .i64 (((aR ((aQ (mkS st lg) dk).1.L) ((aQ (mkS st lg) dk).2.1) l).2.1).Fuse),.bool (((aR ((aQ (mkS st lg) dk).1.L) ((aQ (mkS st lg) dk).2.1) l).2.1).Down)] 81,af.row 9 z7 (((aR ((aQ (mkS st lg) dk).1.L) ((aQ (mkS st lg) dk).2.1) l).2.1).Kept:List ByteArray),af.row 9 z8 (((aR ((aQ (mkS st lg) dk).1.L) ((aQ (mkS st lg) dk).2.1) l).2.1).Now:List ByteArray),af.row 83 z9 (((aR ((aQ (mkS st lg) dk).1.L) ((aQ (mkS st lg) dk).2.1) l).2.1).Wait:List Turn),af.box bp [.pointer (some ⟨ap,0,none⟩),.int .i64 (((aQ (mkS st lg) dk).1.c).Epoch),.int .i64 (((aQ (mkS st lg) dk).1.c).Side),.int .i64 (((aQ (mkS st lg) dk).1.c).Size),.int .i64 (((aQ (mkS st lg) dk).1.c).First),.pointer (some ⟨z6,0,none⟩),z1] 100,af.held w own]) (fun _ hw=>hw.gT 6 _ rfl rfl) ?_
                have hz:((aD (mkS st lg) dk l).1.c,(aD (mkS st lg) dk l).2.1,(aD (mkS st lg) dk l).1.L,(aD (mkS st lg) dk l).2.2)=((⟨((aQ (mkS st lg) dk).1.c).Epoch,((aQ (mkS st lg) dk).1.c).Side,((aQ (mkS st lg) dk).1.c).Size,((aQ (mkS st lg) dk).1.c).First,a8 st.Rows l⟩:ic),((aR ((aQ (mkS st lg) dk).1.L) ((aQ (mkS st lg) dk).2.1) l).2.1),((aR ((aQ (mkS st lg) dk).1.L) ((aQ (mkS st lg) dk).2.1) l).1),(aR ((aQ (mkS st lg) dk).1.L) ((aQ (mkS st lg) dk).2.1) l).2.2):=by (first|(rw [mo (s:=mkS st lg) (by assumption) g0 (by first|exact .inl (by assumption)|exact .inr (by omega))];rfl)|(have hf:=jX (s:=mkS st lg) (d:=dk) (l:=l) (by assumption) g0 (by intro hh;rcases hh with hh|hh <;> first|(exact absurd hh (by assumption))|omega);first|(rw [kX hf (by show lg.Many-lg.Next<_;omega) (by assumption)])|(rw [kY hf (by show lg.Many-lg.Next<_;omega) (by assumption) (by assumption)];first|done|rfl)|(rw [kZ hf (by show lg.Many-lg.Next<_;omega) (by assumption) (by assumption)];first|done|rfl)|(rw [k0 hf (by show ¬ lg.Many-lg.Next<_;omega) (by assumption)];first|done|rfl)|(rw [k9 hf (by show ¬ lg.Many-lg.Next<_;omega) (by assumption)];first|done|rfl)))
                have hz0:(aD (mkS st lg) dk l).1.c=(⟨((aQ (mkS st lg) dk).1.c).Epoch,((aQ (mkS st lg) dk).1.c).Side,((aQ (mkS st lg) dk).1.c).Size,((aQ (mkS st lg) dk).1.c).First,a8 st.Rows l⟩:ic):=congrArg (fun t_=>t_.1) hz
                rw [hz0]
                have hz1:(aD (mkS st lg) dk l).2.1=((aR ((aQ (mkS st lg) dk).1.L) ((aQ (mkS st lg) dk).2.1) l).2.1):=congrArg (fun t_=>t_.2.1) hz
                rw [hz1]
                have hz2:(aD (mkS st lg) dk l).1.L=((aR ((aQ (mkS st lg) dk).1.L) ((aQ (mkS st lg) dk).2.1) l).1):=congrArg (fun t_=>t_.2.2.1) hz
                rw [hz2]
                have hz3:(aD (mkS st lg) dk l).2.2=(aR ((aQ (mkS st lg) dk).1.L) ((aQ (mkS st lg) dk).2.1) l).2.2:=congrArg (fun t_=>t_.2.2.2) hz
                rw [hz3]
                exact R.w1 (z1,z7,z8,z9,z6) [5,1,2,3,4,0,6] [0] rfl Try.results24 (RV.tmp rfl) rfl rfl rfl rfl
              ·
                refine R.q (q.fq rfl rfl Try.underlying28 (by omega)) rfl<|R.nil ?_
                refine R.aH rfl rfl ?_
                refine R.reg rfl<|R.u 2 rfl<|R.nil ?_
                have hz:((aD (mkS st lg) dk l).1.c,(aD (mkS st lg) dk l).2.1,(aD (mkS st lg) dk l).1.L,(aD (mkS st lg) dk l).2.2)=(((aQ (mkS st lg) dk).1.c),((aR ((aQ (mkS st lg) dk).1.L) ((aQ (mkS st lg) dk).2.1) l).2.1),((aR ((aQ (mkS st lg) dk).1.L) ((aQ (mkS st lg) dk).2.1) l).1),(aR ((aQ (mkS st lg) dk).1.L) ((aQ (mkS st lg) dk).2.1) l).2.2):=by (first|(rw [mo (s:=mkS st lg) (by assumption) g0 (by first|exact .inl (by assumption)|exact .inr (by omega))];rfl)|(have hf:=jX (s:=mkS st lg) (d:=dk) (l:=l) (by assumption) g0 (by intro hh;rcases hh with hh|hh <;> first|(exact absurd hh (by assumption))|omega);first|(rw [kX hf (by show lg.Many-lg.Next<_;omega) (by assumption)])|(rw [kY hf (by show lg.Many-lg.Next<_;omega) (by assumption) (by assumption)];first|done|rfl)|(rw [kZ hf (by show lg.Many-lg.Next<_;omega) (by assumption) (by assumption)];first|done|rfl)|(rw [k0 hf (by show ¬ lg.Many-lg.Next<_;omega) (by assumption)];first|done|rfl)|(rw [k9 hf (by show ¬ lg.Many-lg.Next<_;omega) (by assumption)];first|done|rfl)))
                have hz0:(aD (mkS st lg) dk l).1.c=((aQ (mkS st lg) dk).1.c):=congrArg (fun t_=>t_.1) hz
                rw [hz0]
                have hz1:(aD (mkS st lg) dk l).2.1=((aR ((aQ (mkS st lg) dk).1.L) ((aQ (mkS st lg) dk).2.1) l).2.1):=congrArg (fun t_=>t_.2.1) hz
                rw [hz1]
                have hz2:(aD (mkS st lg) dk l).1.L=((aR ((aQ (mkS st lg) dk).1.L) ((aQ (mkS st lg) dk).2.1) l).1):=congrArg (fun t_=>t_.2.2.1) hz
                rw [hz2]
                have hz3:(aD (mkS st lg) dk l).2.2=(aR ((aQ (mkS st lg) dk).1.L) ((aQ (mkS st lg) dk).2.1) l).2.2:=congrArg (fun t_=>t_.2.2.2) hz
                rw [hz3]
                exact R.w1 (z2,z7,z8,z9,z6) [5,1,2,3,4,0,7] [0] rfl Try.results24 (RV.tmp rfl) rfl rfl rfl rfl
            ·
              refine R.q (q.e8 rfl rfl Try.underlying28 (by omega)) rfl<|R.nil ?_
              refine R.aF rfl rfl ?_
              refine R.reg rfl<|R.u 2 rfl<|R.nil ?_
              have hz:((aD (mkS st lg) dk l).1.c,(aD (mkS st lg) dk l).2.1,(aD (mkS st lg) dk l).1.L,(aD (mkS st lg) dk l).2.2)=(((aQ (mkS st lg) dk).1.c),((aQ (mkS st lg) dk).2.1),((aQ (mkS st lg) dk).1.L),(aQ (mkS st lg) dk).2.2):=by (first|(rw [mo (s:=mkS st lg) (by assumption) g0 (by first|exact .inl (by assumption)|exact .inr (by omega))];rfl)|(have hf:=jX (s:=mkS st lg) (d:=dk) (l:=l) (by assumption) g0 (by intro hh;rcases hh with hh|hh <;> first|(exact absurd hh (by assumption))|omega);first|(rw [kX hf (by show lg.Many-lg.Next<_;omega) (by assumption)])|(rw [kY hf (by show lg.Many-lg.Next<_;omega) (by assumption) (by assumption)];first|done|rfl)|(rw [kZ hf (by show lg.Many-lg.Next<_;omega) (by assumption) (by assumption)];first|done|rfl)|(rw [k0 hf (by show ¬ lg.Many-lg.Next<_;omega) (by assumption)];first|done|rfl)|(rw [k9 hf (by show ¬ lg.Many-lg.Next<_;omega) (by assumption)];first|done|rfl)))
              have hz0:(aD (mkS st lg) dk l).1.c=((aQ (mkS st lg) dk).1.c):=congrArg (fun t_=>t_.1) hz
              rw [hz0]
              have hz1:(aD (mkS st lg) dk l).2.1=((aQ (mkS st lg) dk).2.1):=congrArg (fun t_=>t_.2.1) hz
              rw [hz1]
              have hz2:(aD (mkS st lg) dk l).1.L=((aQ (mkS st lg) dk).1.L):=congrArg (fun t_=>t_.2.2.1) hz
              rw [hz2]
              have hz3:(aD (mkS st lg) dk l).2.2=(aQ (mkS st lg) dk).2.2:=congrArg (fun t_=>t_.2.2.2) hz
              rw [hz3]
              exact R.w1 (z2,z3,z4,z5,z6) [0,1,2,3,4,5,7] [0] rfl Try.results24 (RV.tmp rfl) rfl rfl rfl rfl
          ·
            refine R.q (q.gtr rfl rfl (decide_eq_false (by omega))) rfl<|R.nil ?_
            refine R.aH rfl rfl ?_
            first|(have hkk:=hk (by assumption))|skip
            refine R.reg rfl<|R.u 1 rfl<|R.q (q.a7 rfl) rfl<|R.q (q.bz (off':=5) rfl eL rfl) rfl<|R.q (q.ld 1 rfl rfl dq rfl) rfl<|R.u 1 rfl<|?_
            refine R.s (B':=(fun g_:Value×Value×Value=>[af.box aG [.pointer (some ⟨ap,0,none⟩),.int .i64 ((((aR lg dk l)).1).From),.int .i64 ((((aR lg dk l)).1).Many),.int .i64 ((((aR lg dk l)).1).First),.int .i64 ((((aR lg dk l)).1).Next)] 85,af.box ap [g_.1,g_.2.1,g_.2.2,.int .i64 ((((aR lg dk l)).2.1).Fuse),.bool ((((aR lg dk l)).2.1).Down)] 81,af.row 9 g_.1 ((((aR lg dk l)).2.1).Kept:List ByteArray),af.row 9 g_.2.1 ((((aR lg dk l)).2.1).Now:List ByteArray),af.row 83 g_.2.2 ((((aR lg dk l)).2.1).Wait:List Turn),af.row 51 z1 (a8 st.Rows l:List Change),af.box bp [.pointer (some ⟨ap,0,none⟩),.int .i64 st.Epoch,.int .i64 st.Side,.int .i64 st.Size,.int .i64 st.First,.pointer (some ⟨aG,0,none⟩),aB] 100,af.held w own])) (F':=(fun g_:Value×Value×Value=>[af.ls aB (st.Rows:List Change),af.ls bZ (l:List Change)])) rfl (s.bM (B0:=[af.box aG [.pointer (some ⟨ap,0,none⟩),.int .i64 lg.From,.int .i64 lg.Many,.int .i64 lg.First,.int .i64 lg.Next] 85,af.box ap [ah,ak,ai,.int .i64 dk.Fuse,.bool dk.Down] 81,af.row 9 ah (dk.Kept:List ByteArray),af.row 9 ak (dk.Now:List ByteArray),af.row 83 ai (dk.Wait:List Turn)]) (Br:=[af.row 51 z1 (a8 st.Rows l:List Change),af.box bp [.pointer (some ⟨ap,0,none⟩),.int .i64 st.Epoch,.int .i64 st.Side,.int .i64 st.Size,.int .i64 st.First,.pointer (some ⟨aG,0,none⟩),aB] 100,af.held w own]) (F0:=[af.ls bZ (l:List Change)]) [6,2,3,4,5,0,1,7] [1] (fun g_:Value×Value×Value=>bG (((aR lg dk l)).2.2)) (fun g_:Value×Value×Value=>[af.box aG [.pointer (some ⟨ap,0,none⟩),.int .i64 ((((aR lg dk l)).1).From),.int .i64 ((((aR lg dk l)).1).Many),.int .i64 ((((aR lg dk l)).1).First),.int .i64 ((((aR lg dk l)).1).Next)] 85,af.box ap [g_.1,g_.2.1,g_.2.2,.int .i64 ((((aR lg dk l)).2.1).Fuse),.bool ((((aR lg dk l)).2.1).Down)] 81,af.row 9 g_.1 ((((aR lg dk l)).2.1).Kept:List ByteArray),af.row 9 g_.2.1 ((((aR lg dk l)).2.1).Now:List ByteArray),af.row 83 g_.2.2 ((((aR lg dk l)).2.1).Wait:List Turn)]) (fun g_:Value×Value×Value=>[]) rfl rfl rfl vF rfl rfl (fun w own hw H=>rm aG  (lg) bZ (l) ap ah ak ai (dk) w own H (by first|assumption|omega|(dsimp only;omega)) (by first|assumption|exact ⟨by assumption,by omega⟩)) rfl) ?_
            rintro ⟨gP,gK,z12⟩
            dsimp only
            refine R.u 1 rfl<|R.nil ?_
            refine R.reg rfl<|R.u 1 rfl<|?_
            by_cases h9:(aR lg dk l).2.2=0
            ·
              refine R.q (q.i7 rfl rfl Try.underlying28 (by omega)) rfl<|R.nil ?_
              refine R.aF rfl rfl ?_
              refine R.reg rfl<|R.u 2 rfl<|R.q (q.a7 rfl) rfl<|R.q (q.bz (off':=6) rfl dZ rfl) rfl<|?_
              refine R.s rfl (s.pN (us:=[z1]) (cs':=[.pointer (some ⟨ap,0,none⟩),.int .i64 st.Epoch,.int .i64 st.Side,.int .i64 st.Size,.int .i64 st.First,.pointer (some ⟨aG,0,none⟩),z1]) 6 _ rfl rfl rfl (fun w hw=>Sl.dX ((fun _=>Wd.row 5 rfl) w hw)) (.inr ⟨bX,rfl⟩) (fun w hw=>(bN (Sl.one ((fun _=>Wd.row 5 rfl) w hw)) dD)) rfl rfl rfl) fun _=>?_
              refine R.nil ?_
              refine R.reg rfl<|R.u 2 rfl<|R.nil ?_
              refine R.mp (B':=[af.box aG [.pointer (some ⟨ap,0,none⟩),.int .i64 (((aR lg dk l).1).From),.int .i64 (((aR lg dk l).1).Many),.int .i64 (((aR lg dk l).1).First),.int .i64 (((aR lg dk l).1).Next)] 85,af.box ap [gP,gK,z12,.int .i64 (((aR lg dk l).2.1).Fuse),.bool (((aR lg dk l).2.1).Down)] 81,af.row 9 gP (((aR lg dk l).2.1).Kept:List ByteArray),af.row 9 gK (((aR lg dk l).2.1).Now:List ByteArray),af.row 83 z12 (((aR lg dk l).2.1).Wait:List Turn),af.box bp [.pointer (some ⟨ap,0,none⟩),.int .i64 st.Epoch,.int .i64 st.Side,.int .i64 st.Size,.int .i64 st.First,.pointer (some ⟨aG,0,none⟩),z1] 100,af.held w own]) (fun _ hw=>hw.gT 5 _ rfl rfl) ?_
              have hz:((aD (mkS st lg) dk l).1.c,(aD (mkS st lg) dk l).2.1,(aD (mkS st lg) dk l).1.L,(aD (mkS st lg) dk l).2.2)=((⟨st.Epoch,st.Side,st.Size,st.First,a8 st.Rows l⟩:ic),((aR lg dk l).2.1),((aR lg dk l).1),(aR lg dk l).2.2):=by (first|(rw [mo (s:=mkS st lg) (by assumption) g0 (by first|exact .inl (by assumption)|exact .inr (by omega))];rfl)|(have hf:=jX (s:=mkS st lg) (d:=dk) (l:=l) (by assumption) g0 (by intro hh;rcases hh with hh|hh <;> first|(exact absurd hh (by assumption))|omega);first|(rw [kX hf (by show lg.Many-lg.Next<_;omega) (by assumption)])|(rw [kY hf (by show lg.Many-lg.Next<_;omega) (by assumption) (by assumption)];first|done|rfl)|(rw [kZ hf (by show lg.Many-lg.Next<_;omega) (by assumption) (by assumption)];first|done|rfl)|(rw [k0 hf (by show ¬ lg.Many-lg.Next<_;omega) (by assumption)];first|done|rfl)|(rw [k9 hf (by show ¬ lg.Many-lg.Next<_;omega) (by assumption)];first|done|rfl)))
              have hz0:(aD (mkS st lg) dk l).1.c=(⟨st.Epoch,st.Side,st.Size,st.First,a8 st.Rows l⟩:ic):=congrArg (fun t_=>t_.1) hz
              rw [hz0]
              have hz1:(aD (mkS st lg) dk l).2.1=((aR lg dk l).2.1):=congrArg (fun t_=>t_.2.1) hz
              rw [hz1]
              have hz2:(aD (mkS st lg) dk l).1.L=((aR lg dk l).1):=congrArg (fun t_=>t_.2.2.1) hz
              rw [hz2]
              have hz3:(aD (mkS st lg) dk l).2.2=(aR lg dk l).2.2:=congrArg (fun t_=>t_.2.2.2) hz
              rw [hz3]
              exact R.w1 (z1,gP,gK,z12,aG) [5,1,2,3,4,0,6] [0] rfl Try.results24 (RV.tmp rfl) rfl rfl rfl rfl
            ·
              refine R.q (q.fq rfl rfl Try.underlying28 (by omega)) rfl<|R.nil ?_
              refine R.aH rfl rfl ?_
              refine R.reg rfl<|R.u 2 rfl<|R.nil ?_
              have hz:((aD (mkS st lg) dk l).1.c,(aD (mkS st lg) dk l).2.1,(aD (mkS st lg) dk l).1.L,(aD (mkS st lg) dk l).2.2)=(st,((aR lg dk l).2.1),((aR lg dk l).1),(aR lg dk l).2.2):=by (first|(rw [mo (s:=mkS st lg) (by assumption) g0 (by first|exact .inl (by assumption)|exact .inr (by omega))];rfl)|(have hf:=jX (s:=mkS st lg) (d:=dk) (l:=l) (by assumption) g0 (by intro hh;rcases hh with hh|hh <;> first|(exact absurd hh (by assumption))|omega);first|(rw [kX hf (by show lg.Many-lg.Next<_;omega) (by assumption)])|(rw [kY hf (by show lg.Many-lg.Next<_;omega) (by assumption) (by assumption)];first|done|rfl)|(rw [kZ hf (by show lg.Many-lg.Next<_;omega) (by assumption) (by assumption)];first|done|rfl)|(rw [k0 hf (by show ¬ lg.Many-lg.Next<_;omega) (by assumption)];first|done|rfl)|(rw [k9 hf (by show ¬ lg.Many-lg.Next<_;omega) (by assumption)];first|done|rfl)))
              have hz0:(aD (mkS st lg) dk l).1.c=st:=congrArg (fun t_=>t_.1) hz
              rw [hz0]
              have hz1:(aD (mkS st lg) dk l).2.1=((aR lg dk l).2.1):=congrArg (fun t_=>t_.2.1) hz
              rw [hz1]
              have hz2:(aD (mkS st lg) dk l).1.L=((aR lg dk l).1):=congrArg (fun t_=>t_.2.2.1) hz
              rw [hz2]
              have hz3:(aD (mkS st lg) dk l).2.2=(aR lg dk l).2.2:=congrArg (fun t_=>t_.2.2.2) hz
              rw [hz3]
              exact R.w1 (aB,gP,gK,z12,aG) [6,1,2,3,4,0,7] [0] rfl Try.results24 (RV.tmp rfl) rfl rfl rfl rfl
end Go.Proofs.Ytpipachmngdegaa
end
