import Derived.Test.YtpipachmngdegaaSSP39
import Derived.Test.YtpipachmngdegaaSSP44
import Derived.Test.YtpipachmngdegaaSSP46
section
namespace Go.Proofs.Ytpipachmngdegaa
open Go Go.RowKit
set_option linter.unusedVariables false
set_option linter.unusedSimpArgs false
set_option maxRecDepth 100000
structure jL where
  Rows:List Change
  Used:Int
  Many:Int
def sI (m:jL)(l:List Change):Int:=if 62<l.length then 2 else if ¬ dF l=0 then dF l else if 60<(bQ m.Rows l).length∨m.Many<(l.length:Int)+1 then 9 else 0
def fZ (m:jL)(l:List Change):jL×Int :=
  if ¬ sI m l=0 then (m,sI m l) else (⟨bQ m.Rows l,(if m.Many-m.Used<(l.length:Int)+1 then 0 else m.Used)+(l.length:Int)+1,m.Many⟩,0)
section
variable {m:jL} {l:List Change}
theorem zE (h:62<l.length):fZ m l=(m,2):=by
  have hf:sI m l=2:=if_pos h
  unfold fZ;rw [hf,if_pos (by decide)]
theorem zF {e:Int}(h0:¬ 62<l.length)(he:dF l=e)(h:¬ e=0):fZ m l=(m,e):=by
  have hf:sI m l=e:=by unfold sI;rw [if_neg h0,if_pos (by rw [he];exact h),he]
  unfold fZ;rw [hf,if_pos h]
theorem yK (h0:¬ 62<l.length)(h1:dF l=0)(h:60<(bQ m.Rows l).length∨m.Many<(l.length:Int)+1):fZ m l=(m,9):=by
  have hf:sI m l=9:=by unfold sI;rw [if_neg h0,if_neg (by rw [h1];decide),if_pos h]
  unfold fZ;rw [hf,if_pos (by decide)]
theorem yL {q:Int}(h0:¬ 62<l.length)(h1:dF l=0)(h:¬ (60<(bQ m.Rows l).length∨m.Many<(l.length:Int)+1))(hq:q=(if m.Many-m.Used<(l.length:Int)+1 then 0 else m.Used)+(l.length:Int)+1):fZ m l=(⟨bQ m.Rows l,q,m.Many⟩,0):=by
  have hf:sI m l=0:=by unfold sI;rw [if_neg h0,if_neg (by rw [h1];decide),if_neg h]
  unfold fZ;rw [hf,if_neg (by decide),hq]
end
theorem pH (rA:Nat)(cL:Value)(m:jL)(bZ:Value)(l:List Change)(w:World)(own:List Nat)(H:Wd w (blks [af.box rA [cL,.int .i64 m.Used,.int .i64 m.Many] 60]++own) ([af.box rA [cL,.int .i64 m.Used,.int .i64 m.Many] 60]++[af.held w own]) [af.ls cL (m.Rows:List Change),af.ls bZ (l:List Change)] w)(hb:0≤m.Many∧m.Many≤1000∧0≤m.Used∧m.Used≤1000∧m.Rows.length≤1000∧l.length≤10000):Calls Try.prog 25 #[.pointer (some ⟨rA,0,none⟩),bZ] w fun e w' => ∃z:Value,e = .returned (.int .i64 (((fZ m l)).2))∧Wd w (blks [af.box rA [cL,.int .i64 m.Used,.int .i64 m.Many] 60]++own) ([af.box rA [z,.int .i64 ((((fZ m l)).1).Used),.int .i64 ((((fZ m l)).1).Many)] 60]++[af.held w own]) [af.ls z ((((fZ m l)).1).Rows:List Change)] w':=by
  have yM:=H.jd 0 rfl
  have uJ:=H.jd 1 rfl
  refine R.bY (n:=75) (vs:=[.pointer (some ⟨rA,0,none⟩),bZ]) (B:=[af.box rA [cL,.int .i64 m.Used,.int .i64 m.Many] 60,af.held w own]) [(0,.pointer (some ⟨rA,0,none⟩)),(1,bZ)] Try.func25 rfl rfl rfl rfl H ?_
  refine R.reg rfl<|R.u 1 rfl<|R.nil ?_
  refine R.reg rfl<|R.u 1 rfl<|R.q (q.len' (fun _=>Wd.bV 1 rfl) rfl Try.underlying46) rfl<|?_
  by_cases h1:62<l.length
  ·
    refine R.q (q.gtr rfl rfl (decide_eq_true (by omega))) rfl<|R.nil ?_
    refine R.aF rfl rfl ?_
    refine R.reg rfl<|R.u 1 rfl<|R.nil ?_
    have hz:fZ m l=(m,2):=by (exact zE (by assumption))
    rw [hz]
    exact R.w1 cL [0,1] [0] rfl Try.results25 (RV.tmp rfl) rfl rfl rfl rfl
  ·
    refine R.q (q.gtr rfl rfl (decide_eq_false (by omega))) rfl<|R.nil ?_
    refine R.aH rfl rfl ?_
    refine R.reg rfl<|R.u 1 rfl<|R.nil ?_
    refine R.loop (fun i:Nat=>[(0,.pointer (some ⟨rA,0,none⟩)),(1,bZ),(5,.int .i64 (i:Int))]) (fun i:Nat=>[af.box rA [cL,.int .i64 m.Used,.int .i64 m.Many] 60,af.held w own]) (fun i:Nat=>[af.ls cL (m.Rows:List Change),af.ls bZ (l:List Change)]) (fun i:Nat=>i≤l.length∧dF (l.drop i)=dF l) (fun i:Nat=>l.length-i) 0 rfl (by exact ⟨by omega,rfl⟩) ⟨rfl,rfl,rfl,trivial⟩ (fun _=>Wd.pick [0,1] [0,1] rfl rfl rfl) ?_
    rintro i ⟨hi,HL⟩
    refine R.reg rfl<|R.u 2 rfl<|R.q (q.len' (fun _=>Wd.bV 1 rfl) rfl Try.underlying46) rfl<|?_
    by_cases h2:i<l.length
    ·
      refine R.q (q.lss rfl rfl (decide_eq_true (by omega))) rfl<|R.nil ?_
      refine R.aF rfl rfl ?_
      refine R.reg rfl<|R.u 2 rfl<|?_
      obtain ⟨x1,hx1⟩:∃z,l[i]? = some z:=⟨_,List.getElem?_eq_getElem (by omega)⟩
      have xe:=aS x1
      refine R.q (q.idx (i:=i) (fun _=>Wd.bV 1 rfl) rfl rfl aU rfl hx1) rfl<|R.q (q.iX (ds:=[.string x1.Key,.string x1.Val,.bool x1.Gone]) (fun _=>Wd.bV 1 rfl) hx1 rfl aY rfl) rfl<|R.c (q.call xM rfl rfl (fun w hw=>(lp (x1) w  ))) rfl<|R.u 1 rfl<|R.nil ?_
      refine R.reg rfl<|R.u 1 rfl<|?_
      by_cases h3:0<dH x1
      ·
        refine R.q (q.gtr rfl rfl (decide_eq_true (by omega))) rfl<|R.nil ?_
        refine R.aF rfl rfl ?_
        refine R.reg rfl<|R.u 2 rfl<|R.nil ?_
        have hz:fZ m l=(m,dH x1):=by (exact zF (by omega) (lz HL hx1 (by omega)) (by omega))
        rw [hz]
        exact R.w1 cL [0,1] [0] rfl Try.results25 (RV.tmp rfl) rfl rfl rfl rfl
      ·
        refine R.q (q.gtr rfl rfl (decide_eq_false (by omega))) rfl<|R.nil ?_
        refine R.aH rfl rfl ?_
        refine R.reg rfl<|R.u 1 rfl<|R.q (q.add (r:=((i+1:Nat):Int)) rfl rfl (wr (by omega))) rfl<|R.u 1 rfl<|R.nil ?_
        refine R.back (i+1) rfl (by (exact ⟨by omega,rl HL hx1 (by omega)⟩)) (by omega) ⟨rfl,rfl,rfl,trivial⟩ (fun _=>Wd.ay [0,1] [0,1] rfl rfl rfl)
    ·
      refine R.q (q.lss rfl rfl (decide_eq_false (by omega))) rfl<|R.nil ?_
      refine R.aH rfl rfl ?_
      have g0:dF l=0:=p8 HL (by omega);have ha2:=iL l m.Rows
      refine R.reg rfl<|R.u 1 rfl<|R.q (q.a7 rfl) rfl<|R.q (q.bz (off':=0) rfl gy rfl) rfl<|R.q (q.ld 0 rfl rfl bX rfl) rfl<|R.u 1 rfl<|?_
      refine R.s (B':=(fun bg:Value=>[af.row 51 bg ((bQ m.Rows l):List Change),af.box rA [cL,.int .i64 m.Used,.int .i64 m.Many] 60,af.held w own])) (F':=(fun bg:Value=>[af.ls cL (m.Rows:List Change),af.ls bZ (l:List Change)])) rfl (s.bM (B0:=[]) (Br:=[af.box rA [cL,.int .i64 m.Used,.int .i64 m.Many] 60,af.held w own]) (F0:=[af.ls cL (m.Rows:List Change),af.ls bZ (l:List Change)]) [0,1] [0,1] (fun bg:Value=>bg) (fun bg:Value=>[af.row 51 bg ((bQ m.Rows l):List Change)]) (fun bg:Value=>[]) rfl rfl rfl xR rfl rfl (fun w own hw H=>o6 cL (m.Rows) bZ (l) w own H (by first|omega|assumption|(simp;done)|(simp;omega))) rfl) fun z1=>?_
      refine R.u 1 rfl<|R.nil ?_
      refine R.reg rfl<|R.u 1 rfl<|R.q (q.len' (fun _=>Wd.row 0 rfl) rfl Try.underlying46) rfl<|?_
      by_cases h4:60<(bQ m.Rows l).length
      ·
        refine R.q (q.gtr rfl rfl (decide_eq_true (by omega))) rfl<|R.u 10 rfl<|R.nil ?_
        refine R.aF rfl rfl ?_
        refine R.reg rfl<|R.u 1 rfl<|R.nil ?_
        have hz:fZ m l=(m,9):=by (exact yK (by omega) g0 (by first|exact .inl (by assumption)|exact .inr (by omega)))
        rw [hz]
        exact R.w1 cL [1,2] [0] rfl Try.results25 (RV.tmp rfl) rfl rfl rfl rfl
      ·
        refine R.q (q.gtr rfl rfl (decide_eq_false (by omega))) rfl<|R.u 2 rfl<|R.qg rfl (q.len' (fun _=>Wd.bV 1 rfl) rfl Try.underlying46) rfl<|R.qg rfl (q.add (r:=((l.length+1:Nat):Int)) rfl rfl (wr (by omega))) rfl<|R.u 1 rfl<|R.qg rfl (q.a7 rfl) rfl<|R.qg rfl (q.bz (off':=2) rfl eu rfl) rfl<|R.qg rfl (q.ld 1 rfl rfl aK rfl) rfl<|?_
        by_cases h5:m.Many<((l.length+1):Int)
        ·
          refine R.qg rfl (q.gtr rfl rfl (decide_eq_true (by omega))) rfl<|R.u 1 rfl<|R.nil ?_
          refine R.aF rfl rfl ?_
          refine R.reg rfl<|R.u 1 rfl<|R.nil ?_
          have hz:fZ m l=(m,9):=by (exact yK (by omega) g0 (by first|exact .inl (by assumption)|exact .inr (by omega)))
          rw [hz]
          exact R.w1 cL [1,2] [0] rfl Try.results25 (RV.tmp rfl) rfl rfl rfl rfl
        ·
          refine R.qg rfl (q.gtr rfl rfl (decide_eq_false (by omega))) rfl<|R.u 1 rfl<|R.nil ?_
          refine R.aH rfl rfl ?_
          by_cases h6:(m.Many-m.Used)<((l.length+1):Int)
          ·
            refine R.dC rfl mixed (by kernel_rfl)<|Q.u 1 rfl<|Q.q (q.len' (fun _=>Wd.bV 1 rfl) rfl Try.underlying46) rfl<|Q.q (q.add (r:=((l.length+1:Nat):Int)) rfl rfl (wr (by omega))) rfl<|Q.u 1 rfl<|Q.q (q.a7 rfl) rfl<|Q.q (q.bz (off':=2) rfl eu rfl) rfl<|Q.q (q.ld 1 rfl rfl aK rfl) rfl<|Q.u 1 rfl<|Q.q (q.a7 rfl) rfl<|Q.q (q.bz (off':=1) rfl cE rfl) rfl<|Q.q (q.ld 1 rfl rfl aK rfl) rfl<|Q.q (q.sub (r:=m.Many-m.Used) rfl rfl (wr (by omega))) rfl<|Q.q (q.gtr rfl rfl (decide_eq_true (by omega))) rfl<|Q.nil ?_
            refine R.aF rfl rfl ?_
            refine R.reg rfl<|R.u 1 rfl<|R.q (q.a7 rfl) rfl<|R.q (q.bz (off':=1) rfl cE rfl) rfl<|?_
            refine R.s rfl (s.st (us:=[.int .i64 0]) (cs':=[cL,.int .i64 0,.int .i64 m.Many]) 1 _ rfl rfl rfl rfl (.inr ⟨aK,rfl⟩) rfl rfl rfl rfl) fun _=>?_
            refine R.nil ?_
            refine R.reg rfl<|R.u 2 rfl<|R.q (q.a7 rfl) rfl<|R.q (q.bz (off':=1) rfl cE rfl) rfl<|R.q (q.ld 1 rfl rfl aK rfl) rfl<|R.u 1 rfl<|R.q (q.len' (fun _=>Wd.bV 1 rfl) rfl Try.underlying46) rfl<|R.q (q.add (r:=((0+l.length:Nat):Int)) rfl rfl (wr (by omega))) rfl<|R.q (q.add (r:=(((0+l.length)+1:Nat):Int)) rfl rfl (wr (by omega))) rfl<|R.q (q.a7 rfl) rfl<|R.q (q.bz (off':=1) rfl cE rfl) rfl<|?_
            refine R.s rfl (s.st (us:=[.int .i64 (((0+l.length)+1):Int)]) (cs':=[cL,.int .i64 (((0+l.length)+1):Int),.int .i64 m.Many]) 1 _ rfl rfl rfl rfl (.inr ⟨aK,rfl⟩) rfl rfl rfl rfl) fun _=>?_
            refine R.nil ?_
            refine R.reg rfl<|R.u 2 rfl<|R.q (q.a7 rfl) rfl<|R.q (q.bz (off':=0) rfl gy rfl) rfl<|?_
            refine R.s rfl (s.pN (us:=[z1]) (cs':=[z1,.int .i64 (((0+l.length)+1):Int),.int .i64 m.Many]) 1 _ rfl rfl rfl (fun w hw=>Sl.dX ((fun _=>Wd.row 0 rfl) w hw)) (.inr ⟨bX,rfl⟩) (fun w hw=>(bN (Sl.one ((fun _=>Wd.row 0 rfl) w hw)) dD)) rfl rfl rfl) fun _=>?_
            refine R.nil ?_
            refine R.reg rfl<|R.u 1 rfl<|R.nil ?_
            refine R.mp (B':=[af.box rA [z1,.int .i64 (((0+l.length)+1):Int),.int .i64 m.Many] 60,af.held w own]) (fun _ hw=>hw.gT 0 _ rfl rfl) ?_
            have hz:fZ m l=((⟨bQ m.Rows l,(((0+l.length)+1):Int),m.Many⟩:jL),0):=by (exact yL (by omega) g0 (by intro hh;rcases hh with hh|hh <;> first|(exact absurd hh (by assumption))|omega) (by split <;> omega))
            rw [hz]
            exact R.w1 z1 [0,1] [0] rfl Try.results25 (RV.tmp rfl) rfl rfl rfl rfl
          ·
            refine R.dC rfl mixed (by kernel_rfl)<|Q.u 1 rfl<|Q.q (q.len' (fun _=>Wd.bV 1 rfl) rfl Try.underlying46) rfl<|Q.q (q.add (r:=((l.length+1:Nat):Int)) rfl rfl (wr (by omega))) rfl<|Q.u 1 rfl<|Q.q (q.a7 rfl) rfl<|Q.q (q.bz (off':=2) rfl eu rfl) rfl<|Q.q (q.ld 1 rfl rfl aK rfl) rfl<|Q.u 1 rfl<|Q.q (q.a7 rfl) rfl<|Q.q (q.bz (off':=1) rfl cE rfl) rfl<|Q.q (q.ld 1 rfl rfl aK rfl) rfl<|Q.q (q.sub (r:=m.Many-m.Used) rfl rfl (wr (by omega))) rfl<|Q.q (q.gtr rfl rfl (decide_eq_false (by omega))) rfl<|Q.nil ?_
            refine R.aH rfl rfl ?_
            refine R.reg rfl<|R.u 2 rfl<|R.q (q.a7 rfl) rfl<|R.q (q.bz (off':=1) rfl cE rfl) rfl<|R.q (q.ld 1 rfl rfl aK rfl) rfl<|R.u 1 rfl<|R.q (q.len' (fun _=>Wd.bV 1 rfl) rfl Try.underlying46) rfl<|R.q (q.add (r:=m.Used+(l.length:Int)) rfl rfl (wr (by omega))) rfl<|R.q (q.add (r:=(m.Used+(l.length:Int))+1) rfl rfl (wr (by omega))) rfl<|R.q (q.a7 rfl) rfl<|R.q (q.bz (off':=1) rfl cE rfl) rfl<|?_
            refine R.s rfl (s.st (us:=[.int .i64 ((m.Used+(l.length:Int))+1)]) (cs':=[cL,.int .i64 ((m.Used+(l.length:Int))+1),.int .i64 m.Many]) 1 _ rfl rfl rfl rfl (.inr ⟨aK,rfl⟩) rfl rfl rfl rfl) fun _=>?_
            refine R.nil ?_
            refine R.reg rfl<|R.u 2 rfl<|R.q (q.a7 rfl) rfl<|R.q (q.bz (off':=0) rfl gy rfl) rfl<|?_
            refine R.s rfl (s.pN (us:=[z1]) (cs':=[z1,.int .i64 ((m.Used+(l.length:Int))+1),.int .i64 m.Many]) 1 _ rfl rfl rfl (fun w hw=>Sl.dX ((fun _=>Wd.row 0 rfl) w hw)) (.inr ⟨bX,rfl⟩) (fun w hw=>(bN (Sl.one ((fun _=>Wd.row 0 rfl) w hw)) dD)) rfl rfl rfl) fun _=>?_
            refine R.nil ?_
            refine R.reg rfl<|R.u 1 rfl<|R.nil ?_
            refine R.mp (B':=[af.box rA [z1,.int .i64 ((m.Used+(l.length:Int))+1),.int .i64 m.Many] 60,af.held w own]) (fun _ hw=>hw.gT 0 _ rfl rfl) ?_
            have hz:fZ m l=((⟨bQ m.Rows l,((m.Used+(l.length:Int))+1),m.Many⟩:jL),0):=by (exact yL (by omega) g0 (by intro hh;rcases hh with hh|hh <;> first|(exact absurd hh (by assumption))|omega) (by split <;> omega))
            rw [hz]
            exact R.w1 z1 [0,1] [0] rfl Try.results25 (RV.tmp rfl) rfl rfl rfl rfl
set_option maxRecDepth 100000 in
theorem sD (ap:Nat)(ah ak ai:Value)(dk:bA)(w:World)(own:List Nat)(H:Wd w (blks [af.box ap [ah,ak,ai,.int .i64 dk.Fuse,.bool dk.Down] 81,af.row 9 ah (dk.Kept:List ByteArray),af.row 9 ak (dk.Now:List ByteArray),af.row 83 ai (dk.Wait:List Turn)]++own) ([af.box ap [ah,ak,ai,.int .i64 dk.Fuse,.bool dk.Down] 81,af.row 9 ah (dk.Kept:List ByteArray),af.row 9 ak (dk.Now:List ByteArray),af.row 83 ai (dk.Wait:List Turn)]++[af.held w own]) [] w)(hd:dk.Down=false)(ho:dk.Now.length<166∨(headD dk).Epoch=0)(hD:cI dk.Now.length 90000 dk∧dk.Now.length≤200):Calls Try.prog 22 #[.pointer (some ⟨ap,0,none⟩)] w fun e w' => ∃z:Value×Value×Value,e = .returned (.tuple #[.pointer none,.iface 75 (.int .i64 4)])∧Wd w (blks [af.box ap [ah,ak,ai,.int .i64 dk.Fuse,.bool dk.Down] 81,af.row 9 ah (dk.Kept:List ByteArray),af.row 9 ak (dk.Now:List ByteArray),af.row 83 ai (dk.Wait:List Turn)]++own) ([af.box ap [z.1,z.2.1,z.2.2,.int .i64 ((dk).Fuse),.bool ((dk).Down)] 81,af.row 9 z.1 ((dk).Kept:List ByteArray),af.row 9 z.2.1 ((dk).Now:List ByteArray),af.row 83 z.2.2 ((dk).Wait:List Turn)]++[af.held w own]) [] w':=by
  have cZ:=H.cap 1 rfl;have da:=H.aX 1 rfl
  have dJ:=H.cap 2 rfl;have dK:=H.aX 2 rfl
  have dc:=H.cap 3 rfl;have df:=H.aX 3 rfl
  refine R.bY (n:=144) (vs:=[.pointer (some ⟨ap,0,none⟩)]) (B:=[af.box ap [ah,ak,ai,.int .i64 dk.Fuse,.bool dk.Down] 81,af.row 9 ah (dk.Kept:List ByteArray),af.row 9 ak (dk.Now:List ByteArray),af.row 83 ai (dk.Wait:List Turn),af.held w own]) [(0,.pointer (some ⟨ap,0,none⟩))] Try.func22 rfl rfl rfl rfl H ?_
  refine R.reg rfl<|R.u 2 rfl<|R.nil ?_
  refine R.reg rfl<|R.u 1 rfl<|R.c (q.call s8 rfl rfl (fun w hw=>(cv (congrArg Value.bool hd) (kH ap ah ak ai  (dk) w (hw.b 0 rfl) ((fun _=>Wd.row 1 rfl) w hw) ((fun _=>Wd.row 2 rfl) w hw) ((fun _=>Wd.row 3 rfl) w hw) )))) rfl<|R.nil ?_
  refine R.aH rfl rfl ?_
  refine R.reg rfl<|R.u 1 rfl<|R.c (q.call ke rfl rfl (fun w hw=>(cJ ap ah ak ai  (dk) w (hw.b 0 rfl) ((fun _=>Wd.row 1 rfl) w hw) ((fun _=>Wd.row 2 rfl) w hw) ((fun _=>Wd.row 3 rfl) w hw) ))) rfl<|?_
  by_cases h1:dk.Now.length<166
  ·
    refine R.q (q.lss rfl rfl (decide_eq_true (by omega))) rfl<|R.nil ?_
    refine R.aF rfl rfl ?_
    refine R.reg rfl<|R.q (q.iface rfl cm) rfl<|R.u 2 rfl<|R.nil ?_
    exact R.w2 (ah,ak,ai) [0,1,2,3,4] [] rfl Try.results22 (RV.tmp rfl) (RV.tmp rfl) rfl rfl rfl (mR rfl rfl)
  ·
    refine R.q (q.lss rfl rfl (decide_eq_false (by omega))) rfl<|R.nil ?_
    refine R.aH rfl rfl ?_
    refine R.reg rfl<|R.u 1 rfl<|R.q (q.build (cs:=[.pointer (some ⟨ap,0,none⟩),.int .i64 0,.int .i64 0,.int .i64 0,.int .i64 0,.pointer none,.slice none 0 0]) sZ rfl rfl) rfl<|?_
    refine R.s rfl (s.box (cs:=[.pointer (some ⟨ap,0,none⟩),.int .i64 0,.int .i64 0,.int .i64 0,.int .i64 0,.pointer none,.slice none 0 0]) rfl rfl rfl) fun b1=>?_
    refine R.u 1 rfl<|R.nil ?_
    refine R.reg rfl<|R.u 1 rfl<|R.nil ?_
    refine R.loop (fun g_:Nat×br=>[(0,.pointer (some ⟨ap,0,none⟩)),(4,.pointer (some ⟨b1,0,none⟩)),(30,.int .i64 (g_.1:Int))]) (fun g_:Nat×br=>[af.box b1 [.pointer (some ⟨ap,0,none⟩),.int .i64 g_.2.Epoch,.int .i64 g_.2.Side,.int .i64 g_.2.Size,.int .i64 g_.2.First,.pointer none,.slice none 0 0] 100,af.box ap [ah,ak,ai,.int .i64 dk.Fuse,.bool dk.Down] 81,af.row 9 ah (dk.Kept:List ByteArray),af.row 9 ak (dk.Now:List ByteArray),af.row 83 ai (dk.Wait:List Turn),af.held w own]) (fun g_:Nat×br=>[]) (fun g_:Nat×br=>g_.1≤2∧g_.2=ff dk g_.1) (fun g_:Nat×br=>2-g_.1) (0,(⟨0,0,0,0⟩:br)) rfl (by exact ⟨by omega,rfl⟩) ⟨rfl,rfl,rfl,trivial⟩ (fun _=>Wd.pick [0,1,2,3,4,5] [] rfl rfl rfl) ?_
    rintro ⟨i,hh⟩ ⟨hi,HK⟩
    dsimp only at *
    have hin:=mD dk i;rw [← HK] at hin
    refine R.reg rfl<|?_
    by_cases h2:i<2
    ·
      refine R.q (q.lss rfl rfl (decide_eq_true (by omega))) rfl<|R.nil ?_
      refine R.aF rfl rfl ?_
      refine R.reg rfl<|R.u 2 rfl<|R.nil ?_
      have hrd:=kt hD.1 hd (i:=(i:Int)) (by omega) (by omega);obtain ⟨hrd,hsz⟩:=hrd;have hin2:=kv (aO dk (i:Int)).1
      refine R.reg rfl<|R.u 2 rfl<|R.c (q.call qL rfl rfl (fun w hw=>(jz ap ah ak ai  (dk) ((i:Int)) w (hw.b 1 rfl) ((fun _=>Wd.row 2 rfl) w hw) ((fun _=>Wd.row 3 rfl) w hw) ((fun _=>Wd.row 4 rfl) w hw) ))) rfl<|R.u 5 rfl<|R.nil ?_
      refine R.reg rfl<|R.u 1 rfl<|R.q (q.dx rfl rfl Try.underlying28 (by omega)) rfl<|R.nil ?_
      refine R.aH rfl rfl ?_
      refine R.reg rfl<|R.u 1 rfl<|?_
      refine R.s (B':=(fun _u:Unit=>[af.box b1 [.pointer (some ⟨ap,0,none⟩),.int .i64 hh.Epoch,.int .i64 hh.Side,.int .i64 hh.Size,.int .i64 hh.First,.pointer none,.slice none 0 0] 100,af.box ap [ah,ak,ai,.int .i64 dk.Fuse,.bool dk.Down] 81,af.row 9 ah (dk.Kept:List ByteArray),af.row 9 ak (dk.Now:List ByteArray),af.row 83 ai (dk.Wait:List Turn),af.held w own])) (F':=(fun _u:Unit=>[])) rfl (s.bM (B0:=[]) (Br:=[af.box b1 [.pointer (some ⟨ap,0,none⟩),.int .i64 hh.Epoch,.int .i64 hh.Side,.int .i64 hh.Size,.int .i64 hh.First,.pointer none,.slice none 0 0] 100,af.box ap [ah,ak,ai,.int .i64 dk.Fuse,.bool dk.Down] 81,af.row 9 ah (dk.Kept:List ByteArray),af.row 9 ak (dk.Now:List ByteArray),af.row 83 ai (dk.Wait:List Turn),af.held w own]) (F0:=[]) [0,1,2,3,4,5] [] (fun _u:Unit => .agg #[.int .i64 (((aT ((aO dk (i:Int)).1))).Epoch),.int .i64 (((aT ((aO dk (i:Int)).1))).Side),.int .i64 (((aT ((aO dk (i:Int)).1))).Size),.int .i64 (((aT ((aO dk (i:Int)).1))).First)]) (fun _u:Unit=>[]) (fun _u:Unit=>[]) rfl rfl rfl vM rfl rfl (fun w own hw H=>mr ((aO dk (i:Int)).1) w own H (by first|omega|assumption)) rfl) fun _=>?_
      refine R.s rfl (s.alloc (cs:=[.int .i64 0,.int .i64 0,.int .i64 0,.int .i64 0]) eC rfl rfl) fun b2=>?_
      refine R.s rfl (s.st (us:=[.int .i64 ((aT ((aO dk (i:Int)).1)).Epoch),.int .i64 ((aT ((aO dk (i:Int)).1)).Side),.int .i64 ((aT ((aO dk (i:Int)).1)).Size),.int .i64 ((aT ((aO dk (i:Int)).1)).First)]) (cs':=[.int .i64 ((aT ((aO dk (i:Int)).1)).Epoch),.int .i64 ((aT ((aO dk (i:Int)).1)).Side),.int .i64 ((aT ((aO dk (i:Int)).1)).Size),.int .i64 ((aT ((aO dk (i:Int)).1)).First)]) 0 _ rfl rfl rfl rfl (.inl aM) rfl rfl rfl rfl) fun _=>?_
      refine R.nil ?_
      by_cases h3:hh.Epoch<(aT ((aO dk (i:Int)).1)).Epoch
      ·
        refine R.dC rfl mixed (by kernel_rfl)<|Q.q (q.bz (off':=0) rfl cR rfl) rfl<|Q.q (q.ld 0 rfl rfl aK rfl) rfl<|Q.u 1 rfl<|Q.q (q.a7 rfl) rfl<|Q.q (q.bz (off':=1) rfl cp rfl) rfl<|Q.q (q.bz (off':=1) rfl cR rfl) rfl<|Q.q (q.ld 1 rfl rfl aK rfl) rfl<|Q.q (q.gtr rfl rfl (decide_eq_true (by omega))) rfl<|Q.nil ?_
        refine R.aF rfl rfl ?_
        refine R.reg rfl<|R.u 1 rfl<|R.q (q.mO 0 rfl rfl aM) rfl<|R.q (q.a7 rfl) rfl<|R.q (q.bz (off':=1) rfl cp rfl) rfl<|?_
        refine R.s rfl (s.st (us:=[.int .i64 ((aT ((aO dk (i:Int)).1)).Epoch),.int .i64 ((aT ((aO dk (i:Int)).1)).Side),.int .i64 ((aT ((aO dk (i:Int)).1)).Size),.int .i64 ((aT ((aO dk (i:Int)).1)).First)]) (cs':=[.pointer (some ⟨ap,0,none⟩),.int .i64 ((aT ((aO dk (i:Int)).1)).Epoch),.int .i64 ((aT ((aO dk (i:Int)).1)).Side),.int .i64 ((aT ((aO dk (i:Int)).1)).Size),.int .i64 ((aT ((aO dk (i:Int)).1)).First),.pointer none,.slice none 0 0]) 1 _ rfl rfl rfl rfl (.inl aM) rfl rfl rfl rfl) fun _=>?_
        refine R.nil ?_
        refine R.reg rfl<|R.q (q.add (r:=((i+1:Nat):Int)) rfl rfl (wr (by omega))) rfl<|R.u 1 rfl<|R.nil ?_
        refine R.back (i+1,aT (aO dk (i:Int)).1) rfl (by (exact ⟨by omega,by show _=fX (ff dk i) (aT (aO dk (i:Int)).1);rw [← HK];unfold fX;first|rw [if_pos (by assumption)] | rw [if_neg (by assumption)]⟩)) (by dsimp only;omega) ⟨rfl,rfl,rfl,trivial⟩ (fun _=>Wd.ay [1,2,3,4,5,6] [] rfl rfl rfl)
      ·
        refine R.dC rfl mixed (by kernel_rfl)<|Q.q (q.bz (off':=0) rfl cR rfl) rfl<|Q.q (q.ld 0 rfl rfl aK rfl) rfl<|Q.u 1 rfl<|Q.q (q.a7 rfl) rfl<|Q.q (q.bz (off':=1) rfl cp rfl) rfl<|Q.q (q.bz (off':=1) rfl cR rfl) rfl<|Q.q (q.ld 1 rfl rfl aK rfl) rfl<|Q.q (q.gtr rfl rfl (decide_eq_false (by omega))) rfl<|Q.nil ?_
        refine R.aH rfl rfl ?_
        refine R.reg rfl<|R.q (q.add (r:=((i+1:Nat):Int)) rfl rfl (wr (by omega))) rfl<|R.u 1 rfl<|R.nil ?_
        refine R.back (i+1,hh) rfl (by (exact ⟨by omega,by show _=fX (ff dk i) (aT (aO dk (i:Int)).1);rw [← HK];unfold fX;first|rw [if_pos (by assumption)] | rw [if_neg (by assumption)]⟩)) (by dsimp only;omega) ⟨rfl,rfl,rfl,trivial⟩ (fun _=>Wd.ay [1,2,3,4,5,6] [] rfl rfl rfl)
    ·
      refine R.q (q.lss rfl rfl (decide_eq_false (by omega))) rfl<|R.nil ?_
      refine R.aH rfl rfl ?_
      have yy:hh=headD dk:=by rw [HK,show i=2 by omega];rfl
      have AF:hh.Epoch=0:=by rw [yy];rcases ho with ho|ho;exact absurd ho (by assumption);exact ho
      refine R.reg rfl<|R.u 1 rfl<|R.q (q.a7 rfl) rfl<|R.q (q.bz (off':=1) rfl cp rfl) rfl<|R.q (q.bz (off':=1) rfl cR rfl) rfl<|R.q (q.ld 0 rfl rfl aK rfl) rfl<|R.q (q.eql rfl rfl (beq_iff_eq.2 (by omega))) rfl<|R.nil ?_
      refine R.aF rfl rfl ?_
      refine R.reg rfl<|R.q (q.iface rfl cm) rfl<|R.u 2 rfl<|R.nil ?_
      exact R.w2 (ah,ak,ai) [1,2,3,4,5] [] rfl Try.results22 (RV.tmp rfl) (RV.tmp rfl) rfl rfl rfl (mR rfl rfl)
end Go.Proofs.Ytpipachmngdegaa
end
