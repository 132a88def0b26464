import Derived.Test.YtpipachmngdegaaTCP39
import Derived.Test.YtpipachmngdegaaTCP31
section
namespace Go.Proofs.Ytpipachmngdegaa
open Go Go.RowKit
set_option linter.unusedVariables false
set_option linter.unusedSimpArgs false
set_option maxRecDepth 100000
section
variable {s:iQ} {d:bp} {l:List Change} {e:Int} {n m:Nat}
end
set_option maxHeartbeats 3200000 in
theorem gE (br:Nat)(aE:Value)(st:gV)(bR:Value)(l:List Change)(au:Nat)(ao ap ak:Value)(dk:bp)(aG:Nat)(lg:Lg)(w:World)(own:List Nat)(H:Wd w (blks [ah.box br [.pointer (some ⟨au,0,none⟩),.int .i64 st.Epoch,.int .i64 st.Side,.int .i64 st.Size,.int .i64 st.First,.pointer (some ⟨aG,0,none⟩),aE] 100,ah.box au [ao,ap,ak,.int .i64 dk.Fuse,.bool dk.Down] 81,ah.row 9 ao (dk.Kept:List ByteArray),ah.row 9 ap (dk.Now:List ByteArray),ah.row 83 ak (dk.Wait:List Turn),ah.box aG [.pointer (some ⟨au,0,none⟩),.int .i64 lg.From,.int .i64 lg.Many,.int .i64 lg.First,.int .i64 lg.Next] 85]++own) ([ah.box br [.pointer (some ⟨au,0,none⟩),.int .i64 st.Epoch,.int .i64 st.Side,.int .i64 st.Size,.int .i64 st.First,.pointer (some ⟨aG,0,none⟩),aE] 100,ah.box au [ao,ap,ak,.int .i64 dk.Fuse,.bool dk.Down] 81,ah.row 9 ao (dk.Kept:List ByteArray),ah.row 9 ap (dk.Now:List ByteArray),ah.row 83 ak (dk.Wait:List Turn),ah.box aG [.pointer (some ⟨au,0,none⟩),.int .i64 lg.From,.int .i64 lg.Many,.int .i64 lg.First,.int .i64 lg.Next] 85]++[ah.held w own]) [ah.ls aE (st.Rows:List Change),ah.ls bR (l:List Change)] w)(hD:cz dk.Now.length 60000 dk∧dk.Now.length≤200∧166≤dk.Now.length)(hS:0≤st.Epoch∧st.Epoch≤1000000000∧0≤st.Side∧st.Side≤1∧0≤lg.Many∧lg.Many≤1000∧1≤lg.First∧lg.First≤1000000000∧0≤lg.From∧lg.From≤1000∧0≤lg.Next∧lg.Next≤1000)(hl:st.Rows.length≤60)(hF:∀c∈st.Rows,ea c=0)(hn:l.length≤10000):Calls Try.prog 24 #[.pointer (some ⟨br,0,none⟩),bR] w fun e w' => ∃z:Value×Value×Value×Value×Nat,e = .returned (bF (((ai (mkS st lg) dk l).2.2)))∧Wd w (blks [ah.box br [.pointer (some ⟨au,0,none⟩),.int .i64 st.Epoch,.int .i64 st.Side,.int .i64 st.Size,.int .i64 st.First,.pointer (some ⟨aG,0,none⟩),aE] 100,ah.box au [ao,ap,ak,.int .i64 dk.Fuse,.bool dk.Down] 81,ah.row 9 ao (dk.Kept:List ByteArray),ah.row 9 ap (dk.Now:List ByteArray),ah.row 83 ak (dk.Wait:List Turn),ah.box aG [.pointer (some ⟨au,0,none⟩),.int .i64 lg.From,.int .i64 lg.Many,.int .i64 lg.First,.int .i64 lg.Next] 85]++own) ([ah.box br [.pointer (some ⟨au,0,none⟩),.int .i64 ((((ai (mkS st lg) dk l).1.c)).Epoch),.int .i64 ((((ai (mkS st lg) dk l).1.c)).Side),.int .i64 ((((ai (mkS st lg) dk l).1.c)).Size),.int .i64 ((((ai (mkS st lg) dk l).1.c)).First),.pointer (some ⟨z.2.2.2.2,0,none⟩),z.1] 100,ah.box au [z.2.1,z.2.2.1,z.2.2.2.1,.int .i64 ((((ai (mkS st lg) dk l).2.1)).Fuse),.bool ((((ai (mkS st lg) dk l).2.1)).Down)] 81,ah.row 9 z.2.1 ((((ai (mkS st lg) dk l).2.1)).Kept:List ByteArray),ah.row 9 z.2.2.1 ((((ai (mkS st lg) dk l).2.1)).Now:List ByteArray),ah.row 83 z.2.2.2.1 ((((ai (mkS st lg) dk l).2.1)).Wait:List Turn),ah.box z.2.2.2.2 [.pointer (some ⟨au,0,none⟩),.int .i64 ((((ai (mkS st lg) dk l).1.L)).From),.int .i64 ((((ai (mkS st lg) dk l).1.L)).Many),.int .i64 ((((ai (mkS st lg) dk l).1.L)).First),.int .i64 ((((ai (mkS st lg) dk l).1.L)).Next)] 85]++[ah.held w own]) [ah.ls z.1 ((((ai (mkS st lg) dk l).1.c)).Rows:List Change)] w':=by
  have cM:=H.cap 2 rfl;have cN:=H.aU 2 rfl
  have dv:=H.cap 3 rfl;have dw:=H.aU 3 rfl
  have cO:=H.cap 4 rfl;have cQ:=H.aU 4 rfl
  have sg:=H.jD 0 rfl
  have vC:=H.jD 1 rfl
  have hal:=k9 hF;have hc0:cz dk.Now.length 70000 dk∧dk.Now.length≤200∧166≤dk.Now.length:=⟨hD.1.up (by omega),hD.2.1,hD.2.2⟩;have hc1:=tH (s:=mkS st lg) hD.1 (Nat.le_trans hal (by omega));have hc2:=hc1.nl
  have hb0:cz dk.Now.length 80000 dk∧dk.Now.length≤100000:=⟨hD.1.up (by omega),by omega⟩;have hb1:cz (ay (mkS st lg) dk).2.1.Now.length 80000 (ay (mkS st lg) dk).2.1∧(ay (mkS st lg) dk).2.1.Now.length≤100000:=⟨hc2.symm▸hc1.up (by omega),by omega⟩
  refine R.bW (n:=76) (vs:=[.pointer (some ⟨br,0,none⟩),bR]) (B:=[ah.box br [.pointer (some ⟨au,0,none⟩),.int .i64 st.Epoch,.int .i64 st.Side,.int .i64 st.Size,.int .i64 st.First,.pointer (some ⟨aG,0,none⟩),aE] 100,ah.box au [ao,ap,ak,.int .i64 dk.Fuse,.bool dk.Down] 81,ah.row 9 ao (dk.Kept:List ByteArray),ah.row 9 ap (dk.Now:List ByteArray),ah.row 83 ak (dk.Wait:List Turn),ah.box aG [.pointer (some ⟨au,0,none⟩),.int .i64 lg.From,.int .i64 lg.Many,.int .i64 lg.First,.int .i64 lg.Next] 85,ah.held w own]) [(0,.pointer (some ⟨br,0,none⟩)),(1,bR)] Try.func24 rfl rfl rfl rfl H ?_
  refine R.reg rfl<|R.u 1 rfl<|R.nil ?_
  refine R.reg rfl<|R.u 1 rfl<|R.q (q.len' (fun _=>Wd.bZ 1 rfl) rfl Try.underlying46) rfl<|?_
  by_cases h1:62<l.length
  ·
    refine R.q (q.gtr rfl rfl (decide_eq_true (by omega))) rfl<|R.nil ?_
    refine R.aK rfl rfl ?_
    refine R.reg rfl<|R.q (q.iface rfl cD) rfl<|R.u 1 rfl<|R.nil ?_
    have hz:((ai (mkS st lg) dk l).1.c,(ai (mkS st lg) dk l).2.1,(ai (mkS st lg) dk l).1.L,(ai (mkS st lg) dk l).2.2)=(st,dk,lg,2):=by (rw [x8 (by assumption)];rfl)
    have hz0:(ai (mkS st lg) dk l).1.c=st:=congrArg (fun t_=>t_.1) hz
    rw [hz0]
    have hz1:(ai (mkS st lg) dk l).2.1=dk:=congrArg (fun t_=>t_.2.1) hz
    rw [hz1]
    have hz2:(ai (mkS st lg) dk l).1.L=lg:=congrArg (fun t_=>t_.2.2.1) hz
    rw [hz2]
    have hz3:(ai (mkS st lg) dk l).2.2=2:=congrArg (fun t_=>t_.2.2.2) hz
    rw [hz3]
    exact R.w1 (aE,ao,ap,ak,aG) [0,1,2,3,4,5,6] [0] rfl Try.results24 (RV.tmp rfl) rfl rfl rfl (fO (by decide) rfl)
  ·
    refine R.q (q.gtr rfl rfl (decide_eq_false (by omega))) rfl<|R.nil ?_
    refine R.aI rfl rfl ?_
    refine R.reg rfl<|R.u 1 rfl<|R.q (q.len' (fun _=>Wd.bZ 1 rfl) rfl Try.underlying46) rfl<|R.u 1 rfl<|R.nil ?_
    refine R.loop (fun i:Nat=>[(0,.pointer (some ⟨br,0,none⟩)),(1,bR),(15,bR),(16,.int .i64 (l.length:Int)),(17,.int .i64 (i:Int))]) (fun i:Nat=>[ah.box br [.pointer (some ⟨au,0,none⟩),.int .i64 st.Epoch,.int .i64 st.Side,.int .i64 st.Size,.int .i64 st.First,.pointer (some ⟨aG,0,none⟩),aE] 100,ah.box au [ao,ap,ak,.int .i64 dk.Fuse,.bool dk.Down] 81,ah.row 9 ao (dk.Kept:List ByteArray),ah.row 9 ap (dk.Now:List ByteArray),ah.row 83 ak (dk.Wait:List Turn),ah.box aG [.pointer (some ⟨au,0,none⟩),.int .i64 lg.From,.int .i64 lg.Many,.int .i64 lg.First,.int .i64 lg.Next] 85,ah.held w own]) (fun i:Nat=>[ah.ls aE (st.Rows:List Change),ah.ls bR (l:List Change)]) (fun i:Nat=>i≤l.length∧dR (l.drop i)=dR l) (fun i:Nat=>l.length-i) 0 rfl (by exact ⟨by omega,rfl⟩) ⟨rfl,rfl,rfl,rfl,rfl,trivial⟩ (fun _=>Wd.pick [0,1,2,3,4,5,6] [0,1] rfl rfl rfl) ?_
    rintro i ⟨hi,HL⟩
    refine R.reg rfl<|?_
    by_cases h2:i<l.length
    ·
      refine R.q (q.lss rfl rfl (decide_eq_true (by omega))) rfl<|R.nil ?_
      refine R.aK rfl rfl ?_
      refine R.reg rfl<|?_
      obtain ⟨x1,hx1⟩:∃z,l[i]? = some z:=⟨_,List.getElem?_eq_getElem (by omega)⟩
      have xZ:=aQ x1
      refine R.q (q.idx (i:=i) (fun _=>Wd.bZ 1 rfl) rfl rfl aT rfl hx1) rfl<|R.q (q.iU (ds:=[.string x1.Key,.string x1.Val,.bool x1.Gone]) (fun _=>Wd.bZ 1 rfl) hx1 rfl aX rfl) rfl<|?_
      refine R.s rfl (s.alloc (cs:=[.string (⟨#[]⟩),.string (⟨#[]⟩),.bool false]) bT rfl rfl) fun b1=>?_
      refine R.s rfl (s.st (us:=[.string x1.Key,.string x1.Val,.bool x1.Gone]) (cs':=[.string x1.Key,.string x1.Val,.bool x1.Gone]) 0 _ rfl rfl rfl rfl (.inl aX) rfl rfl rfl rfl) fun _=>?_
      refine R.nil ?_
      refine R.reg rfl<|R.q (q.mD 0 rfl rfl aX) rfl<|R.c (q.call mZ rfl rfl (fun w hw=>(dZ (x1) w  ))) rfl<|R.u 1 rfl<|R.nil ?_
      refine R.reg rfl<|R.u 1 rfl<|?_
      by_cases h3:ea x1=0
      ·
        refine R.q (q.dj rfl rfl Try.underlying28 (by omega)) rfl<|R.nil ?_
        refine R.aI rfl rfl ?_
        refine R.reg rfl<|R.q (q.add (r:=((i+1:Nat):Int)) rfl rfl (wr (by omega))) rfl<|R.u 1 rfl<|R.nil ?_
        refine R.back (i+1) rfl (by (exact ⟨by omega,td HL hx1 (by omega)⟩)) (by omega) ⟨rfl,rfl,rfl,rfl,rfl,trivial⟩ (fun _=>Wd.aA [1,2,3,4,5,6,7] [0,1] rfl rfl rfl)
      ·
        refine R.q (q.fy rfl rfl Try.underlying28 (by omega)) rfl<|R.nil ?_
        refine R.aK rfl rfl ?_
        refine R.reg rfl<|R.u 2 rfl<|R.nil ?_
        have hz:((ai (mkS st lg) dk l).1.c,(ai (mkS st lg) dk l).2.1,(ai (mkS st lg) dk l).1.L,(ai (mkS st lg) dk l).2.2)=(st,dk,lg,ea x1):=by (rw [x9 (by assumption) (om HL hx1 (by assumption)) (by assumption)];rfl)
        have hz0:(ai (mkS st lg) dk l).1.c=st:=congrArg (fun t_=>t_.1) hz
        rw [hz0]
        have hz1:(ai (mkS st lg) dk l).2.1=dk:=congrArg (fun t_=>t_.2.1) hz
        rw [hz1]
        have hz2:(ai (mkS st lg) dk l).1.L=lg:=congrArg (fun t_=>t_.2.2.1) hz
        rw [hz2]
        have hz3:(ai (mkS st lg) dk l).2.2=ea x1:=congrArg (fun t_=>t_.2.2.2) hz
        rw [hz3]
        exact R.w1 (aE,ao,ap,ak,aG) [1,2,3,4,5,6,7] [0] rfl Try.results24 (RV.tmp rfl) rfl rfl rfl rfl
    ·
      refine R.q (q.lss rfl rfl (decide_eq_false (by omega))) rfl<|R.nil ?_
      refine R.aI rfl rfl ?_
      have g0:dR l=0:=tf HL (by omega);have Ab:=fj l st.Rows
      refine R.reg rfl<|R.u 1 rfl<|R.q (q.bm rfl) rfl<|R.q (q.bJ (off':=6) rfl dJ rfl) rfl<|R.q (q.ld 0 rfl rfl cj rfl) rfl<|R.u 1 rfl<|?_
      refine R.s (B':=(fun aW:Value=>[ah.row 51 aW ((a7 st.Rows l):List Change),ah.box br [.pointer (some ⟨au,0,none⟩),.int .i64 st.Epoch,.int .i64 st.Side,.int .i64 st.Size,.int .i64 st.First,.pointer (some ⟨aG,0,none⟩),aE] 100,ah.box au [ao,ap,ak,.int .i64 dk.Fuse,.bool dk.Down] 81,ah.row 9 ao (dk.Kept:List ByteArray),ah.row 9 ap (dk.Now:List ByteArray),ah.row 83 ak (dk.Wait:List Turn),ah.box aG [.pointer (some ⟨au,0,none⟩),.int .i64 lg.From,.int .i64 lg.Many,.int .i64 lg.First,.int .i64 lg.Next] 85,ah.held w own])) (F':=(fun aW:Value=>[ah.ls aE (st.Rows:List Change),ah.ls bR (l:List Change)])) rfl (s.bD (B0:=[]) (Br:=[ah.box br [.pointer (some ⟨au,0,none⟩),.int .i64 st.Epoch,.int .i64 st.Side,.int .i64 st.Size,.int .i64 st.First,.pointer (some ⟨aG,0,none⟩),aE] 100,ah.box au [ao,ap,ak,.int .i64 dk.Fuse,.bool dk.Down] 81,ah.row 9 ao (dk.Kept:List ByteArray),ah.row 9 ap (dk.Now:List ByteArray),ah.row 83 ak (dk.Wait:List Turn),ah.box aG [.pointer (some ⟨au,0,none⟩),.int .i64 lg.From,.int .i64 lg.Many,.int .i64 lg.First,.int .i64 lg.Next] 85,ah.held w own]) (F0:=[ah.ls aE (st.Rows:List Change),ah.ls bR (l:List Change)]) [0,1,2,3,4,5,6] [0,1] (fun aW:Value=>aW) (fun aW:Value=>[ah.row 51 aW ((a7 st.Rows l):List Change)]) (fun aW:Value=>[]) rfl rfl rfl sR rfl rfl (fun w own hw H=>iE aE (st.Rows) bR (l) w own H (by first|omega|assumption|(simp;done)|(simp;omega))) rfl) fun z1=>?_
      refine R.u 1 rfl<|R.nil ?_
      refine R.reg rfl<|R.u 1 rfl<|R.q (q.len' (fun _=>Wd.row 0 rfl) rfl Try.underlying46) rfl<|?_
      by_cases h4:60<(a7 st.Rows l).length
      ·
        refine R.q (q.gtr rfl rfl (decide_eq_true (by omega))) rfl<|R.u 12 rfl<|R.nil ?_
        refine R.aK rfl rfl ?_
        refine R.reg rfl<|R.q (q.iface rfl cD) rfl<|R.u 1 rfl<|R.nil ?_
        have hz:((ai (mkS st lg) dk l).1.c,(ai (mkS st lg) dk l).2.1,(ai (mkS st lg) dk l).1.L,(ai (mkS st lg) dk l).2.2)=(st,dk,lg,9):=by (first|(rw [l7 (s:=mkS st lg) (by assumption) g0 (by first|exact .inl (by assumption)|exact .inr (by omega))];rfl)|(have hf:=jL (s:=mkS st lg) (d:=dk) (l:=l) (by assumption) g0 (by intro hh;rcases hh with hh|hh <;> first|(exact absurd hh (by assumption))|omega);first|(rw [kL hf (by show lg.Many-lg.Next<_;omega) (by assumption)])|(rw [kM hf (by show lg.Many-lg.Next<_;omega) (by assumption) (by assumption)];first|done|rfl)|(rw [kN hf (by show lg.Many-lg.Next<_;omega) (by assumption) (by assumption)];first|done|rfl)|(rw [kO hf (by show ¬ lg.Many-lg.Next<_;omega) (by assumption)];first|done|rfl)|(rw [kP hf (by show ¬ lg.Many-lg.Next<_;omega) (by assumption)];first|done|rfl)))
        have hz0:(ai (mkS st lg) dk l).1.c=st:=congrArg (fun t_=>t_.1) hz
        rw [hz0]
        have hz1:(ai (mkS st lg) dk l).2.1=dk:=congrArg (fun t_=>t_.2.1) hz
        rw [hz1]
        have hz2:(ai (mkS st lg) dk l).1.L=lg:=congrArg (fun t_=>t_.2.2.1) hz
        rw [hz2]
        have hz3:(ai (mkS st lg) dk l).2.2=9:=congrArg (fun t_=>t_.2.2.2) hz
        rw [hz3]
        exact R.w1 (aE,ao,ap,ak,aG) [1,2,3,4,5,6,7] [0] rfl Try.results24 (RV.tmp rfl) rfl rfl rfl (fO (by decide) rfl)
      ·
        refine R.q (q.gtr rfl rfl (decide_eq_false (by omega))) rfl<|R.u 2 rfl<|R.qg rfl (q.len' (fun _=>Wd.bZ 1 rfl) rfl Try.underlying46) rfl<|R.qg rfl (q.add (r:=((l.length+1:Nat):Int)) rfl rfl (wr (by omega))) rfl<|R.u 1 rfl<|R.qg rfl (q.bm rfl) rfl<|R.qg rfl (q.bJ (off':=0) rfl ew rfl) rfl<|R.qg rfl (q.ld 1 rfl rfl dU rfl) rfl<|R.cg rfl (q.call kI rfl rfl (fun w hw=>(c9 au ao ap ak  (dk) w (hw.b 2 rfl) ((fun _=>Wd.row 3 rfl) w hw) ((fun _=>Wd.row 4 rfl) w hw) ((fun _=>Wd.row 5 rfl) w hw) ))) rfl<|R.qg rfl (q.sub (r:=((dk.Now.length-102:Nat):Int)) rfl rfl (wr (by omega))) rfl<|?_
        by_cases h5:(dk.Now.length-102)<(l.length+1)
        ·
          refine R.qg rfl (q.gtr rfl rfl (decide_eq_true (by omega))) rfl<|R.u 1 rfl<|R.nil ?_
          refine R.aK rfl rfl ?_
          refine R.reg rfl<|R.q (q.iface rfl cD) rfl<|R.u 1 rfl<|R.nil ?_
          have hz:((ai (mkS st lg) dk l).1.c,(ai (mkS st lg) dk l).2.1,(ai (mkS st lg) dk l).1.L,(ai (mkS st lg) dk l).2.2)=(st,dk,lg,9):=by (first|(rw [l7 (s:=mkS st lg) (by assumption) g0 (by first|exact .inl (by assumption)|exact .inr (by omega))];rfl)|(have hf:=jL (s:=mkS st lg) (d:=dk) (l:=l) (by assumption) g0 (by intro hh;rcases hh with hh|hh <;> first|(exact absurd hh (by assumption))|omega);first|(rw [kL hf (by show lg.Many-lg.Next<_;omega) (by assumption)])|(rw [kM hf (by show lg.Many-lg.Next<_;omega) (by assumption) (by assumption)];first|done|rfl)|(rw [kN hf (by show lg.Many-lg.Next<_;omega) (by assumption) (by assumption)];first|done|rfl)|(rw [kO hf (by show ¬ lg.Many-lg.Next<_;omega) (by assumption)];first|done|rfl)|(rw [kP hf (by show ¬ lg.Many-lg.Next<_;omega) (by assumption)];first|done|rfl)))
          have hz0:(ai (mkS st lg) dk l).1.c=st:=congrArg (fun t_=>t_.1) hz
          rw [hz0]
          have hz1:(ai (mkS st lg) dk l).2.1=dk:=congrArg (fun t_=>t_.2.1) hz
          rw [hz1]
          have hz2:(ai (mkS st lg) dk l).1.L=lg:=congrArg (fun t_=>t_.2.2.1) hz
          rw [hz2]
          have hz3:(ai (mkS st lg) dk l).2.2=9:=congrArg (fun t_=>t_.2.2.2) hz
          rw [hz3]
          exact R.w1 (aE,ao,ap,ak,aG) [1,2,3,4,5,6,7] [0] rfl Try.results24 (RV.tmp rfl) rfl rfl rfl (fO (by decide) rfl)
        ·
          refine R.qg rfl (q.gtr rfl rfl (decide_eq_false (by omega))) rfl<|R.u 1 rfl<|R.nil ?_
          refine R.aI rfl rfl ?_
          refine R.reg rfl<|R.u 1 rfl<|R.q (q.len' (fun _=>Wd.bZ 1 rfl) rfl Try.underlying46) rfl<|R.q (q.add (r:=((l.length+1:Nat):Int)) rfl rfl (wr (by omega))) rfl<|R.u 1 rfl<|R.q (q.bm rfl) rfl<|R.q (q.bJ (off':=5) rfl fa rfl) rfl<|R.q (q.ld 1 rfl rfl dr rfl) rfl<|R.c (q.call sO rfl rfl (fun w hw=>(lX aG  au (lg) w (hw.b 6 rfl) (by first|assumption|omega|(dsimp only;omega))))) rfl<|?_
          by_cases h6:lg.Many-lg.Next<((l.length+1):Int)
          ·
            refine R.q (q.gtr rfl rfl (decide_eq_true (by omega))) rfl<|R.nil ?_
            refine R.aK rfl rfl ?_
            refine R.reg rfl<|R.u 1 rfl<|?_
            refine R.s (B':=(fun g_:Value×Value×Value×Value×Nat=>[ah.box br [.pointer (some ⟨au,0,none⟩),.int .i64 ((((ay (mkS st lg) dk).1.c)).Epoch),.int .i64 ((((ay (mkS st lg) dk).1.c)).Side),.int .i64 ((((ay (mkS st lg) dk).1.c)).Size),.int .i64 ((((ay (mkS st lg) dk).1.c)).First),.pointer (some ⟨g_.2.2.2.2,0,none⟩),g_.1] 100,ah.box au [g_.2.1,g_.2.2.1,g_.2.2.2.1,.int .i64 ((((ay (mkS st lg) dk).2.1)).Fuse),.bool ((((ay (mkS st lg) dk).2.1)).Down)] 81,ah.row 9 g_.2.1 ((((ay (mkS st lg) dk).2.1)).Kept:List ByteArray),ah.row 9 g_.2.2.1 ((((ay (mkS st lg) dk).2.1)).Now:List ByteArray),ah.row 83 g_.2.2.2.1 ((((ay (mkS st lg) dk).2.1)).Wait:List Turn),ah.box g_.2.2.2.2 [.pointer (some ⟨au,0,none⟩),.int .i64 ((((ay (mkS st lg) dk).1.L)).From),.int .i64 ((((ay (mkS st lg) dk).1.L)).Many),.int .i64 ((((ay (mkS st lg) dk).1.L)).First),.int .i64 ((((ay (mkS st lg) dk).1.L)).Next)] 85,ah.row 51 z1 (a7 st.Rows l:List Change),ah.held w own])) (F':=(fun g_:Value×Value×Value×Value×Nat=>[ah.ls g_.1 ((((ay (mkS st lg) dk).1.c)).Rows:List Change),ah.ls aE (st.Rows:List Change),ah.ls bR (l:List Change)])) rfl (s.bD (B0:=[ah.box br [.pointer (some ⟨au,0,none⟩),.int .i64 st.Epoch,.int .i64 st.Side,.int .i64 st.Size,.int .i64 st.First,.pointer (some ⟨aG,0,none⟩),aE] 100,ah.box au [ao,ap,ak,.int .i64 dk.Fuse,.bool dk.Down] 81,ah.row 9 ao (dk.Kept:List ByteArray),ah.row 9 ap (dk.Now:List ByteArray),ah.row 83 ak (dk.Wait:List Turn),ah.box aG [.pointer (some ⟨au,0,none⟩),.int .i64 lg.From,.int .i64 lg.Many,.int .i64 lg.First,.int .i64 lg.Next] 85]) (Br:=[ah.row 51 z1 (a7 st.Rows l:List Change),ah.held w own]) (F0:=[ah.ls aE (st.Rows:List Change)]) [1,2,3,4,5,6,0,7] [0] (fun g_:Value×Value×Value×Value×Nat=>bF (((ay (mkS st lg) dk).2.2))) (fun g_:Value×Value×Value×Value×Nat=>[ah.box br [.pointer (some ⟨au,0,none⟩),.int .i64 ((((ay (mkS st lg) dk).1.c)).Epoch),.int .i64 ((((ay (mkS st lg) dk).1.c)).Side),.int .i64 ((((ay (mkS st lg) dk).1.c)).Size),.int .i64 ((((ay (mkS st lg) dk).1.c)).First),.pointer (some ⟨g_.2.2.2.2,0,none⟩),g_.1] 100,ah.box au [g_.2.1,g_.2.2.1,g_.2.2.2.1,.int .i64 ((((ay (mkS st lg) dk).2.1)).Fuse),.bool ((((ay (mkS st lg) dk).2.1)).Down)] 81,ah.row 9 g_.2.1 ((((ay (mkS st lg) dk).2.1)).Kept:List ByteArray),ah.row 9 g_.2.2.1 ((((ay (mkS st lg) dk).2.1)).Now:List ByteArray),ah.row 83 g_.2.2.2.1 ((((ay (mkS st lg) dk).2.1)).Wait:List Turn),ah.box g_.2.2.2.2 [.pointer (some ⟨au,0,none⟩),.int .i64 ((((ay (mkS st lg) dk).1.L)).From),.int .i64 ((((ay (mkS st lg) dk).1.L)).Many),.int .i64 ((((ay (mkS st lg) dk).1.L)).First),.int .i64 ((((ay (mkS st lg) dk).1.L)).Next)] 85]) (fun g_:Value×Value×Value×Value×Nat=>[ah.ls g_.1 ((((ay (mkS st lg) dk).1.c)).Rows:List Change)]) rfl rfl rfl qE rfl rfl (fun w own hw H=>kg br aE (st) au ao ap ak (dk) aG  (lg) w own H (by first|assumption|exact ⟨by assumption,by omega,by omega⟩) (by first|assumption|omega) (by first|omega|assumption) (by assumption)) rfl) ?_
            rintro ⟨z2,z3,z4,z5,z6⟩
            dsimp only
            refine R.u 1 rfl<|R.nil ?_
            have hk:(ay (mkS st lg) dk).2.2=0→0≤(ay (mkS st lg) dk).1.L.From∧(ay (mkS st lg) dk).1.L.From≤1000000000∧0≤(ay (mkS st lg) dk).1.L.Next∧(ay (mkS st lg) dk).1.L.Next≤1000000000∧0≤(ay (mkS st lg) dk).1.L.First∧(ay (mkS st lg) dk).1.L.First≤4000000000000000000∧0≤(ay (mkS st lg) dk).1.L.Many∧(ay (mkS st lg) dk).1.L.Many≤1000000000:=fun hk1=>by have hk3:=uU (ay (mkS st lg) dk).2.1 102 (((ay (mkS st lg) dk).2.1.Now.length:Int)-102).toNat ((mkS st lg).L.First+(mkS st lg).L.Many);rw [wy hk1];unfold x5;dsimp only;have e1:(mkS st lg).L.First=lg.First:=rfl;have e2:(mkS st lg).L.Many=lg.Many:=rfl;refine ⟨?_,?_,?_,?_,?_,?_,?_,?_⟩ <;> omega
            refine R.reg rfl<|R.u 1 rfl<|?_
            by_cases h7:(ay (mkS st lg) dk).2.2=0
            ·
              refine R.q (q.dj rfl rfl Try.underlying28 (by omega)) rfl<|R.nil ?_
              refine R.aI rfl rfl ?_
              first|(have hkk:=hk (by assumption))|skip
              refine R.reg rfl<|R.u 1 rfl<|R.q (q.bm rfl) rfl<|R.q (q.bJ (off':=5) rfl fa rfl) rfl<|R.q (q.ld 0 rfl rfl dr rfl) rfl<|R.u 1 rfl<|?_
              refine R.s (B':=(fun g_:Value×Value×Value=>[ah.box z6 [.pointer (some ⟨au,0,none⟩),.int .i64 ((((aP ((ay (mkS st lg) dk).1.L) ((ay (mkS st lg) dk).2.1) l)).1).From),.int .i64 ((((aP ((ay (mkS st lg) dk).1.L) ((ay (mkS st lg) dk).2.1) l)).1).Many),.int .i64 ((((aP ((ay (mkS st lg) dk).1.L) ((ay (mkS st lg) dk).2.1) l)).1).First),.int .i64 ((((aP ((ay (mkS st lg) dk).1.L) ((ay (mkS st lg) dk).2.1) l)).1).Next)] 85,ah.box au [g_.1,g_.2.1,g_.2.2,.int .i64 ((((aP ((ay (mkS st lg) dk).1.L) ((ay (mkS st lg) dk).2.1) l)).2.1).Fuse),.bool ((((aP ((ay (mkS st lg) dk).1.L) ((ay (mkS st lg) dk).2.1) l)).2.1).Down)] 81,ah.row 9 g_.1 ((((aP ((ay (mkS st lg) dk).1.L) ((ay (mkS st lg) dk).2.1) l)).2.1).Kept:List ByteArray),ah.row 9 g_.2.1 ((((aP ((ay (mkS st lg) dk).1.L) ((ay (mkS st lg) dk).2.1) l)).2.1).Now:List ByteArray),ah.row 83 g_.2.2 ((((aP ((ay (mkS st lg) dk).1.L) ((ay (mkS st lg) dk).2.1) l)).2.1).Wait:List Turn),ah.box br [.pointer (some ⟨au,0,none⟩),.int .i64 (((ay (mkS st lg) dk).1.c).Epoch),.int .i64 (((ay (mkS st lg) dk).1.c).Side),.int .i64 (((ay (mkS st lg) dk).1.c).Size),.int .i64 (((ay (mkS st lg) dk).1.c).First),.pointer (some ⟨z6,0,none⟩),z2] 100,ah.row 51 z1 (a7 st.Rows l:List Change),ah.held w own])) (F':=(fun g_:Value×Value×Value=>[ah.ls z2 (((ay (mkS st lg) dk).1.c).Rows:List Change),ah.ls aE (st.Rows:List Change),ah.ls bR (l:List Change)])) rfl (s.bD (B0:=[ah.box z6 [.pointer (some ⟨au,0,none⟩),.int .i64 (((ay (mkS st lg) dk).1.L).From),.int .i64 (((ay (mkS st lg) dk).1.L).Many),.int .i64 (((ay (mkS st lg) dk).1.L).First),.int .i64 (((ay (mkS st lg) dk).1.L).Next)] 85,ah.box au [z3,z4,z5,.int .i64 (((ay (mkS st lg) dk).2.1).Fuse),.bool (((ay (mkS st lg) dk).2.1).Down)] 81,ah.row 9 z3 (((ay (mkS st lg) dk).2.1).Kept:List ByteArray),ah.row 9 z4 (((ay (mkS st lg) dk).2.1).Now:List ByteArray),ah.row 83 z5 (((ay (mkS st lg) dk).2.1).Wait:List Turn)]) (Br:=[ah.box br [.pointer (some ⟨au,0,none⟩),.int .i64 (((ay (mkS st lg) dk).1.c).Epoch),.int .i64 (((ay (mkS st lg) dk).1.c).Side),.int .i64 (((ay (mkS st lg) dk).1.c).Size),.int .i64 (((ay (mkS st lg) dk).1.c).First),.pointer (some ⟨z6,0,none⟩),z2] 100,ah.row 51 z1 (a7 st.Rows l:List Change),ah.held w own]) (F0:=[ah.ls bR (l:List Change)]) [5,1,2,3,4,0,6,7] [2] (fun g_:Value×Value×Value=>bF (((aP ((ay (mkS st lg) dk).1.L) ((ay (mkS st lg) dk).2.1) l)).2.2)) (fun g_:Value×Value×Value=>[ah.box z6 [.pointer (some ⟨au,0,none⟩),.int .i64 ((((aP ((ay (mkS st lg) dk).1.L) ((ay (mkS st lg) dk).2.1) l)).1).From),.int .i64 ((((aP ((ay (mkS st lg) dk).1.L) ((ay (mkS st lg) dk).2.1) l)).1).Many),.int .i64 ((((aP ((ay (mkS st lg) dk).1.L) ((ay (mkS st lg) dk).2.1) l)).1).First),.int .i64 ((((aP ((ay (mkS st lg) dk).1.L) ((ay (mkS st lg) dk).2.1) l)).1).Next)] 85,ah.box au [g_.1,g_.2.1,g_.2.2,.int .i64 ((((aP ((ay (mkS st lg) dk).1.L) ((ay (mkS st lg) dk).2.1) l)).2.1).Fuse),.bool ((((aP ((ay (mkS st lg) dk).1.L) ((ay (mkS st lg) dk).2.1) l)).2.1).Down)] 81,ah.row 9 g_.1 ((((aP ((ay (mkS st lg) dk).1.L) ((ay (mkS st lg) dk).2.1) l)).2.1).Kept:List ByteArray),ah.row 9 g_.2.1 ((((aP ((ay (mkS st lg) dk).1.L) ((ay (mkS st lg) dk).2.1) l)).2.1).Now:List ByteArray),ah.row 83 g_.2.2 ((((aP ((ay (mkS st lg) dk).1.L) ((ay (mkS st lg) dk).2.1) l)).2.1).Wait:List Turn)]) (fun g_:Value×Value×Value=>[]) rfl rfl rfl vp rfl rfl (fun w own hw H=>qY z6  (((ay (mkS st lg) dk).1.L)) bR (l) au z3 z4 z5 (((ay (mkS st lg) dk).2.1)) w own H (by first|assumption|omega|(dsimp only;omega)) (by first|assumption|exact ⟨by assumption,by omega⟩)) rfl) ?_
              rintro ⟨z7,z8,z9⟩
              dsimp only
              refine R.u 1 rfl<|R.nil ?_
              refine R.reg rfl<|R.u 1 rfl<|?_
              by_cases h8:(aP ((ay (mkS st lg) dk).1.L) ((ay (mkS st lg) dk).2.1) l).2.2=0
              ·
                refine R.q (q.hG rfl rfl Try.underlying28 (by omega)) rfl<|R.nil ?_
                refine R.aK rfl rfl ?_
                refine R.reg rfl<|R.u 2 rfl<|R.q (q.bm rfl) rfl<|R.q (q.bJ (off':=6) rfl dJ rfl) rfl<|?_
                refine R.s rfl (s.su (us:=[z1]) (cs':=[.pointer (some ⟨au,0,none⟩),.int .i64 (((ay (mkS st lg) dk).1.c).Epoch),.int .i64 (((ay (mkS st lg) dk).1.c).Side),.int .i64 (((ay (mkS st lg) dk).1.c).Size),.int .i64 (((ay (mkS st lg) dk).1.c).First),.pointer (some ⟨z6,0,none⟩),z1]) 5 _ rfl rfl rfl (fun w hw=>Sl.eu ((fun _=>Wd.row 6 rfl) w hw)) (.inr ⟨cj,rfl⟩) (fun w hw=>(dA (Sl.one ((fun _=>Wd.row 6 rfl) w hw)) eh)) rfl rfl rfl) fun _=>?_
                refine R.nil ?_
                refine R.reg rfl<|R.u 2 rfl<|R.nil ?_
                refine R.mp (B':=[ah.box z6 [.pointer (some ⟨au,0,none⟩),.int .i64 (((aP ((ay (mkS st lg) dk).1.L) ((ay (mkS st lg) dk).2.1) l).1).From),.int .i64 (((aP ((ay (mkS st lg) dk).1.L) ((ay (mkS st lg) dk).2.1) l).1).Many),.int .i64 (((aP ((ay (mkS st lg) dk).1.L) ((ay (mkS st lg) dk).2.1) l).1).First),.int .i64 (((aP ((ay (mkS st lg) dk).1.L) ((ay (mkS st lg) dk).2.1) l).1).Next)] 85,ah.box au [z7,z8,z9,.int .i64 (((aP ((ay (mkS st lg) dk).1.L) ((ay (mkS st lg) dk).2.1) l).2.1).Fuse),.bool (((aP ((ay (mkS st lg) dk).1.L) ((ay (mkS st lg) dk).2.1) l).2.1).Down)] 81,ah.row 9 z7 (((aP ((ay (mkS st lg) dk).1.L) ((ay (mkS st lg) dk).2.1) l).2.1).Kept:List ByteArray),ah.row 9 z8 (((aP ((ay (mkS st lg) dk).1.L) ((ay (mkS st lg) dk).2.1) l).2.1).Now:List ByteArray),ah.row 83 z9 (((aP ((ay (mkS st lg) dk).1.L) ((ay (mkS st lg) dk).2.1) l).2.1).Wait:List Turn),ah.box br [.pointer (some ⟨au,0,none⟩),.int .i64 (((ay (mkS st lg) dk).1.c).Epoch),.int .i64 (((ay (mkS st lg) dk).1.c).Side),.int .i64 (((ay (mkS st lg) dk).1.c).Size),.int .i64 (((ay (mkS st lg) dk).1.c).First),.pointer (some ⟨z6,0,none⟩),z1] 100,ah.held w own]) (fun _ hw=>hw.fR 6 _ rfl rfl) ?_
                have hz:((ai (mkS st lg) dk l).1.c,(ai (mkS st lg) dk l).2.1,(ai (mkS st lg) dk l).1.L,(ai (mkS st lg) dk l).2.2)=((⟨((ay (mkS st lg) dk).1.c).Epoch,((ay (mkS st lg) dk).1.c).Side,((ay (mkS st lg) dk).1.c).Size,((ay (mkS st lg) dk).1.c).First,a7 st.Rows l⟩:gV),((aP ((ay (mkS st lg) dk).1.L) ((ay (mkS st lg) dk).2.1) l).2.1),((aP ((ay (mkS st lg) dk).1.L) ((ay (mkS st lg) dk).2.1) l).1),(aP ((ay (mkS st lg) dk).1.L) ((ay (mkS st lg) dk).2.1) l).2.2):=by (first|(rw [l7 (s:=mkS st lg) (by assumption) g0 (by first|exact .inl (by assumption)|exact .inr (by omega))];rfl)|(have hf:=jL (s:=mkS st lg) (d:=dk) (l:=l) (by assumption) g0 (by intro hh;rcases hh with hh|hh <;> first|(exact absurd hh (by assumption))|omega);first|(rw [kL hf (by show lg.Many-lg.Next<_;omega) (by assumption)])|(rw [kM hf (by show lg.Many-lg.Next<_;omega) (by assumption) (by assumption)];first|done|rfl)|(rw [kN hf (by show lg.Many-lg.Next<_;omega) (by assumption) (by assumption)];first|done|rfl)|(rw [kO hf (by show ¬ lg.Many-lg.Next<_;omega) (by assumption)];first|done|rfl)|(rw [kP hf (by show ¬ lg.Many-lg.Next<_;omega) (by assumption)];first|done|rfl)))
                have hz0:(ai (mkS st lg) dk l).1.c=(⟨((ay (mkS st lg) dk).1.c).Epoch,((ay (mkS st lg) dk).1.c).Side,((ay (mkS st lg) dk).1.c).Size,((ay (mkS st lg) dk).1.c).First,a7 st.Rows l⟩:gV):=congrArg (fun t_=>t_.1) hz
                rw [hz0]
                have hz1:(ai (mkS st lg) dk l).2.1=((aP ((ay (mkS st lg) dk).1.L) ((ay (mkS st lg) dk).2.1) l).2.1):=congrArg (fun t_=>t_.2.1) hz
                rw [hz1]
                have hz2:(ai (mkS st lg) dk l).1.L=((aP ((ay (mkS st lg) dk).1.L) ((ay (mkS st lg) dk).2.1) l).1):=congrArg (fun t_=>t_.2.2.1) hz
                rw [hz2]
                have hz3:(ai (mkS st lg) dk l).2.2=(aP ((ay (mkS st lg) dk).1.L) ((ay (mkS st lg) dk).2.1) l).2.2:=congrArg (fun t_=>t_.2.2.2) hz
                rw [hz3]
                exact R.w1 (z1,z7,z8,z9,z6) [5,1,2,3,4,0,6] [0] rfl Try.results24 (RV.tmp rfl) rfl rfl rfl rfl
              ·
                refine R.q (q.eF rfl rfl Try.underlying28 (by omega)) rfl<|R.nil ?_
                refine R.aI rfl rfl ?_
                refine R.reg rfl<|R.u 2 rfl<|R.nil ?_
                have hz:((ai (mkS st lg) dk l).1.c,(ai (mkS st lg) dk l).2.1,(ai (mkS st lg) dk l).1.L,(ai (mkS st lg) dk l).2.2)=(((ay (mkS st lg) dk).1.c),((aP ((ay (mkS st lg) dk).1.L) ((ay (mkS st lg) dk).2.1) l).2.1),((aP ((ay (mkS st lg) dk).1.L) ((ay (mkS st lg) dk).2.1) l).1),(aP ((ay (mkS st lg) dk).1.L) ((ay (mkS st lg) dk).2.1) l).2.2):=by (first|(rw [l7 (s:=mkS st lg) (by assumption) g0 (by first|exact .inl (by assumption)|exact .inr (by omega))];rfl)|(have hf:=jL (s:=mkS st lg) (d:=dk) (l:=l) (by assumption) g0 (by intro hh;rcases hh with hh|hh <;> first|(exact absurd hh (by assumption))|omega);first|(rw [kL hf (by show lg.Many-lg.Next<_;omega) (by assumption)])|(rw [kM hf (by show lg.Many-lg.Next<_;omega) (by assumption) (by assumption)];first|done|rfl)|(rw [kN hf (by show lg.Many-lg.Next<_;omega) (by assumption) (by assumption)];first|done|rfl)|(rw [kO hf (by show ¬ lg.Many-lg.Next<_;omega) (by assumption)];first|done|rfl)|(rw [kP hf (by show ¬ lg.Many-lg.Next<_;omega) (by assumption)];first|done|rfl)))
                have hz0:(ai (mkS st lg) dk l).1.c=((ay (mkS st lg) dk).1.c):=congrArg (fun t_=>t_.1) hz
                rw [hz0]
                have hz1:(ai (mkS st lg) dk l).2.1=((aP ((ay (mkS st lg) dk).1.L) ((ay (mkS st lg) dk).2.1) l).2.1):=congrArg (fun t_=>t_.2.1) hz
                rw [hz1]
                have hz2:(ai (mkS st lg) dk l).1.L=((aP ((ay (mkS st lg) dk).1.L) ((ay (mkS st lg) dk).2.1) l).1):=congrArg (fun t_=>t_.2.2.1) hz
                rw [hz2]
                have hz3:(ai (mkS st lg) dk l).2.2=(aP ((ay (mkS st lg) dk).1.L) ((ay (mkS st lg) dk).2.1) l).2.2:=congrArg (fun t_=>t_.2.2.2) hz
                rw [hz3]
                exact R.w1 (z2,z7,z8,z9,z6) [5,1,2,3,4,0,7] [0] rfl Try.results24 (RV.tmp rfl) rfl rfl rfl rfl
            ·
              refine R.q (q.fy rfl rfl Try.underlying28 (by omega)) rfl<|R.nil ?_
              refine R.aK rfl rfl ?_
              refine R.reg rfl<|R.u 2 rfl<|R.nil ?_
              have hz:((ai (mkS st lg) dk l).1.c,(ai (mkS st lg) dk l).2.1,(ai (mkS st lg) dk l).1.L,(ai (mkS st lg) dk l).2.2)=(((ay (mkS st lg) dk).1.c),((ay (mkS st lg) dk).2.1),((ay (mkS st lg) dk).1.L),(ay (mkS st lg) dk).2.2):=by (first|(rw [l7 (s:=mkS st lg) (by assumption) g0 (by first|exact .inl (by assumption)|exact .inr (by omega))];rfl)|(have hf:=jL (s:=mkS st lg) (d:=dk) (l:=l) (by assumption) g0 (by intro hh;rcases hh with hh|hh <;> first|(exact absurd hh (by assumption))|omega);first|(rw [kL hf (by show lg.Many-lg.Next<_;omega) (by assumption)])|(rw [kM hf (by show lg.Many-lg.Next<_;omega) (by assumption) (by assumption)];first|done|rfl)|(rw [kN hf (by show lg.Many-lg.Next<_;omega) (by assumption) (by assumption)];first|done|rfl)|(rw [kO hf (by show ¬ lg.Many-lg.Next<_;omega) (by assumption)];first|done|rfl)|(rw [kP hf (by show ¬ lg.Many-lg.Next<_;omega) (by assumption)];first|done|rfl)))
              have hz0:(ai (mkS st lg) dk l).1.c=((ay (mkS st lg) dk).1.c):=congrArg (fun t_=>t_.1) hz
              rw [hz0]
              have hz1:(ai (mkS st lg) dk l).2.1=((ay (mkS st lg) dk).2.1):=congrArg (fun t_=>t_.2.1) hz
              rw [hz1]
              have hz2:(ai (mkS st lg) dk l).1.L=((ay (mkS st lg) dk).1.L):=congrArg (fun t_=>t_.2.2.1) hz
              rw [hz2]
              have hz3:(ai (mkS st lg) dk l).2.2=(ay (mkS st lg) dk).2.2:=congrArg (fun t_=>t_.2.2.2) hz
              rw [hz3]
              exact R.w1 (z2,z3,z4,z5,z6) [0,1,2,3,4,5,7] [0] rfl Try.results24 (RV.tmp rfl) rfl rfl rfl rfl
          ·
            refine R.q (q.gtr rfl rfl (decide_eq_false (by omega))) rfl<|R.nil ?_
            refine R.aI rfl rfl ?_
            first|(have hkk:=hk (by assumption))|skip
            refine R.reg rfl<|R.u 1 rfl<|R.q (q.bm rfl) rfl<|R.q (q.bJ (off':=5) rfl fa rfl) rfl<|R.q (q.ld 1 rfl rfl dr rfl) rfl<|R.u 1 rfl<|?_
            refine R.s (B':=(fun g_:Value×Value×Value=>[ah.box aG [.pointer (some ⟨au,0,none⟩),.int .i64 ((((aP lg dk l)).1).From),.int .i64 ((((aP lg dk l)).1).Many),.int .i64 ((((aP lg dk l)).1).First),.int .i64 ((((aP lg dk l)).1).Next)] 85,ah.box au [g_.1,g_.2.1,g_.2.2,.int .i64 ((((aP lg dk l)).2.1).Fuse),.bool ((((aP lg dk l)).2.1).Down)] 81,ah.row 9 g_.1 ((((aP lg dk l)).2.1).Kept:List ByteArray),ah.row 9 g_.2.1 ((((aP lg dk l)).2.1).Now:List ByteArray),ah.row 83 g_.2.2 ((((aP lg dk l)).2.1).Wait:List Turn),ah.row 51 z1 (a7 st.Rows l:List Change),ah.box br [.pointer (some ⟨au,0,none⟩),.int .i64 st.Epoch,.int .i64 st.Side,.int .i64 st.Size,.int .i64 st.First,.pointer (some ⟨aG,0,none⟩),aE] 100,ah.held w own])) (F':=(fun g_:Value×Value×Value=>[ah.ls aE (st.Rows:List Change),ah.ls bR (l:List Change)])) rfl (s.bD (B0:=[ah.box aG [.pointer (some ⟨au,0,none⟩),.int .i64 lg.From,.int .i64 lg.Many,.int .i64 lg.First,.int .i64 lg.Next] 85,ah.box au [ao,ap,ak,.int .i64 dk.Fuse,.bool dk.Down] 81,ah.row 9 ao (dk.Kept:List ByteArray),ah.row 9 ap (dk.Now:List ByteArray),ah.row 83 ak (dk.Wait:List Turn)]) (Br:=[ah.row 51 z1 (a7 st.Rows l:List Change),ah.box br [.pointer (some ⟨au,0,none⟩),.int .i64 st.Epoch,.int .i64 st.Side,.int .i64 st.Size,.int .i64 st.First,.pointer (some ⟨aG,0,none⟩),aE] 100,ah.held w own]) (F0:=[ah.ls bR (l:List Change)]) [6,2,3,4,5,0,1,7] [1] (fun g_:Value×Value×Value=>bF (((aP lg dk l)).2.2)) (fun g_:Value×Value×Value=>[ah.box aG [.pointer (some ⟨au,0,none⟩),.int .i64 ((((aP lg dk l)).1).From),.int .i64 ((((aP lg dk l)).1).Many),.int .i64 ((((aP lg dk l)).1).First),.int .i64 ((((aP lg dk l)).1).Next)] 85,ah.box au [g_.1,g_.2.1,g_.2.2,.int .i64 ((((aP lg dk l)).2.1).Fuse),.bool ((((aP lg dk l)).2.1).Down)] 81,ah.row 9 g_.1 ((((aP lg dk l)).2.1).Kept:List ByteArray),ah.row 9 g_.2.1 ((((aP lg dk l)).2.1).Now:List ByteArray),ah.row 83 g_.2.2 ((((aP lg dk l)).2.1).Wait:List Turn)]) (fun g_:Value×Value×Value=>[]) rfl rfl rfl vp rfl rfl (fun w own hw H=>qY aG  (lg) bR (l) au ao ap ak (dk) w own H (by first|assumption|omega|(dsimp only;omega)) (by first|assumption|exact ⟨by assumption,by omega⟩)) rfl) ?_
            rintro ⟨gU,fx,z12⟩
            dsimp only
            refine R.u 1 rfl<|R.nil ?_
            refine R.reg rfl<|R.u 1 rfl<|?_
            by_cases h9:(aP lg dk l).2.2=0
            ·
              refine R.q (q.hG rfl rfl Try.underlying28 (by omega)) rfl<|R.nil ?_
              refine R.aK rfl rfl ?_
              refine R.reg rfl<|R.u 2 rfl<|R.q (q.bm rfl) rfl<|R.q (q.bJ (off':=6) rfl dJ rfl) rfl<|?_
              refine R.s rfl (s.su (us:=[z1]) (cs':=[.pointer (some ⟨au,0,none⟩),.int .i64 st.Epoch,.int .i64 st.Side,.int .i64 st.Size,.int .i64 st.First,.pointer (some ⟨aG,0,none⟩),z1]) 6 _ rfl rfl rfl (fun w hw=>Sl.eu ((fun _=>Wd.row 5 rfl) w hw)) (.inr ⟨cj,rfl⟩) (fun w hw=>(dA (Sl.one ((fun _=>Wd.row 5 rfl) w hw)) eh)) rfl rfl rfl) fun _=>?_
              refine R.nil ?_
              refine R.reg rfl<|R.u 2 rfl<|R.nil ?_
              refine R.mp (B':=[ah.box aG [.pointer (some ⟨au,0,none⟩),.int .i64 (((aP lg dk l).1).From),.int .i64 (((aP lg dk l).1).Many),.int .i64 (((aP lg dk l).1).First),.int .i64 (((aP lg dk l).1).Next)] 85,ah.box au [gU,fx,z12,.int .i64 (((aP lg dk l).2.1).Fuse),.bool (((aP lg dk l).2.1).Down)] 81,ah.row 9 gU (((aP lg dk l).2.1).Kept:List ByteArray),ah.row 9 fx (((aP lg dk l).2.1).Now:List ByteArray),ah.row 83 z12 (((aP lg dk l).2.1).Wait:List Turn),ah.box br [.pointer (some ⟨au,0,none⟩),.int .i64 st.Epoch,.int .i64 st.Side,.int .i64 st.Size,.int .i64 st.First,.pointer (some ⟨aG,0,none⟩),z1] 100,ah.held w own]) (fun _ hw=>hw.fR 5 _ rfl rfl) ?_
              have hz:((ai (mkS st lg) dk l).1.c,(ai (mkS st lg) dk l).2.1,(ai (mkS st lg) dk l).1.L,(ai (mkS st lg) dk l).2.2)=((⟨st.Epoch,st.Side,st.Size,st.First,a7 st.Rows l⟩:gV),((aP lg dk l).2.1),((aP lg dk l).1),(aP lg dk l).2.2):=by (first|(rw [l7 (s:=mkS st lg) (by assumption) g0 (by first|exact .inl (by assumption)|exact .inr (by omega))];rfl)|(have hf:=jL (s:=mkS st lg) (d:=dk) (l:=l) (by assumption) g0 (by intro hh;rcases hh with hh|hh <;> first|(exact absurd hh (by assumption))|omega);first|(rw [kL hf (by show lg.Many-lg.Next<_;omega) (by assumption)])|(rw [kM hf (by show lg.Many-lg.Next<_;omega) (by assumption) (by assumption)];first|done|rfl)|(rw [kN hf (by show lg.Many-lg.Next<_;omega) (by assumption) (by assumption)];first|done|rfl)|(rw [kO hf (by show ¬ lg.Many-lg.Next<_;omega) (by assumption)];first|done|rfl)|(rw [kP hf (by show ¬ lg.Many-lg.Next<_;omega) (by assumption)];first|done|rfl)))
              have hz0:(ai (mkS st lg) dk l).1.c=(⟨st.Epoch,st.Side,st.Size,st.First,a7 st.Rows l⟩:gV):=congrArg (fun t_=>t_.1) hz
              rw [hz0]
              have hz1:(ai (mkS st lg) dk l).2.1=((aP lg dk l).2.1):=congrArg (fun t_=>t_.2.1) hz
              rw [hz1]
              have hz2:(ai (mkS st lg) dk l).1.L=((aP lg dk l).1):=congrArg (fun t_=>t_.2.2.1) hz
              rw [hz2]
              have hz3:(ai (mkS st lg) dk l).2.2=(aP lg dk l).2.2:=congrArg (fun t_=>t_.2.2.2) hz
              rw [hz3]
              exact R.w1 (z1,gU,fx,z12,aG) [5,1,2,3,4,0,6] [0] rfl Try.results24 (RV.tmp rfl) rfl rfl rfl rfl
            ·
              refine R.q (q.eF rfl rfl Try.underlying28 (by omega)) rfl<|R.nil ?_
              refine R.aI rfl rfl ?_
              refine R.reg rfl<|R.u 2 rfl<|R.nil ?_
              have hz:((ai (mkS st lg) dk l).1.c,(ai (mkS st lg) dk l).2.1,(ai (mkS st lg) dk l).1.L,(ai (mkS st lg) dk l).2.2)=(st,((aP lg dk l).2.1),((aP lg dk l).1),(aP lg dk l).2.2):=by (first|(rw [l7 (s:=mkS st lg) (by assumption) g0 (by first|exact .inl (by assumption)|exact .inr (by omega))];rfl)|(have hf:=jL (s:=mkS st lg) (d:=dk) (l:=l) (by assumption) g0 (by intro hh;rcases hh with hh|hh <;> first|(exact absurd hh (by assumption))|omega);first|(rw [kL hf (by show lg.Many-lg.Next<_;omega) (by assumption)])|(rw [kM hf (by show lg.Many-lg.Next<_;omega) (by assumption) (by assumption)];first|done|rfl)|(rw [kN hf (by show lg.Many-lg.Next<_;omega) (by assumption) (by assumption)];first|done|rfl)|(rw [kO hf (by show ¬ lg.Many-lg.Next<_;omega) (by assumption)];first|done|rfl)|(rw [kP hf (by show ¬ lg.Many-lg.Next<_;omega) (by assumption)];first|done|rfl)))
              have hz0:(ai (mkS st lg) dk l).1.c=st:=congrArg (fun t_=>t_.1) hz
              rw [hz0]
              have hz1:(ai (mkS st lg) dk l).2.1=((aP lg dk l).2.1):=congrArg (fun t_=>t_.2.1) hz
              rw [hz1]
              have hz2:(ai (mkS st lg) dk l).1.L=((aP lg dk l).1):=congrArg (fun t_=>t_.2.2.1) hz
              rw [hz2]
              have hz3:(ai (mkS st lg) dk l).2.2=(aP lg dk l).2.2:=congrArg (fun t_=>t_.2.2.2) hz
              rw [hz3]
              exact R.w1 (aE,gU,fx,z12,aG) [6,1,2,3,4,0,7] [0] rfl Try.results24 (RV.tmp rfl) rfl rfl rfl rfl
end Go.Proofs.Ytpipachmngdegaa
end
