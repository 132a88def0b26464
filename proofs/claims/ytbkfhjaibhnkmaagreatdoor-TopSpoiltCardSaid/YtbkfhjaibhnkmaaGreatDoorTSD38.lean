import Derived.Test.YtbkfhjaibhnkmaaGreatDoorTSD14
import Derived.Test.YtbkfhjaibhnkmaaGreatDoorTSD31
import Derived.Test.YtbkfhjaibhnkmaaGreatDoorTSD35
import Derived.Test.YtbkfhjaibhnkmaaGreatDoorTSD37
namespace Go.Proofs.YtbkfhjaibhnkmaaGreatDoor
open Go Go.RowKit
set_option linter.unusedVariables false
set_option linter.unusedSimpArgs false
set_option maxRecDepth 100000
theorem rX (mR:Value)(rows:List Change)(bm:Value)(l:List Change)(w:World)(own:List Nat)(H:Wd w (blks []++own) ([]++[ag.held w own]) [ag.ls mR (rows:List Change),ag.ls bm (l:List Change)] w)(hl:rows.length+l.length≤100000):Calls Tryz.prog 25 #[mR,bm] w fun e w' => ∃z:Value,e = .returned (z)∧Wd w (blks []++own) ([ag.row 52 z ((aP rows l):List Change)]++[ag.held w own]) [] w':=by
 have DJ:=H.cX 0 rfl
 have uP:=H.cX 1 rfl
 refine R.dc (n:=80) (vs:=[mR,bm]) (B:=[ag.held w own]) [(0,mR),(1,bm)] Tryz.func25 rfl rfl rfl rfl H ?_
 refine R.reg rfl<|R.u 1 rfl<|R.nil ?_
 refine R.reg rfl<|R.u 1 rfl<|R.s rfl (s.app0 (l2:=rows) rfl rfl (fun _=>Wd.aT 0 rfl) gG (by first|omega|(simp;omega)) (by first|omega|(simp;omega)) rfl) fun v1=>R.u 1 rfl<|R.nil ?_
 refine R.reg rfl<|R.u 1 rfl<|R.nil ?_
 refine R.loop (fun g_:Nat×Value×(List Change)=>[(1,bm),(5,g_.2.1),(6,iV (g_.1:Int))]) (fun g_:Nat×Value×(List Change)=>[ag.row 52 g_.2.1 (g_.2.2:List Change),ag.held w own]) (fun g_:Nat×Value×(List Change)=>[ag.ls mR (rows:List Change),ag.ls bm (l:List Change)]) (fun g_:Nat×Value×(List Change)=>g_.1≤l.length∧g_.2.2=aP rows (l.take g_.1)) (fun g_:Nat×Value×(List Change)=>l.length-g_.1) (0,v1,rows) rfl (by exact ⟨by omega,by first|rfl|exact (List.nil_append _)⟩) ⟨rfl,rfl,rfl,trivial⟩ (fun _=>Wd.pick [0,1] [0,1] rfl rfl rfl) ?_
 rintro ⟨k,u,rs⟩ ⟨hk,HR⟩
 dsimp only at *
 have hrl:=jK (l.take k) rows;rw [← HR,List.length_take] at hrl
 refine R.reg rfl<|R.u 2 rfl<|R.q (q.len' (fun _=>Wd.aT 1 rfl) rfl Tryz.underlying23) rfl<|?_
 by_cases h1:k<l.length
 ·
  refine R.q (q.lss rfl rfl (decide_eq_true (by omega))) rfl<|R.nil ?_
  refine R.aD rfl rfl ?_
  refine R.reg rfl<|R.u 1 rfl<|R.nil ?_
  refine R.reg rfl<|R.u 2 rfl<|?_
  obtain ⟨x1,hx1⟩:∃z,l[k]? = some z:=⟨_,List.getElem?_eq_getElem (by omega)⟩
  refine R.q (q.idx (i:=k) (fun _=>Wd.aT 1 rfl) rfl rfl bX rfl hx1) rfl<|R.q (q.dm (j':=2) (fun _=>Wd.aT 1 rfl) hx1 rfl fY rfl) rfl<|R.q (q.fk (fun _=>Wd.aT 1 rfl) hx1 rfl j7 rfl) rfl<|R.u 1 rfl<|R.nil ?_
  refine R.reg rfl<|R.u 1 rfl<|R.nil ?_
  refine R.row0 (α:=Change) 52 ?_
  refine R.loop (fun g_:Nat×Bool×Value×(List Change)=>[(1,bm),(5,u),(6,iV (k:Int)),(7,g_.2.2.1),(8,.bool g_.2.1),(9,iV (g_.1:Int))]) (fun g_:Nat×Bool×Value×(List Change)=>[ag.row 52 g_.2.2.1 (g_.2.2.2:List Change),ag.row 52 u (rs:List Change),ag.held w own]) (fun g_:Nat×Bool×Value×(List Change)=>[ag.ls mR (rows:List Change),ag.ls bm (l:List Change)]) (fun g_:Nat×Bool×Value×(List Change)=>g_.1≤rs.length∧(g_.2.2.2,g_.2.1)=pw (rs.take g_.1) x1) (fun g_:Nat×Bool×Value×(List Change)=>rs.length-g_.1) (0,x1.Gone,(nS),[]) rfl (by exact ⟨by omega,rfl⟩) ⟨rfl,rfl,rfl,rfl,rfl,rfl,trivial⟩ (fun _=>Wd.pick [0,1,2] [0,1] rfl rfl rfl) ?_
  rintro ⟨m,b,u2,os⟩ ⟨hm,HO⟩
  dsimp only at *
  have hol:=oQ x1 (rs.take m) ([],x1.Gone);rw [show (rs.take m).foldl (dh x1) ([],x1.Gone)=(os,b) from HO.symm,List.length_take] at hol;have Ev:os.length≤m+1:=(by have q1:(if b=true then 0 else 1)+os.length=os.length+(if b=true then 0 else 1):=Nat.add_comm _ _;dsimp only at hol;have q2:(if x1.Gone=true then 0 else 1)≤1:=(by split <;> omega);simp only [List.length_nil] at hol;omega)
  refine R.reg rfl<|R.u 2 rfl<|R.q (q.len' (fun _=>Wd.row 1 rfl) rfl Tryz.underlying23) rfl<|?_
  by_cases h2:m<rs.length
  ·
   refine R.q (q.lss rfl rfl (decide_eq_true (by omega))) rfl<|R.nil ?_
   refine R.aD rfl rfl ?_
   cases b
   ·
    obtain ⟨x2,hx2⟩:∃z,rs[m]? = some z:=⟨_,List.getElem?_eq_getElem (by omega)⟩
    rcases Bool.eq_false_or_eq_true ((fT x1.Key x2.Key||decide (x1.Key=x2.Key))) with h3|h3
    ·
     refine R.dM rfl mixed (by kernel_rfl)<|Q.u 5 rfl<|Q.qg rfl (q.idx (i:=k) (fun _=>Wd.aT 1 rfl) rfl rfl bX rfl hx1) rfl<|Q.qg rfl (q.dm (j':=0) (fun _=>Wd.aT 1 rfl) hx1 rfl bu rfl) rfl<|Q.qg rfl (q.fk (fun _=>Wd.aT 1 rfl) hx1 rfl bF rfl) rfl<|Q.u 2 rfl<|Q.qg rfl (q.idx (i:=m) (fun _=>Wd.row 1 rfl) rfl rfl bX rfl hx2) rfl<|Q.qg rfl (q.dm (j':=0) (fun _=>Wd.row 1 rfl) hx2 rfl bu rfl) rfl<|Q.qg rfl (q.fk (fun _=>Wd.row 1 rfl) hx2 rfl bF rfl) rfl<|Q.qg rfl (q.uF rfl rfl h3) rfl<|Q.u 1 rfl<|Q.nil ?_
     refine R.aD rfl rfl ?_
     refine R.reg rfl<|R.u 3 rfl<|R.q (q.idx (i:=k) (fun _=>Wd.aT 1 rfl) rfl rfl bX rfl hx1) rfl<|R.q (q.dD (ds:=bT x1) (fun _=>Wd.aT 1 rfl) hx1 rfl eA rfl) rfl<|R.s rfl (s.bs (l:=([x1]:List Change)) bX fe rfl rfl rfl rfl rfl rfl rfl) fun b1=>R.s rfl (s.app (l2:=[x1]) 1 _ rfl rfl rfl (fun _=>Wd.row 0 rfl) gG (by first|omega|(simp;omega)) (by first|omega|(simp;omega)) (fun _=>rfl) rfl) fun v2=>R.u 1 rfl<|R.nil ?_
     refine R.reg rfl<|R.u 1 rfl<|R.nil ?_
     by_cases h4:x2.Key=x1.Key
     ·
      refine R.dM rfl mixed (by kernel_rfl)<|Q.u 2 rfl<|Q.q (q.idx (i:=m) (fun _=>Wd.row 2 rfl) rfl rfl bX rfl hx2) rfl<|Q.q (q.dm (j':=0) (fun _=>Wd.row 2 rfl) hx2 rfl bu rfl) rfl<|Q.q (q.fk (fun _=>Wd.row 2 rfl) hx2 rfl bF rfl) rfl<|Q.u 2 rfl<|Q.q (q.idx (i:=k) (fun _=>Wd.aT 1 rfl) rfl rfl bX rfl hx1) rfl<|Q.q (q.dm (j':=0) (fun _=>Wd.aT 1 rfl) hx1 rfl bu rfl) rfl<|Q.q (q.fk (fun _=>Wd.aT 1 rfl) hx1 rfl bF rfl) rfl<|Q.q (q.qN rfl rfl h4) rfl<|Q.nil ?_
      refine R.aI rfl rfl ?_
      refine R.reg rfl<|R.u 1 rfl<|R.q (q.add (r:=((m+1:Nat):Int)) rfl rfl (wr (by omega))) rfl<|R.u 1 rfl<|R.nil ?_
      refine R.back ((m+1),true,v2,(os++([x1]))) rfl (by (exact ⟨by omega,by rw [hO hx2,← HO];unfold dh;dsimp only;(repeat' split) <;> first|rfl|(exfalso;simp_all;done)|(simp_all;done)⟩)) (by dsimp only;omega) ⟨rfl,rfl,rfl,rfl,rfl,rfl,trivial⟩ (fun _=>Wd.aM [1,2,3] [0,1] rfl rfl rfl)
     ·
      refine R.dM rfl mixed (by kernel_rfl)<|Q.u 2 rfl<|Q.q (q.idx (i:=m) (fun _=>Wd.row 2 rfl) rfl rfl bX rfl hx2) rfl<|Q.q (q.dm (j':=0) (fun _=>Wd.row 2 rfl) hx2 rfl bu rfl) rfl<|Q.q (q.fk (fun _=>Wd.row 2 rfl) hx2 rfl bF rfl) rfl<|Q.u 2 rfl<|Q.q (q.idx (i:=k) (fun _=>Wd.aT 1 rfl) rfl rfl bX rfl hx1) rfl<|Q.q (q.dm (j':=0) (fun _=>Wd.aT 1 rfl) hx1 rfl bu rfl) rfl<|Q.q (q.fk (fun _=>Wd.aT 1 rfl) hx1 rfl bF rfl) rfl<|Q.q (q.qO rfl rfl h4) rfl<|Q.nil ?_
      refine R.aD rfl rfl ?_
      refine R.reg rfl<|R.u 3 rfl<|R.q (q.idx (i:=m) (fun _=>Wd.row 2 rfl) rfl rfl bX rfl hx2) rfl<|R.q (q.dD (ds:=bT x2) (fun _=>Wd.row 2 rfl) hx2 rfl eA rfl) rfl<|R.s rfl (s.bs (l:=([x2]:List Change)) bX fe rfl rfl rfl rfl rfl rfl rfl) fun b2=>R.s rfl (s.app (l2:=[x2]) 2 _ rfl rfl rfl (fun _=>Wd.row 0 rfl) gG (by first|omega|(simp;omega)) (by first|omega|(simp;omega)) (fun _=>rfl) rfl) fun v3=>R.u 1 rfl<|R.nil ?_
      refine R.reg rfl<|R.u 1 rfl<|R.q (q.add (r:=((m+1:Nat):Int)) rfl rfl (wr (by omega))) rfl<|R.u 1 rfl<|R.nil ?_
      refine R.back ((m+1),true,v3,((os++([x1]))++([x2]))) rfl (by (exact ⟨by omega,by rw [hO hx2,← HO];unfold dh;dsimp only;(repeat' split) <;> first|rfl|(exfalso;simp_all;done)|(simp_all;done)⟩)) (by dsimp only;omega) ⟨rfl,rfl,rfl,rfl,rfl,rfl,trivial⟩ (fun _=>Wd.aM [2,3,4] [0,1] rfl rfl rfl)
    ·
     refine R.dM rfl mixed (by kernel_rfl)<|Q.u 5 rfl<|Q.qg rfl (q.idx (i:=k) (fun _=>Wd.aT 1 rfl) rfl rfl bX rfl hx1) rfl<|Q.qg rfl (q.dm (j':=0) (fun _=>Wd.aT 1 rfl) hx1 rfl bu rfl) rfl<|Q.qg rfl (q.fk (fun _=>Wd.aT 1 rfl) hx1 rfl bF rfl) rfl<|Q.u 2 rfl<|Q.qg rfl (q.idx (i:=m) (fun _=>Wd.row 1 rfl) rfl rfl bX rfl hx2) rfl<|Q.qg rfl (q.dm (j':=0) (fun _=>Wd.row 1 rfl) hx2 rfl bu rfl) rfl<|Q.qg rfl (q.fk (fun _=>Wd.row 1 rfl) hx2 rfl bF rfl) rfl<|Q.qg rfl (q.uF rfl rfl h3) rfl<|Q.u 1 rfl<|Q.nil ?_
     refine R.aI rfl rfl ?_
     by_cases h5:x2.Key=x1.Key
     ·
      refine R.dM rfl mixed (by kernel_rfl)<|Q.u 2 rfl<|Q.q (q.idx (i:=m) (fun _=>Wd.row 1 rfl) rfl rfl bX rfl hx2) rfl<|Q.q (q.dm (j':=0) (fun _=>Wd.row 1 rfl) hx2 rfl bu rfl) rfl<|Q.q (q.fk (fun _=>Wd.row 1 rfl) hx2 rfl bF rfl) rfl<|Q.u 2 rfl<|Q.q (q.idx (i:=k) (fun _=>Wd.aT 1 rfl) rfl rfl bX rfl hx1) rfl<|Q.q (q.dm (j':=0) (fun _=>Wd.aT 1 rfl) hx1 rfl bu rfl) rfl<|Q.q (q.fk (fun _=>Wd.aT 1 rfl) hx1 rfl bF rfl) rfl<|Q.q (q.qN rfl rfl h5) rfl<|Q.nil ?_
      refine R.aI rfl rfl ?_
      refine R.reg rfl<|R.u 1 rfl<|R.q (q.add (r:=((m+1:Nat):Int)) rfl rfl (wr (by omega))) rfl<|R.u 1 rfl<|R.nil ?_
      refine R.back ((m+1),false,u2,os) rfl (by (exact ⟨by omega,by rw [hO hx2,← HO];unfold dh;dsimp only;(repeat' split) <;> first|rfl|(exfalso;simp_all;done)|(simp_all;done)⟩)) (by dsimp only;omega) ⟨rfl,rfl,rfl,rfl,rfl,rfl,trivial⟩ (fun _=>Wd.aM [0,1,2] [0,1] rfl rfl rfl)
     ·
      refine R.dM rfl mixed (by kernel_rfl)<|Q.u 2 rfl<|Q.q (q.idx (i:=m) (fun _=>Wd.row 1 rfl) rfl rfl bX rfl hx2) rfl<|Q.q (q.dm (j':=0) (fun _=>Wd.row 1 rfl) hx2 rfl bu rfl) rfl<|Q.q (q.fk (fun _=>Wd.row 1 rfl) hx2 rfl bF rfl) rfl<|Q.u 2 rfl<|Q.q (q.idx (i:=k) (fun _=>Wd.aT 1 rfl) rfl rfl bX rfl hx1) rfl<|Q.q (q.dm (j':=0) (fun _=>Wd.aT 1 rfl) hx1 rfl bu rfl) rfl<|Q.q (q.fk (fun _=>Wd.aT 1 rfl) hx1 rfl bF rfl) rfl<|Q.q (q.qO rfl rfl h5) rfl<|Q.nil ?_
      refine R.aD rfl rfl ?_
      refine R.reg rfl<|R.u 3 rfl<|R.q (q.idx (i:=m) (fun _=>Wd.row 1 rfl) rfl rfl bX rfl hx2) rfl<|R.q (q.dD (ds:=bT x2) (fun _=>Wd.row 1 rfl) hx2 rfl eA rfl) rfl<|R.s rfl (s.bs (l:=([x2]:List Change)) bX fe rfl rfl rfl rfl rfl rfl rfl) fun b3=>R.s rfl (s.app (l2:=[x2]) 1 _ rfl rfl rfl (fun _=>Wd.row 0 rfl) gG (by first|omega|(simp;omega)) (by first|omega|(simp;omega)) (fun _=>rfl) rfl) fun v4=>R.u 1 rfl<|R.nil ?_
      refine R.reg rfl<|R.u 1 rfl<|R.q (q.add (r:=((m+1:Nat):Int)) rfl rfl (wr (by omega))) rfl<|R.u 1 rfl<|R.nil ?_
      refine R.back ((m+1),false,v4,(os++([x2]))) rfl (by (exact ⟨by omega,by rw [hO hx2,← HO];unfold dh;dsimp only;(repeat' split) <;> first|rfl|(exfalso;simp_all;done)|(simp_all;done)⟩)) (by dsimp only;omega) ⟨rfl,rfl,rfl,rfl,rfl,rfl,trivial⟩ (fun _=>Wd.aM [1,2,3] [0,1] rfl rfl rfl)
   ·
    refine R.dM rfl mixed (by kernel_rfl)<|Q.u 15 rfl<|Q.nil ?_
    refine R.aI rfl rfl ?_
    obtain ⟨x3,hx3⟩:∃z,rs[m]? = some z:=⟨_,List.getElem?_eq_getElem (by omega)⟩
    by_cases h6:x3.Key=x1.Key
    ·
     refine R.dM rfl mixed (by kernel_rfl)<|Q.u 2 rfl<|Q.q (q.idx (i:=m) (fun _=>Wd.row 1 rfl) rfl rfl bX rfl hx3) rfl<|Q.q (q.dm (j':=0) (fun _=>Wd.row 1 rfl) hx3 rfl bu rfl) rfl<|Q.q (q.fk (fun _=>Wd.row 1 rfl) hx3 rfl bF rfl) rfl<|Q.u 2 rfl<|Q.q (q.idx (i:=k) (fun _=>Wd.aT 1 rfl) rfl rfl bX rfl hx1) rfl<|Q.q (q.dm (j':=0) (fun _=>Wd.aT 1 rfl) hx1 rfl bu rfl) rfl<|Q.q (q.fk (fun _=>Wd.aT 1 rfl) hx1 rfl bF rfl) rfl<|Q.q (q.qN rfl rfl h6) rfl<|Q.nil ?_
     refine R.aI rfl rfl ?_
     refine R.reg rfl<|R.u 1 rfl<|R.q (q.add (r:=((m+1:Nat):Int)) rfl rfl (wr (by omega))) rfl<|R.u 1 rfl<|R.nil ?_
     refine R.back ((m+1),true,u2,os) rfl (by (exact ⟨by omega,by rw [hO hx3,← HO];unfold dh;dsimp only;(repeat' split) <;> first|rfl|(exfalso;simp_all;done)|(simp_all;done)⟩)) (by dsimp only;omega) ⟨rfl,rfl,rfl,rfl,rfl,rfl,trivial⟩ (fun _=>Wd.aM [0,1,2] [0,1] rfl rfl rfl)
    ·
     refine R.dM rfl mixed (by kernel_rfl)<|Q.u 2 rfl<|Q.q (q.idx (i:=m) (fun _=>Wd.row 1 rfl) rfl rfl bX rfl hx3) rfl<|Q.q (q.dm (j':=0) (fun _=>Wd.row 1 rfl) hx3 rfl bu rfl) rfl<|Q.q (q.fk (fun _=>Wd.row 1 rfl) hx3 rfl bF rfl) rfl<|Q.u 2 rfl<|Q.q (q.idx (i:=k) (fun _=>Wd.aT 1 rfl) rfl rfl bX rfl hx1) rfl<|Q.q (q.dm (j':=0) (fun _=>Wd.aT 1 rfl) hx1 rfl bu rfl) rfl<|Q.q (q.fk (fun _=>Wd.aT 1 rfl) hx1 rfl bF rfl) rfl<|Q.q (q.qO rfl rfl h6) rfl<|Q.nil ?_
     refine R.aD rfl rfl ?_
     refine R.reg rfl<|R.u 3 rfl<|R.q (q.idx (i:=m) (fun _=>Wd.row 1 rfl) rfl rfl bX rfl hx3) rfl<|R.q (q.dD (ds:=bT x3) (fun _=>Wd.row 1 rfl) hx3 rfl eA rfl) rfl<|R.s rfl (s.bs (l:=([x3]:List Change)) bX fe rfl rfl rfl rfl rfl rfl rfl) fun b4=>R.s rfl (s.app (l2:=[x3]) 1 _ rfl rfl rfl (fun _=>Wd.row 0 rfl) gG (by first|omega|(simp;omega)) (by first|omega|(simp;omega)) (fun _=>rfl) rfl) fun v5=>R.u 1 rfl<|R.nil ?_
     refine R.reg rfl<|R.u 1 rfl<|R.q (q.add (r:=((m+1:Nat):Int)) rfl rfl (wr (by omega))) rfl<|R.u 1 rfl<|R.nil ?_
     refine R.back ((m+1),true,v5,(os++([x3]))) rfl (by (exact ⟨by omega,by rw [hO hx3,← HO];unfold dh;dsimp only;(repeat' split) <;> first|rfl|(exfalso;simp_all;done)|(simp_all;done)⟩)) (by dsimp only;omega) ⟨rfl,rfl,rfl,rfl,rfl,rfl,trivial⟩ (fun _=>Wd.aM [1,2,3] [0,1] rfl rfl rfl)
  ·
   refine R.q (q.lss rfl rfl (decide_eq_false (by omega))) rfl<|R.nil ?_
   refine R.aI rfl rfl ?_
   refine R.reg rfl<|R.u 1 rfl<|R.q (q.not rfl) rfl<|R.nil ?_
   cases b
   ·
    refine R.aD rfl rfl ?_
    refine R.reg rfl<|R.u 3 rfl<|R.q (q.idx (i:=k) (fun _=>Wd.aT 1 rfl) rfl rfl bX rfl hx1) rfl<|R.q (q.dD (ds:=bT x1) (fun _=>Wd.aT 1 rfl) hx1 rfl eA rfl) rfl<|R.s rfl (s.bs (l:=([x1]:List Change)) bX fe rfl rfl rfl rfl rfl rfl rfl) fun b5=>R.s rfl (s.app (l2:=[x1]) 1 _ rfl rfl rfl (fun _=>Wd.row 0 rfl) gG (by first|omega|(simp;omega)) (by first|omega|(simp;omega)) (fun _=>rfl) rfl) fun v6=>R.u 1 rfl<|R.nil ?_
    refine R.reg rfl<|R.u 2 rfl<|R.nil ?_
    refine R.reg rfl<|R.u 1 rfl<|R.q (q.add (r:=((k+1:Nat):Int)) rfl rfl (wr (by omega))) rfl<|R.u 1 rfl<|R.nil ?_
    refine R.back (k+1,v6,(os++([x1]))) rfl (by (exact ⟨by omega,by rw [List.take_of_length_le (by omega)] at HO;rw [l9 hx1,← HR];unfold uq;rw [← HO];rfl⟩)) (by dsimp only;omega) ⟨rfl,rfl,rfl,trivial⟩ (fun _=>Wd.aM [1,3] [0,1] rfl rfl rfl)
   ·
    refine R.aI rfl rfl ?_
    refine R.reg rfl<|R.u 2 rfl<|R.nil ?_
    refine R.reg rfl<|R.u 1 rfl<|R.q (q.add (r:=((k+1:Nat):Int)) rfl rfl (wr (by omega))) rfl<|R.u 1 rfl<|R.nil ?_
    refine R.back (k+1,u2,os) rfl (by (exact ⟨by omega,by rw [List.take_of_length_le (by omega)] at HO;rw [l9 hx1,← HR];unfold uq;rw [← HO];rfl⟩)) (by dsimp only;omega) ⟨rfl,rfl,rfl,trivial⟩ (fun _=>Wd.aM [0,2] [0,1] rfl rfl rfl)
 ·
  refine R.q (q.lss rfl rfl (decide_eq_false (by omega))) rfl<|R.nil ?_
  refine R.aI rfl rfl ?_
  refine R.reg rfl<|R.u 2 rfl<|R.nil ?_
  have hz:aP rows l=rs:=by (rw [HR,List.take_of_length_le (by omega)])
  rw [hz]
  exact R.w1 u [0,1] [] rfl Tryz.results25 (RV.tmp rfl) rfl rfl rfl rfl
end Go.Proofs.YtbkfhjaibhnkmaaGreatDoor
