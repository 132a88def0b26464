import Derived.Test.YtbkfhjaibhnkmaaGreatDoorTRP17
import Derived.Test.YtbkfhjaibhnkmaaGreatDoorTRP8
import Derived.Test.YtbkfhjaibhnkmaaGreatDoorTRP18
namespace Go.Proofs.YtbkfhjaibhnkmaaGreatDoor
open Go Go.RowKit
set_option linter.unusedVariables false
set_option maxRecDepth 100000
set_option maxHeartbeats 1000000 in
theorem nU (bf:Value)(l:List ak)(w:World)(dx:Sl w bf l):Calls Tryz.prog 26 #[bf] w fun e w'=>e = .returned (eG (cO l))∧Ext w w':=by
  have pC:=dx.dQ
  refine R.enter (n:=68) (vs:=[bf]) [] [(0,bf)] Tryz.func26 rfl rfl rfl rfl ?_
  refine R.reg rfl<|R.u 1 rfl<|R.nil ?_
  refine R.reg rfl<|R.u 1 rfl<|R.q (q.len' (fun _=>Wd.old dx) rfl Tryz.underlying27) rfl<|R.u 1 rfl<|R.nil ?_
  refine R.loop (fun k:Nat=>[(0,bf),(8,bf),(9,.int .i64 (l.length:Int)),(10,.int .i64 (k:Int))]) (fun k:Nat=>[]) (fun k:Nat=>[]) (fun k:Nat=>k≤l.length ∧ ∀j,j<k→eD l j=0) (fun k:Nat=>l.length-k) 0 rfl (by exact ⟨by omega,fun j hj=>absurd hj (Nat.not_lt_zero _)⟩) ⟨rfl,rfl,rfl,rfl,trivial⟩ (fun _=>Wd.pick [] [] rfl rfl rfl) ?_
  rintro k ⟨hk,HA⟩
  refine R.reg rfl<|?_
  by_cases h1:k<l.length
  ·
    refine R.q (q.lss rfl rfl (decide_eq_true (by omega))) rfl<|R.nil ?_
    refine R.aE rfl rfl ?_
    refine R.reg rfl<|R.u 1 rfl<|?_
    obtain ⟨x1,hx1⟩:∃z,l[k]? = some z:=⟨_,List.getElem?_eq_getElem (by omega)⟩
    have CB:=fK x1
    refine R.q (q.idx (i:=k) (fun _=>Wd.old dx) rfl rfl ct rfl hx1) rfl<|R.q (q.dY (ds:=[.int .i64 x1.ID,.int .i64 x1.ai,.int .i64 x1.Rights,.int .i64 x1.ar,.int .i64 x1.From]) (fun _=>Wd.old dx) hx1 rfl aN rfl) rfl<|?_
    refine R.s rfl (s.alloc (cs:=[.int .i64 0,.int .i64 0,.int .i64 0,.int .i64 0,.int .i64 0]) br rfl rfl) fun b1=>?_
    refine R.u 1 rfl<|?_
    refine R.s rfl (s.st (us:=[.int .i64 x1.ID,.int .i64 x1.ai,.int .i64 x1.Rights,.int .i64 x1.ar,.int .i64 x1.From]) (cs':=[.int .i64 x1.ID,.int .i64 x1.ai,.int .i64 x1.Rights,.int .i64 x1.ar,.int .i64 x1.From]) 0 _ rfl rfl rfl rfl (.inl aN) rfl rfl rfl rfl) fun _=>?_
    refine R.nil ?_
    refine R.reg rfl<|R.q (q.cF 0 rfl rfl aN) rfl<|R.c (q.call Al rfl rfl (fun w hw=>(nS (x1) w  ))) rfl<|R.u 1 rfl<|R.nil ?_
    refine R.reg rfl<|R.u 1 rfl<|?_
    by_cases h2:bB x1=0
    ·
      refine R.q (q.fa rfl rfl Tryz.underlying35 (by omega)) rfl<|R.nil ?_
      refine R.aH rfl rfl ?_
      refine R.cut 2 (fun _u:Unit=>[(0,bf),(3,.int .i64 (k:Int)),(4,.pointer (some ⟨b1,0,none⟩)),(8,bf),(9,.int .i64 (l.length:Int)),(10,.int .i64 (k:Int))]) (fun _u:Unit=>[ah.box b1 [.int .i64 x1.ID,.int .i64 x1.ai,.int .i64 x1.Rights,.int .i64 x1.ar,.int .i64 x1.From] 88]) (fun _u:Unit=>[]) (fun _u:Unit=>Hid (¬ 0<k ∨ ∃y,l[k-1]? = some y∧y.ID<x1.ID)) rfl rfl rfl ?_ ?_
      ·
        by_cases h3:0<k
        ·
          obtain ⟨x2,hx2⟩:∃z,l[(k-1)]? = some z:=⟨_,List.getElem?_eq_getElem (by omega)⟩
          have CC:=fK x2
          by_cases h4:x2.ID<x1.ID
          ·
            refine R.eU rfl mixed (by kernel_rfl)<|Q.u 1 rfl<|Q.q (q.gtr rfl rfl (decide_eq_true (by omega))) rfl<|Q.u 1 rfl<|Q.qg rfl (q.aX (off':=0) rfl bu rfl) rfl<|Q.qg rfl (q.ld 0 rfl rfl aA rfl) rfl<|Q.u 2 rfl<|Q.qg rfl (q.sub (r:=((k-1:Nat):Int)) rfl rfl (wr (by omega))) rfl<|Q.qg rfl (q.idx (i:=(k-1)) (fun _=>Wd.old dx) rfl rfl ct rfl hx2) rfl<|Q.qg rfl (q.iO (j':=0) (fun _=>Wd.old dx) hx2 rfl bu rfl) rfl<|Q.qg rfl (q.hZ (fun _=>Wd.old dx) hx2 rfl aA rfl) rfl<|Q.qg rfl (q.leq rfl rfl (decide_eq_false (by omega))) rfl<|Q.u 1 rfl<|Q.nil ?_
            refine R.aH rfl rfl ?_
            exact R.meet () rfl (by (first|exact .inl (by assumption)|exact .inr ⟨_,hx2,by assumption⟩)) ⟨rfl,rfl,rfl,rfl,rfl,rfl,trivial⟩ (fun _=>Wd.pick [0] [] rfl rfl rfl)
          ·
            refine R.eU rfl mixed (by kernel_rfl)<|Q.u 1 rfl<|Q.q (q.gtr rfl rfl (decide_eq_true (by omega))) rfl<|Q.u 1 rfl<|Q.qg rfl (q.aX (off':=0) rfl bu rfl) rfl<|Q.qg rfl (q.ld 0 rfl rfl aA rfl) rfl<|Q.u 2 rfl<|Q.qg rfl (q.sub (r:=((k-1:Nat):Int)) rfl rfl (wr (by omega))) rfl<|Q.qg rfl (q.idx (i:=(k-1)) (fun _=>Wd.old dx) rfl rfl ct rfl hx2) rfl<|Q.qg rfl (q.iO (j':=0) (fun _=>Wd.old dx) hx2 rfl bu rfl) rfl<|Q.qg rfl (q.hZ (fun _=>Wd.old dx) hx2 rfl aA rfl) rfl<|Q.qg rfl (q.leq rfl rfl (decide_eq_true (by omega))) rfl<|Q.u 1 rfl<|Q.nil ?_
            refine R.aE rfl rfl ?_
            refine R.reg rfl<|R.q (q.iface rfl bz) rfl<|R.u 1 rfl<|R.nil ?_
            exact R.rv rfl Tryz.results26 rfl (dC (by decide) (by (exact (eo (by omega) (hD hx1 (by omega) (by assumption) hx2 (by assumption)) (by decide) HA))))
        ·
          refine R.eU rfl mixed (by kernel_rfl)<|Q.u 1 rfl<|Q.q (q.gtr rfl rfl (decide_eq_false (by omega))) rfl<|Q.u 11 rfl<|Q.nil ?_
          refine R.aH rfl rfl ?_
          exact R.meet () rfl (by (first|exact .inl (by assumption)|exact .inr ⟨_,hx2,by assumption⟩)) ⟨rfl,rfl,rfl,rfl,rfl,rfl,trivial⟩ (fun _=>Wd.pick [0] [] rfl rfl rfl)
      ·
        rintro _u hS
        refine R.reg rfl<|R.q (q.aX (off':=4) rfl dP rfl) rfl<|R.q (q.ld 0 rfl rfl aA rfl) rfl<|?_
        by_cases h5:x1.From=0
        ·
          refine R.q (q.eql rfl rfl (beq_iff_eq.2 (by omega))) rfl<|R.nil ?_
          refine R.aE rfl rfl ?_
          refine R.reg rfl<|R.q (q.add (r:=((k+1:Nat):Int)) rfl rfl (wr (by omega))) rfl<|R.u 1 rfl<|R.nil ?_
          refine R.back (k+1) rfl (by (exact ⟨by omega,kv HA (np hx1 (by omega) hS.out (by assumption))⟩)) (by omega) ⟨rfl,rfl,rfl,rfl,trivial⟩ (fun _=>Wd.pick [] [] rfl rfl rfl)
        ·
          refine R.q (q.eql rfl rfl (beq_eq_false_iff_ne.2 (by omega))) rfl<|R.nil ?_
          refine R.aH rfl rfl ?_
          rcases dB (l.take k) x1.From with ⟨du,kx⟩ | ⟨jV,dZ,du,fr,AB⟩
          ·
            refine R.eU rfl mixed (by kernel_rfl)<|Q.u 2 rfl<|Q.q (q.gJ (i:=k) (fun _=>Wd.old dx) rfl rfl Tryz.underlying27 oX rfl (by first|omega|(simp;omega))) rfl<|Q.q (q.aX (off':=4) rfl dP rfl) rfl<|Q.q (q.ld 0 rfl rfl aA rfl) rfl<|Q.c (q.call jh rfl rfl (fun w hw=>(cv (congrArg (Value.int .i64) du) (eL _ ((l.take k)) (x1.From) w ((fun w hw=>Sl.to ((fun _=>Wd.old dx) w hw) (by omega)) w hw) )))) rfl<|Q.u 1 rfl<|Q.nil ?_
            refine R.reg rfl<|R.u 1 rfl<|R.q (q.lss (b:=true) rfl rfl (by decide)) rfl<|R.nil ?_
            refine R.aE rfl rfl ?_
            refine R.reg rfl<|R.q (q.iface rfl bz) rfl<|R.u 1 rfl<|R.nil ?_
            exact R.rv rfl Tryz.results26 rfl (dC (by decide) (by (exact (eo (by omega) (nq hx1 (by omega) hS.out (by assumption) du) (by decide) HA))))
          ·
            refine R.eU rfl mixed (by kernel_rfl)<|Q.u 2 rfl<|Q.q (q.gJ (i:=k) (fun _=>Wd.old dx) rfl rfl Tryz.underlying27 oX rfl (by first|omega|(simp;omega))) rfl<|Q.q (q.aX (off':=4) rfl dP rfl) rfl<|Q.q (q.ld 0 rfl rfl aA rfl) rfl<|Q.c (q.call jh rfl rfl (fun w hw=>(cv (congrArg (Value.int .i64) du) (eL _ ((l.take k)) (x1.From) w ((fun w hw=>Sl.to ((fun _=>Wd.old dx) w hw) (by omega)) w hw) )))) rfl<|Q.u 1 rfl<|Q.nil ?_
            refine R.reg rfl<|R.u 1 rfl<|R.q (q.lss rfl rfl (decide_eq_false (by omega))) rfl<|R.nil ?_
            refine R.aH rfl rfl ?_
            have gQ:jV<k:=by simp at dZ;omega
            obtain ⟨x3,hx3⟩:∃z,l[jV]? = some z:=⟨_,List.getElem?_eq_getElem (by omega)⟩
            have wx:=k6 hx3 (HA jV gQ)
            have CB:=wx.uX;have CC:=wx.uY
            have wd:=nT x3 x1.ID x1.Rights x1.ar
            refine R.fT (fuel:=17) (Wd w [] [ah.box b1 [.int .i64 x1.ID,.int .i64 x1.ai,.int .i64 x1.Rights,.int .i64 x1.ar,.int .i64 x1.From] 88] []) rfl mixed rfl ?_
            refine D.q (i:=0) rfl (by kernel_rfl) (fun _=>Wd.aK [0] [] rfl rfl rfl) rfl (q.mv rfl) rfl<|D.q (i:=1) rfl (by kernel_rfl) (fun _=>Wd.aK [0] [] rfl rfl rfl) rfl (q.mv rfl) rfl<|D.q (i:=2) rfl (by kernel_rfl) (fun _=>Wd.aK [0] [] rfl rfl rfl) rfl (q.idx (i:=jV) (fun _=>Wd.old dx) rfl rfl ct rfl hx3) rfl<|D.q (i:=3) rfl (by kernel_rfl) (fun _=>Wd.aK [0] [] rfl rfl rfl) rfl (q.dY (ds:=[.int .i64 x3.ID,.int .i64 x3.ai,.int .i64 x3.Rights,.int .i64 x3.ar,.int .i64 x3.From]) (fun _=>Wd.old dx) hx3 rfl aN rfl) rfl<|D.q (i:=4) rfl (by kernel_rfl) (fun _=>Wd.aK [0] [] rfl rfl rfl) rfl (q.aX (off':=0) rfl bu rfl) rfl<|D.q (i:=5) rfl (by kernel_rfl) (fun _=>Wd.aK [0] [] rfl rfl rfl) rfl (q.ld 0 rfl rfl aA rfl) rfl<|D.q (i:=6) rfl (by kernel_rfl) (fun _=>Wd.aK [0] [] rfl rfl rfl) rfl (q.aX (off':=2) rfl fy rfl) rfl<|D.q (i:=7) rfl (by kernel_rfl) (fun _=>Wd.aK [0] [] rfl rfl rfl) rfl (q.ld 0 rfl rfl aA rfl) rfl<|D.q (i:=8) rfl (by kernel_rfl) (fun _=>Wd.aK [0] [] rfl rfl rfl) rfl (q.aX (off':=3) rfl fA rfl) rfl<|D.q (i:=9) rfl (by kernel_rfl) (fun _=>Wd.aK [0] [] rfl rfl rfl) rfl (q.ld 0 rfl rfl aA rfl) rfl<|?_
            refine D.two (i:=10) (j:=14) (by kernel_rfl) rfl rfl ?_ ?_
            ·
              refine Do.s (s.c (q.call pN rfl rfl (fun w hw=>(gO (x3) (x1.ID) (x1.Rights) (x1.ar) w  (by omega)))) rfl) (fun _=>(fun _=>Wd.aK [0] [] rfl rfl rfl)) rfl fun _=>?_
              refine D.q (i:=11) rfl (by kernel_rfl) (fun _=>Wd.aK [0] [] rfl rfl rfl) rfl (q.mv rfl) rfl<|D.q (i:=12) rfl (by kernel_rfl) (fun _=>Wd.aK [0] [] rfl rfl rfl) rfl (q.ext rfl rfl) rfl<|D.q (i:=13) rfl (by kernel_rfl) (fun _=>Wd.aK [0] [] rfl rfl rfl) rfl (q.ext rfl rfl) rfl<|?_
              refine D.one (i:=14) (by kernel_rfl) rfl ?_
              refine Do.s (s.alloc (cs:=[.int .i64 0,.int .i64 0,.int .i64 0,.int .i64 0,.int .i64 0]) br rfl rfl) (fun _=>(fun _=>Wd.aK [1] [] rfl rfl rfl)) rfl fun b2=>?_
              refine D.one (i:=15) (by kernel_rfl) rfl ?_
              refine Do.s (s.st (us:=[.int .i64 (((derived x3 x1.ID x1.Rights x1.ar).1).ID),.int .i64 (((derived x3 x1.ID x1.Rights x1.ar).1).ai),.int .i64 (((derived x3 x1.ID x1.Rights x1.ar).1).Rights),.int .i64 (((derived x3 x1.ID x1.Rights x1.ar).1).ar),.int .i64 (((derived x3 x1.ID x1.Rights x1.ar).1).From)]) (cs':=[.int .i64 (((derived x3 x1.ID x1.Rights x1.ar).1).ID),.int .i64 (((derived x3 x1.ID x1.Rights x1.ar).1).ai),.int .i64 (((derived x3 x1.ID x1.Rights x1.ar).1).Rights),.int .i64 (((derived x3 x1.ID x1.Rights x1.ar).1).ar),.int .i64 (((derived x3 x1.ID x1.Rights x1.ar).1).From)]) 0 _ rfl rfl rfl rfl (.inl aN) rfl rfl rfl rfl) (fun _=>(fun _=>Wd.aK [1] [] rfl rfl rfl)) rfl fun _=>?_
              refine D.q (i:=16) rfl (by kernel_rfl) (fun _=>Wd.aK [1] [] rfl rfl rfl) rfl (q.as rfl) rfl<|D.done (by kernel_rfl)<|?_
              refine R.reg rfl<|R.u 1 rfl<|?_
              by_cases h6:(derived x3 x1.ID x1.Rights x1.ar).2=0
              ·
                refine R.q (q.fa rfl rfl Tryz.underlying35 (by omega)) rfl<|R.nil ?_
                refine R.aH rfl rfl ?_
                refine R.reg rfl<|R.q (q.cF 0 rfl rfl aN) rfl<|R.q (q.cF 1 rfl rfl aN) rfl<|?_
                by_cases h7:((derived x3 x1.ID x1.Rights x1.ar).1)=x1
                ·
                  refine R.q (q.oh (x:=((derived x3 x1.ID x1.Rights x1.ar).1)) (y:=x1) oy rfl rfl h7) rfl<|R.nil ?_
                  refine R.aH rfl rfl ?_
                  refine R.reg rfl<|R.q (q.add (r:=((k+1:Nat):Int)) rfl rfl (wr (by omega))) rfl<|R.u 1 rfl<|R.nil ?_
                  refine R.back (k+1) rfl (by (exact ⟨by omega,kv HA ((e5 hx1 (by omega) hS.out (by assumption) du gQ hx3).trans ((if_neg (by omega)).trans (if_neg (fun h=>h (by assumption)))))⟩)) (by omega) ⟨rfl,rfl,rfl,rfl,trivial⟩ (fun _=>Wd.pick [] [] rfl rfl rfl)
                ·
                  refine R.q (q.om (x:=((derived x3 x1.ID x1.Rights x1.ar).1)) (y:=x1) oy rfl rfl h7) rfl<|R.nil ?_
                  refine R.aE rfl rfl ?_
                  refine R.reg rfl<|R.q (q.iface rfl bz) rfl<|R.u 1 rfl<|R.nil ?_
                  exact R.rv rfl Tryz.results26 rfl (dC (by decide) (by (exact (eo (by omega) ((e5 hx1 (by omega) hS.out (by assumption) du gQ hx3).trans ((if_neg (by omega)).trans (if_pos (by assumption)))) (by decide) HA))))
              ·
                refine R.q (q.fb rfl rfl Tryz.underlying35 (by omega)) rfl<|R.nil ?_
                refine R.aE rfl rfl ?_
                refine R.reg rfl<|R.u 2 rfl<|R.nil ?_
                exact R.rv rfl Tryz.results26 rfl (rE (by (exact (eo (by omega) ((e5 hx1 (by omega) hS.out (by assumption) du gQ hx3).trans (if_pos (by omega))) (by omega) HA).symm)))
            ·
              refine Do.s (s.alloc (cs:=[.int .i64 0,.int .i64 0,.int .i64 0,.int .i64 0,.int .i64 0]) br rfl rfl) (fun _=>(fun _=>Wd.aK [1] [] rfl rfl rfl)) rfl fun b3=>?_
              refine D.one (i:=10) (by kernel_rfl) rfl ?_
              refine Do.s (s.c (q.call pN rfl rfl (fun w hw=>(gO (x3) (x1.ID) (x1.Rights) (x1.ar) w  (by omega)))) rfl) (fun _=>(fun _=>Wd.aK [1] [] rfl rfl rfl)) rfl fun _=>?_
              refine D.q (i:=11) rfl (by kernel_rfl) (fun _=>Wd.aK [1] [] rfl rfl rfl) rfl (q.mv rfl) rfl<|D.q (i:=12) rfl (by kernel_rfl) (fun _=>Wd.aK [1] [] rfl rfl rfl) rfl (q.ext rfl rfl) rfl<|D.q (i:=13) rfl (by kernel_rfl) (fun _=>Wd.aK [1] [] rfl rfl rfl) rfl (q.ext rfl rfl) rfl<|?_
              refine D.one (i:=15) (by kernel_rfl) rfl ?_
              refine Do.s (s.st (us:=[.int .i64 (((derived x3 x1.ID x1.Rights x1.ar).1).ID),.int .i64 (((derived x3 x1.ID x1.Rights x1.ar).1).ai),.int .i64 (((derived x3 x1.ID x1.Rights x1.ar).1).Rights),.int .i64 (((derived x3 x1.ID x1.Rights x1.ar).1).ar),.int .i64 (((derived x3 x1.ID x1.Rights x1.ar).1).From)]) (cs':=[.int .i64 (((derived x3 x1.ID x1.Rights x1.ar).1).ID),.int .i64 (((derived x3 x1.ID x1.Rights x1.ar).1).ai),.int .i64 (((derived x3 x1.ID x1.Rights x1.ar).1).Rights),.int .i64 (((derived x3 x1.ID x1.Rights x1.ar).1).ar),.int .i64 (((derived x3 x1.ID x1.Rights x1.ar).1).From)]) 0 _ rfl rfl rfl rfl (.inl aN) rfl rfl rfl rfl) (fun _=>(fun _=>Wd.aK [1] [] rfl rfl rfl)) rfl fun _=>?_
              refine D.q (i:=16) rfl (by kernel_rfl) (fun _=>Wd.aK [1] [] rfl rfl rfl) rfl (q.as rfl) rfl<|D.done (by kernel_rfl)<|?_
              refine R.reg rfl<|R.u 1 rfl<|?_
              by_cases h8:(derived x3 x1.ID x1.Rights x1.ar).2=0
              ·
                refine R.q (q.fa rfl rfl Tryz.underlying35 (by omega)) rfl<|R.nil ?_
                refine R.aH rfl rfl ?_
                refine R.reg rfl<|R.q (q.cF 0 rfl rfl aN) rfl<|R.q (q.cF 1 rfl rfl aN) rfl<|?_
                by_cases h9:((derived x3 x1.ID x1.Rights x1.ar).1)=x1
                ·
                  refine R.q (q.oh (x:=((derived x3 x1.ID x1.Rights x1.ar).1)) (y:=x1) oy rfl rfl h9) rfl<|R.nil ?_
                  refine R.aH rfl rfl ?_
                  refine R.reg rfl<|R.q (q.add (r:=((k+1:Nat):Int)) rfl rfl (wr (by omega))) rfl<|R.u 1 rfl<|R.nil ?_
                  refine R.back (k+1) rfl (by (exact ⟨by omega,kv HA ((e5 hx1 (by omega) hS.out (by assumption) du gQ hx3).trans ((if_neg (by omega)).trans (if_neg (fun h=>h (by assumption)))))⟩)) (by omega) ⟨rfl,rfl,rfl,rfl,trivial⟩ (fun _=>Wd.pick [] [] rfl rfl rfl)
                ·
                  refine R.q (q.om (x:=((derived x3 x1.ID x1.Rights x1.ar).1)) (y:=x1) oy rfl rfl h9) rfl<|R.nil ?_
                  refine R.aE rfl rfl ?_
                  refine R.reg rfl<|R.q (q.iface rfl bz) rfl<|R.u 1 rfl<|R.nil ?_
                  exact R.rv rfl Tryz.results26 rfl (dC (by decide) (by (exact (eo (by omega) ((e5 hx1 (by omega) hS.out (by assumption) du gQ hx3).trans ((if_neg (by omega)).trans (if_pos (by assumption)))) (by decide) HA))))
              ·
                refine R.q (q.fb rfl rfl Tryz.underlying35 (by omega)) rfl<|R.nil ?_
                refine R.aE rfl rfl ?_
                refine R.reg rfl<|R.u 2 rfl<|R.nil ?_
                exact R.rv rfl Tryz.results26 rfl (rE (by (exact (eo (by omega) ((e5 hx1 (by omega) hS.out (by assumption) du gQ hx3).trans (if_pos (by omega))) (by omega) HA).symm)))
    ·
      refine R.q (q.fb rfl rfl Tryz.underlying35 (by omega)) rfl<|R.nil ?_
      refine R.aE rfl rfl ?_
      refine R.reg rfl<|R.u 2 rfl<|R.nil ?_
      exact R.rv rfl Tryz.results26 rfl (rE (by (have e:bB x1=1:=(by omega);rw [e];exact (eo (by omega) (eZ hx1 (by omega)) (by decide) HA).symm)))
  ·
    refine R.q (q.lss rfl rfl (decide_eq_false (by omega))) rfl<|R.nil ?_
    refine R.aH rfl rfl ?_
    refine R.reg rfl<|R.u 1 rfl<|R.nil ?_
    exact R.rv rfl Tryz.results26 rfl (gj (by (exact (jD (fun j hj=>HA j (by omega))))))
theorem jE (bf:Value)(l:List ak)(id:Int)(w:World)(dx:Sl w bf l)(hl:l.length≤1000000):Calls Tryz.prog 62 #[bf,.int .i64 id] w fun e w' => ∃u,e = .returned u∧Own w.heap.size 88 w' u (without l id)∧Ext w w':=by
  have pC:=dx.dQ
  refine R.enter (n:=42) (vs:=[bf,.int .i64 id]) [] [(0,bf),(1,.int .i64 id)] Tryz.func62 rfl rfl rfl rfl ?_
  refine R.reg rfl<|R.u 1 rfl<|R.nil ?_
  refine R.reg rfl<|R.u 1 rfl<|R.nil ?_
  refine R.reg rfl<|R.u 1 rfl<|R.nil ?_
  refine R.reg rfl<|R.u 2 rfl<|?_
  rcases dB l id with ⟨du,kx⟩ | ⟨jV,dZ,du,fr,AB⟩
  ·
    refine R.c (q.call jh rfl rfl (fun w hw=>(cv (congrArg (Value.int .i64) du) (eL _ (l) (id) w ((fun _=>Wd.old dx) w hw) )))) rfl<|R.u 1 rfl<|R.nil ?_
    refine R.reg rfl<|R.u 1 rfl<|R.q (q.geq (b:=false) rfl rfl (by decide)) rfl<|R.nil ?_
    refine R.aH rfl rfl ?_
    refine R.reg rfl<|R.u 1 rfl<|R.q (q.len' (fun _=>Wd.old dx) rfl Tryz.underlying27) rfl<|R.u 1 rfl<|R.nil ?_
    refine R.row0 (α:=ak) 88 ?_
    refine R.loop (fun g_:Nat×Value×(List ak)=>[(1,.int .i64 id),(5,g_.2.1),(6,.int .i64 0),(20,bf),(21,.int .i64 (l.length:Int)),(22,.int .i64 (g_.1:Int))]) (fun g_:Nat×Value×(List ak)=>[ah.row 88 g_.2.1 (g_.2.2:List ak)]) (fun g_:Nat×Value×(List ak)=>[]) (fun g_:Nat×Value×(List ak)=>g_.1≤l.length∧g_.2.2=qR id 0 (l.take g_.1)) (fun g_:Nat×Value×(List ak)=>l.length-g_.1) (0,(.slice none 0 0),[]) rfl (by exact ⟨by simp,by simp [qR,AA]⟩) ⟨rfl,rfl,rfl,rfl,rfl,rfl,trivial⟩ (fun _=>Wd.pick [0] [] rfl rfl rfl) ?_
    rintro ⟨k,v,acc⟩ ⟨hk,HA⟩
    dsimp only at *
    have hal:acc.length≤k:=by rw [HA];exact Nat.le_trans (pb _ _ _) (List.length_take_le _ _)
    refine R.reg rfl<|?_
    by_cases h1:k<l.length
    ·
      refine R.q (q.lss rfl rfl (decide_eq_true (by omega))) rfl<|R.nil ?_
      refine R.aE rfl rfl ?_
      refine R.reg rfl<|?_
      obtain ⟨x1,hx1⟩:∃z,l[k]? = some z:=⟨_,List.getElem?_eq_getElem (by omega)⟩
      refine R.q (q.idx (i:=k) (fun _=>Wd.old dx) rfl rfl ct rfl hx1) rfl<|R.q (q.dY (ds:=[.int .i64 x1.ID,.int .i64 x1.ai,.int .i64 x1.Rights,.int .i64 x1.ar,.int .i64 x1.From]) (fun _=>Wd.old dx) hx1 rfl aN rfl) rfl<|?_
      refine R.s rfl (s.alloc (cs:=[.int .i64 0,.int .i64 0,.int .i64 0,.int .i64 0,.int .i64 0]) br rfl rfl) fun b1=>?_
      refine R.s rfl (s.st (us:=[.int .i64 x1.ID,.int .i64 x1.ai,.int .i64 x1.Rights,.int .i64 x1.ar,.int .i64 x1.From]) (cs':=[.int .i64 x1.ID,.int .i64 x1.ai,.int .i64 x1.Rights,.int .i64 x1.ar,.int .i64 x1.From]) 0 _ rfl rfl rfl rfl (.inl aN) rfl rfl rfl rfl) fun _=>?_
      refine R.nil ?_
      refine R.reg rfl<|R.q (q.aX (off':=0) rfl bu rfl) rfl<|R.q (q.ld 0 rfl rfl aA rfl) rfl<|R.u 1 rfl<|?_
      by_cases h2:x1.ID=id
      ·
        refine R.q (q.eql rfl rfl (beq_iff_eq.2 (by omega))) rfl<|R.nil ?_
        refine R.aE rfl rfl ?_
        refine R.reg rfl<|R.q (q.add (r:=((k+1:Nat):Int)) rfl rfl (wr (by omega))) rfl<|R.u 1 rfl<|R.nil ?_
        refine R.back (k+1,v,acc) rfl (by (exact ⟨by omega,by rw [HA,sB hx1 (by assumption)]⟩)) (by dsimp only;omega) ⟨rfl,rfl,rfl,rfl,rfl,rfl,trivial⟩ (fun _=>Wd.pick [1] [] rfl rfl rfl)
      ·
        refine R.q (q.eql rfl rfl (beq_eq_false_iff_ne.2 (by omega))) rfl<|R.nil ?_
        refine R.aH rfl rfl ?_
        refine R.reg rfl<|R.q (q.aX (off':=4) rfl dP rfl) rfl<|R.q (q.ld 0 rfl rfl aA rfl) rfl<|R.u 1 rfl<|?_
        by_cases h3:x1.From=id
        ·
          refine R.q (q.eql rfl rfl (beq_iff_eq.2 (by omega))) rfl<|R.nil ?_
          refine R.aE rfl rfl ?_
          refine R.reg rfl<|R.u 1 rfl<|R.q (q.aX (off':=4) rfl dP rfl) rfl<|?_
          refine R.s rfl (s.st (us:=[.int .i64 0]) (cs':=[.int .i64 x1.ID,.int .i64 x1.ai,.int .i64 x1.Rights,.int .i64 x1.ar,.int .i64 0]) 0 _ rfl rfl rfl rfl (.inr ⟨aA,rfl⟩) rfl rfl rfl rfl) fun _=>?_
          refine R.nil ?_
          refine R.reg rfl<|R.u 1 rfl<|R.q (q.cF 0 rfl rfl aN) rfl<|?_
          refine R.s rfl (s.bs (l:=([(⟨x1.ID,x1.ai,x1.Rights,x1.ar,0⟩:ak)]:List ak)) ct br rfl rfl rfl rfl rfl rfl rfl) fun b2=>?_
          refine R.s rfl (s.app (l2:=[(⟨x1.ID,x1.ai,x1.Rights,x1.ar,0⟩:ak)]) 2 _ rfl rfl rfl (fun _=>Wd.row 0 rfl) f6 (by simp;omega) (by simp;omega) (fun _=>rfl) rfl) fun v1=>?_
          refine R.u 1 rfl<|R.nil ?_
          refine R.reg rfl<|R.q (q.add (r:=((k+1:Nat):Int)) rfl rfl (wr (by omega))) rfl<|R.u 1 rfl<|R.nil ?_
          refine R.back (k+1,v1,(acc++([(⟨x1.ID,x1.ai,x1.Rights,x1.ar,0⟩:ak)]))) rfl (by (exact ⟨by omega,by rw [HA,k7 hx1 (by assumption),pX (by assumption)]⟩)) (by dsimp only;omega) ⟨rfl,rfl,rfl,rfl,rfl,rfl,trivial⟩ (fun _=>Wd.pick [2] [] rfl rfl rfl)
        ·
          refine R.q (q.eql rfl rfl (beq_eq_false_iff_ne.2 (by omega))) rfl<|R.nil ?_
          refine R.aH rfl rfl ?_
          refine R.reg rfl<|R.u 1 rfl<|R.q (q.cF 0 rfl rfl aN) rfl<|?_
          refine R.s rfl (s.bs (l:=([x1]:List ak)) ct br rfl rfl rfl rfl rfl rfl rfl) fun b3=>?_
          refine R.s rfl (s.app (l2:=[x1]) 2 _ rfl rfl rfl (fun _=>Wd.row 0 rfl) f6 (by simp;omega) (by simp;omega) (fun _=>rfl) rfl) fun v2=>?_
          refine R.u 1 rfl<|R.nil ?_
          refine R.reg rfl<|R.q (q.add (r:=((k+1:Nat):Int)) rfl rfl (wr (by omega))) rfl<|R.u 1 rfl<|R.nil ?_
          refine R.back (k+1,v2,(acc++([x1]))) rfl (by (exact ⟨by omega,by rw [HA,k7 hx1 (by assumption),oC (by assumption)]⟩)) (by dsimp only;omega) ⟨rfl,rfl,rfl,rfl,rfl,rfl,trivial⟩ (fun _=>Wd.pick [2] [] rfl rfl rfl)
    ·
      refine R.q (q.lss rfl rfl (decide_eq_false (by omega))) rfl<|R.nil ?_
      refine R.aH rfl rfl ?_
      refine R.reg rfl<|R.u 2 rfl<|R.nil ?_
      exact R.ro 0 rfl Tryz.results62 rfl rfl (by (rw [HA,List.take_of_length_le (by omega)];unfold without;rw [l6 du]))
  ·
    refine R.c (q.call jh rfl rfl (fun w hw=>(cv (congrArg (Value.int .i64) du) (eL _ (l) (id) w ((fun _=>Wd.old dx) w hw) )))) rfl<|R.u 1 rfl<|R.nil ?_
    refine R.reg rfl<|R.u 1 rfl<|R.q (q.geq rfl rfl (decide_eq_true (by omega))) rfl<|R.nil ?_
    refine R.aE rfl rfl ?_
    refine R.reg rfl<|R.u 2 rfl<|R.q (q.idx (i:=jV) (fun _=>Wd.old dx) rfl rfl ct rfl (List.getElem?_eq_getElem dZ)) rfl<|R.q (q.iO (j':=4) (fun _=>Wd.old dx) (List.getElem?_eq_getElem dZ) rfl dP rfl) rfl<|R.q (q.hZ (fun _=>Wd.old dx) (List.getElem?_eq_getElem dZ) rfl aA rfl) rfl<|R.u 1 rfl<|R.nil ?_
    refine R.reg rfl<|R.u 1 rfl<|R.q (q.len' (fun _=>Wd.old dx) rfl Tryz.underlying27) rfl<|R.u 1 rfl<|R.nil ?_
    refine R.row0 (α:=ak) 88 ?_
    refine R.loop (fun g_:Nat×Value×(List ak)=>[(1,.int .i64 id),(5,g_.2.1),(6,.int .i64 ((l[jV]).From)),(20,bf),(21,.int .i64 (l.length:Int)),(22,.int .i64 (g_.1:Int))]) (fun g_:Nat×Value×(List ak)=>[ah.row 88 g_.2.1 (g_.2.2:List ak)]) (fun g_:Nat×Value×(List ak)=>[]) (fun g_:Nat×Value×(List ak)=>g_.1≤l.length∧g_.2.2=qR id ((l[jV]).From) (l.take g_.1)) (fun g_:Nat×Value×(List ak)=>l.length-g_.1) (0,(.slice none 0 0),[]) rfl (by exact ⟨by simp,by simp [qR,AA]⟩) ⟨rfl,rfl,rfl,rfl,rfl,rfl,trivial⟩ (fun _=>Wd.pick [0] [] rfl rfl rfl) ?_
    rintro ⟨k,v,acc⟩ ⟨hk,HA⟩
    dsimp only at *
    have hal:acc.length≤k:=by rw [HA];exact Nat.le_trans (pb _ _ _) (List.length_take_le _ _)
    refine R.reg rfl<|?_
    by_cases h4:k<l.length
    ·
      refine R.q (q.lss rfl rfl (decide_eq_true (by omega))) rfl<|R.nil ?_
      refine R.aE rfl rfl ?_
      refine R.reg rfl<|?_
      obtain ⟨x2,hx2⟩:∃z,l[k]? = some z:=⟨_,List.getElem?_eq_getElem (by omega)⟩
      refine R.q (q.idx (i:=k) (fun _=>Wd.old dx) rfl rfl ct rfl hx2) rfl<|R.q (q.dY (ds:=[.int .i64 x2.ID,.int .i64 x2.ai,.int .i64 x2.Rights,.int .i64 x2.ar,.int .i64 x2.From]) (fun _=>Wd.old dx) hx2 rfl aN rfl) rfl<|?_
      refine R.s rfl (s.alloc (cs:=[.int .i64 0,.int .i64 0,.int .i64 0,.int .i64 0,.int .i64 0]) br rfl rfl) fun b4=>?_
      refine R.s rfl (s.st (us:=[.int .i64 x2.ID,.int .i64 x2.ai,.int .i64 x2.Rights,.int .i64 x2.ar,.int .i64 x2.From]) (cs':=[.int .i64 x2.ID,.int .i64 x2.ai,.int .i64 x2.Rights,.int .i64 x2.ar,.int .i64 x2.From]) 0 _ rfl rfl rfl rfl (.inl aN) rfl rfl rfl rfl) fun _=>?_
      refine R.nil ?_
      refine R.reg rfl<|R.q (q.aX (off':=0) rfl bu rfl) rfl<|R.q (q.ld 0 rfl rfl aA rfl) rfl<|R.u 1 rfl<|?_
      by_cases h5:x2.ID=id
      ·
        refine R.q (q.eql rfl rfl (beq_iff_eq.2 (by omega))) rfl<|R.nil ?_
        refine R.aE rfl rfl ?_
        refine R.reg rfl<|R.q (q.add (r:=((k+1:Nat):Int)) rfl rfl (wr (by omega))) rfl<|R.u 1 rfl<|R.nil ?_
        refine R.back (k+1,v,acc) rfl (by (exact ⟨by omega,by rw [HA,sB hx2 (by assumption)]⟩)) (by dsimp only;omega) ⟨rfl,rfl,rfl,rfl,rfl,rfl,trivial⟩ (fun _=>Wd.pick [1] [] rfl rfl rfl)
      ·
        refine R.q (q.eql rfl rfl (beq_eq_false_iff_ne.2 (by omega))) rfl<|R.nil ?_
        refine R.aH rfl rfl ?_
        refine R.reg rfl<|R.q (q.aX (off':=4) rfl dP rfl) rfl<|R.q (q.ld 0 rfl rfl aA rfl) rfl<|R.u 1 rfl<|?_
        by_cases h6:x2.From=id
        ·
          refine R.q (q.eql rfl rfl (beq_iff_eq.2 (by omega))) rfl<|R.nil ?_
          refine R.aE rfl rfl ?_
          refine R.reg rfl<|R.u 1 rfl<|R.q (q.aX (off':=4) rfl dP rfl) rfl<|?_
          refine R.s rfl (s.st (us:=[.int .i64 ((l[jV]).From)]) (cs':=[.int .i64 x2.ID,.int .i64 x2.ai,.int .i64 x2.Rights,.int .i64 x2.ar,.int .i64 ((l[jV]).From)]) 0 _ rfl rfl rfl rfl (.inr ⟨aA,rfl⟩) rfl rfl rfl rfl) fun _=>?_
          refine R.nil ?_
          refine R.reg rfl<|R.u 1 rfl<|R.q (q.cF 0 rfl rfl aN) rfl<|?_
          refine R.s rfl (s.bs (l:=([(⟨x2.ID,x2.ai,x2.Rights,x2.ar,(l[jV]).From⟩:ak)]:List ak)) ct br rfl rfl rfl rfl rfl rfl rfl) fun b5=>?_
          refine R.s rfl (s.app (l2:=[(⟨x2.ID,x2.ai,x2.Rights,x2.ar,(l[jV]).From⟩:ak)]) 2 _ rfl rfl rfl (fun _=>Wd.row 0 rfl) f6 (by simp;omega) (by simp;omega) (fun _=>rfl) rfl) fun v3=>?_
          refine R.u 1 rfl<|R.nil ?_
          refine R.reg rfl<|R.q (q.add (r:=((k+1:Nat):Int)) rfl rfl (wr (by omega))) rfl<|R.u 1 rfl<|R.nil ?_
          refine R.back (k+1,v3,(acc++([(⟨x2.ID,x2.ai,x2.Rights,x2.ar,(l[jV]).From⟩:ak)]))) rfl (by (exact ⟨by omega,by rw [HA,k7 hx2 (by assumption),pX (by assumption)]⟩)) (by dsimp only;omega) ⟨rfl,rfl,rfl,rfl,rfl,rfl,trivial⟩ (fun _=>Wd.pick [2] [] rfl rfl rfl)
        ·
          refine R.q (q.eql rfl rfl (beq_eq_false_iff_ne.2 (by omega))) rfl<|R.nil ?_
          refine R.aH rfl rfl ?_
          refine R.reg rfl<|R.u 1 rfl<|R.q (q.cF 0 rfl rfl aN) rfl<|?_
          refine R.s rfl (s.bs (l:=([x2]:List ak)) ct br rfl rfl rfl rfl rfl rfl rfl) fun b6=>?_
          refine R.s rfl (s.app (l2:=[x2]) 2 _ rfl rfl rfl (fun _=>Wd.row 0 rfl) f6 (by simp;omega) (by simp;omega) (fun _=>rfl) rfl) fun v4=>?_
          refine R.u 1 rfl<|R.nil ?_
          refine R.reg rfl<|R.q (q.add (r:=((k+1:Nat):Int)) rfl rfl (wr (by omega))) rfl<|R.u 1 rfl<|R.nil ?_
          refine R.back (k+1,v4,(acc++([x2]))) rfl (by (exact ⟨by omega,by rw [HA,k7 hx2 (by assumption),oC (by assumption)]⟩)) (by dsimp only;omega) ⟨rfl,rfl,rfl,rfl,rfl,rfl,trivial⟩ (fun _=>Wd.pick [2] [] rfl rfl rfl)
    ·
      refine R.q (q.lss rfl rfl (decide_eq_false (by omega))) rfl<|R.nil ?_
      refine R.aH rfl rfl ?_
      refine R.reg rfl<|R.u 2 rfl<|R.nil ?_
      exact R.ro 0 rfl Tryz.results62 rfl rfl (by (rw [HA,List.take_of_length_le (by omega)];unfold without;rw [l5 du (List.getElem?_eq_getElem dZ)]))
end Go.Proofs.YtbkfhjaibhnkmaaGreatDoor
