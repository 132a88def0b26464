import Derived.Test.YtbkfhjaibhnkmaaGreatDoorIMS26
import Derived.Test.YtbkfhjaibhnkmaaGreatDoorIMS38
import Derived.Test.YtbkfhjaibhnkmaaGreatDoorIMS45
import Derived.Test.YtbkfhjaibhnkmaaGreatDoorIMS46
namespace Go.Proofs.YtbkfhjaibhnkmaaGreatDoor
open Go Go.RowKit
set_option linter.unusedVariables false
set_option linter.unusedSimpArgs false
set_option maxRecDepth 100000
theorem cu {α:Type}{c:Prop}[Decidable c]{x y:α×Int}(h:0≤x.2)(h':0≤y.2):0≤(if c then x else y).2:=by split <;> assumption
theorem m9 {r:ar}(a:gL):0≤(cr r a).2:=by
 have hd:=fun (w:ak) id rg b=>f8 w id rg b
 have dn:∀ (w:ak) id rg b,0≤(derived w id rg b).2:=fun w id rg b=>by have:=hd w id rg b;omega
 have hT:0≤(bC r a.P).2.2.2:=by
  have:=gx r a.P 2 1;unfold bC;(repeat' split) <;> first|(dsimp only;omega)|omega
 unfold cr
 refine cu ?_ (cu ?_ (cu ?_ (cu ?_ (cu ?_ (cu ?_ (cu ?_ (cu hT (Int.le_refl 0))))))))
 ·exact cu (cu (cu (by decide) (by exact Int.le_refl 0)) (eX r a.P)) (by decide)
 ·exact cu (cu (cu (cu (by decide) (cu (by exact Int.le_refl 0) (dn _ _ _ _))) (by decide)) (eX r a.Q)) (eC r a.P)
 ·exact cu (cu (by exact Int.le_refl 0) (eX r _)) (eC r a.P)
 ·exact cu (by exact Int.le_refl 0) (eC r a.P)
 ·exact cu (by exact Int.le_refl 0) (eC r a.P)
 ·exact cu (cu (by decide) (by exact Int.le_refl 0)) (gx r a.P 1 2)
 ·
  refine cu (cu (by decide) (cu (by decide) (cu (by exact Int.le_refl 0) (cu ?_ (by decide))))) (gx r a.P 2 2)
  exact cu (cu (by decide) (cu (by exact Int.le_refl 0) (dn _ _ _ _))) (eC r _)
theorem Inv.ok {z:ar}(h:Inv z)(hn:z.Notes=[])(hl:z.Held.length=z.ai.length):Ok z:=by
 have a:=oK h
 exact ⟨by omega,by have:=h.gh;omega,by omega,by rw [hn];exact Nat.zero_le _,h.toPre.ri,by have:=h.ki;omega,by have:=h.lC;omega,by have:=h.kv;omega,by have:=h.ky;omega⟩
theorem xV {l:List Change}{m:Int}(h:iu l m=true):∀c∈l,c.Key.size≤1000∧c.Val.size≤1000:=fun c hc=>by
 have:=xg h c hc;omega
theorem CO (l:List Change):(aO l).2=0∨(aO l).2=4:=by
 rcases mG l with ⟨z,_,_,h⟩ | h <;> rw [h]
 ·exact .inl rfl
 ·exact .inr rfl
theorem F9:Ok (⟨[],[],[],[],1,1⟩:ar):=Sz.new.ok (by decide)
theorem lL:Inv (⟨[],[],[],[],1,1⟩:ar):=Inv.new
theorem CP:aU (⟨[],[],[],[],1,1⟩:ar)=[⟨⟨#[120]⟩,⟨#[48,48,48,49,48,48,48,49]⟩,false⟩]:=by
 have e:aH (⟨[],[],[],[],1,1⟩:ar)=⟨[],[],[],[],1,1⟩:=nX lL rfl
 unfold aU;rw [e]
 have f1:aW 1=⟨#[48,48,48,49]⟩:=by
  refine iw ?_
  show bl (aW 1)=_
  rw [oM (by decide) (by decide)];rfl
 unfold rowsOf vZ;rw [f1];rfl
theorem CQ:(aO (aU (⟨[],[],[],[],1,1⟩:ar))).1.ae=1:=by
 rw [mH lL,nX lL rfl]
theorem CR (l:List Change):dY (l.take 1):=by
 cases l with
 | nil=>exact List.Pairwise.nil
 | cons x l=>exact List.pairwise_singleton _ _
theorem k7 {l:List Change}{k:Nat}(h:dY (l.take k))(hk:¬ k<l.length):dY (l.take (k+1)):=by
 rw [List.take_of_length_le (by omega)] at h ⊢;exact h
theorem nf {l:List Change}{k:Nat}{x y:Change}(h:dY (l.take k))(h1:1≤k)(hx:l[k]? = some x)(hy:l[k-1]? = some y)(hl:(fS x.Key y.Key||decide (x.Key=y.Key))=false):dY (l.take (k+1)):=by
 rw [Bool.or_eq_false_iff,decide_eq_false_iff_not] at hl
 have hyx:fS y.Key x.Key=true:=by
  rcases m6 x.Key y.Key with q|q|q
  ·rw [hl.1] at q;cases q
  ·exact absurd q hl.2
  ·exact q
 rw [List.take_add_one,hx]
 refine List.pairwise_append.2 ⟨h,List.pairwise_singleton _ _,fun z hz c hc=>?_⟩
 have hc2:c=x:=by simpa using hc
 rw [hc2]
 have e:l.take k=l.take (k-1)++[y]:=by
  have:=List.take_add_one (l:=l) (i:=k-1)
  rw [show k-1+1=k by omega,hy] at this;exact this
 rw [e] at h hz
 rcases List.mem_append.1 hz with q|q
 ·exact hN ((List.pairwise_append.1 h).2.2 z q y (List.mem_singleton.2 rfl)) hyx
 ·rw [List.mem_singleton.1 q];exact hyx
theorem wP {l:List Change}{k:Nat}(h:dY (l.take k))(hk:¬ k<l.length):dY l:=by
 rwa [List.take_of_length_le (by omega)] at h
theorem xW  (w:World)(ht:wh w):Calls Tryz.prog 6 #[] w fun e w'=>e = .returned (.bool true)∧Ext w w':=by
 have nk:=F9;have nI:=lL;have n1:=mH lL;have n2:(aO (aU (⟨[],[],[],[],1,1⟩:ar))).2=0:=(by rw [n1]);have n3:decide ((aO (aU (⟨[],[],[],[],1,1⟩:ar))).2=0)=true:=decide_eq_true n2;have n4:=CQ;have n5:=decide_eq_true CP;have n6:=sq lL;have n7:=tF lL;have n8:decide ((aO (aU (⟨[],[],[],[],1,1⟩:ar))).1.ae=1)=true:=decide_eq_true n4
 refine R.enter (n:=24) (vs:=[]) [] [] Tryz.func6 O O O O ?_
 refine R.qd (r:=bR) ht (ux ht) ?_
 refine R.reg O<|R.u 1 O<|R.nil ?_
 refine R.reg O<|R.s (B':=(fun g_:Value×Value×Value×Value=>[])) (F':=(fun g_=>[ag.ls g_.1 (((⟨[],[],[],[],1,1⟩:ar)).ai:List ak),ag.ls g_.2.1 (((⟨[],[],[],[],1,1⟩:ar)).Things:List ao),ag.ls g_.2.2.1 (((⟨[],[],[],[],1,1⟩:ar)).Held:List Held),ag.ls g_.2.2.2 (((⟨[],[],[],[],1,1⟩:ar)).Notes:List Note),bR])) O (s.bP (B0:=[]) (Br:=[]) (F0:=[]) [] [] (fun g_:Value×Value×Value×Value => .agg #[g_.1,g_.2.1,g_.2.2.1,g_.2.2.2,iV (((⟨[],[],[],[],1,1⟩:ar)).ae),iV (((⟨[],[],[],[],1,1⟩:ar)).af)]) (fun g_=>[]) (fun g_=>[ag.ls g_.1 (((⟨[],[],[],[],1,1⟩:ar)).ai:List ak),ag.ls g_.2.1 (((⟨[],[],[],[],1,1⟩:ar)).Things:List ao),ag.ls g_.2.2.1 (((⟨[],[],[],[],1,1⟩:ar)).Held:List Held),ag.ls g_.2.2.2 (((⟨[],[],[],[],1,1⟩:ar)).Notes:List Note)]) O O O GR O O (fun w own hw H=>vI  w own H ) O) ?_
 rintro ⟨z1,z2,z3,z4⟩
 dsimp only
 refine R.s (B':=(fun aN:Value=>[ag.row 52 aN ((aU (⟨[],[],[],[],1,1⟩:ar)):List Change)])) (F':=(fun aN:Value=>[ag.ls z1 (([]):List ak),ag.ls z2 (([]):List ao),ag.ls z3 (([]):List Held),ag.ls z4 (([]):List Note),bR])) O (s.bP (B0:=[]) (Br:=[]) (F0:=[ag.ls z1 ((⟨[],[],[],[],1,1⟩:ar).ai:List ak),ag.ls z2 ((⟨[],[],[],[],1,1⟩:ar).Things:List ao),ag.ls z3 ((⟨[],[],[],[],1,1⟩:ar).Held:List Held),ag.ls z4 ((⟨[],[],[],[],1,1⟩:ar).Notes:List Note),bR]) [] cZ (fun aN:Value=>aN) (fun aN:Value=>[ag.row 52 aN ((aU (⟨[],[],[],[],1,1⟩:ar)):List Change)]) (fun aN:Value=>[]) O O O Az O O (fun w own hw H=>sd z1 z2 z3 z4 ((⟨[],[],[],[],1,1⟩:ar)) w own H ‹_› ‹_›) O) fun z5=>R.u 1 O<|R.nil ?_
 refine R.reg O<|R.u 1 O<|R.s (B':=(fun g_:Value×Value×Value×Value=>[])) (F':=(fun g_=>[ag.ls g_.1 ((((aO (aU (⟨[],[],[],[],1,1⟩:ar)))).1).ai:List ak),ag.ls g_.2.1 ((((aO (aU (⟨[],[],[],[],1,1⟩:ar)))).1).Things:List ao),ag.ls g_.2.2.1 ((((aO (aU (⟨[],[],[],[],1,1⟩:ar)))).1).Held:List Held),ag.ls g_.2.2.2 ((((aO (aU (⟨[],[],[],[],1,1⟩:ar)))).1).Notes:List Note),ag.ls z5 (aU (⟨[],[],[],[],1,1⟩:ar):List Change),ag.ls z1 (([]):List ak),ag.ls z2 (([]):List ao),ag.ls z3 (([]):List Held),ag.ls z4 (([]):List Note),bR])) O (s.pre (B2:=[]) (F2:=[ag.ls z5 (aU (⟨[],[],[],[],1,1⟩:ar):List Change),ag.ls z1 ((⟨[],[],[],[],1,1⟩:ar).ai:List ak),ag.ls z2 ((⟨[],[],[],[],1,1⟩:ar).Things:List ao),ag.ls z3 ((⟨[],[],[],[],1,1⟩:ar).Held:List Held),ag.ls z4 ((⟨[],[],[],[],1,1⟩:ar).Notes:List Note),bR]) (fun _ hw=>hw.bH 0 _ O O) (s.bP (B0:=[]) (Br:=[]) (F0:=[ag.ls z5 (aU (⟨[],[],[],[],1,1⟩:ar):List Change),bR]) [] [0,5] (fun g_:Value×Value×Value×Value => .tuple #[.agg #[g_.1,g_.2.1,g_.2.2.1,g_.2.2.2,iV ((((aO (aU (⟨[],[],[],[],1,1⟩:ar)))).1).ae),iV ((((aO (aU (⟨[],[],[],[],1,1⟩:ar)))).1).af)],fc (((aO (aU (⟨[],[],[],[],1,1⟩:ar)))).2)]) (fun g_=>[]) (fun g_=>[ag.ls g_.1 ((((aO (aU (⟨[],[],[],[],1,1⟩:ar)))).1).ai:List ak),ag.ls g_.2.1 ((((aO (aU (⟨[],[],[],[],1,1⟩:ar)))).1).Things:List ao),ag.ls g_.2.2.1 ((((aO (aU (⟨[],[],[],[],1,1⟩:ar)))).1).Held:List Held),ag.ls g_.2.2.2 ((((aO (aU (⟨[],[],[],[],1,1⟩:ar)))).1).Notes:List Note)]) O O O AA O O (fun w own hw H=>pC z5 (aU (⟨[],[],[],[],1,1⟩:ar)) w own H (by first|assumption|omega) ‹_›) O)) ?_
 rintro ⟨z6,z7,z8,z9⟩
 dsimp only
 refine R.u 3 O<|R.s O (s.alloc (cs:=aG) cp O O) fun b1=>R.s O (s.dy (us:=[z6,z7,z8,z9,iV (((aO (aU (⟨[],[],[],[],1,1⟩:ar))).1).ae),iV (((aO (aU (⟨[],[],[],[],1,1⟩:ar))).1).af)]) (cs':=[z6,z7,z8,z9,iV (((aO (aU (⟨[],[],[],[],1,1⟩:ar))).1).ae),iV (((aO (aU (⟨[],[],[],[],1,1⟩:ar))).1).af)]) 0 _ O O O (fun _ _=>rfl) (.inl ap) (fun w hw=>(ah (Sl.one (hw.bq 0 O)) (ah (Sl.one (hw.bq 1 O)) (ah (Sl.one (hw.bq 2 O)) (ah (Sl.one (hw.bq 3 O)) (ah O (ah O aL))))))) O O O) fun _=>R.u 1 O<|R.nil ?_
 refine R.reg O<|R.u 1 O<|R.c (q.call sR O O (fun w hw=>(cv (congrArg Value.bool n3) (kQ ((aO (aU (⟨[],[],[],[],1,1⟩:ar))).2) (0) w  (by first|omega|(have:=eu _;omega)))))) O<|R.u 1 O<|R.qg O (q.aT (off':=4) O bW O) O<|R.qg O (q.ld 0 O O aA O) O<|R.qg O (q.eql O O (beq_iff_eq.2 (by omega))) O<|R.u 3 O<|R.qg O (q.build (cs:=[.string (⟨#[120]⟩),.string (⟨#[48,48,48,49,48,48,48,49]⟩),.bool false]) kJ O O) O<|R.s O (s.bs (l:=([(⟨⟨#[120]⟩,⟨#[48,48,48,49,48,48,48,49]⟩,false⟩:Change)]:List Change)) bL dI O O O O O O O) fun b2=>R.cg O (q.call ym O O (fun w hw=>(cv (congrArg Value.bool n5) (gR _ (aU (⟨[],[],[],[],1,1⟩:ar)) _ ([(⟨⟨#[120]⟩,⟨#[48,48,48,49,48,48,48,49]⟩,false⟩:Change)]) w (hw.bq 4 O) (hw.row 0 O) )))) O<|R.u 2 O<|R.nil ?_
 exact R.rv O Tryz.results6 O (rB (by (first|rfl|(exfalso;omega))))
set_option maxRecDepth 100000 in
set_option maxHeartbeats 4000000 in
theorem sH (bG:Value)(l:List gL)(dC:Value)(rows:List Change)(cE:Value)(others:List Change)(w:World)(df:Sl w bG l)(Bc:∀x∈l,Sl w x.cv x.Changes)(CS:Sl w dC rows)(wQ:Sl w cE others)(ht:wh w):Calls Tryz.prog 3 #[bG,dC,cE] w fun e w'=>e = .returned (.bool true)∧Ext w w':=by
 have pV:=df.ec
 have Je:=CS.ec
 have Ig:=wQ.ec
 refine R.enter (n:=179) (vs:=[bG,dC,cE]) [] [(0,bG),(1,dC),(2,cE)] Tryz.func3 O O O O ?_
 refine R.qd (r:=bR) ht (ux ht) ?_
 refine R.Au df ?_
 refine R.qd (r:=ag.acts l) Bc (yk Bc) ?_
 refine R.Au CS ?_
 refine R.Au wQ ?_
 refine R.reg O<|R.u 1 O<|R.nil ?_
 refine R.reg O<|R.c (q.call II O O (fun w hw=>(xW  w  (by exact hw.okF bR (by repeat (first|exact List.Mem.head _|refine List.Mem.tail _ ?_)))))) O<|R.u 1 O<|R.nil ?_
 refine R.reg O<|R.u 4 O<|?_
 rcases Bool.eq_false_or_eq_true (mD l 50) with h1|h1
 ·
  refine R.cg O (q.call GQ O O (fun w hw=>(cv (congrArg Value.bool h1) (rU _ (l) (50) w (hw.bq 3 O) (hw.acts 2 O) )))) O<|R.u 4 O<|?_
  rcases Bool.eq_false_or_eq_true (iu rows 70) with h2|h2
  ·
   refine R.cg O (q.call zj O O (fun w hw=>(cv (congrArg Value.bool h2) (iK _ (rows) (70) w (hw.bq 1 O) )))) O<|R.u 4 O<|?_
   rcases Bool.eq_false_or_eq_true (iu others 70) with h3|h3
   ·
    refine R.cg O (q.call zj O O (fun w hw=>(cv (congrArg Value.bool h3) (iK _ (others) (70) w (hw.bq 0 O) )))) O<|R.u 2 O<|R.nil ?_
    refine R.aF O O ?_
    have hll:=xe (l:=l) (most:=50) ‹_›;have hlr:=rQ (l:=rows) (m:=70) ‹_›;have hlo:=rQ (l:=others) (m:=70) ‹_›;have hcr:=xV (l:=rows) ‹_›
    refine R.reg O<|R.s (B':=(fun g_:Value×Value×Value×Value=>[])) (F':=(fun g_=>[ag.ls g_.1 (((⟨[],[],[],[],1,1⟩:ar)).ai:List ak),ag.ls g_.2.1 (((⟨[],[],[],[],1,1⟩:ar)).Things:List ao),ag.ls g_.2.2.1 (((⟨[],[],[],[],1,1⟩:ar)).Held:List Held),ag.ls g_.2.2.2 (((⟨[],[],[],[],1,1⟩:ar)).Notes:List Note),ag.ls cE others,ag.ls dC rows,ag.acts l,ag.ls bG l,bR])) O (s.bP (B0:=[]) (Br:=[]) (F0:=[]) [] [] (fun g_:Value×Value×Value×Value => .agg #[g_.1,g_.2.1,g_.2.2.1,g_.2.2.2,iV (((⟨[],[],[],[],1,1⟩:ar)).ae),iV (((⟨[],[],[],[],1,1⟩:ar)).af)]) (fun g_=>[]) (fun g_=>[ag.ls g_.1 (((⟨[],[],[],[],1,1⟩:ar)).ai:List ak),ag.ls g_.2.1 (((⟨[],[],[],[],1,1⟩:ar)).Things:List ao),ag.ls g_.2.2.1 (((⟨[],[],[],[],1,1⟩:ar)).Held:List Held),ag.ls g_.2.2.2 (((⟨[],[],[],[],1,1⟩:ar)).Notes:List Note)]) O O O GR O O (fun w own hw H=>vI  w own H ) O) ?_
    rintro ⟨z1,z2,z3,z4⟩
    dsimp only
    refine R.s O (s.alloc (cs:=aG) cp O O) fun b1=>R.s O (s.dy (us:=[z1,z2,z3,z4,iV ((⟨[],[],[],[],1,1⟩:ar).ae),iV ((⟨[],[],[],[],1,1⟩:ar).af)]) (cs':=[z1,z2,z3,z4,iV ((⟨[],[],[],[],1,1⟩:ar).ae),iV ((⟨[],[],[],[],1,1⟩:ar).af)]) 0 _ O O O (fun _ _=>rfl) (.inl ap) (fun w hw=>(ah (Sl.one (hw.bq 0 O)) (ah (Sl.one (hw.bq 1 O)) (ah (Sl.one (hw.bq 2 O)) (ah (Sl.one (hw.bq 3 O)) (ah O (ah O aL))))))) O O O) fun _=>R.nil ?_
    refine R.reg O<|R.s (B':=(fun g_:Value×Value×Value×Value=>[ag.box b1 [z1,z2,z3,z4,iV (1),iV (1)] 32])) (F':=(fun g_=>[ag.ls g_.1 (((⟨[],[],[],[],1,1⟩:ar)).ai:List ak),ag.ls g_.2.1 (((⟨[],[],[],[],1,1⟩:ar)).Things:List ao),ag.ls g_.2.2.1 (((⟨[],[],[],[],1,1⟩:ar)).Held:List Held),ag.ls g_.2.2.2 (((⟨[],[],[],[],1,1⟩:ar)).Notes:List Note),ag.ls z1 (([]):List ak),ag.ls z2 (([]):List ao),ag.ls z3 (([]):List Held),ag.ls z4 (([]):List Note),ag.ls cE others,ag.ls dC rows,ag.acts l,ag.ls bG l,bR])) O (s.bP (B0:=[]) (Br:=[ag.box b1 [z1,z2,z3,z4,iV ((⟨[],[],[],[],1,1⟩:ar).ae),iV ((⟨[],[],[],[],1,1⟩:ar).af)] 32]) (F0:=[]) [0] [] (fun g_:Value×Value×Value×Value => .agg #[g_.1,g_.2.1,g_.2.2.1,g_.2.2.2,iV (((⟨[],[],[],[],1,1⟩:ar)).ae),iV (((⟨[],[],[],[],1,1⟩:ar)).af)]) (fun g_=>[]) (fun g_=>[ag.ls g_.1 (((⟨[],[],[],[],1,1⟩:ar)).ai:List ak),ag.ls g_.2.1 (((⟨[],[],[],[],1,1⟩:ar)).Things:List ao),ag.ls g_.2.2.1 (((⟨[],[],[],[],1,1⟩:ar)).Held:List Held),ag.ls g_.2.2.2 (((⟨[],[],[],[],1,1⟩:ar)).Notes:List Note)]) O O O GU O O (fun w own hw H=>CJ  w own H ) O) ?_
    rintro ⟨z5,z6,z7,z8⟩
    dsimp only
    refine R.s O (s.alloc (cs:=aG) cp O O) fun b2=>R.s O (s.dy (us:=[z5,z6,z7,z8,iV ((⟨[],[],[],[],1,1⟩:ar).ae),iV ((⟨[],[],[],[],1,1⟩:ar).af)]) (cs':=[z5,z6,z7,z8,iV ((⟨[],[],[],[],1,1⟩:ar).ae),iV ((⟨[],[],[],[],1,1⟩:ar).af)]) 0 _ O O O (fun _ _=>rfl) (.inl ap) (fun w hw=>(ah (Sl.one (hw.bq 0 O)) (ah (Sl.one (hw.bq 1 O)) (ah (Sl.one (hw.bq 2 O)) (ah (Sl.one (hw.bq 3 O)) (ah O (ah O aL))))))) O O O) fun _=>R.nil ?_
    refine R.reg O<|R.u 1 O<|R.nil ?_
    refine R.loop (fun g_:Nat×Value×Value×Value×Value×ar×Value×Value×Value×Value=>[(0,bG),(1,dC),(2,cE),(8,.pointer (some ⟨b1,0,none⟩)),(9,.pointer (some ⟨b2,0,none⟩)),(10,iV (g_.1:Int))]) (fun g_=>[ag.box b2 [g_.2.1,g_.2.2.1,g_.2.2.2.1,g_.2.2.2.2.1,iV g_.2.2.2.2.2.1.ae,iV g_.2.2.2.2.2.1.af] 32,ag.box b1 [g_.2.2.2.2.2.2.1,g_.2.2.2.2.2.2.2.1,g_.2.2.2.2.2.2.2.2.1,g_.2.2.2.2.2.2.2.2.2,iV g_.2.2.2.2.2.1.ae,iV g_.2.2.2.2.2.1.af] 32]) (fun g_=>[ag.ls g_.2.1 g_.2.2.2.2.2.1.ai,ag.ls g_.2.2.1 g_.2.2.2.2.2.1.Things,ag.ls g_.2.2.2.1 g_.2.2.2.2.2.1.Held,ag.ls g_.2.2.2.2.1 g_.2.2.2.2.2.1.Notes,ag.ls g_.2.2.2.2.2.2.1 g_.2.2.2.2.2.1.ai,ag.ls g_.2.2.2.2.2.2.2.1 g_.2.2.2.2.2.1.Things,ag.ls g_.2.2.2.2.2.2.2.2.1 g_.2.2.2.2.2.1.Held,ag.ls g_.2.2.2.2.2.2.2.2.2 g_.2.2.2.2.2.1.Notes,ag.ls z5 ((⟨[],[],[],[],1,1⟩:ar).ai:List ak),ag.ls z6 ((⟨[],[],[],[],1,1⟩:ar).Things:List ao),ag.ls z7 ((⟨[],[],[],[],1,1⟩:ar).Held:List Held),ag.ls z8 ((⟨[],[],[],[],1,1⟩:ar).Notes:List Note),ag.ls z1 ((⟨[],[],[],[],1,1⟩:ar).ai:List ak),ag.ls z2 ((⟨[],[],[],[],1,1⟩:ar).Things:List ao),ag.ls z3 ((⟨[],[],[],[],1,1⟩:ar).Held:List Held),ag.ls z4 ((⟨[],[],[],[],1,1⟩:ar).Notes:List Note),ag.ls cE others,ag.ls dC rows,ag.acts l,ag.ls bG l,bR]) (fun g_=>g_.1≤l.length∧Inv g_.2.2.2.2.2.1∧Sz g_.1 g_.2.2.2.2.2.1) (fun g_=>l.length-g_.1) (0,z5,z6,z7,z8,(⟨[],[],[],[],1,1⟩:ar),z1,z2,z3,z4) O (by dsimp only;exact ⟨by omega,Inv.new,Sz.new⟩) ⟨rfl,rfl,rfl,rfl,rfl,rfl,trivial⟩ (fun _=>Wd.pick [0,1] [0,1,2,3,4,5,6,7,0,1,2,3,4,5,6,7,8,9,10,11,12] O O O) ?_
    rintro ⟨i,fW,fX,fY,fZ,r1,dS,dU,dV,dW⟩ ⟨hi,hI,hz⟩
    dsimp only at *
    have hk:Ok r1:=hz.ok (by omega)
    refine R.reg O<|R.u 2 O<|R.q (q.len' (bJ 19 O) O Tryz.underlying22) O<|?_
    by_cases h4:i<l.length
    ·
     refine R.q (q.lss O O (decide_eq_true (by omega))) O<|R.nil ?_
     refine R.aE O O ?_
     obtain ⟨x1,hx1⟩:∃z,l[i]? = some z:=⟨_,List.getElem?_eq_getElem (by omega)⟩
     refine R.e8 (fuel:=12) (Wd w [] [ag.box b2 [fW,fX,fY,fZ,iV r1.ae,iV r1.af] 32,ag.box b1 [dS,dU,dV,dW,iV r1.ae,iV r1.af] 32] [ag.ls fW r1.ai,ag.ls fX r1.Things,ag.ls fY r1.Held,ag.ls fZ r1.Notes,ag.ls dS r1.ai,ag.ls dU r1.Things,ag.ls dV r1.Held,ag.ls dW r1.Notes,ag.ls z5 ((⟨[],[],[],[],1,1⟩:ar).ai:List ak),ag.ls z6 ((⟨[],[],[],[],1,1⟩:ar).Things:List ao),ag.ls z7 ((⟨[],[],[],[],1,1⟩:ar).Held:List Held),ag.ls z8 ((⟨[],[],[],[],1,1⟩:ar).Notes:List Note),ag.ls z1 ((⟨[],[],[],[],1,1⟩:ar).ai:List ak),ag.ls z2 ((⟨[],[],[],[],1,1⟩:ar).Things:List ao),ag.ls z3 ((⟨[],[],[],[],1,1⟩:ar).Held:List Held),ag.ls z4 ((⟨[],[],[],[],1,1⟩:ar).Notes:List Note),ag.ls cE others,ag.ls dC rows,ag.acts l,ag.ls bG l,bR]) O mixed O ?_
     refine D.q (i:=0) O (by kernel_rfl) (aK [0,1] lP O O O) O (q.cj 1 O O ap) O<|D.q (i:=1) O (by kernel_rfl) (aK [0,1] lP O O O) O (q.mv O) O<|D.q (i:=2) O (by kernel_rfl) (aK [0,1] lP O O O) O (q.mv O) O<|D.q (i:=3) O (by kernel_rfl) (aK [0,1] lP O O O) O (q.idx (i:=i) (bJ 19 O) O O q9 O hx1) O<|D.q (i:=4) O (by kernel_rfl) (aK [0,1] lP O O O) O (q.cY (ds:=dG x1) (bJ 19 O) hx1 O tQ O) O<|D.two (i:=5) (j:=9) (by kernel_rfl) O O ?_ ?_
     ·
      refine Do.s (B':=(fun g_:Value×Value×Value×Value=>[ag.box b2 [fW,fX,fY,fZ,iV r1.ae,iV r1.af] 32,ag.box b1 [dS,dU,dV,dW,iV r1.ae,iV r1.af] 32])) (F':=(fun g_=>[ag.ls g_.1 (((cr r1 x1)).1).ai,ag.ls g_.2.1 (((cr r1 x1)).1).Things,ag.ls g_.2.2.1 (((cr r1 x1)).1).Held,ag.ls g_.2.2.2 (((cr r1 x1)).1).Notes,ag.ls fW r1.ai,ag.ls fX r1.Things,ag.ls fY r1.Held,ag.ls fZ r1.Notes,ag.ls dS r1.ai,ag.ls dU r1.Things,ag.ls dV r1.Held,ag.ls dW r1.Notes,ag.ls z5 (([]):List ak),ag.ls z6 (([]):List ao),ag.ls z7 (([]):List Held),ag.ls z8 (([]):List Note),ag.ls z1 (([]):List ak),ag.ls z2 (([]):List ao),ag.ls z3 (([]):List Held),ag.ls z4 (([]):List Note),ag.ls cE others,ag.ls dC rows,ag.acts l,ag.ls bG l,bR])) (s.bP (B0:=[]) (Br:=[ag.box b2 [fW,fX,fY,fZ,iV r1.ae,iV r1.af] 32,ag.box b1 [dS,dU,dV,dW,iV r1.ae,iV r1.af] 32]) (F0:=[ag.ls dS r1.ai,ag.ls dU r1.Things,ag.ls dV r1.Held,ag.ls dW r1.Notes]) [0,1] [4,5,6,7] (fun g_:Value×Value×Value×Value => .tuple #[.agg #[g_.1,g_.2.1,g_.2.2.1,g_.2.2.2,iV ((((cr r1 x1)).1).ae),iV ((((cr r1 x1)).1).af)],fc (((cr r1 x1)).2)]) (fun g_=>[]) (fun g_=>[ag.ls g_.1 (((cr r1 x1)).1).ai,ag.ls g_.2.1 (((cr r1 x1)).1).Things,ag.ls g_.2.2.1 (((cr r1 x1)).1).Held,ag.ls g_.2.2.2 (((cr r1 x1)).1).Notes]) O O O Ew O O (fun w own hw H=>yH dS dU dV dW (r1) (x1) w own H ‹_›) O) (fun _=>(aK [0,1] kA O O O)) O ?_
      rintro ⟨qx,qy,qA,qB⟩
      dsimp only
      refine D.q (i:=6) O (by kernel_rfl) (aK [0,1] kA O O O) O (q.mv O) O<|D.q (i:=7) O (by kernel_rfl) (aK [0,1] kA O O O) O (q.ext O O) O<|D.q (i:=8) O (by kernel_rfl) (aK [0,1] kA O O O) O (q.ext O O) O<|D.one (i:=9) (by kernel_rfl) O ?_
      refine Do.s (s.alloc (cs:=aG) cp O O) (fun _=>(aK [1,2] kA O O O)) O fun b3=>D.one (i:=10) (by kernel_rfl) O ?_
      refine Do.s (s.dy (us:=[qx,qy,qA,qB,iV (((cr r1 x1).1).ae),iV (((cr r1 x1).1).af)]) (cs':=[qx,qy,qA,qB,iV (((cr r1 x1).1).ae),iV (((cr r1 x1).1).af)]) 0 _ O O O (fun _ _=>rfl) (.inl ap) (fun w hw=>(ah (Sl.one (hw.bq 0 O)) (ah (Sl.one (hw.bq 1 O)) (ah (Sl.one (hw.bq 2 O)) (ah (Sl.one (hw.bq 3 O)) (ah O (ah O aL))))))) O O O) (fun _=>(aK [1,2] kA O O O)) O fun _=>D.q (i:=11) O (by kernel_rfl) (aK [1,2] kA O O O) O (q.as O) O<|D.done (by kernel_rfl)<|R.e8 (fuel:=12) (Wd w [] [ag.box b3 [qx,qy,qA,qB,iV (((cr r1 x1).1).ae),iV (((cr r1 x1).1).af)] 32,ag.box b2 [fW,fX,fY,fZ,iV r1.ae,iV r1.af] 32,ag.box b1 [dS,dU,dV,dW,iV r1.ae,iV r1.af] 32] [ag.ls qx ((cr r1 x1).1).ai,ag.ls qy ((cr r1 x1).1).Things,ag.ls qA ((cr r1 x1).1).Held,ag.ls qB ((cr r1 x1).1).Notes,ag.ls fW r1.ai,ag.ls fX r1.Things,ag.ls fY r1.Held,ag.ls fZ r1.Notes,ag.ls dS r1.ai,ag.ls dU r1.Things,ag.ls dV r1.Held,ag.ls dW r1.Notes,ag.ls z5 ((⟨[],[],[],[],1,1⟩:ar).ai:List ak),ag.ls z6 ((⟨[],[],[],[],1,1⟩:ar).Things:List ao),ag.ls z7 ((⟨[],[],[],[],1,1⟩:ar).Held:List Held),ag.ls z8 ((⟨[],[],[],[],1,1⟩:ar).Notes:List Note),ag.ls z1 ((⟨[],[],[],[],1,1⟩:ar).ai:List ak),ag.ls z2 ((⟨[],[],[],[],1,1⟩:ar).Things:List ao),ag.ls z3 ((⟨[],[],[],[],1,1⟩:ar).Held:List Held),ag.ls z4 ((⟨[],[],[],[],1,1⟩:ar).Notes:List Note),ag.ls cE others,ag.ls dC rows,ag.acts l,ag.ls bG l,bR]) O mixed O ?_
      refine D.q (i:=0) O (by kernel_rfl) (aK [0,1,2] lQ O O O) O (q.cj 1 O O ap) O<|D.q (i:=1) O (by kernel_rfl) (aK [0,1,2] lQ O O O) O (q.mv O) O<|D.q (i:=2) O (by kernel_rfl) (aK [0,1,2] lQ O O O) O (q.mv O) O<|D.q (i:=3) O (by kernel_rfl) (aK [0,1,2] lQ O O O) O (q.idx (i:=i) (bJ 23 O) O O q9 O hx1) O<|D.q (i:=4) O (by kernel_rfl) (aK [0,1,2] lQ O O O) O (q.cY (ds:=dG x1) (bJ 23 O) hx1 O tQ O) O<|D.two (i:=5) (j:=9) (by kernel_rfl) O O ?_ ?_
      ·
       refine Do.s (B':=(fun g_:Value×Value×Value×Value=>[ag.box b3 [qx,qy,qA,qB,iV (((cr r1 x1).1).ae),iV (((cr r1 x1).1).af)] 32,ag.box b2 [fW,fX,fY,fZ,iV r1.ae,iV r1.af] 32,ag.box b1 [dS,dU,dV,dW,iV r1.ae,iV r1.af] 32])) (F':=(fun g_=>[ag.ls g_.1 (((cr r1 x1)).1).ai,ag.ls g_.2.1 (((cr r1 x1)).1).Things,ag.ls g_.2.2.1 (((cr r1 x1)).1).Held,ag.ls g_.2.2.2 (((cr r1 x1)).1).Notes,ag.ls qx ((cr r1 x1).1).ai,ag.ls qy ((cr r1 x1).1).Things,ag.ls qA ((cr r1 x1).1).Held,ag.ls qB ((cr r1 x1).1).Notes,ag.ls fW r1.ai,ag.ls fX r1.Things,ag.ls fY r1.Held,ag.ls fZ r1.Notes,ag.ls dS r1.ai,ag.ls dU r1.Things,ag.ls dV r1.Held,ag.ls dW r1.Notes,ag.ls z5 (([]):List ak),ag.ls z6 (([]):List ao),ag.ls z7 (([]):List Held),ag.ls z8 (([]):List Note),ag.ls z1 (([]):List ak),ag.ls z2 (([]):List ao),ag.ls z3 (([]):List Held),ag.ls z4 (([]):List Note),ag.ls cE others,ag.ls dC rows,ag.acts l,ag.ls bG l,bR])) (s.bP (B0:=[]) (Br:=[ag.box b3 [qx,qy,qA,qB,iV (((cr r1 x1).1).ae),iV (((cr r1 x1).1).af)] 32,ag.box b2 [fW,fX,fY,fZ,iV r1.ae,iV r1.af] 32,ag.box b1 [dS,dU,dV,dW,iV r1.ae,iV r1.af] 32]) (F0:=[ag.ls fW r1.ai,ag.ls fX r1.Things,ag.ls fY r1.Held,ag.ls fZ r1.Notes]) [0,1,2] [4,5,6,7] (fun g_:Value×Value×Value×Value => .tuple #[.agg #[g_.1,g_.2.1,g_.2.2.1,g_.2.2.2,iV ((((cr r1 x1)).1).ae),iV ((((cr r1 x1)).1).af)],iV (((cr r1 x1)).2)]) (fun g_=>[]) (fun g_=>[ag.ls g_.1 (((cr r1 x1)).1).ai,ag.ls g_.2.1 (((cr r1 x1)).1).Things,ag.ls g_.2.2.1 (((cr r1 x1)).1).Held,ag.ls g_.2.2.2 (((cr r1 x1)).1).Notes]) O O O yl O O (fun w own hw H=>qG fW fX fY fZ (r1) (x1) w own H ‹_› ‹_›) O) (fun _=>(aK [0,1,2] iZ O O O)) O ?_
       rintro ⟨z21,z22,z23,z24⟩
       dsimp only
       refine D.q (i:=6) O (by kernel_rfl) (aK [0,1,2] iZ O O O) O (q.mv O) O<|D.q (i:=7) O (by kernel_rfl) (aK [0,1,2] iZ O O O) O (q.ext O O) O<|D.q (i:=8) O (by kernel_rfl) (aK [0,1,2] iZ O O O) O (q.ext O O) O<|D.one (i:=9) (by kernel_rfl) O ?_
       refine Do.s (s.alloc (cs:=aG) cp O O) (fun _=>(aK [1,2,3] iZ O O O)) O fun b4=>D.one (i:=10) (by kernel_rfl) O ?_
       refine Do.s (s.dy (us:=[z21,z22,z23,z24,iV (((cr r1 x1).1).ae),iV (((cr r1 x1).1).af)]) (cs':=[z21,z22,z23,z24,iV (((cr r1 x1).1).ae),iV (((cr r1 x1).1).af)]) 0 _ O O O (fun _ _=>rfl) (.inl ap) (fun w hw=>(ah (Sl.one (hw.bq 0 O)) (ah (Sl.one (hw.bq 1 O)) (ah (Sl.one (hw.bq 2 O)) (ah (Sl.one (hw.bq 3 O)) (ah O (ah O aL))))))) O O O) (fun _=>(aK [1,2,3] iZ O O O)) O fun _=>D.q (i:=11) O (by kernel_rfl) (aK [1,2,3] iZ O O O) O (q.as O) O<|D.done (by kernel_rfl)<|?_
       have Jf:=m9 (r:=r1) x1;have Ga:decide ((cr r1 x1).2=(cr r1 x1).2)=true:=decide_eq_true rfl
       refine R.reg O<|R.u 2 O<|R.c (q.call sR O O (fun w hw=>(cv (congrArg Value.bool Ga) (kQ ((cr r1 x1).2) ((cr r1 x1).2) w  (by first|omega|(have:=eu _;omega)))))) O<|R.u 1 O<|R.nil ?_
       refine R.aF O O ?_
       refine R.reg O<|R.u 1 O<|?_
       by_cases h5:(cr r1 x1).2=0
       ·
        refine R.q (q.eql O O (beq_iff_eq.2 (by omega))) O<|R.nil ?_
        refine R.aE O O ?_
        refine R.reg O<|R.q (q.cj 1 O O ap) O<|R.s O (s.dy (us:=[qx,qy,qA,qB,iV (((cr r1 x1).1).ae),iV (((cr r1 x1).1).af)]) (cs':=[qx,qy,qA,qB,iV (((cr r1 x1).1).ae),iV (((cr r1 x1).1).af)]) 3 _ O O O (fun _ _=>rfl) (.inl ap) (fun w hw=>(ah (Sl.one (hw.bq 4 O)) (ah (Sl.one (hw.bq 5 O)) (ah (Sl.one (hw.bq 6 O)) (ah (Sl.one (hw.bq 7 O)) (ah O (ah O aL))))))) O O O) fun _=>R.nil ?_
        refine R.reg O<|R.q (q.cj 0 O O ap) O<|R.s O (s.dy (us:=[z21,z22,z23,z24,iV (((cr r1 x1).1).ae),iV (((cr r1 x1).1).af)]) (cs':=[z21,z22,z23,z24,iV (((cr r1 x1).1).ae),iV (((cr r1 x1).1).af)]) 2 _ O O O (fun _ _=>rfl) (.inl ap) (fun w hw=>(ah (Sl.one (hw.bq 0 O)) (ah (Sl.one (hw.bq 1 O)) (ah (Sl.one (hw.bq 2 O)) (ah (Sl.one (hw.bq 3 O)) (ah O (ah O aL))))))) O O O) fun _=>R.nil ?_
        refine R.reg O<|R.u 1 O<|R.q (q.add (r:=((i+1:Nat):Int)) O O (wr (by omega))) O<|R.u 1 O<|R.nil ?_
        refine R.back (i+1,z21,z22,z23,z24,((cr r1 x1).1),qx,qy,qA,qB) O (by ((try dsimp only);exact ⟨by omega,hI.do ‹_›,yF hz x1⟩)) (by dsimp only;omega) ⟨rfl,rfl,rfl,rfl,rfl,rfl,trivial⟩ (aK [2,3] ya O O O)
       ·
        refine R.q (q.eql O O (beq_eq_false_iff_ne.2 (by omega))) O<|R.nil ?_
        refine R.aF O O ?_
        refine R.reg O<|R.u 1 O<|R.q (q.add (r:=((i+1:Nat):Int)) O O (wr (by omega))) O<|R.u 1 O<|R.nil ?_
        refine R.back (i+1,fW,fX,fY,fZ,r1,dS,dU,dV,dW) O (by ((try dsimp only);exact ⟨by omega,hI,hz.up (by omega)⟩)) (by dsimp only;omega) ⟨rfl,rfl,rfl,rfl,rfl,rfl,trivial⟩ (aK [2,3] yb O O O)
      ·
       refine Do.s (s.alloc (cs:=aG) cp O O) (fun _=>(aK [1,2,3] lQ O O O)) O fun b5=>D.one (i:=5) (by kernel_rfl) O ?_
       refine Do.s (B':=(fun g_:Value×Value×Value×Value=>[ag.box b5 aG 32,ag.box b3 [qx,qy,qA,qB,iV (((cr r1 x1).1).ae),iV (((cr r1 x1).1).af)] 32,ag.box b2 [fW,fX,fY,fZ,iV r1.ae,iV r1.af] 32,ag.box b1 [dS,dU,dV,dW,iV r1.ae,iV r1.af] 32])) (F':=(fun g_=>[ag.ls g_.1 (((cr r1 x1)).1).ai,ag.ls g_.2.1 (((cr r1 x1)).1).Things,ag.ls g_.2.2.1 (((cr r1 x1)).1).Held,ag.ls g_.2.2.2 (((cr r1 x1)).1).Notes,ag.ls qx ((cr r1 x1).1).ai,ag.ls qy ((cr r1 x1).1).Things,ag.ls qA ((cr r1 x1).1).Held,ag.ls qB ((cr r1 x1).1).Notes,ag.ls fW r1.ai,ag.ls fX r1.Things,ag.ls fY r1.Held,ag.ls fZ r1.Notes,ag.ls dS r1.ai,ag.ls dU r1.Things,ag.ls dV r1.Held,ag.ls dW r1.Notes,ag.ls z5 (([]):List ak),ag.ls z6 (([]):List ao),ag.ls z7 (([]):List Held),ag.ls z8 (([]):List Note),ag.ls z1 (([]):List ak),ag.ls z2 (([]):List ao),ag.ls z3 (([]):List Held),ag.ls z4 (([]):List Note),ag.ls cE others,ag.ls dC rows,ag.acts l,ag.ls bG l,bR])) (s.bP (B0:=[]) (Br:=[ag.box b5 aG 32,ag.box b3 [qx,qy,qA,qB,iV (((cr r1 x1).1).ae),iV (((cr r1 x1).1).af)] 32,ag.box b2 [fW,fX,fY,fZ,iV r1.ae,iV r1.af] 32,ag.box b1 [dS,dU,dV,dW,iV r1.ae,iV r1.af] 32]) (F0:=[ag.ls fW r1.ai,ag.ls fX r1.Things,ag.ls fY r1.Held,ag.ls fZ r1.Notes]) bm [4,5,6,7] (fun g_:Value×Value×Value×Value => .tuple #[.agg #[g_.1,g_.2.1,g_.2.2.1,g_.2.2.2,iV ((((cr r1 x1)).1).ae),iV ((((cr r1 x1)).1).af)],iV (((cr r1 x1)).2)]) (fun g_=>[]) (fun g_=>[ag.ls g_.1 (((cr r1 x1)).1).ai,ag.ls g_.2.1 (((cr r1 x1)).1).Things,ag.ls g_.2.2.1 (((cr r1 x1)).1).Held,ag.ls g_.2.2.2 (((cr r1 x1)).1).Notes]) O O O yl O O (fun w own hw H=>qG fW fX fY fZ (r1) (x1) w own H ‹_› ‹_›) O) (fun _=>(aK [1,2,3] iZ O O O)) O ?_
       rintro ⟨z25,z26,z27,z28⟩
       dsimp only
       refine D.q (i:=6) O (by kernel_rfl) (aK [1,2,3] iZ O O O) O (q.mv O) O<|D.q (i:=7) O (by kernel_rfl) (aK [1,2,3] iZ O O O) O (q.ext O O) O<|D.q (i:=8) O (by kernel_rfl) (aK [1,2,3] iZ O O O) O (q.ext O O) O<|D.one (i:=10) (by kernel_rfl) O ?_
       refine Do.s (s.dy (us:=[z25,z26,z27,z28,iV (((cr r1 x1).1).ae),iV (((cr r1 x1).1).af)]) (cs':=[z25,z26,z27,z28,iV (((cr r1 x1).1).ae),iV (((cr r1 x1).1).af)]) 0 _ O O O (fun _ _=>rfl) (.inl ap) (fun w hw=>(ah (Sl.one (hw.bq 0 O)) (ah (Sl.one (hw.bq 1 O)) (ah (Sl.one (hw.bq 2 O)) (ah (Sl.one (hw.bq 3 O)) (ah O (ah O aL))))))) O O O) (fun _=>(aK [1,2,3] iZ O O O)) O fun _=>D.q (i:=11) O (by kernel_rfl) (aK [1,2,3] iZ O O O) O (q.as O) O<|D.done (by kernel_rfl)<|?_
       have Jf:=m9 (r:=r1) x1;have Ga:decide ((cr r1 x1).2=(cr r1 x1).2)=true:=decide_eq_true rfl
       refine R.reg O<|R.u 2 O<|R.c (q.call sR O O (fun w hw=>(cv (congrArg Value.bool Ga) (kQ ((cr r1 x1).2) ((cr r1 x1).2) w  (by first|omega|(have:=eu _;omega)))))) O<|R.u 1 O<|R.nil ?_
       refine R.aF O O ?_
       refine R.reg O<|R.u 1 O<|?_
       by_cases h6:(cr r1 x1).2=0
       ·
        refine R.q (q.eql O O (beq_iff_eq.2 (by omega))) O<|R.nil ?_
        refine R.aE O O ?_
        refine R.reg O<|R.q (q.cj 1 O O ap) O<|R.s O (s.dy (us:=[qx,qy,qA,qB,iV (((cr r1 x1).1).ae),iV (((cr r1 x1).1).af)]) (cs':=[qx,qy,qA,qB,iV (((cr r1 x1).1).ae),iV (((cr r1 x1).1).af)]) 3 _ O O O (fun _ _=>rfl) (.inl ap) (fun w hw=>(ah (Sl.one (hw.bq 4 O)) (ah (Sl.one (hw.bq 5 O)) (ah (Sl.one (hw.bq 6 O)) (ah (Sl.one (hw.bq 7 O)) (ah O (ah O aL))))))) O O O) fun _=>R.nil ?_
        refine R.reg O<|R.q (q.cj 0 O O ap) O<|R.s O (s.dy (us:=[z25,z26,z27,z28,iV (((cr r1 x1).1).ae),iV (((cr r1 x1).1).af)]) (cs':=[z25,z26,z27,z28,iV (((cr r1 x1).1).ae),iV (((cr r1 x1).1).af)]) 2 _ O O O (fun _ _=>rfl) (.inl ap) (fun w hw=>(ah (Sl.one (hw.bq 0 O)) (ah (Sl.one (hw.bq 1 O)) (ah (Sl.one (hw.bq 2 O)) (ah (Sl.one (hw.bq 3 O)) (ah O (ah O aL))))))) O O O) fun _=>R.nil ?_
        refine R.reg O<|R.u 1 O<|R.q (q.add (r:=((i+1:Nat):Int)) O O (wr (by omega))) O<|R.u 1 O<|R.nil ?_
        refine R.back (i+1,z25,z26,z27,z28,((cr r1 x1).1),qx,qy,qA,qB) O (by ((try dsimp only);exact ⟨by omega,hI.do ‹_›,yF hz x1⟩)) (by dsimp only;omega) ⟨rfl,rfl,rfl,rfl,rfl,rfl,trivial⟩ (aK [2,3] ya O O O)
       ·
        refine R.q (q.eql O O (beq_eq_false_iff_ne.2 (by omega))) O<|R.nil ?_
        refine R.aF O O ?_
        refine R.reg O<|R.u 1 O<|R.q (q.add (r:=((i+1:Nat):Int)) O O (wr (by omega))) O<|R.u 1 O<|R.nil ?_
        refine R.back (i+1,fW,fX,fY,fZ,r1,dS,dU,dV,dW) O (by ((try dsimp only);exact ⟨by omega,hI,hz.up (by omega)⟩)) (by dsimp only;omega) ⟨rfl,rfl,rfl,rfl,rfl,rfl,trivial⟩ (aK [2,3] yb O O O)
     ·
      refine Do.s (s.alloc (cs:=aG) cp O O) (fun _=>(aK [1,2] lP O O O)) O fun b6=>D.one (i:=5) (by kernel_rfl) O ?_
      refine Do.s (B':=(fun g_:Value×Value×Value×Value=>[ag.box b6 aG 32,ag.box b2 [fW,fX,fY,fZ,iV r1.ae,iV r1.af] 32,ag.box b1 [dS,dU,dV,dW,iV r1.ae,iV r1.af] 32])) (F':=(fun g_=>[ag.ls g_.1 (((cr r1 x1)).1).ai,ag.ls g_.2.1 (((cr r1 x1)).1).Things,ag.ls g_.2.2.1 (((cr r1 x1)).1).Held,ag.ls g_.2.2.2 (((cr r1 x1)).1).Notes,ag.ls fW r1.ai,ag.ls fX r1.Things,ag.ls fY r1.Held,ag.ls fZ r1.Notes,ag.ls dS r1.ai,ag.ls dU r1.Things,ag.ls dV r1.Held,ag.ls dW r1.Notes,ag.ls z5 (([]):List ak),ag.ls z6 (([]):List ao),ag.ls z7 (([]):List Held),ag.ls z8 (([]):List Note),ag.ls z1 (([]):List ak),ag.ls z2 (([]):List ao),ag.ls z3 (([]):List Held),ag.ls z4 (([]):List Note),ag.ls cE others,ag.ls dC rows,ag.acts l,ag.ls bG l,bR])) (s.bP (B0:=[]) (Br:=[ag.box b6 aG 32,ag.box b2 [fW,fX,fY,fZ,iV r1.ae,iV r1.af] 32,ag.box b1 [dS,dU,dV,dW,iV r1.ae,iV r1.af] 32]) (F0:=[ag.ls dS r1.ai,ag.ls dU r1.Things,ag.ls dV r1.Held,ag.ls dW r1.Notes]) [0,1,2] [4,5,6,7] (fun g_:Value×Value×Value×Value => .tuple #[.agg #[g_.1,g_.2.1,g_.2.2.1,g_.2.2.2,iV ((((cr r1 x1)).1).ae),iV ((((cr r1 x1)).1).af)],fc (((cr r1 x1)).2)]) (fun g_=>[]) (fun g_=>[ag.ls g_.1 (((cr r1 x1)).1).ai,ag.ls g_.2.1 (((cr r1 x1)).1).Things,ag.ls g_.2.2.1 (((cr r1 x1)).1).Held,ag.ls g_.2.2.2 (((cr r1 x1)).1).Notes]) O O O Ew O O (fun w own hw H=>yH dS dU dV dW (r1) (x1) w own H ‹_›) O) (fun _=>(aK [1,2] kA O O O)) O ?_
      rintro ⟨z29,z30,z31,z32⟩
      dsimp only
      refine D.q (i:=6) O (by kernel_rfl) (aK [1,2] kA O O O) O (q.mv O) O<|D.q (i:=7) O (by kernel_rfl) (aK [1,2] kA O O O) O (q.ext O O) O<|D.q (i:=8) O (by kernel_rfl) (aK [1,2] kA O O O) O (q.ext O O) O<|D.one (i:=10) (by kernel_rfl) O ?_
      refine Do.s (s.dy (us:=[z29,z30,z31,z32,iV (((cr r1 x1).1).ae),iV (((cr r1 x1).1).af)]) (cs':=[z29,z30,z31,z32,iV (((cr r1 x1).1).ae),iV (((cr r1 x1).1).af)]) 0 _ O O O (fun _ _=>rfl) (.inl ap) (fun w hw=>(ah (Sl.one (hw.bq 0 O)) (ah (Sl.one (hw.bq 1 O)) (ah (Sl.one (hw.bq 2 O)) (ah (Sl.one (hw.bq 3 O)) (ah O (ah O aL))))))) O O O) (fun _=>(aK [1,2] kA O O O)) O fun _=>D.q (i:=11) O (by kernel_rfl) (aK [1,2] kA O O O) O (q.as O) O<|D.done (by kernel_rfl)<|R.e8 (fuel:=12) (Wd w [] [ag.box b6 [z29,z30,z31,z32,iV (((cr r1 x1).1).ae),iV (((cr r1 x1).1).af)] 32,ag.box b2 [fW,fX,fY,fZ,iV r1.ae,iV r1.af] 32,ag.box b1 [dS,dU,dV,dW,iV r1.ae,iV r1.af] 32] [ag.ls z29 ((cr r1 x1).1).ai,ag.ls z30 ((cr r1 x1).1).Things,ag.ls z31 ((cr r1 x1).1).Held,ag.ls z32 ((cr r1 x1).1).Notes,ag.ls fW r1.ai,ag.ls fX r1.Things,ag.ls fY r1.Held,ag.ls fZ r1.Notes,ag.ls dS r1.ai,ag.ls dU r1.Things,ag.ls dV r1.Held,ag.ls dW r1.Notes,ag.ls z5 ((⟨[],[],[],[],1,1⟩:ar).ai:List ak),ag.ls z6 ((⟨[],[],[],[],1,1⟩:ar).Things:List ao),ag.ls z7 ((⟨[],[],[],[],1,1⟩:ar).Held:List Held),ag.ls z8 ((⟨[],[],[],[],1,1⟩:ar).Notes:List Note),ag.ls z1 ((⟨[],[],[],[],1,1⟩:ar).ai:List ak),ag.ls z2 ((⟨[],[],[],[],1,1⟩:ar).Things:List ao),ag.ls z3 ((⟨[],[],[],[],1,1⟩:ar).Held:List Held),ag.ls z4 ((⟨[],[],[],[],1,1⟩:ar).Notes:List Note),ag.ls cE others,ag.ls dC rows,ag.acts l,ag.ls bG l,bR]) O mixed O ?_
      refine D.q (i:=0) O (by kernel_rfl) (aK [0,1,2] lQ O O O) O (q.cj 1 O O ap) O<|D.q (i:=1) O (by kernel_rfl) (aK [0,1,2] lQ O O O) O (q.mv O) O<|D.q (i:=2) O (by kernel_rfl) (aK [0,1,2] lQ O O O) O (q.mv O) O<|D.q (i:=3) O (by kernel_rfl) (aK [0,1,2] lQ O O O) O (q.idx (i:=i) (bJ 23 O) O O q9 O hx1) O<|D.q (i:=4) O (by kernel_rfl) (aK [0,1,2] lQ O O O) O (q.cY (ds:=dG x1) (bJ 23 O) hx1 O tQ O) O<|D.two (i:=5) (j:=9) (by kernel_rfl) O O ?_ ?_
      ·
       refine Do.s (B':=(fun g_:Value×Value×Value×Value=>[ag.box b6 [z29,z30,z31,z32,iV (((cr r1 x1).1).ae),iV (((cr r1 x1).1).af)] 32,ag.box b2 [fW,fX,fY,fZ,iV r1.ae,iV r1.af] 32,ag.box b1 [dS,dU,dV,dW,iV r1.ae,iV r1.af] 32])) (F':=(fun g_=>[ag.ls g_.1 (((cr r1 x1)).1).ai,ag.ls g_.2.1 (((cr r1 x1)).1).Things,ag.ls g_.2.2.1 (((cr r1 x1)).1).Held,ag.ls g_.2.2.2 (((cr r1 x1)).1).Notes,ag.ls z29 ((cr r1 x1).1).ai,ag.ls z30 ((cr r1 x1).1).Things,ag.ls z31 ((cr r1 x1).1).Held,ag.ls z32 ((cr r1 x1).1).Notes,ag.ls fW r1.ai,ag.ls fX r1.Things,ag.ls fY r1.Held,ag.ls fZ r1.Notes,ag.ls dS r1.ai,ag.ls dU r1.Things,ag.ls dV r1.Held,ag.ls dW r1.Notes,ag.ls z5 (([]):List ak),ag.ls z6 (([]):List ao),ag.ls z7 (([]):List Held),ag.ls z8 (([]):List Note),ag.ls z1 (([]):List ak),ag.ls z2 (([]):List ao),ag.ls z3 (([]):List Held),ag.ls z4 (([]):List Note),ag.ls cE others,ag.ls dC rows,ag.acts l,ag.ls bG l,bR])) (s.bP (B0:=[]) (Br:=[ag.box b6 [z29,z30,z31,z32,iV (((cr r1 x1).1).ae),iV (((cr r1 x1).1).af)] 32,ag.box b2 [fW,fX,fY,fZ,iV r1.ae,iV r1.af] 32,ag.box b1 [dS,dU,dV,dW,iV r1.ae,iV r1.af] 32]) (F0:=[ag.ls fW r1.ai,ag.ls fX r1.Things,ag.ls fY r1.Held,ag.ls fZ r1.Notes]) [0,1,2] [4,5,6,7] (fun g_:Value×Value×Value×Value => .tuple #[.agg #[g_.1,g_.2.1,g_.2.2.1,g_.2.2.2,iV ((((cr r1 x1)).1).ae),iV ((((cr r1 x1)).1).af)],iV (((cr r1 x1)).2)]) (fun g_=>[]) (fun g_=>[ag.ls g_.1 (((cr r1 x1)).1).ai,ag.ls g_.2.1 (((cr r1 x1)).1).Things,ag.ls g_.2.2.1 (((cr r1 x1)).1).Held,ag.ls g_.2.2.2 (((cr r1 x1)).1).Notes]) O O O yl O O (fun w own hw H=>qG fW fX fY fZ (r1) (x1) w own H ‹_› ‹_›) O) (fun _=>(aK [0,1,2] iZ O O O)) O ?_
       rintro ⟨z37,z38,z39,z40⟩
       dsimp only
       refine D.q (i:=6) O (by kernel_rfl) (aK [0,1,2] iZ O O O) O (q.mv O) O<|D.q (i:=7) O (by kernel_rfl) (aK [0,1,2] iZ O O O) O (q.ext O O) O<|D.q (i:=8) O (by kernel_rfl) (aK [0,1,2] iZ O O O) O (q.ext O O) O<|D.one (i:=9) (by kernel_rfl) O ?_
       refine Do.s (s.alloc (cs:=aG) cp O O) (fun _=>(aK [1,2,3] iZ O O O)) O fun b7=>D.one (i:=10) (by kernel_rfl) O ?_
       refine Do.s (s.dy (us:=[z37,z38,z39,z40,iV (((cr r1 x1).1).ae),iV (((cr r1 x1).1).af)]) (cs':=[z37,z38,z39,z40,iV (((cr r1 x1).1).ae),iV (((cr r1 x1).1).af)]) 0 _ O O O (fun _ _=>rfl) (.inl ap) (fun w hw=>(ah (Sl.one (hw.bq 0 O)) (ah (Sl.one (hw.bq 1 O)) (ah (Sl.one (hw.bq 2 O)) (ah (Sl.one (hw.bq 3 O)) (ah O (ah O aL))))))) O O O) (fun _=>(aK [1,2,3] iZ O O O)) O fun _=>D.q (i:=11) O (by kernel_rfl) (aK [1,2,3] iZ O O O) O (q.as O) O<|D.done (by kernel_rfl)<|?_
       have Jf:=m9 (r:=r1) x1;have Ga:decide ((cr r1 x1).2=(cr r1 x1).2)=true:=decide_eq_true rfl
       refine R.reg O<|R.u 2 O<|R.c (q.call sR O O (fun w hw=>(cv (congrArg Value.bool Ga) (kQ ((cr r1 x1).2) ((cr r1 x1).2) w  (by first|omega|(have:=eu _;omega)))))) O<|R.u 1 O<|R.nil ?_
       refine R.aF O O ?_
       refine R.reg O<|R.u 1 O<|?_
       by_cases h7:(cr r1 x1).2=0
       ·
        refine R.q (q.eql O O (beq_iff_eq.2 (by omega))) O<|R.nil ?_
        refine R.aE O O ?_
        refine R.reg O<|R.q (q.cj 1 O O ap) O<|R.s O (s.dy (us:=[z29,z30,z31,z32,iV (((cr r1 x1).1).ae),iV (((cr r1 x1).1).af)]) (cs':=[z29,z30,z31,z32,iV (((cr r1 x1).1).ae),iV (((cr r1 x1).1).af)]) 3 _ O O O (fun _ _=>rfl) (.inl ap) (fun w hw=>(ah (Sl.one (hw.bq 4 O)) (ah (Sl.one (hw.bq 5 O)) (ah (Sl.one (hw.bq 6 O)) (ah (Sl.one (hw.bq 7 O)) (ah O (ah O aL))))))) O O O) fun _=>R.nil ?_
        refine R.reg O<|R.q (q.cj 0 O O ap) O<|R.s O (s.dy (us:=[z37,z38,z39,z40,iV (((cr r1 x1).1).ae),iV (((cr r1 x1).1).af)]) (cs':=[z37,z38,z39,z40,iV (((cr r1 x1).1).ae),iV (((cr r1 x1).1).af)]) 2 _ O O O (fun _ _=>rfl) (.inl ap) (fun w hw=>(ah (Sl.one (hw.bq 0 O)) (ah (Sl.one (hw.bq 1 O)) (ah (Sl.one (hw.bq 2 O)) (ah (Sl.one (hw.bq 3 O)) (ah O (ah O aL))))))) O O O) fun _=>R.nil ?_
        refine R.reg O<|R.u 1 O<|R.q (q.add (r:=((i+1:Nat):Int)) O O (wr (by omega))) O<|R.u 1 O<|R.nil ?_
        refine R.back (i+1,z37,z38,z39,z40,((cr r1 x1).1),z29,z30,z31,z32) O (by ((try dsimp only);exact ⟨by omega,hI.do ‹_›,yF hz x1⟩)) (by dsimp only;omega) ⟨rfl,rfl,rfl,rfl,rfl,rfl,trivial⟩ (aK [2,3] ya O O O)
       ·
        refine R.q (q.eql O O (beq_eq_false_iff_ne.2 (by omega))) O<|R.nil ?_
        refine R.aF O O ?_
        refine R.reg O<|R.u 1 O<|R.q (q.add (r:=((i+1:Nat):Int)) O O (wr (by omega))) O<|R.u 1 O<|R.nil ?_
        refine R.back (i+1,fW,fX,fY,fZ,r1,dS,dU,dV,dW) O (by ((try dsimp only);exact ⟨by omega,hI,hz.up (by omega)⟩)) (by dsimp only;omega) ⟨rfl,rfl,rfl,rfl,rfl,rfl,trivial⟩ (aK [2,3] yb O O O)
      ·
       refine Do.s (s.alloc (cs:=aG) cp O O) (fun _=>(aK [1,2,3] lQ O O O)) O fun b8=>D.one (i:=5) (by kernel_rfl) O ?_
       refine Do.s (B':=(fun g_:Value×Value×Value×Value=>[ag.box b8 aG 32,ag.box b6 [z29,z30,z31,z32,iV (((cr r1 x1).1).ae),iV (((cr r1 x1).1).af)] 32,ag.box b2 [fW,fX,fY,fZ,iV r1.ae,iV r1.af] 32,ag.box b1 [dS,dU,dV,dW,iV r1.ae,iV r1.af] 32])) (F':=(fun g_=>[ag.ls g_.1 (((cr r1 x1)).1).ai,ag.ls g_.2.1 (((cr r1 x1)).1).Things,ag.ls g_.2.2.1 (((cr r1 x1)).1).Held,ag.ls g_.2.2.2 (((cr r1 x1)).1).Notes,ag.ls z29 ((cr r1 x1).1).ai,ag.ls z30 ((cr r1 x1).1).Things,ag.ls z31 ((cr r1 x1).1).Held,ag.ls z32 ((cr r1 x1).1).Notes,ag.ls fW r1.ai,ag.ls fX r1.Things,ag.ls fY r1.Held,ag.ls fZ r1.Notes,ag.ls dS r1.ai,ag.ls dU r1.Things,ag.ls dV r1.Held,ag.ls dW r1.Notes,ag.ls z5 (([]):List ak),ag.ls z6 (([]):List ao),ag.ls z7 (([]):List Held),ag.ls z8 (([]):List Note),ag.ls z1 (([]):List ak),ag.ls z2 (([]):List ao),ag.ls z3 (([]):List Held),ag.ls z4 (([]):List Note),ag.ls cE others,ag.ls dC rows,ag.acts l,ag.ls bG l,bR])) (s.bP (B0:=[]) (Br:=[ag.box b8 aG 32,ag.box b6 [z29,z30,z31,z32,iV (((cr r1 x1).1).ae),iV (((cr r1 x1).1).af)] 32,ag.box b2 [fW,fX,fY,fZ,iV r1.ae,iV r1.af] 32,ag.box b1 [dS,dU,dV,dW,iV r1.ae,iV r1.af] 32]) (F0:=[ag.ls fW r1.ai,ag.ls fX r1.Things,ag.ls fY r1.Held,ag.ls fZ r1.Notes]) bm [4,5,6,7] (fun g_:Value×Value×Value×Value => .tuple #[.agg #[g_.1,g_.2.1,g_.2.2.1,g_.2.2.2,iV ((((cr r1 x1)).1).ae),iV ((((cr r1 x1)).1).af)],iV (((cr r1 x1)).2)]) (fun g_=>[]) (fun g_=>[ag.ls g_.1 (((cr r1 x1)).1).ai,ag.ls g_.2.1 (((cr r1 x1)).1).Things,ag.ls g_.2.2.1 (((cr r1 x1)).1).Held,ag.ls g_.2.2.2 (((cr r1 x1)).1).Notes]) O O O yl O O (fun w own hw H=>qG fW fX fY fZ (r1) (x1) w own H ‹_› ‹_›) O) (fun _=>(aK [1,2,3] iZ O O O)) O ?_
       rintro ⟨z41,z42,z43,z44⟩
       dsimp only
       refine D.q (i:=6) O (by kernel_rfl) (aK [1,2,3] iZ O O O) O (q.mv O) O<|D.q (i:=7) O (by kernel_rfl) (aK [1,2,3] iZ O O O) O (q.ext O O) O<|D.q (i:=8) O (by kernel_rfl) (aK [1,2,3] iZ O O O) O (q.ext O O) O<|D.one (i:=10) (by kernel_rfl) O ?_
       refine Do.s (s.dy (us:=[z41,z42,z43,z44,iV (((cr r1 x1).1).ae),iV (((cr r1 x1).1).af)]) (cs':=[z41,z42,z43,z44,iV (((cr r1 x1).1).ae),iV (((cr r1 x1).1).af)]) 0 _ O O O (fun _ _=>rfl) (.inl ap) (fun w hw=>(ah (Sl.one (hw.bq 0 O)) (ah (Sl.one (hw.bq 1 O)) (ah (Sl.one (hw.bq 2 O)) (ah (Sl.one (hw.bq 3 O)) (ah O (ah O aL))))))) O O O) (fun _=>(aK [1,2,3] iZ O O O)) O fun _=>D.q (i:=11) O (by kernel_rfl) (aK [1,2,3] iZ O O O) O (q.as O) O<|D.done (by kernel_rfl)<|?_
       have Jf:=m9 (r:=r1) x1;have Ga:decide ((cr r1 x1).2=(cr r1 x1).2)=true:=decide_eq_true rfl
       refine R.reg O<|R.u 2 O<|R.c (q.call sR O O (fun w hw=>(cv (congrArg Value.bool Ga) (kQ ((cr r1 x1).2) ((cr r1 x1).2) w  (by first|omega|(have:=eu _;omega)))))) O<|R.u 1 O<|R.nil ?_
       refine R.aF O O ?_
       refine R.reg O<|R.u 1 O<|?_
       by_cases h8:(cr r1 x1).2=0
       ·
        refine R.q (q.eql O O (beq_iff_eq.2 (by omega))) O<|R.nil ?_
        refine R.aE O O ?_
        refine R.reg O<|R.q (q.cj 1 O O ap) O<|R.s O (s.dy (us:=[z29,z30,z31,z32,iV (((cr r1 x1).1).ae),iV (((cr r1 x1).1).af)]) (cs':=[z29,z30,z31,z32,iV (((cr r1 x1).1).ae),iV (((cr r1 x1).1).af)]) 3 _ O O O (fun _ _=>rfl) (.inl ap) (fun w hw=>(ah (Sl.one (hw.bq 4 O)) (ah (Sl.one (hw.bq 5 O)) (ah (Sl.one (hw.bq 6 O)) (ah (Sl.one (hw.bq 7 O)) (ah O (ah O aL))))))) O O O) fun _=>R.nil ?_
        refine R.reg O<|R.q (q.cj 0 O O ap) O<|R.s O (s.dy (us:=[z41,z42,z43,z44,iV (((cr r1 x1).1).ae),iV (((cr r1 x1).1).af)]) (cs':=[z41,z42,z43,z44,iV (((cr r1 x1).1).ae),iV (((cr r1 x1).1).af)]) 2 _ O O O (fun _ _=>rfl) (.inl ap) (fun w hw=>(ah (Sl.one (hw.bq 0 O)) (ah (Sl.one (hw.bq 1 O)) (ah (Sl.one (hw.bq 2 O)) (ah (Sl.one (hw.bq 3 O)) (ah O (ah O aL))))))) O O O) fun _=>R.nil ?_
        refine R.reg O<|R.u 1 O<|R.q (q.add (r:=((i+1:Nat):Int)) O O (wr (by omega))) O<|R.u 1 O<|R.nil ?_
        refine R.back (i+1,z41,z42,z43,z44,((cr r1 x1).1),z29,z30,z31,z32) O (by ((try dsimp only);exact ⟨by omega,hI.do ‹_›,yF hz x1⟩)) (by dsimp only;omega) ⟨rfl,rfl,rfl,rfl,rfl,rfl,trivial⟩ (aK [2,3] ya O O O)
       ·
        refine R.q (q.eql O O (beq_eq_false_iff_ne.2 (by omega))) O<|R.nil ?_
        refine R.aF O O ?_
        refine R.reg O<|R.u 1 O<|R.q (q.add (r:=((i+1:Nat):Int)) O O (wr (by omega))) O<|R.u 1 O<|R.nil ?_
        refine R.back (i+1,fW,fX,fY,fZ,r1,dS,dU,dV,dW) O (by ((try dsimp only);exact ⟨by omega,hI,hz.up (by omega)⟩)) (by dsimp only;omega) ⟨rfl,rfl,rfl,rfl,rfl,rfl,trivial⟩ (aK [2,3] yb O O O)
    ·
     refine R.q (q.lss O O (decide_eq_false (by omega))) O<|R.nil ?_
     refine R.aF O O ?_
     have q1:=mH hI;have q2:=tF hI;have q3:=sq hI;have q4:(aO (aU r1)).2=0:=(by rw [q1]);have q5:(aO (aU r1)).1=aH r1:=(by rw [q1]);have q6:=decide_eq_true q5;have Ka:decide (aU r1=aU r1)=true:=decide_eq_true rfl
     refine R.e8 (fuel:=6) (Wd w [] [ag.box b2 [fW,fX,fY,fZ,iV r1.ae,iV r1.af] 32,ag.box b1 [dS,dU,dV,dW,iV r1.ae,iV r1.af] 32] [ag.ls fW r1.ai,ag.ls fX r1.Things,ag.ls fY r1.Held,ag.ls fZ r1.Notes,ag.ls dS r1.ai,ag.ls dU r1.Things,ag.ls dV r1.Held,ag.ls dW r1.Notes,ag.ls z5 ((⟨[],[],[],[],1,1⟩:ar).ai:List ak),ag.ls z6 ((⟨[],[],[],[],1,1⟩:ar).Things:List ao),ag.ls z7 ((⟨[],[],[],[],1,1⟩:ar).Held:List Held),ag.ls z8 ((⟨[],[],[],[],1,1⟩:ar).Notes:List Note),ag.ls z1 ((⟨[],[],[],[],1,1⟩:ar).ai:List ak),ag.ls z2 ((⟨[],[],[],[],1,1⟩:ar).Things:List ao),ag.ls z3 ((⟨[],[],[],[],1,1⟩:ar).Held:List Held),ag.ls z4 ((⟨[],[],[],[],1,1⟩:ar).Notes:List Note),ag.ls cE others,ag.ls dC rows,ag.acts l,ag.ls bG l,bR]) O mixed O ?_
     refine D.q (i:=0) O (by kernel_rfl) (aK [0,1] lP O O O) O (q.cj 1 O O ap) O<|D.q (i:=2) O (by kernel_rfl) (aK [0,1] lP O O O) O (q.cj 0 O O ap) O<|D.one (i:=1) (by kernel_rfl) O ?_
     refine Do.s (B':=(fun aN:Value=>[ag.row 52 aN (aU r1),ag.box b2 [fW,fX,fY,fZ,iV r1.ae,iV r1.af] 32,ag.box b1 [dS,dU,dV,dW,iV r1.ae,iV r1.af] 32])) (F':=(fun aN:Value=>[ag.ls fW r1.ai,ag.ls fX r1.Things,ag.ls fY r1.Held,ag.ls fZ r1.Notes,ag.ls dS r1.ai,ag.ls dU r1.Things,ag.ls dV r1.Held,ag.ls dW r1.Notes,ag.ls z5 (([]):List ak),ag.ls z6 (([]):List ao),ag.ls z7 (([]):List Held),ag.ls z8 (([]):List Note),ag.ls z1 (([]):List ak),ag.ls z2 (([]):List ao),ag.ls z3 (([]):List Held),ag.ls z4 (([]):List Note),ag.ls cE others,ag.ls dC rows,ag.acts l,ag.ls bG l,bR])) (s.bP (B0:=[]) (Br:=[ag.box b2 [fW,fX,fY,fZ,iV r1.ae,iV r1.af] 32,ag.box b1 [dS,dU,dV,dW,iV r1.ae,iV r1.af] 32]) (F0:=[ag.ls dS r1.ai,ag.ls dU r1.Things,ag.ls dV r1.Held,ag.ls dW r1.Notes,bR]) [0,1] [4,5,6,7,20] (fun aN:Value=>aN) (fun aN:Value=>[ag.row 52 aN (aU r1)]) (fun aN:Value=>[]) O O O Az O O (fun w own hw H=>sd dS dU dV dW (r1) w own H ‹_› ‹_›) O) (fun _=>(aK [1,2] lP O O O)) O fun z47=>D.one (i:=3) (by kernel_rfl) O ?_
     refine Do.s (B':=(fun aN:Value=>[ag.row 52 aN (aU r1),ag.row 52 z47 (aU r1),ag.box b2 [fW,fX,fY,fZ,iV r1.ae,iV r1.af] 32,ag.box b1 [dS,dU,dV,dW,iV r1.ae,iV r1.af] 32])) (F':=(fun aN:Value=>[ag.ls fW r1.ai,ag.ls fX r1.Things,ag.ls fY r1.Held,ag.ls fZ r1.Notes,ag.ls dS r1.ai,ag.ls dU r1.Things,ag.ls dV r1.Held,ag.ls dW r1.Notes,ag.ls z5 (([]):List ak),ag.ls z6 (([]):List ao),ag.ls z7 (([]):List Held),ag.ls z8 (([]):List Note),ag.ls z1 (([]):List ak),ag.ls z2 (([]):List ao),ag.ls z3 (([]):List Held),ag.ls z4 (([]):List Note),ag.ls cE others,ag.ls dC rows,ag.acts l,ag.ls bG l,bR])) (s.bP (B0:=[]) (Br:=[ag.row 52 z47 (aU r1),ag.box b2 [fW,fX,fY,fZ,iV r1.ae,iV r1.af] 32,ag.box b1 [dS,dU,dV,dW,iV r1.ae,iV r1.af] 32]) (F0:=[ag.ls fW r1.ai,ag.ls fX r1.Things,ag.ls fY r1.Held,ag.ls fZ r1.Notes]) [0,1,2] bm (fun aN:Value=>aN) (fun aN:Value=>[ag.row 52 aN (aU r1)]) (fun aN:Value=>[]) O O O Ex O O (fun w own hw H=>tJ fW fX fY fZ (r1) w own H ‹_› ‹_›) O) (fun _=>(aK [2,3] lP O O O)) O fun z48=>D.one (i:=4) (by kernel_rfl) O ?_
     refine Do.s (s.c (q.call ym O O (fun w hw=>(cv (congrArg Value.bool Ka) (gR _ (aU r1) _ (aU r1) w (hw.row 1 O) (hw.row 0 O) )))) O) (fun _=>(aK [2,3] lP O O O)) O fun _=>D.q (i:=5) O (by kernel_rfl) (aK [2,3] lP O O O) O (q.not O) O<|D.done (by kernel_rfl)<|R.aF O O ?_
     refine R.reg O<|R.q (q.cj 2 O O ap) O<|R.s (B':=(fun aN:Value=>[ag.row 52 aN (aU r1),ag.row 52 z48 (aU r1),ag.row 52 z47 (aU r1),ag.box b2 [fW,fX,fY,fZ,iV r1.ae,iV r1.af] 32,ag.box b1 [dS,dU,dV,dW,iV r1.ae,iV r1.af] 32])) (F':=(fun aN:Value=>[ag.ls fW r1.ai,ag.ls fX r1.Things,ag.ls fY r1.Held,ag.ls fZ r1.Notes,ag.ls dS r1.ai,ag.ls dU r1.Things,ag.ls dV r1.Held,ag.ls dW r1.Notes,ag.ls z5 (([]):List ak),ag.ls z6 (([]):List ao),ag.ls z7 (([]):List Held),ag.ls z8 (([]):List Note),ag.ls z1 (([]):List ak),ag.ls z2 (([]):List ao),ag.ls z3 (([]):List Held),ag.ls z4 (([]):List Note),ag.ls cE others,ag.ls dC rows,ag.acts l,ag.ls bG l,bR])) O (s.bP (B0:=[]) (Br:=[ag.row 52 z48 (aU r1),ag.row 52 z47 (aU r1),ag.box b2 [fW,fX,fY,fZ,iV r1.ae,iV r1.af] 32,ag.box b1 [dS,dU,dV,dW,iV r1.ae,iV r1.af] 32]) (F0:=[ag.ls fW r1.ai,ag.ls fX r1.Things,ag.ls fY r1.Held,ag.ls fZ r1.Notes]) bm bm (fun aN:Value=>aN) (fun aN:Value=>[ag.row 52 aN (aU r1)]) (fun aN:Value=>[]) O O O Ex O O (fun w own hw H=>tJ fW fX fY fZ (r1) w own H ‹_› ‹_›) O) fun z49=>R.s (B':=(fun g_:Value×Value×Value×Value=>[ag.row 52 z48 (aU r1),ag.row 52 z47 (aU r1),ag.box b2 [fW,fX,fY,fZ,iV r1.ae,iV r1.af] 32,ag.box b1 [dS,dU,dV,dW,iV r1.ae,iV r1.af] 32])) (F':=(fun g_=>[ag.ls g_.1 (((aO (aU r1))).1).ai,ag.ls g_.2.1 (((aO (aU r1))).1).Things,ag.ls g_.2.2.1 (((aO (aU r1))).1).Held,ag.ls g_.2.2.2 (((aO (aU r1))).1).Notes,ag.ls z49 (aU r1),ag.ls fW r1.ai,ag.ls fX r1.Things,ag.ls fY r1.Held,ag.ls fZ r1.Notes,ag.ls dS r1.ai,ag.ls dU r1.Things,ag.ls dV r1.Held,ag.ls dW r1.Notes,ag.ls z5 (([]):List ak),ag.ls z6 (([]):List ao),ag.ls z7 (([]):List Held),ag.ls z8 (([]):List Note),ag.ls z1 (([]):List ak),ag.ls z2 (([]):List ao),ag.ls z3 (([]):List Held),ag.ls z4 (([]):List Note),ag.ls cE others,ag.ls dC rows,ag.acts l,ag.ls bG l,bR])) O (s.pre (B2:=[ag.row 52 z48 (aU r1),ag.row 52 z47 (aU r1),ag.box b2 [fW,fX,fY,fZ,iV r1.ae,iV r1.af] 32,ag.box b1 [dS,dU,dV,dW,iV r1.ae,iV r1.af] 32]) (F2:=[ag.ls z49 (aU r1),ag.ls fW r1.ai,ag.ls fX r1.Things,ag.ls fY r1.Held,ag.ls fZ r1.Notes,ag.ls dS r1.ai,ag.ls dU r1.Things,ag.ls dV r1.Held,ag.ls dW r1.Notes,ag.ls z5 ((⟨[],[],[],[],1,1⟩:ar).ai:List ak),ag.ls z6 ((⟨[],[],[],[],1,1⟩:ar).Things:List ao),ag.ls z7 ((⟨[],[],[],[],1,1⟩:ar).Held:List Held),ag.ls z8 ((⟨[],[],[],[],1,1⟩:ar).Notes:List Note),ag.ls z1 ((⟨[],[],[],[],1,1⟩:ar).ai:List ak),ag.ls z2 ((⟨[],[],[],[],1,1⟩:ar).Things:List ao),ag.ls z3 ((⟨[],[],[],[],1,1⟩:ar).Held:List Held),ag.ls z4 ((⟨[],[],[],[],1,1⟩:ar).Notes:List Note),ag.ls cE others,ag.ls dC rows,ag.acts l,ag.ls bG l,bR]) (fun _ hw=>hw.bH 0 _ O O) (s.bP (B0:=[]) (Br:=[ag.row 52 z48 (aU r1),ag.row 52 z47 (aU r1),ag.box b2 [fW,fX,fY,fZ,iV r1.ae,iV r1.af] 32,ag.box b1 [dS,dU,dV,dW,iV r1.ae,iV r1.af] 32]) (F0:=[ag.ls z49 (aU r1),bR]) bm [0,21] (fun g_:Value×Value×Value×Value => .tuple #[.agg #[g_.1,g_.2.1,g_.2.2.1,g_.2.2.2,iV ((((aO (aU r1))).1).ae),iV ((((aO (aU r1))).1).af)],fc (((aO (aU r1))).2)]) (fun g_=>[]) (fun g_=>[ag.ls g_.1 (((aO (aU r1))).1).ai,ag.ls g_.2.1 (((aO (aU r1))).1).Things,ag.ls g_.2.2.1 (((aO (aU r1))).1).Held,ag.ls g_.2.2.2 (((aO (aU r1))).1).Notes]) O O O AA O O (fun w own hw H=>pC z49 (aU r1) w own H (by first|assumption|omega) ‹_›) O)) ?_
     rintro ⟨z50,z51,z52,z53⟩
     dsimp only
     refine R.u 3 O<|R.s O (s.alloc (cs:=aG) cp O O) fun b9=>R.s O (s.dy (us:=[z50,z51,z52,z53,iV (((aO (aU r1)).1).ae),iV (((aO (aU r1)).1).af)]) (cs':=[z50,z51,z52,z53,iV (((aO (aU r1)).1).ae),iV (((aO (aU r1)).1).af)]) 0 _ O O O (fun _ _=>rfl) (.inl ap) (fun w hw=>(ah (Sl.one (hw.bq 0 O)) (ah (Sl.one (hw.bq 1 O)) (ah (Sl.one (hw.bq 2 O)) (ah (Sl.one (hw.bq 3 O)) (ah O (ah O aL))))))) O O O) fun _=>R.u 1 O<|R.nil ?_
     refine R.e8 (fuel:=9) (Wd w [] [ag.box b9 [z50,z51,z52,z53,iV (((aO (aU r1)).1).ae),iV (((aO (aU r1)).1).af)] 32,ag.row 52 z48 (aU r1),ag.row 52 z47 (aU r1),ag.box b2 [fW,fX,fY,fZ,iV r1.ae,iV r1.af] 32,ag.box b1 [dS,dU,dV,dW,iV r1.ae,iV r1.af] 32] [ag.ls z50 ((aO (aU r1)).1).ai,ag.ls z51 ((aO (aU r1)).1).Things,ag.ls z52 ((aO (aU r1)).1).Held,ag.ls z53 ((aO (aU r1)).1).Notes,ag.ls z49 (aU r1),ag.ls fW r1.ai,ag.ls fX r1.Things,ag.ls fY r1.Held,ag.ls fZ r1.Notes,ag.ls dS r1.ai,ag.ls dU r1.Things,ag.ls dV r1.Held,ag.ls dW r1.Notes,ag.ls z5 ((⟨[],[],[],[],1,1⟩:ar).ai:List ak),ag.ls z6 ((⟨[],[],[],[],1,1⟩:ar).Things:List ao),ag.ls z7 ((⟨[],[],[],[],1,1⟩:ar).Held:List Held),ag.ls z8 ((⟨[],[],[],[],1,1⟩:ar).Notes:List Note),ag.ls z1 ((⟨[],[],[],[],1,1⟩:ar).ai:List ak),ag.ls z2 ((⟨[],[],[],[],1,1⟩:ar).Things:List ao),ag.ls z3 ((⟨[],[],[],[],1,1⟩:ar).Held:List Held),ag.ls z4 ((⟨[],[],[],[],1,1⟩:ar).Notes:List Note),ag.ls cE others,ag.ls dC rows,ag.acts l,ag.ls bG l,bR]) O mixed O ?_
     refine D.q (i:=0) O (by kernel_rfl) (aK cZ uS O O O) O (q.mv O) O<|D.q (i:=1) O (by kernel_rfl) (aK cZ uS O O O) O (q.gj O O Tryz.underlying35 (by omega)) O<|D.q (i:=2) O (by kernel_rfl) (aK cZ uS O O O) O (q.mv O) O<|D.q (i:=3) O (by kernel_rfl) (aK cZ uS O O O) O (q.cj 0 O O ap) O<|D.q (i:=4) O (by kernel_rfl) (aK cZ uS O O O) O (q.cj 3 O O ap) O<|D.one (i:=5) (by kernel_rfl) O ?_
     refine Do.s (B':=(fun g_:Value×Value×Value×Value=>[ag.box b9 [z50,z51,z52,z53,iV (((aO (aU r1)).1).ae),iV (((aO (aU r1)).1).af)] 32,ag.row 52 z48 (aU r1),ag.row 52 z47 (aU r1),ag.box b2 [fW,fX,fY,fZ,iV r1.ae,iV r1.af] 32,ag.box b1 [dS,dU,dV,dW,iV r1.ae,iV r1.af] 32])) (F':=(fun g_=>[ag.ls g_.1 ((aH r1)).ai,ag.ls g_.2.1 ((aH r1)).Things,ag.ls g_.2.2.1 ((aH r1)).Held,ag.ls g_.2.2.2 ((aH r1)).Notes,ag.ls z50 ((aO (aU r1)).1).ai,ag.ls z51 ((aO (aU r1)).1).Things,ag.ls z52 ((aO (aU r1)).1).Held,ag.ls z53 ((aO (aU r1)).1).Notes,ag.ls z49 (aU r1),ag.ls fW r1.ai,ag.ls fX r1.Things,ag.ls fY r1.Held,ag.ls fZ r1.Notes,ag.ls dS r1.ai,ag.ls dU r1.Things,ag.ls dV r1.Held,ag.ls dW r1.Notes,ag.ls z5 (([]):List ak),ag.ls z6 (([]):List ao),ag.ls z7 (([]):List Held),ag.ls z8 (([]):List Note),ag.ls z1 (([]):List ak),ag.ls z2 (([]):List ao),ag.ls z3 (([]):List Held),ag.ls z4 (([]):List Note),ag.ls cE others,ag.ls dC rows,ag.acts l,ag.ls bG l,bR])) (s.bP (B0:=[]) (Br:=[ag.box b9 [z50,z51,z52,z53,iV (((aO (aU r1)).1).ae),iV (((aO (aU r1)).1).af)] 32,ag.row 52 z48 (aU r1),ag.row 52 z47 (aU r1),ag.box b2 [fW,fX,fY,fZ,iV r1.ae,iV r1.af] 32,ag.box b1 [dS,dU,dV,dW,iV r1.ae,iV r1.af] 32]) (F0:=[ag.ls fW r1.ai,ag.ls fX r1.Things,ag.ls fY r1.Held,ag.ls fZ r1.Notes]) cZ [5,6,7,8] (fun g_:Value×Value×Value×Value => .agg #[g_.1,g_.2.1,g_.2.2.1,g_.2.2.2,iV (((aH r1)).ae),iV (((aH r1)).af)]) (fun g_=>[]) (fun g_=>[ag.ls g_.1 ((aH r1)).ai,ag.ls g_.2.1 ((aH r1)).Things,ag.ls g_.2.2.1 ((aH r1)).Held,ag.ls g_.2.2.2 ((aH r1)).Notes]) O O O Ez O O (fun w own hw H=>sk fW fX fY fZ (r1) w own H ‹_› ‹_›) O) (fun _=>(aK cZ yc O O O)) O ?_
     rintro ⟨z58,z59,z60,z61⟩
     dsimp only
     refine D.one (i:=6) (by kernel_rfl) O ?_
     refine Do.s (s.c (q.call Ey O O (fun w hw=>(cv (congrArg Value.bool q6) (nC _ _ _ _ (((aO (aU r1)).1)) _ _ _ _ ((aH r1)) w (hw.bq 4 O) (hw.bq 5 O) (hw.bq 6 O) (hw.bq 7 O) (hw.bq 0 O) (hw.bq 1 O) (hw.bq 2 O) (hw.bq 3 O) )))) O) (fun _=>(aK cZ yc O O O)) O fun _=>D.q (i:=7) O (by kernel_rfl) (aK cZ yc O O O) O (q.not O) O<|D.q (i:=8) O (by kernel_rfl) (aK cZ yc O O O) O (q.l7 O O) O<|D.done (by kernel_rfl)<|R.aF O O ?_
     refine R.reg O<|R.u 1 O<|R.s (B':=(fun g_:Value×Value×Value×Value=>[ag.box b9 [z50,z51,z52,z53,iV (((aO (aU r1)).1).ae),iV (((aO (aU r1)).1).af)] 32,ag.row 52 z48 (aU r1),ag.row 52 z47 (aU r1),ag.box b2 [fW,fX,fY,fZ,iV r1.ae,iV r1.af] 32,ag.box b1 [dS,dU,dV,dW,iV r1.ae,iV r1.af] 32])) (F':=(fun g_=>[ag.ls g_.1 (((aO rows)).1).ai,ag.ls g_.2.1 (((aO rows)).1).Things,ag.ls g_.2.2.1 (((aO rows)).1).Held,ag.ls g_.2.2.2 (((aO rows)).1).Notes,ag.ls z58 (aH r1).ai,ag.ls z59 (aH r1).Things,ag.ls z60 (aH r1).Held,ag.ls z61 (aH r1).Notes,ag.ls z50 ((aO (aU r1)).1).ai,ag.ls z51 ((aO (aU r1)).1).Things,ag.ls z52 ((aO (aU r1)).1).Held,ag.ls z53 ((aO (aU r1)).1).Notes,ag.ls z49 (aU r1),ag.ls fW r1.ai,ag.ls fX r1.Things,ag.ls fY r1.Held,ag.ls fZ r1.Notes,ag.ls dS r1.ai,ag.ls dU r1.Things,ag.ls dV r1.Held,ag.ls dW r1.Notes,ag.ls z5 (([]):List ak),ag.ls z6 (([]):List ao),ag.ls z7 (([]):List Held),ag.ls z8 (([]):List Note),ag.ls z1 (([]):List ak),ag.ls z2 (([]):List ao),ag.ls z3 (([]):List Held),ag.ls z4 (([]):List Note),ag.ls cE others,ag.ls dC rows,ag.acts l,ag.ls bG l,bR])) O (s.bP (B0:=[]) (Br:=[ag.box b9 [z50,z51,z52,z53,iV (((aO (aU r1)).1).ae),iV (((aO (aU r1)).1).af)] 32,ag.row 52 z48 (aU r1),ag.row 52 z47 (aU r1),ag.box b2 [fW,fX,fY,fZ,iV r1.ae,iV r1.af] 32,ag.box b1 [dS,dU,dV,dW,iV r1.ae,iV r1.af] 32]) (F0:=[ag.ls dC rows,bR]) cZ [26,29] (fun g_:Value×Value×Value×Value => .tuple #[.agg #[g_.1,g_.2.1,g_.2.2.1,g_.2.2.2,iV ((((aO rows)).1).ae),iV ((((aO rows)).1).af)],fc (((aO rows)).2)]) (fun g_=>[]) (fun g_=>[ag.ls g_.1 (((aO rows)).1).ai,ag.ls g_.2.1 (((aO rows)).1).Things,ag.ls g_.2.2.1 (((aO rows)).1).Held,ag.ls g_.2.2.2 (((aO rows)).1).Notes]) O O O AA O O (fun w own hw H=>pC dC (rows) w own H (by first|assumption|omega) ‹_›) O) ?_
     rintro ⟨z62,z63,z64,z65⟩
     dsimp only
     refine R.u 3 O<|R.s O (s.alloc (cs:=aG) cp O O) fun b10=>R.s O (s.dy (us:=[z62,z63,z64,z65,iV (((aO rows).1).ae),iV (((aO rows).1).af)]) (cs':=[z62,z63,z64,z65,iV (((aO rows).1).ae),iV (((aO rows).1).af)]) 0 _ O O O (fun _ _=>rfl) (.inl ap) (fun w hw=>(ah (Sl.one (hw.bq 0 O)) (ah (Sl.one (hw.bq 1 O)) (ah (Sl.one (hw.bq 2 O)) (ah (Sl.one (hw.bq 3 O)) (ah O (ah O aL))))))) O O O) fun _=>R.u 1 O<|R.nil ?_
     refine R.cut 2 (fun u_:Unit=>[(1,dC),(2,cE)]) (fun u_:Unit=>[ag.box b10 [z62,z63,z64,z65,iV (((aO rows).1).ae),iV (((aO rows).1).af)] 32,ag.box b9 [z50,z51,z52,z53,iV (((aO (aU r1)).1).ae),iV (((aO (aU r1)).1).af)] 32,ag.row 52 z48 (aU r1),ag.row 52 z47 (aU r1),ag.box b2 [fW,fX,fY,fZ,iV r1.ae,iV r1.af] 32,ag.box b1 [dS,dU,dV,dW,iV r1.ae,iV r1.af] 32]) (fun u_:Unit=>[ag.ls z62 ((aO rows).1).ai,ag.ls z63 ((aO rows).1).Things,ag.ls z64 ((aO rows).1).Held,ag.ls z65 ((aO rows).1).Notes,ag.ls z58 (aH r1).ai,ag.ls z59 (aH r1).Things,ag.ls z60 (aH r1).Held,ag.ls z61 (aH r1).Notes,ag.ls z50 ((aO (aU r1)).1).ai,ag.ls z51 ((aO (aU r1)).1).Things,ag.ls z52 ((aO (aU r1)).1).Held,ag.ls z53 ((aO (aU r1)).1).Notes,ag.ls z49 (aU r1),ag.ls fW r1.ai,ag.ls fX r1.Things,ag.ls fY r1.Held,ag.ls fZ r1.Notes,ag.ls dS r1.ai,ag.ls dU r1.Things,ag.ls dV r1.Held,ag.ls dW r1.Notes,ag.ls z5 ((⟨[],[],[],[],1,1⟩:ar).ai:List ak),ag.ls z6 ((⟨[],[],[],[],1,1⟩:ar).Things:List ao),ag.ls z7 ((⟨[],[],[],[],1,1⟩:ar).Held:List Held),ag.ls z8 ((⟨[],[],[],[],1,1⟩:ar).Notes:List Note),ag.ls z1 ((⟨[],[],[],[],1,1⟩:ar).ai:List ak),ag.ls z2 ((⟨[],[],[],[],1,1⟩:ar).Things:List ao),ag.ls z3 ((⟨[],[],[],[],1,1⟩:ar).Held:List Held),ag.ls z4 ((⟨[],[],[],[],1,1⟩:ar).Notes:List Note),ag.ls cE others,ag.ls dC rows,ag.acts l,ag.ls bG l,bR]) (fun u_:Unit=>True) O O O ?_ ?_
     ·
      have p0:=CO rows
      refine R.reg O<|R.u 1 O<|?_
      by_cases h9:(aO rows).2=0
      ·
       obtain ⟨zI,zN,zR,zL⟩:=Cy (l:=rows) (by omega);have zk:=zI.ok zN zL;have Kc:decide (aU (aO rows).1=rows)=true:=decide_eq_true zR
       refine R.q (q.gj O O Tryz.underlying35 (by omega)) O<|R.u 13 O<|R.qg O (q.uV O O Tryz.underlying35 (by omega)) O<|R.u 1 O<|R.qg O (q.cj 0 O O ap) O<|R.s (B':=(fun aN:Value=>[ag.row 52 aN (aU ((aO rows).1)),ag.box b10 [z62,z63,z64,z65,iV (((aO rows).1).ae),iV (((aO rows).1).af)] 32,ag.box b9 [z50,z51,z52,z53,iV (((aO (aU r1)).1).ae),iV (((aO (aU r1)).1).af)] 32,ag.row 52 z48 (aU r1),ag.row 52 z47 (aU r1),ag.box b2 [fW,fX,fY,fZ,iV r1.ae,iV r1.af] 32,ag.box b1 [dS,dU,dV,dW,iV r1.ae,iV r1.af] 32])) (F':=(fun aN:Value=>[ag.ls z62 ((aO rows).1).ai,ag.ls z63 ((aO rows).1).Things,ag.ls z64 ((aO rows).1).Held,ag.ls z65 ((aO rows).1).Notes,ag.ls z58 (aH r1).ai,ag.ls z59 (aH r1).Things,ag.ls z60 (aH r1).Held,ag.ls z61 (aH r1).Notes,ag.ls z50 ((aO (aU r1)).1).ai,ag.ls z51 ((aO (aU r1)).1).Things,ag.ls z52 ((aO (aU r1)).1).Held,ag.ls z53 ((aO (aU r1)).1).Notes,ag.ls z49 (aU r1),ag.ls fW r1.ai,ag.ls fX r1.Things,ag.ls fY r1.Held,ag.ls fZ r1.Notes,ag.ls dS r1.ai,ag.ls dU r1.Things,ag.ls dV r1.Held,ag.ls dW r1.Notes,ag.ls z5 (([]):List ak),ag.ls z6 (([]):List ao),ag.ls z7 (([]):List Held),ag.ls z8 (([]):List Note),ag.ls z1 (([]):List ak),ag.ls z2 (([]):List ao),ag.ls z3 (([]):List Held),ag.ls z4 (([]):List Note),ag.ls cE others,ag.ls dC rows,ag.acts l,ag.ls bG l,bR])) O (s.bP (B0:=[]) (Br:=[ag.box b10 [z62,z63,z64,z65,iV (((aO rows).1).ae),iV (((aO rows).1).af)] 32,ag.box b9 [z50,z51,z52,z53,iV (((aO (aU r1)).1).ae),iV (((aO (aU r1)).1).af)] 32,ag.row 52 z48 (aU r1),ag.row 52 z47 (aU r1),ag.box b2 [fW,fX,fY,fZ,iV r1.ae,iV r1.af] 32,ag.box b1 [dS,dU,dV,dW,iV r1.ae,iV r1.af] 32]) (F0:=[ag.ls z62 ((aO rows).1).ai,ag.ls z63 ((aO rows).1).Things,ag.ls z64 ((aO rows).1).Held,ag.ls z65 ((aO rows).1).Notes,bR]) ia [0,1,2,3,33] (fun aN:Value=>aN) (fun aN:Value=>[ag.row 52 aN (aU ((aO rows).1))]) (fun aN:Value=>[]) O O O Az O O (fun w own hw H=>sd z62 z63 z64 z65 (((aO rows).1)) w own H ‹_› ‹_›) O) fun z66=>R.u 1 O<|R.cg O (q.call ym O O (fun w hw=>(cv (congrArg Value.bool Kc) (gR _ (aU ((aO rows).1)) _ (rows) w (hw.row 0 O) (hw.bq 30 O) )))) O<|R.u 3 O<|R.nil ?_
       refine R.aF O O ?_
       exact R.meet () O (by (trivial)) ⟨rfl,rfl,trivial⟩ (fun _=>Wd.pick [1,2,3,4,5,6] sJ O O O)
      ·
       have zb:=zS (l:=rows) (by omega);have qz:decide ((aO rows).1=(⟨[],[],[],[],0,0⟩:ar))=true:=decide_eq_true (by rw [zb];rfl);have qe:decide ((aO rows).2=4)=true:=decide_eq_true (by rw [zb])
       refine R.q (q.gu O O Tryz.underlying35 (by omega)) O<|R.u 1 O<|R.qg O (q.cj 0 O O ap) O<|R.qg O (q.build (cs:=aG) cz O O) O<|R.cg O (q.call Ey O O (fun w hw=>(cv (congrArg Value.bool qz) (nC _ _ _ _ (((aO rows).1)) _ _ _ _ ((⟨[],[],[],[],0,0⟩:ar)) w (hw.bq 0 O) (hw.bq 1 O) (hw.bq 2 O) (hw.bq 3 O) (Sl.nil w) (Sl.nil w) (Sl.nil w) (Sl.nil w) )))) O<|R.u 3 O<|R.cg O (q.call sR O O (fun w hw=>(cv (congrArg Value.bool qe) (kQ ((aO rows).2) (4) w  (by first|omega|(have:=eu _;omega)))))) O<|R.u 5 O<|R.qg O (q.uW O O Tryz.underlying35 (by omega)) O<|R.u 8 O<|R.nil ?_
       refine R.aF O O ?_
       exact R.meet () O (by (trivial)) ⟨rfl,rfl,trivial⟩ (fun _=>Wd.pick ia sJ O O O)
     ·
      rintro u_ _
      refine R.reg O<|R.u 1 O<|R.nil ?_
      refine R.loop (fun j:Nat=>[(1,dC),(2,cE),(18,iV (j:Int))]) (fun j:Nat=>[ag.box b10 [z62,z63,z64,z65,iV (((aO rows).1).ae),iV (((aO rows).1).af)] 32,ag.box b9 [z50,z51,z52,z53,iV (((aO (aU r1)).1).ae),iV (((aO (aU r1)).1).af)] 32,ag.row 52 z48 (aU r1),ag.row 52 z47 (aU r1),ag.box b2 [fW,fX,fY,fZ,iV r1.ae,iV r1.af] 32,ag.box b1 [dS,dU,dV,dW,iV r1.ae,iV r1.af] 32]) (fun j:Nat=>[ag.ls z62 ((aO rows).1).ai,ag.ls z63 ((aO rows).1).Things,ag.ls z64 ((aO rows).1).Held,ag.ls z65 ((aO rows).1).Notes,ag.ls z58 (aH r1).ai,ag.ls z59 (aH r1).Things,ag.ls z60 (aH r1).Held,ag.ls z61 (aH r1).Notes,ag.ls z50 ((aO (aU r1)).1).ai,ag.ls z51 ((aO (aU r1)).1).Things,ag.ls z52 ((aO (aU r1)).1).Held,ag.ls z53 ((aO (aU r1)).1).Notes,ag.ls z49 (aU r1),ag.ls fW r1.ai,ag.ls fX r1.Things,ag.ls fY r1.Held,ag.ls fZ r1.Notes,ag.ls dS r1.ai,ag.ls dU r1.Things,ag.ls dV r1.Held,ag.ls dW r1.Notes,ag.ls z5 ((⟨[],[],[],[],1,1⟩:ar).ai:List ak),ag.ls z6 ((⟨[],[],[],[],1,1⟩:ar).Things:List ao),ag.ls z7 ((⟨[],[],[],[],1,1⟩:ar).Held:List Held),ag.ls z8 ((⟨[],[],[],[],1,1⟩:ar).Notes:List Note),ag.ls z1 ((⟨[],[],[],[],1,1⟩:ar).ai:List ak),ag.ls z2 ((⟨[],[],[],[],1,1⟩:ar).Things:List ao),ag.ls z3 ((⟨[],[],[],[],1,1⟩:ar).Held:List Held),ag.ls z4 ((⟨[],[],[],[],1,1⟩:ar).Notes:List Note),ag.ls cE others,ag.ls dC rows,ag.acts l,ag.ls bG l,bR]) (fun j:Nat=>1≤j∧dY (rows.take j)∧dY (others.take j)) (fun j:Nat=>(rows.length-j)+(others.length-j)) 1 O (by exact ⟨Nat.le_refl _,CR _,CR _⟩) ⟨rfl,rfl,rfl,trivial⟩ (fun _=>Wd.pick ia sJ O O O) ?_
      rintro j ⟨hj,Gb,hR2⟩
      refine R.reg O<|R.u 2 O<|R.q (q.len' (bJ 30 O) O Tryz.underlying23) O<|?_
      by_cases h10:j<rows.length
      ·
       refine R.q (q.lss O O (decide_eq_true (by omega))) O<|R.u 6 O<|R.nil ?_
       refine R.aE O O ?_
       obtain ⟨x2,hx2⟩:∃z,rows[j]? = some z:=⟨_,List.getElem?_eq_getElem (by omega)⟩
       obtain ⟨x3,hx3⟩:∃z,rows[(j-1)]? = some z:=⟨_,List.getElem?_eq_getElem (by omega)⟩
       rcases Bool.eq_false_or_eq_true ((fS x2.Key x3.Key||decide (x2.Key=x3.Key))) with h11|h11
       ·
        refine R.dP O mixed (by kernel_rfl)<|Q.u 2 O<|Q.q (q.len' (bJ 30 O) O Tryz.underlying23) O<|Q.q (q.lss O O (decide_eq_true (by omega))) O<|Q.u 3 O<|Q.qg O (q.idx (i:=j) (bJ 30 O) O O bL O hx2) O<|Q.qg O (q.dF (j':=0) (bJ 30 O) hx2 O bD O) O<|Q.qg O (q.fb (bJ 30 O) hx2 O bV O) O<|Q.u 2 O<|Q.qg O (q.sub (r:=((j-1:Nat):Int)) O O (wr (by omega))) O<|Q.qg O (q.idx (i:=(j-1)) (bJ 30 O) O O bL O hx3) O<|Q.qg O (q.dF (j':=0) (bJ 30 O) hx3 O bD O) O<|Q.qg O (q.fb (bJ 30 O) hx3 O bV O) O<|Q.qg O (q.qh O O h11) O<|Q.u 21 O<|Q.nil ?_
        refine R.aE O O ?_
        refine R.reg O<|R.u 1 O<|R.nil ?_
        exact R.rv O Tryz.results3 O (rB (by (first|rfl|(exfalso;omega))))
       ·
        by_cases h12:j<others.length
        ·
         obtain ⟨x4,hx4⟩:∃z,others[j]? = some z:=⟨_,List.getElem?_eq_getElem (by omega)⟩
         obtain ⟨x5,hx5⟩:∃z,others[(j-1)]? = some z:=⟨_,List.getElem?_eq_getElem (by omega)⟩
         rcases Bool.eq_false_or_eq_true ((fS x4.Key x5.Key||decide (x4.Key=x5.Key))) with Dk|Dk
         ·
          refine R.dP O mixed (by kernel_rfl)<|Q.u 2 O<|Q.q (q.len' (bJ 30 O) O Tryz.underlying23) O<|Q.q (q.lss O O (decide_eq_true (by omega))) O<|Q.u 3 O<|Q.qg O (q.idx (i:=j) (bJ 30 O) O O bL O hx2) O<|Q.qg O (q.dF (j':=0) (bJ 30 O) hx2 O bD O) O<|Q.qg O (q.fb (bJ 30 O) hx2 O bV O) O<|Q.u 2 O<|Q.qg O (q.sub (r:=((j-1:Nat):Int)) O O (wr (by omega))) O<|Q.qg O (q.idx (i:=(j-1)) (bJ 30 O) O O bL O hx3) O<|Q.qg O (q.dF (j':=0) (bJ 30 O) hx3 O bD O) O<|Q.qg O (q.fb (bJ 30 O) hx3 O bV O) O<|Q.qg O (q.qh O O h11) O<|Q.u 4 O<|Q.qg O (q.len' (bJ 29 O) O Tryz.underlying23) O<|Q.qg O (q.lss O O (decide_eq_true (by omega))) O<|Q.u 3 O<|Q.qg O (q.idx (i:=j) (bJ 29 O) O O bL O hx4) O<|Q.qg O (q.dF (j':=0) (bJ 29 O) hx4 O bD O) O<|Q.qg O (q.fb (bJ 29 O) hx4 O bV O) O<|Q.u 2 O<|Q.qg O (q.sub (r:=((j-1:Nat):Int)) O O (wr (by omega))) O<|Q.qg O (q.idx (i:=(j-1)) (bJ 29 O) O O bL O hx5) O<|Q.qg O (q.dF (j':=0) (bJ 29 O) hx5 O bD O) O<|Q.qg O (q.fb (bJ 29 O) hx5 O bV O) O<|Q.qg O (q.qh O O Dk) O<|Q.u 2 O<|Q.nil ?_
          refine R.aE O O ?_
          refine R.reg O<|R.u 1 O<|R.nil ?_
          exact R.rv O Tryz.results3 O (rB (by (first|rfl|(exfalso;omega))))
         ·
          refine R.dP O mixed (by kernel_rfl)<|Q.u 2 O<|Q.q (q.len' (bJ 30 O) O Tryz.underlying23) O<|Q.q (q.lss O O (decide_eq_true (by omega))) O<|Q.u 3 O<|Q.qg O (q.idx (i:=j) (bJ 30 O) O O bL O hx2) O<|Q.qg O (q.dF (j':=0) (bJ 30 O) hx2 O bD O) O<|Q.qg O (q.fb (bJ 30 O) hx2 O bV O) O<|Q.u 2 O<|Q.qg O (q.sub (r:=((j-1:Nat):Int)) O O (wr (by omega))) O<|Q.qg O (q.idx (i:=(j-1)) (bJ 30 O) O O bL O hx3) O<|Q.qg O (q.dF (j':=0) (bJ 30 O) hx3 O bD O) O<|Q.qg O (q.fb (bJ 30 O) hx3 O bV O) O<|Q.qg O (q.qh O O h11) O<|Q.u 4 O<|Q.qg O (q.len' (bJ 29 O) O Tryz.underlying23) O<|Q.qg O (q.lss O O (decide_eq_true (by omega))) O<|Q.u 3 O<|Q.qg O (q.idx (i:=j) (bJ 29 O) O O bL O hx4) O<|Q.qg O (q.dF (j':=0) (bJ 29 O) hx4 O bD O) O<|Q.qg O (q.fb (bJ 29 O) hx4 O bV O) O<|Q.u 2 O<|Q.qg O (q.sub (r:=((j-1:Nat):Int)) O O (wr (by omega))) O<|Q.qg O (q.idx (i:=(j-1)) (bJ 29 O) O O bL O hx5) O<|Q.qg O (q.dF (j':=0) (bJ 29 O) hx5 O bD O) O<|Q.qg O (q.fb (bJ 29 O) hx5 O bV O) O<|Q.qg O (q.qh O O Dk) O<|Q.u 2 O<|Q.nil ?_
          refine R.aF O O ?_
          refine R.reg O<|R.u 1 O<|R.q (q.add (r:=((j+1:Nat):Int)) O O (wr (by omega))) O<|R.u 1 O<|R.nil ?_
          refine R.back (j+1) O (by (exact ⟨by omega,by first|exact nf Gb hj ‹_› ‹_› ‹_› | exact k7 Gb (by omega),by first|exact nf hR2 hj ‹_› ‹_› ‹_› | exact k7 hR2 (by omega)⟩)) (by omega) ⟨rfl,rfl,rfl,trivial⟩ (aK ia sJ O O O)
        ·
         refine R.dP O mixed (by kernel_rfl)<|Q.u 2 O<|Q.q (q.len' (bJ 30 O) O Tryz.underlying23) O<|Q.q (q.lss O O (decide_eq_true (by omega))) O<|Q.u 3 O<|Q.qg O (q.idx (i:=j) (bJ 30 O) O O bL O hx2) O<|Q.qg O (q.dF (j':=0) (bJ 30 O) hx2 O bD O) O<|Q.qg O (q.fb (bJ 30 O) hx2 O bV O) O<|Q.u 2 O<|Q.qg O (q.sub (r:=((j-1:Nat):Int)) O O (wr (by omega))) O<|Q.qg O (q.idx (i:=(j-1)) (bJ 30 O) O O bL O hx3) O<|Q.qg O (q.dF (j':=0) (bJ 30 O) hx3 O bD O) O<|Q.qg O (q.fb (bJ 30 O) hx3 O bV O) O<|Q.qg O (q.qh O O h11) O<|Q.u 4 O<|Q.qg O (q.len' (bJ 29 O) O Tryz.underlying23) O<|Q.qg O (q.lss O O (decide_eq_false (by omega))) O<|Q.u 15 O<|Q.nil ?_
         refine R.aF O O ?_
         refine R.reg O<|R.u 1 O<|R.q (q.add (r:=((j+1:Nat):Int)) O O (wr (by omega))) O<|R.u 1 O<|R.nil ?_
         refine R.back (j+1) O (by (exact ⟨by omega,by first|exact nf Gb hj ‹_› ‹_› ‹_› | exact k7 Gb (by omega),by first|exact nf hR2 hj ‹_› ‹_› ‹_› | exact k7 hR2 (by omega)⟩)) (by omega) ⟨rfl,rfl,rfl,trivial⟩ (aK ia sJ O O O)
      ·
       refine R.q (q.lss O O (decide_eq_false (by omega))) O<|R.u 3 O<|R.qg O (q.len' (bJ 29 O) O Tryz.underlying23) O<|?_
       by_cases Ik:j<others.length
       ·
        refine R.qg O (q.lss O O (decide_eq_true (by omega))) O<|R.u 1 O<|R.nil ?_
        refine R.aE O O ?_
        obtain ⟨x6,hx6⟩:∃z,others[j]? = some z:=⟨_,List.getElem?_eq_getElem (by omega)⟩
        obtain ⟨x7,hx7⟩:∃z,others[(j-1)]? = some z:=⟨_,List.getElem?_eq_getElem (by omega)⟩
        rcases Bool.eq_false_or_eq_true ((fS x6.Key x7.Key||decide (x6.Key=x7.Key))) with Gh|Gh
        ·
         refine R.dP O mixed (by kernel_rfl)<|Q.u 2 O<|Q.q (q.len' (bJ 30 O) O Tryz.underlying23) O<|Q.q (q.lss O O (decide_eq_false (by omega))) O<|Q.u 17 O<|Q.qg O (q.len' (bJ 29 O) O Tryz.underlying23) O<|Q.qg O (q.lss O O (decide_eq_true (by omega))) O<|Q.u 3 O<|Q.qg O (q.idx (i:=j) (bJ 29 O) O O bL O hx6) O<|Q.qg O (q.dF (j':=0) (bJ 29 O) hx6 O bD O) O<|Q.qg O (q.fb (bJ 29 O) hx6 O bV O) O<|Q.u 2 O<|Q.qg O (q.sub (r:=((j-1:Nat):Int)) O O (wr (by omega))) O<|Q.qg O (q.idx (i:=(j-1)) (bJ 29 O) O O bL O hx7) O<|Q.qg O (q.dF (j':=0) (bJ 29 O) hx7 O bD O) O<|Q.qg O (q.fb (bJ 29 O) hx7 O bV O) O<|Q.qg O (q.qh O O Gh) O<|Q.u 2 O<|Q.nil ?_
         refine R.aE O O ?_
         refine R.reg O<|R.u 1 O<|R.nil ?_
         exact R.rv O Tryz.results3 O (rB (by (first|rfl|(exfalso;omega))))
        ·
         refine R.dP O mixed (by kernel_rfl)<|Q.u 2 O<|Q.q (q.len' (bJ 30 O) O Tryz.underlying23) O<|Q.q (q.lss O O (decide_eq_false (by omega))) O<|Q.u 17 O<|Q.qg O (q.len' (bJ 29 O) O Tryz.underlying23) O<|Q.qg O (q.lss O O (decide_eq_true (by omega))) O<|Q.u 3 O<|Q.qg O (q.idx (i:=j) (bJ 29 O) O O bL O hx6) O<|Q.qg O (q.dF (j':=0) (bJ 29 O) hx6 O bD O) O<|Q.qg O (q.fb (bJ 29 O) hx6 O bV O) O<|Q.u 2 O<|Q.qg O (q.sub (r:=((j-1:Nat):Int)) O O (wr (by omega))) O<|Q.qg O (q.idx (i:=(j-1)) (bJ 29 O) O O bL O hx7) O<|Q.qg O (q.dF (j':=0) (bJ 29 O) hx7 O bD O) O<|Q.qg O (q.fb (bJ 29 O) hx7 O bV O) O<|Q.qg O (q.qh O O Gh) O<|Q.u 2 O<|Q.nil ?_
         refine R.aF O O ?_
         refine R.reg O<|R.u 1 O<|R.q (q.add (r:=((j+1:Nat):Int)) O O (wr (by omega))) O<|R.u 1 O<|R.nil ?_
         refine R.back (j+1) O (by (exact ⟨by omega,by first|exact nf Gb hj ‹_› ‹_› ‹_› | exact k7 Gb (by omega),by first|exact nf hR2 hj ‹_› ‹_› ‹_› | exact k7 hR2 (by omega)⟩)) (by omega) ⟨rfl,rfl,rfl,trivial⟩ (aK ia sJ O O O)
       ·
        refine R.qg O (q.lss O O (decide_eq_false (by omega))) O<|R.u 1 O<|R.nil ?_
        refine R.aF O O ?_
        have fin:decide (hY (oS rows others)=cG rows others)=true:=decide_eq_true (wH (wP Gb (by omega)) (wP hR2 (by omega)))
        refine R.reg O<|R.u 2 O<|R.s (B':=(fun aN:Value=>[ag.row 52 aN (hY (oS rows others)),ag.box b10 [z62,z63,z64,z65,iV (((aO rows).1).ae),iV (((aO rows).1).af)] 32,ag.box b9 [z50,z51,z52,z53,iV (((aO (aU r1)).1).ae),iV (((aO (aU r1)).1).af)] 32,ag.row 52 z48 (aU r1),ag.row 52 z47 (aU r1),ag.box b2 [fW,fX,fY,fZ,iV r1.ae,iV r1.af] 32,ag.box b1 [dS,dU,dV,dW,iV r1.ae,iV r1.af] 32])) (F':=(fun aN:Value=>[ag.ls z62 ((aO rows).1).ai,ag.ls z63 ((aO rows).1).Things,ag.ls z64 ((aO rows).1).Held,ag.ls z65 ((aO rows).1).Notes,ag.ls z58 (aH r1).ai,ag.ls z59 (aH r1).Things,ag.ls z60 (aH r1).Held,ag.ls z61 (aH r1).Notes,ag.ls z50 ((aO (aU r1)).1).ai,ag.ls z51 ((aO (aU r1)).1).Things,ag.ls z52 ((aO (aU r1)).1).Held,ag.ls z53 ((aO (aU r1)).1).Notes,ag.ls z49 (aU r1),ag.ls fW r1.ai,ag.ls fX r1.Things,ag.ls fY r1.Held,ag.ls fZ r1.Notes,ag.ls dS r1.ai,ag.ls dU r1.Things,ag.ls dV r1.Held,ag.ls dW r1.Notes,ag.ls z5 (([]):List ak),ag.ls z6 (([]):List ao),ag.ls z7 (([]):List Held),ag.ls z8 (([]):List Note),ag.ls z1 (([]):List ak),ag.ls z2 (([]):List ao),ag.ls z3 (([]):List Held),ag.ls z4 (([]):List Note),ag.ls cE others,ag.ls dC rows,ag.acts l,ag.ls bG l,bR])) O (s.bP (B0:=[]) (Br:=[ag.box b10 [z62,z63,z64,z65,iV (((aO rows).1).ae),iV (((aO rows).1).af)] 32,ag.box b9 [z50,z51,z52,z53,iV (((aO (aU r1)).1).ae),iV (((aO (aU r1)).1).af)] 32,ag.row 52 z48 (aU r1),ag.row 52 z47 (aU r1),ag.box b2 [fW,fX,fY,fZ,iV r1.ae,iV r1.af] 32,ag.box b1 [dS,dU,dV,dW,iV r1.ae,iV r1.af] 32]) (F0:=[ag.ls dC rows,ag.ls cE others]) ia [30,29] (fun aN:Value=>aN) (fun aN:Value=>[ag.row 52 aN (hY (oS rows others))]) (fun aN:Value=>[]) O O O GV O O (fun w own hw H=>wL dC (rows) cE (others) w own H (by first|assumption|omega)) O) fun z67=>R.u 2 O<|R.s (B':=(fun aN:Value=>[ag.row 52 aN (cG rows others),ag.row 52 z67 (hY (oS rows others)),ag.box b10 [z62,z63,z64,z65,iV (((aO rows).1).ae),iV (((aO rows).1).af)] 32,ag.box b9 [z50,z51,z52,z53,iV (((aO (aU r1)).1).ae),iV (((aO (aU r1)).1).af)] 32,ag.row 52 z48 (aU r1),ag.row 52 z47 (aU r1),ag.box b2 [fW,fX,fY,fZ,iV r1.ae,iV r1.af] 32,ag.box b1 [dS,dU,dV,dW,iV r1.ae,iV r1.af] 32])) (F':=(fun aN:Value=>[ag.ls z62 ((aO rows).1).ai,ag.ls z63 ((aO rows).1).Things,ag.ls z64 ((aO rows).1).Held,ag.ls z65 ((aO rows).1).Notes,ag.ls z58 (aH r1).ai,ag.ls z59 (aH r1).Things,ag.ls z60 (aH r1).Held,ag.ls z61 (aH r1).Notes,ag.ls z50 ((aO (aU r1)).1).ai,ag.ls z51 ((aO (aU r1)).1).Things,ag.ls z52 ((aO (aU r1)).1).Held,ag.ls z53 ((aO (aU r1)).1).Notes,ag.ls z49 (aU r1),ag.ls fW r1.ai,ag.ls fX r1.Things,ag.ls fY r1.Held,ag.ls fZ r1.Notes,ag.ls dS r1.ai,ag.ls dU r1.Things,ag.ls dV r1.Held,ag.ls dW r1.Notes,ag.ls z5 (([]):List ak),ag.ls z6 (([]):List ao),ag.ls z7 (([]):List Held),ag.ls z8 (([]):List Note),ag.ls z1 (([]):List ak),ag.ls z2 (([]):List ao),ag.ls z3 (([]):List Held),ag.ls z4 (([]):List Note),ag.ls cE others,ag.ls dC rows,ag.acts l,ag.ls bG l,bR])) O (s.bP (B0:=[]) (Br:=[ag.row 52 z67 (hY (oS rows others)),ag.box b10 [z62,z63,z64,z65,iV (((aO rows).1).ae),iV (((aO rows).1).af)] 32,ag.box b9 [z50,z51,z52,z53,iV (((aO (aU r1)).1).ae),iV (((aO (aU r1)).1).af)] 32,ag.row 52 z48 (aU r1),ag.row 52 z47 (aU r1),ag.box b2 [fW,fX,fY,fZ,iV r1.ae,iV r1.af] 32,ag.box b1 [dS,dU,dV,dW,iV r1.ae,iV r1.af] 32]) (F0:=[ag.ls dC rows,ag.ls cE others]) gW [30,29] (fun aN:Value=>aN) (fun aN:Value=>[ag.row 52 aN (cG rows others)]) (fun aN:Value=>[]) O O O GX O O (fun w own hw H=>uN dC (rows) cE (others) w own H (by first|assumption|omega)) O) fun z68=>R.c (q.call ym O O (fun w hw=>(cv (congrArg Value.bool fin) (gR _ (hY (oS rows others)) _ (cG rows others) w (hw.row 1 O) (hw.row 0 O) )))) O<|R.u 1 O<|R.nil ?_
        exact R.rv O Tryz.results3 O (rB (by (first|rfl|(exfalso;omega))))
   ·
    refine R.cg O (q.call zj O O (fun w hw=>(cv (congrArg Value.bool h3) (iK _ (others) (70) w (hw.bq 0 O) )))) O<|R.u 2 O<|R.nil ?_
    refine R.aE O O ?_
    refine R.reg O<|R.u 2 O<|R.nil ?_
    exact R.rv O Tryz.results3 O (rB (by (first|rfl|(exfalso;omega))))
  ·
   refine R.cg O (q.call zj O O (fun w hw=>(cv (congrArg Value.bool h2) (iK _ (rows) (70) w (hw.bq 1 O) )))) O<|R.u 7 O<|R.nil ?_
   refine R.aE O O ?_
   refine R.reg O<|R.u 2 O<|R.nil ?_
   exact R.rv O Tryz.results3 O (rB (by (first|rfl|(exfalso;omega))))
 ·
  refine R.cg O (q.call GQ O O (fun w hw=>(cv (congrArg Value.bool h1) (rU _ (l) (50) w (hw.bq 3 O) (hw.acts 2 O) )))) O<|R.u 12 O<|R.nil ?_
  refine R.aE O O ?_
  refine R.reg O<|R.u 2 O<|R.nil ?_
  exact R.rv O Tryz.results3 O (rB (by (first|rfl|(exfalso;omega))))
end Go.Proofs.YtbkfhjaibhnkmaaGreatDoor
