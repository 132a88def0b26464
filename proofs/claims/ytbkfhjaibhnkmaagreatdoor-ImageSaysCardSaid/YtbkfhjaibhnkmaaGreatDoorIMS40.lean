import Derived.Test.YtbkfhjaibhnkmaaGreatDoorIMS7
import Derived.Test.YtbkfhjaibhnkmaaGreatDoorIMS11
import Derived.Test.YtbkfhjaibhnkmaaGreatDoorIMS39
import Derived.Test.YtbkfhjaibhnkmaaGreatDoorIMS28
import Derived.Sort.OwnSorted
import Derived.Test.YtbkfhjaibhnkmaaGreatDoorIMS35
import Derived.Test.YtbkfhjaibhnkmaaGreatDoorIMS18
import Derived.Test.YtbkfhjaibhnkmaaGreatDoorIMS19
import Derived.Test.YtbkfhjaibhnkmaaGreatDoorIMS12
section
namespace Go.Proofs.YtbkfhjaibhnkmaaGreatDoor
open Go Go.RowKit Go.Sort
set_option linter.unusedVariables false
set_option linter.unusedSimpArgs false
set_option maxRecDepth 100000
instance:Inhabited Change:=⟨⟨⟨#[]⟩,⟨#[]⟩,false⟩⟩
def CY (x y:Change):Int:=ut x.Key y.Key
theorem uI (x y:Change):ltOf CY x y=fS x.Key y.Key:=by
 unfold ltOf CY
 cases h:fS x.Key y.Key with
 | true=>exact decide_eq_true (rY.2 h)
 | false=>exact decide_eq_false fun q=>by rw [rY.1 q] at h;cases h
theorem yX:SWO (ltOf CY) where
 irrefl x:=by rw [uI];exact eR _
 trans x y z h k:=by rw [uI] at h k ⊢;exact hN h k
 ntrans x y z h k:=by
  rw [uI] at h k ⊢
  cases q:fS x.Key z.Key with
  | false=>rfl
  | true =>
   rcases m6 x.Key y.Key with e|e|e
   ·rw [e] at h;cases h
   ·rw [e] at q;rw [q] at k;cases k
   ·rw [hN e q] at k;cases k
def hY (l:List Change):List Change:=(pdq (ltOf CY) l.toArray 0 l.length (Lib.bitLen l.length) true true).toList
theorem mJ (l:List Change):(hY l).Perm l∧(hY l).Pairwise (fun x y => ¬ fS y.Key x.Key=true)∧(hY l).length=l.length:=by
 have h:=pdq_sorts (ltOf CY) yX l.toArray 0 l.toArray.size (Lib.bitLen l.length) true true (Nat.zero_le _) (Nat.le_refl _) (Or.inl rfl)
 rw [show l.toArray.size=l.length from rfl] at h
 obtain ⟨⟨hs,_,hp⟩,ho⟩:=h
 have hl:(hY l).length=l.length:=by unfold hY;rw [Array.length_toList,hs];rfl
 have e1:∀d:Array Change,d.size=l.length→(d.extract 0 l.length).toList=d.toList:=fun d hd=>by rw [← hd,Array.extract_size]
 refine ⟨?_,?_,hl⟩
 ·
  have:=hp
  rw [e1 _ hs,e1 _ rfl] at this
  exact this
 ·
  rw [List.pairwise_iff_getElem]
  intro i j hi hj hij
  have:=ho i j (Nat.zero_le _) hij (by rw [← hl];exact hj)
  rw [uI,getElem!_pos _ j (by rw [hs];show j<l.length;rw [← hl];exact hj),getElem!_pos _ i (by rw [hs];show i<l.length;rw [← hl];exact hi)] at this
  intro q
  exact Bool.noConfusion (this.symm.trans q)
theorem wH {a b:List Change}(ha:dY a)(hb:dY b):hY (oS a b)=cG a b:=xQ ha hb (mJ _).1 (mJ _).2.1
theorem wI (l:List Change):flatK Enc.cells 3 l.toArray=(l.flatMap Enc.cells).toArray:=by
 have hf:=dO l
 have h3:Enc.k Change=3:=rfl
 rw [h3] at hf
 refine ext_get! (by simp [hf]) fun t ht=>?_
 rw [size_flatK] at ht
 have ht':t<l.length*3:=ht
 rw [get_flatK _ _ _ t ht]
 have hi:t / 3<l.length:=by omega
 have hj:t % 3<(Enc.cells (l[t / 3]'hi)).length:=by rw [Enc.len,h3];omega
 have g:=flat_get l (t / 3) (l[t / 3]'hi) (t % 3) _ (List.getElem?_eq_getElem hi) (List.getElem?_eq_getElem hj)
 rw [h3,show t / 3*3+t % 3=t by omega] at g
 have e1:l.toArray[t / 3]! = l[t / 3]'hi:=by simp [hi]
 have e2:(Enc.cells (l[t / 3]'hi))[t % 3]! = (Enc.cells (l[t / 3]'hi))[t % 3]'hj:=getElem!_pos (Enc.cells (l[t / 3]'hi)) (t % 3) hj
 rw [e1,e2]
 have h2:t<(l.flatMap Enc.cells).length:=by rw [hf];exact ht'
 rw [getElem!_pos _ t (by simpa using h2)]
 rw [List.getElem?_eq_getElem h2] at g
 simpa using (Option.some.inj g).symm
theorem CF {w:World}{g:Nat}{cur:Array Value}{e:TypeId}{xs:List Value}(hb:w.heap[g]? = some (.cells cur e (0,0)))(ht:cur.toList.take xs.length=xs):Holds id w g 0 xs.toArray:=by
 intro j hj
 have hj':j<xs.length:=by simpa using hj
 refine ⟨?_,by simp [World.frozen?,hb]⟩
 have h1:(cur.toList.take xs.length)[j]? = xs[j]?:=by rw [ht]
 rw [List.getElem?_take_of_lt hj'] at h1
 simp only [World.cell?,hb,Nat.zero_add]
 simp only [Option.isSome_none,Bool.false_eq_true,if_false]
 rw [← Array.getElem?_toList,h1]
 simp [hj']
theorem D6 {w:World}{g n:Nat}{os:Array Obj}{cur:Array Value}{e:TypeId}{fr:Nat×Nat}(d:Array Value)(hb:w.heap[g]? = some (.cells cur e fr)) :
 (Sort.grow (putRow id (Sort.ahead w n) g 0 d) os).heap[g]? = some (.cells (putCells id 0 d cur) e fr):=by
 have hg:g<w.heap.size:=(Array.getElem?_eq_some_iff.1 hb).1
 rw [heap_grow_old _ _ (by simpa using hg)]
 simp [putRow,mapBlock,Sort.ahead,Array.getElem?_modify,hb,onCells]
theorem xR {w:World}{g n:Nat}{os:Array Obj}(d:Array Value):w.grownBy (Sort.grow (putRow id (Sort.ahead w n) g 0 d) os) (some g):=by
 refine ⟨rfl,rfl,rfl,by simp,fun k hk hne=>?_⟩
 rw [heap_grow_old _ _ (by simpa using hk)]
 have:g≠k:=fun e=>hne (by rw [e])
 simp [putRow,mapBlock,Sort.ahead,Array.getElem?_modify,this]
theorem D7 (cur:Array Value)(ts:List Value)(h:ts.length≤cur.size):(putCells id 0 ts.toArray cur).toList.take ts.length=ts:=by
 apply List.ext_getElem?
 intro j
 by_cases hj:j<ts.length
 ·
  rw [List.getElem?_take_of_lt hj,Array.getElem?_toList]
  simp [putCells,hj,show j<cur.size by omega]
 ·rw [List.getElem?_take_eq_none (by omega),List.getElem?_eq_none (by omega)]
theorem Jd (x y:Change)(w:World):Calls Tryz.prog 60 #[.agg (Enc.cells x).toArray,.agg (Enc.cells y).toArray] w fun e w'=>e = .returned (.int .i64 (CY x y)) ∧ ∃q os',w'=Sort.grow (w.drewN q) os':=by
 have hcon:∀W,Calls Tryz.prog 57 #[.string x.Key,.string y.Key] W fun e w'=>e = .returned (.int .i64 (CY x y))∧w'=W:=fun W=>(Tryz.strings_Compare x.Key y.Key W).mono fun e w' ⟨h1,h2⟩=>⟨by rw [h1,← kj,← kj,yN];rfl,h2⟩
 generalize CY x y=r at hcon ⊢
 show Calls Tryz.prog 60 #[.agg #[.string x.Key,.string x.Val,.bool x.Gone],.agg #[.string y.Key,.string y.Val,.bool y.Gone]] w _
 go_enter Tryz.func60,Tryz.ntmps60
 go_wp2_with (go_at_call 57;refine (hcon _).mono ?_;rintro e w' ⟨rfl,rfl⟩)
 go_ret
 exact ⟨rfl,0,_,by rw [alloc_eq_grow,alloc_eq_grow,grow_grow];rfl⟩
theorem xS {w:World}{g cap n:Nat}{os:Array Obj}{l ts:List Change}{v:Value}(hv:v = .slice (some ⟨g,0,none⟩) l.length cap)(how:Own 0 52 w v l)(hl:ts.length=l.length) :
 Turned [ag.row 52 v l] [ag.row 52 v ts] w (Sort.grow (putRow id (Sort.ahead w n) g 0 (ts.flatMap Enc.cells).toArray) os):=by
 obtain ⟨hlen,hn|⟨g',cap',cur,hv',_,hgg,hnc,hcm,hcs,htk⟩⟩:=how
 ·rw [hn.1] at hv;cases hv
 rw [hv] at hv'
 simp only [Value.slice.injEq,Option.some.injEq,Addr.mk.injEq,and_true,true_and] at hv'
 obtain ⟨rfl,rfl⟩:=hv'
 have h3:cur.size=cap*3:=hcs
 have hf:(ts.flatMap Enc.cells).length=ts.length*3:=dO ts
 have hgb:=xR (w:=w) (g:=g) (n:=n) (os:=os) (ts.flatMap Enc.cells).toArray
 have hown:Own 0 52 (Sort.grow (putRow id (Sort.ahead w n) g 0 (ts.flatMap Enc.cells).toArray) os) v ts:=by
  refine ⟨dO ts,.inr ⟨g,cap,_,by rw [hv,hl],Nat.zero_le _,D6 _ hgg,by omega,hcm,by simpa [putCells] using hcs,?_⟩⟩
  show (putCells id 0 (ts.flatMap Enc.cells).toArray cur).toList.take (ts.length*3)=_
  rw [← hf];exact D7 cur _ (by rw [hf,h3,hl];exact Nat.mul_le_mul_right 3 hnc)
 have hlt:g<w.heap.size:=(Array.getElem?_eq_some_iff.1 hgg).1
 refine ⟨⟨hgb.os,hgb.tape,hgb.output,hgb.size,fun k hk hx=>hgb.block k hk (fun e=>hx ?_)⟩,?_,?_,fun k hk=>?_⟩
 ·injection e with e;subst e;rw [hv];simp [blks,ag.row,eO]
 ·intro r hr;simp at hr;subst hr;exact hown
 ·rw [hv];simp [blks,ag.row,eO]
 ·
  rw [hv] at hk;simp [blks,ag.row,eO] at hk;subst hk
  exact ⟨Nat.lt_of_lt_of_le hlt hgb.size,.inl (by rw [hv];simp [blks,ag.row,eO])⟩
theorem Turned.Ia {B0:List ag}{w:World}(h:Hnd B0 w):Turned B0 B0 w w:=⟨kC.refl _ _,h.ok,h.sep,fun k hk=>⟨h.lt k hk,.inl hk⟩⟩
theorem zX (v:Value)(l:List Change)(w:World)(H:Hnd [ag.row 52 v l] w)(hl:l.length≤1000000):Calls Tryz.prog 59 [v,.func (.func 60) #[] #[]].toArray w fun e w' => ∃_z:Unit,e = .returned (.tuple #[])∧Turned [ag.row 52 v l] [ag.row 52 v (hY l)] w w':=by
 have how:Own 0 52 w v l:=H.ok (ag.row 52 v l) (List.mem_singleton.2 rfl)
 have hs:=(mJ l).2.2
 rcases how.2 with ⟨rfl,h0⟩ | ⟨g,cap,cur,hv,_,hgg,hnc,hcm,hcs,htk⟩
 ·
  have:l=[]:=List.eq_nil_of_length_eq_zero h0
  subst this
  refine (AnyF.slices_SortFunc_none { Tryz.laysSF with } none 0 _ w).mono ?_
  rintro e w' ⟨rfl,rfl⟩
  have e0:hY []=[]:=List.eq_nil_of_length_eq_zero hs
  rw [e0]
  exact ⟨(),rfl,Turned.Ia H⟩
 ·
  have hH:HoldsK Enc.cells 3 w g 0 l.toArray:=by
   unfold HoldsK;rw [wI]
   exact CF hgg (by rw [dO];exact htk)
  have eg:∀args w,(callFunc 60 args).run Tryz.prog w = .ok (.enter 60 args) w:=enters_of Tryz.func60 (by kernel_rfl) rfl
  rw [hv]
  refine (AnyQ.slices_SortFunc_eq Tryz.laysSF 3 Tryz.isAgg52 Tryz.sizeOf52 Enc.cells Enc.len Enc.one CY yX 60 #[] g 0 cap l.toArray w eg (fun _ _ _ _ x y=>Jd x y _) hH (Array.getElem?_eq_some_iff.1 hgg).1 (by simp;omega)).mono ?_
  rintro e w' ⟨rfl,n,os,rfl⟩
  refine ⟨(),rfl,?_⟩
  have:=xS (os:=os) (n:=n) (ts:=hY l) hv how hs
  rw [hv] at this
  unfold sortWorldK putRowK
  have e2:(pdq (ltOf CY) l.toArray 0 l.toArray.size (Lib.bitLen l.toArray.size) true true)=(hY l).toArray:=by unfold hY;simp
  rw [e2,wI]
  exact this
end Go.Proofs.YtbkfhjaibhnkmaaGreatDoor
end
section
namespace Go.Proofs.YtbkfhjaibhnkmaaGreatDoor
open Go Go.RowKit
set_option linter.unusedVariables false
set_option linter.unusedSimpArgs false
set_option maxRecDepth 100000
theorem wJ {α:Type}(f:α→Int)(l:List α):mR f l=false ∨ ∃x,l[mQ f l]? = some x∧mR f l=true∧mQ f l<l.length:=by
 cases h:mR f l with
 | false=>exact .inl rfl
 | true =>
  have:=FR h
  exact .inr ⟨l[mQ f l],List.getElem?_eq_getElem this,rfl,this⟩
def sG (a:List Change)(c:Change):Bool:= !mR (fK c.Key) a || !decide (a[mQ (fK c.Key) a]? = some c)
theorem tI {a b:List Change}{k:Nat}{x:Change}(h:a[k]? = some x):sh (a.take (k+1)) b=sh (a.take k) b++(if mR (fK x.Key) b=false then [qb x.Key] else []):=by
 unfold sh
 rw [List.take_add_one,h,List.filter_append,List.map_append]
 cases hb:mR (fK x.Key) b <;> simp [hb]
theorem pD {a b:List Change}{k:Nat}{x:Change}(h:b[k]? = some x):wE a (b.take (k+1))=wE a (b.take k)++(if sG a x=true then [x] else []):=by
 unfold wE
 rw [List.take_add_one,h,List.filter_append]
 congr 1
 cases hb:sG a x with
 | true=>unfold sG at hb;simp [hb]
 | false=>unfold sG at hb;simp [hb]
theorem D8 {a:List Change}{x:Change}(h:mR (fK x.Key) a=false):sG a x=true:=by unfold sG;rw [h];rfl
theorem D9 {a:List Change}{x y:Change}(h:a[mQ (fK x.Key) a]? = some y)(hn:¬ y=x):sG a x=true:=by
 unfold sG;rw [h,decide_eq_false (fun e=>hn (Option.some.inj e))];simp
theorem Ea {a:List Change}{x y:Change}(hb:mR (fK x.Key) a=true)(h:a[mQ (fK x.Key) a]? = some y)(hn:y=x):sG a x=false:=by
 unfold sG;rw [hb,h,hn];simp
theorem wK (a b:List Change):(sh a b).length≤a.length:=by unfold sh;rw [List.length_map];exact List.length_filter_le _ _
theorem CG (a b:List Change):(wE a b).length≤b.length:=List.length_filter_le _ _
theorem lK (x:Change)(k:ByteArray)(w:World)  : Calls Tryz.prog 56 #[.agg #[.string x.Key,.string x.Val,.bool x.Gone],.string k] w fun e w'=>e = .returned (iV (fK k x))∧Ext w w':=by
 refine R.enter (n:=9) (vs:=[.agg #[.string x.Key,.string x.Val,.bool x.Gone],.string k]) [] [(0,.agg #[.string x.Key,.string x.Val,.bool x.Gone]),(1,.string k)] Tryz.func56 O O O O ?_
 refine R.reg O<|R.s O (s.box (cs:=bY x) O O O) fun b1=>R.u 1 O<|R.nil ?_
 refine R.reg O<|R.q (q.aT (off':=0) O bD O) O<|R.q (q.ld 0 O O bV O) O<|R.u 1 O<|R.c (q.call Hj O O (fun w hw=>(r8 (x.Key) (k) w  ))) O<|R.u 1 O<|R.nil ?_
 exact R.rv O Tryz.results56 O (rI (by (rfl)))
set_option maxHeartbeats 1600000 in
theorem wL (k9:Value)(a:List Change)(lq:Value)(b:List Change)(w:World)(own:List Nat)(H:Wd w (blks []++own) ([]++[ag.held w own]) [ag.ls k9 (a:List Change),ag.ls lq (b:List Change)] w)(hl:a.length≤1000∧b.length≤1000):Calls Tryz.prog 20 #[k9,lq] w fun e w' => ∃z:Value,e = .returned (z)∧Wd w (blks []++own) ([ag.row 52 z ((hY (oS a b)):List Change)]++[ag.held w own]) [] w':=by
 have J6:=H.ct 0 rfl
 have J7:=H.ct 1 rfl
 refine R.da (n:=70) (vs:=[k9,lq]) (B:=[ag.held w own]) [(0,k9),(1,lq)] Tryz.func20 O O O O H ?_
 refine R.reg O<|R.u 1 O<|R.nil ?_
 refine R.reg O<|R.u 1 O<|R.nil ?_
 refine R.reg O<|R.u 1 O<|R.nil ?_
 refine R.reg O<|R.u 1 O<|R.q (q.len' (bJ 0 O) O Tryz.underlying23) O<|R.u 1 O<|R.nil ?_
 refine R.row0 (α:=Change) 52 ?_
 refine R.loop (fun g_:Nat×Value×(List Change)=>[(0,k9),(1,lq),(5,g_.2.1),(6,.func (.func 56) #[] #[]),(15,k9),(16,iV (a.length:Int)),(17,iV (g_.1:Int))]) (fun g_=>[ag.row 52 g_.2.1 g_.2.2,ag.held w own]) (fun g_=>[ag.ls k9 a,ag.ls lq b]) (fun g_=>g_.1≤a.length∧g_.2.2=sh (a.take g_.1) b) (fun g_=>a.length-g_.1) (0,(nS),[]) O (by exact ⟨by omega,rfl⟩) ⟨rfl,rfl,rfl,rfl,rfl,rfl,rfl,trivial⟩ (fun _=>Wd.pick [0,1] [0,1] O O O) ?_
 rintro ⟨k,u,l⟩ ⟨hk,HL⟩
 dsimp only at *
 have ll:=wK (a.take k) b;rw [← HL,List.length_take] at ll
 refine R.reg O<|?_
 by_cases h1:k<a.length
 ·
  refine R.q (q.lss O O (decide_eq_true (by omega))) O<|R.nil ?_
  refine R.aE O O ?_
  refine R.reg O<|?_
  obtain ⟨x1,hx1⟩:∃z,a[k]? = some z:=⟨_,List.getElem?_eq_getElem (by omega)⟩
  refine R.q (q.idx (i:=k) (bJ 0 O) O O bL O hx1) O<|R.q (q.cY (ds:=bY x1) (bJ 0 O) hx1 O dm O) O<|R.s O (s.alloc (cs:=[.string (⟨#[]⟩),.string (⟨#[]⟩),.bool false]) dI O O) fun b1=>R.s O (s.st (us:=bY x1) (cs':=bY x1) 0 _ O O O O (.inl dm) O O O O) fun _=>R.nil ?_
  refine R.reg O<|R.u 1 O<|R.q (q.aT (off':=0) O bD O) O<|R.q (q.ld 0 O O bV O) O<|R.u 1 O<|?_
  rcases wJ (fun x=>(fun (x:Change) (k:ByteArray)=>fK k x) x x1.Key) b with eU|⟨jE,hZ,eU,uc⟩
  ·
   refine R.c (q.call yr O O (fun w hw=>(cv (congrArg (fun F5=>Value.tuple #[iV ((mQ (fun x=>(fun (x:Change) (k:ByteArray)=>fK k x) x x1.Key) b:Nat):Int),.bool F5]) eU) (gk _ (b) (x1.Key) (fun (x:Change) (k:ByteArray)=>fK k x) _ _ yq w (hw.bq 1 O) (fun W x k hW=>lK x k  W  ) (by omega))))) O<|R.u 5 O<|R.nil ?_
   refine R.reg O<|R.u 2 O<|R.nil ?_
   refine R.aE O O ?_
   refine R.reg O<|R.u 1 O<|R.q (q.aT (off':=0) O bD O) O<|R.q (q.ld 0 O O bV O) O<|R.q (q.build (cs:=[.string x1.Key,.string (⟨#[]⟩),.bool true]) kJ O O) O<|R.s O (s.bs (l:=([(⟨x1.Key,⟨#[]⟩,true⟩:Change)]:List Change)) bL dI O O O O O O O) fun b2=>R.s O (s.app (l2:=[(⟨x1.Key,⟨#[]⟩,true⟩:Change)]) 2 _ O O O (cJ 0 O) eQ (by (simp;omega)) (by (simp;omega)) (fun _=>rfl) O) fun v1=>R.u 1 O<|R.nil ?_
   refine R.reg O<|R.q (q.add (r:=((k+1:Nat):Int)) O O (wr (by omega))) O<|R.u 1 O<|R.nil ?_
   refine R.back (k+1,v1,(l++([(⟨x1.Key,⟨#[]⟩,true⟩:Change)]))) O (by (exact ⟨by omega,by rw [tI hx1,← HL];(rw [if_pos (show mR (fK x1.Key) b=false from eU)];rfl)⟩)) (by dsimp only;omega) ⟨rfl,rfl,rfl,rfl,rfl,rfl,rfl,trivial⟩ (aK [2,3] [0,1] O O O)
  ·
   refine R.c (q.call yr O O (fun w hw=>(cv (congrArg (fun F5=>Value.tuple #[iV ((mQ (fun x=>(fun (x:Change) (k:ByteArray)=>fK k x) x x1.Key) b:Nat):Int),.bool F5]) eU) (gk _ (b) (x1.Key) (fun (x:Change) (k:ByteArray)=>fK k x) _ _ yq w (hw.bq 1 O) (fun W x k hW=>lK x k  W  ) (by omega))))) O<|R.u 5 O<|R.nil ?_
   refine R.reg O<|R.u 2 O<|R.nil ?_
   refine R.aF O O ?_
   refine R.reg O<|R.q (q.add (r:=((k+1:Nat):Int)) O O (wr (by omega))) O<|R.u 1 O<|R.nil ?_
   refine R.back (k+1,u,l) O (by (exact ⟨by omega,by rw [tI hx1,← HL];(rw [if_neg (by rw [show mR (fK x1.Key) b=true from eU];decide)];exact (List.append_nil _).symm)⟩)) (by dsimp only;omega) ⟨rfl,rfl,rfl,rfl,rfl,rfl,rfl,trivial⟩ (aK [1,2] [0,1] O O O)
 ·
  refine R.q (q.lss O O (decide_eq_false (by omega))) O<|R.nil ?_
  refine R.aF O O ?_
  refine R.reg O<|R.u 1 O<|R.q (q.len' (bJ 1 O) O Tryz.underlying23) O<|R.u 1 O<|R.nil ?_
  refine R.loop (fun g_:Nat×Value×(List Change)=>[(0,k9),(5,g_.2.1),(6,.func (.func 56) #[] #[]),(38,lq),(39,iV (b.length:Int)),(40,iV (g_.1:Int))]) (fun g_=>[ag.row 52 g_.2.1 g_.2.2,ag.held w own]) (fun g_=>[ag.ls k9 a,ag.ls lq b]) (fun g_=>g_.1≤b.length∧g_.2.2=sh a b++wE a (b.take g_.1)) (fun g_=>b.length-g_.1) (0,u,l) O (by exact ⟨by omega,by rw [HL,List.take_of_length_le (by omega)];exact (List.append_nil _).symm⟩) ⟨rfl,rfl,rfl,rfl,rfl,rfl,trivial⟩ (fun _=>Wd.pick [0,1] [0,1] O O O) ?_
  rintro ⟨j,u2,l2⟩ ⟨hj,HL2⟩
  dsimp only at *
  have I8:l2.length≤a.length+j:=by have q1:=wK a b;have q2:=CG a (b.take j);rw [List.length_take] at q2;rw [HL2,List.length_append];omega
  refine R.reg O<|?_
  by_cases h2:j<b.length
  ·
   refine R.q (q.lss O O (decide_eq_true (by omega))) O<|R.nil ?_
   refine R.aE O O ?_
   refine R.reg O<|?_
   obtain ⟨x2,hx2⟩:∃z,b[j]? = some z:=⟨_,List.getElem?_eq_getElem (by omega)⟩
   refine R.q (q.idx (i:=j) (bJ 1 O) O O bL O hx2) O<|R.q (q.cY (ds:=bY x2) (bJ 1 O) hx2 O dm O) O<|R.s O (s.alloc (cs:=[.string (⟨#[]⟩),.string (⟨#[]⟩),.bool false]) dI O O) fun b3=>R.s O (s.st (us:=bY x2) (cs':=bY x2) 0 _ O O O O (.inl dm) O O O O) fun _=>R.nil ?_
   refine R.reg O<|R.u 1 O<|R.q (q.aT (off':=0) O bD O) O<|R.q (q.ld 0 O O bV O) O<|R.u 1 O<|?_
   rcases wJ (fun x=>(fun (x:Change) (k:ByteArray)=>fK k x) x x2.Key) a with yY|⟨Ib,F6,yY,Ku⟩
   ·
    refine R.c (q.call yr O O (fun w hw=>(cv (congrArg (fun F5=>Value.tuple #[iV ((mQ (fun x=>(fun (x:Change) (k:ByteArray)=>fK k x) x x2.Key) a:Nat):Int),.bool F5]) yY) (gk _ (a) (x2.Key) (fun (x:Change) (k:ByteArray)=>fK k x) _ _ yq w (hw.bq 0 O) (fun W x k hW=>lK x k  W  ) (by omega))))) O<|R.u 5 O<|R.nil ?_
    refine R.dP O mixed (by kernel_rfl)<|Q.u 10 O<|Q.nil ?_
    refine R.aE O O ?_
    refine R.reg O<|R.u 1 O<|R.q (q.cj 0 O O dm) O<|R.s O (s.bs (l:=([x2]:List Change)) bL dI O O O O O O O) fun b4=>R.s O (s.app (l2:=[x2]) 2 _ O O O (cJ 0 O) eQ (by (simp;omega)) (by (simp;omega)) (fun _=>rfl) O) fun v2=>R.u 1 O<|R.nil ?_
    refine R.reg O<|R.q (q.add (r:=((j+1:Nat):Int)) O O (wr (by omega))) O<|R.u 1 O<|R.nil ?_
    refine R.back (j+1,v2,(l2++([x2]))) O (by (exact ⟨by omega,by rw [pD hx2,← List.append_assoc,← HL2];(rw [if_pos (D8 yY)];done)⟩)) (by dsimp only;omega) ⟨rfl,rfl,rfl,rfl,rfl,rfl,trivial⟩ (aK [2,3] [0,1] O O O)
   ·
    refine R.c (q.call yr O O (fun w hw=>(cv (congrArg (fun F5=>Value.tuple #[iV ((mQ (fun x=>(fun (x:Change) (k:ByteArray)=>fK k x) x x2.Key) a:Nat):Int),.bool F5]) yY) (gk _ (a) (x2.Key) (fun (x:Change) (k:ByteArray)=>fK k x) _ _ yq w (hw.bq 0 O) (fun W x k hW=>lK x k  W  ) (by omega))))) O<|R.u 5 O<|R.nil ?_
    by_cases h3:Ib=x2
    ·
     refine R.dP O mixed (by kernel_rfl)<|Q.u 5 O<|Q.qg O (q.idx (i:=(mQ (fun x=>(fun (x:Change) (k:ByteArray)=>fK k x) x x2.Key) a)) (bJ 0 O) O O bL O F6) O<|Q.qg O (q.cY (ds:=bY Ib) (bJ 0 O) F6 O dm O) O<|Q.qg O (q.cj 0 O O dm) O<|Q.qg O (q.gX (x:=Ib) (y:=x2) pT O O h3) O<|Q.u 1 O<|Q.nil ?_
     refine R.aF O O ?_
     refine R.reg O<|R.q (q.add (r:=((j+1:Nat):Int)) O O (wr (by omega))) O<|R.u 1 O<|R.nil ?_
     refine R.back (j+1,u2,l2) O (by (exact ⟨by omega,by rw [pD hx2,← List.append_assoc,← HL2];(rw [if_neg (by rw [Ea yY F6 ‹_›];decide)];exact (List.append_nil _).symm)⟩)) (by dsimp only;omega) ⟨rfl,rfl,rfl,rfl,rfl,rfl,trivial⟩ (aK [1,2] [0,1] O O O)
    ·
     refine R.dP O mixed (by kernel_rfl)<|Q.u 5 O<|Q.qg O (q.idx (i:=(mQ (fun x=>(fun (x:Change) (k:ByteArray)=>fK k x) x x2.Key) a)) (bJ 0 O) O O bL O F6) O<|Q.qg O (q.cY (ds:=bY Ib) (bJ 0 O) F6 O dm O) O<|Q.qg O (q.cj 0 O O dm) O<|Q.qg O (q.gY (x:=Ib) (y:=x2) pT O O h3) O<|Q.u 1 O<|Q.nil ?_
     refine R.aE O O ?_
     refine R.reg O<|R.u 1 O<|R.q (q.cj 0 O O dm) O<|R.s O (s.bs (l:=([x2]:List Change)) bL dI O O O O O O O) fun b5=>R.s O (s.app (l2:=[x2]) 2 _ O O O (cJ 0 O) eQ (by (simp;omega)) (by (simp;omega)) (fun _=>rfl) O) fun v3=>R.u 1 O<|R.nil ?_
     refine R.reg O<|R.q (q.add (r:=((j+1:Nat):Int)) O O (wr (by omega))) O<|R.u 1 O<|R.nil ?_
     refine R.back (j+1,v3,(l2++([x2]))) O (by (exact ⟨by omega,by rw [pD hx2,← List.append_assoc,← HL2];(rw [if_pos (D9 F6 ‹_›)];done)⟩)) (by dsimp only;omega) ⟨rfl,rfl,rfl,rfl,rfl,rfl,trivial⟩ (aK [2,3] [0,1] O O O)
  ·
   refine R.q (q.lss O O (decide_eq_false (by omega))) O<|R.nil ?_
   refine R.aF O O ?_
   refine R.reg O<|R.u 1 O<|R.s O (s.Ap (B0:=[ag.row 52 u2 l2]) (Br:=[ag.held w own]) [0,1] _ _ O O Hl O O (fun w hw H=>zX u2 (l2) w  H  (by omega)) O) fun u1=>R.nil ?_
   refine R.reg O<|R.u 2 O<|R.nil ?_
   have hz:hY (oS a b)=(hY l2):=by (rw [HL2,List.take_of_length_le (by omega)];rfl)
   rw [hz]
   exact R.w1 u2 [0,1] [] O Tryz.results20 (RV.tmp O) O O O O
end Go.Proofs.YtbkfhjaibhnkmaaGreatDoor
end
section
namespace Go.Proofs.YtbkfhjaibhnkmaaGreatDoor
open Go Go.RowKit
set_option linter.unusedVariables false
set_option maxRecDepth 100000
section
variable {α:Type} {p:α→Bool} {l:List α} {j:Nat} {x:α}
end
end Go.Proofs.YtbkfhjaibhnkmaaGreatDoor
end
