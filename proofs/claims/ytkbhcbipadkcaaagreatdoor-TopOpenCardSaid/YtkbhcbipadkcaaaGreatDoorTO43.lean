import Derived.Test.YtkbhcbipadkcaaaGreatDoorTO42
import Derived.Sort.OwnSorted
namespace Go.Proofs.YtkbhcbipadkcaaaGreatDoor
set_option linter.unusedVariables false
set_option linter.unusedSimpArgs false
section
open Go Go.RowKit Go.Sort
set_option maxRecDepth 100000
instance:Inhabited Change:=⟨⟨⟨#[]⟩,⟨#[]⟩,false⟩⟩
def LZ (x y:Change):Int:=AY x.Key y.Key
theorem B6 (x y:Change):ltOf LZ x y=jA x.Key y.Key:=by
 unfold ltOf LZ
 cases h:jA x.Key y.Key with
 | true=>exact decide_eq_true (wX.2 h)
 | false=>exact decide_eq_false fun q=>by rw [wX.1 q] at h;cases h
theorem GQ:SWO (ltOf LZ) where
 irrefl x:=by rw [B6];exact fa _
 trans x y z h k:=by rw [B6] at h k ⊢;exact l8 h k
 ntrans x y z h k:=by
  rw [B6] at h k ⊢
  cases q:jA x.Key z.Key with
  | false=>rfl
  | true =>
   rcases sX x.Key y.Key with e|e|e
   .rw [e] at h;cases h
   .rw [e] at q;rw [q] at k;cases k
   .rw [l8 e q] at k;cases k
def gT (l:List Change):List Change:=(pdq (ltOf LZ) l.toArray 0 l.length (Lib.bitLen l.length) true true).toList
theorem qy (l:List Change):(gT l).Perm l/\(gT l).Pairwise (fun x y => ¬ jA y.Key x.Key=true)/\(gT l).length=l.length:=by
 have h:=pdq_sorts (ltOf LZ) GQ l.toArray 0 l.toArray.size (Lib.bitLen l.length) true true (Nat.zero_le _) (Nat.le_refl _) (Or.inl rfl)
 rw [show l.toArray.size=l.length from rfl] at h
 obtain ⟨⟨hs,_,hp⟩,ho⟩:=h
 have hl:(gT l).length=l.length:=by unfold gT;rw [Array.length_toList,hs];rfl
 have e1:∀d:Array Change,d.size=l.length->(d.extract 0 l.length).toList=d.toList:=fun d hd=>by rw [<- hd,Array.extract_size]
 refine ⟨?_,?_,hl⟩
 .
  have:=hp
  rw [e1 _ hs,e1 _ rfl] at this
  exact this
 .
  rw [List.pairwise_iff_getElem]
  intro i j hi hj hij
  have:=ho i j (Nat.zero_le _) hij (by rw [<- hl];exact hj)
  rw [B6,getElem!_pos _ j (by rw [hs];show j<l.length;rw [<- hl];exact hj),getElem!_pos _ i (by rw [hs];show i<l.length;rw [<- hl];exact hi)] at this
  intro q
  exact Bool.noConfusion (this.symm.trans q)
theorem D8 {a b:List Change}(ha:dr a)(hb:dr b):gT (mO a b)=dU a b:=Fy ha hb (qy _).1 (qy _).2.1
theorem D9 (l:List Change):flatK Enc.cells 3 l.toArray=(l.flatMap Enc.cells).toArray:=by
 have hf:=di l
 have h3:Enc.k Change=3:=rfl
 rw [h3] at hf
 refine ext_get! (by simp [hf]) fun t ht=>?_
 rw [size_flatK] at ht
 have ht':t<l.length*3:=ht
 rw [get_flatK _ _ _ t ht]
 have hi:t / 3<l.length:=by omega
 have hj:t % 3<(Enc.cells (l[t / 3]'hi)).length:=by rw [Enc.len,h3];omega
 have g:=flat_get l (t / 3) (l[t / 3]'hi) (t % 3) _ (List.getElem?_eq_getElem hi) (List.getElem?_eq_getElem hj)
 rw [h3,show t / 3*3+t % 3=t by omega] at g
 have e1:l.toArray[t / 3]! = l[t / 3]'hi:=by simp [hi]
 have e2:(Enc.cells (l[t / 3]'hi))[t % 3]! = (Enc.cells (l[t / 3]'hi))[t % 3]'hj:=getElem!_pos (Enc.cells (l[t / 3]'hi)) (t % 3) hj
 rw [e1,e2]
 have h2:t<(l.flatMap Enc.cells).length:=by rw [hf];exact ht'
 rw [getElem!_pos _ t (by simpa using h2)]
 rw [List.getElem?_eq_getElem h2] at g
 simpa using (Option.some.inj g).symm
theorem LF {w:World}{g:Nat}{cur:Array Value}{e:TypeId}{xs:List Value}(hb:w.heap[g]? = some (.cells cur e (0,0)))(ht:cur.toList.take xs.length=xs):Holds id w g 0 xs.toArray:=by
 intro j hj
 have hj':j<xs.length:=by simpa using hj
 refine ⟨?_,by simp [World.frozen?,hb]⟩
 have h1:(cur.toList.take xs.length)[j]? = xs[j]?:=by rw [ht]
 rw [List.getElem?_take_of_lt hj'] at h1
 simp only [World.cell?,hb,Nat.zero_add]
 simp only [Option.isSome_none,Bool.false_eq_true,if_false]
 rw [<- Array.getElem?_toList,h1]
 simp [hj']
theorem Nq {w:World}{g n:Nat}{os:Array Obj}{cur:Array Value}{e:TypeId}{fr:Nat×Nat}(d:Array Value)(hb:w.heap[g]? = some (.cells cur e fr)) :
 (Sort.grow (putRow id (Sort.ahead w n) g 0 d) os).heap[g]? = some (.cells (putCells id 0 d cur) e fr):=by
 have hg:g<w.heap.size:=(Array.getElem?_eq_some_iff.1 hb).1
 rw [heap_grow_old _ _ (by simpa using hg)]
 simp [putRow,mapBlock,Sort.ahead,Array.getElem?_modify,hb,onCells]
theorem FA {w:World}{g n:Nat}{os:Array Obj}(d:Array Value):w.grownBy (Sort.grow (putRow id (Sort.ahead w n) g 0 d) os) (some g):=by
 refine ⟨rfl,rfl,rfl,by simp,fun k hk hne=>?_⟩
 rw [heap_grow_old _ _ (by simpa using hk)]
 have:g≠k:=fun e=>hne (by rw [e])
 simp [putRow,mapBlock,Sort.ahead,Array.getElem?_modify,this]
theorem Nr (cur:Array Value)(ts:List Value)(h:ts.length<=cur.size):(putCells id 0 ts.toArray cur).toList.take ts.length=ts:=by
 apply List.ext_getElem?
 intro j
 by_cases hj:j<ts.length
 .
  rw [List.getElem?_take_of_lt hj,Array.getElem?_toList]
  simp [putCells,hj,show j<cur.size by omega]
 .rw [List.getElem?_take_eq_none (by omega),List.getElem?_eq_none (by omega)]
theorem UC (x y:Change)(w:World):Calls Tryz.prog 161 #[.agg (Enc.cells x).toArray,.agg (Enc.cells y).toArray] w fun e w'=>e = .returned (.int .i64 (LZ x y)) /\ ∃q os',w'=Sort.grow (w.drewN q) os':=by
 have hcon:∀W,Calls Tryz.prog 147 #[.string x.Key,.string y.Key] W fun e w'=>e = .returned (.int .i64 (LZ x y))/\w'=W:=fun W=>(Tryz.strings_Compare x.Key y.Key W).mono fun e w' ⟨h1,h2⟩=>⟨by rw [h1,<- m5,<- m5,Gc];rfl,h2⟩
 generalize LZ x y=r at hcon ⊢
 show Calls Tryz.prog 161 #[.agg #[.string x.Key,.string x.Val,.bool x.Gone],.agg #[.string y.Key,.string y.Val,.bool y.Gone]] w _
 go_enter Tryz.func161,Tryz.ntmps161
 go_wp2_with (go_at_call 147;refine (hcon _).mono ?_;rintro e w' ⟨rfl,rfl⟩)
 go_ret
 exact ⟨rfl,0,_,by rw [alloc_eq_grow,alloc_eq_grow,grow_grow];rfl⟩
theorem FB {w:World}{g cap n:Nat}{os:Array Obj}{l ts:List Change}{v:Value}(hv:v = .slice (some ⟨g,0,none⟩) l.length cap)(how:Own 0 117 w v l)(hl:ts.length=l.length) :
 Turned [ag.row 117 v l] [ag.row 117 v ts] w (Sort.grow (putRow id (Sort.ahead w n) g 0 (ts.flatMap Enc.cells).toArray) os):=by
 obtain ⟨hlen,hn|⟨g',cap',cur,hv',_,hgg,hnc,hcm,hcs,htk⟩⟩:=how
 .rw [hn.1] at hv;cases hv
 rw [hv] at hv'
 simp only [Value.slice.injEq,Option.some.injEq,Addr.mk.injEq,and_true,true_and] at hv'
 obtain ⟨rfl,rfl⟩:=hv'
 have h3:cur.size=cap*3:=hcs
 have hf:(ts.flatMap Enc.cells).length=ts.length*3:=di ts
 have hgb:=FA (w:=w) (g:=g) (n:=n) (os:=os) (ts.flatMap Enc.cells).toArray
 have hown:Own 0 117 (Sort.grow (putRow id (Sort.ahead w n) g 0 (ts.flatMap Enc.cells).toArray) os) v ts:=by
  refine ⟨di ts,.inr ⟨g,cap,_,by rw [hv,hl],Nat.zero_le _,Nq _ hgg,by omega,hcm,by simpa [putCells] using hcs,?_⟩⟩
  show (putCells id 0 (ts.flatMap Enc.cells).toArray cur).toList.take (ts.length*3)=_
  rw [<- hf];exact Nr cur _ (by rw [hf,h3,hl];exact Nat.mul_le_mul_right 3 hnc)
 have hlt:g<w.heap.size:=(Array.getElem?_eq_some_iff.1 hgg).1
 refine ⟨⟨hgb.os,hgb.tape,hgb.output,hgb.size,fun k hk hx=>hgb.block k hk (fun e=>hx ?_)⟩,?_,?_,fun k hk=>?_⟩
 .injection e with e;subst e;rw [hv];simp [blks,ag.row,dZ]
 .intro r hr;simp at hr;subst hr;exact hown
 .rw [hv];simp [blks,ag.row,dZ]
 .
  rw [hv] at hk;simp [blks,ag.row,dZ] at hk;subst hk
  exact ⟨Nat.lt_of_lt_of_le hlt hgb.size,.inl (by rw [hv];simp [blks,ag.row,dZ])⟩
theorem Turned.Tn {B0:List ag}{w:World}(h:Hnd B0 w):Turned B0 B0 w w:=⟨lS.refl _ _,h.ok,h.sep,fun k hk=>⟨h.lt k hk,.inl hk⟩⟩
theorem IE (v:Value)(l:List Change)(w:World)(H:Hnd [ag.row 117 v l] w)(hl:l.length<=1000000):Calls Tryz.prog 160 [v,.func (.func 161) #[] #[]].toArray w fun e w' => ∃_z:Unit,e = .returned (.tuple #[])/\Turned [ag.row 117 v l] [ag.row 117 v (gT l)] w w':=by
 have how:Own 0 117 w v l:=H.ok (ag.row 117 v l) (List.mem_singleton.2 rfl)
 have hs:=(qy l).2.2
 rcases how.2 with ⟨rfl,h0⟩ | ⟨g,cap,cur,hv,_,hgg,hnc,hcm,hcs,htk⟩
 .
  have:l=[]:=List.eq_nil_of_length_eq_zero h0
  subst this
  refine (AnyF.slices_SortFunc_none { Tryz.laysSF with } none 0 _ w).mono ?_
  rintro e w' ⟨rfl,rfl⟩
  have e0:gT []=[]:=List.eq_nil_of_length_eq_zero hs
  rw [e0]
  exact ⟨(),rfl,Turned.Tn H⟩
 .
  have hH:HoldsK Enc.cells 3 w g 0 l.toArray:=by
   unfold HoldsK;rw [D9]
   exact LF hgg (by rw [di];exact htk)
  have eg:∀args w,(callFunc 161 args).run Tryz.prog w = .ok (.enter 161 args) w:=enters_of Tryz.func161 (by kernel_rfl) rfl
  rw [hv]
  refine (AnyQ.slices_SortFunc_eq Tryz.laysSF 3 Tryz.isAgg117 Tryz.sizeOf117 Enc.cells Enc.len Enc.one LZ GQ 161 #[] g 0 cap l.toArray w eg (fun _ _ _ _ x y=>UC x y _) hH (Array.getElem?_eq_some_iff.1 hgg).1 (by simp;omega)).mono ?_
  rintro e w' ⟨rfl,n,os,rfl⟩
  refine ⟨(),rfl,?_⟩
  have:=FB (os:=os) (n:=n) (ts:=gT l) hv how hs
  rw [hv] at this
  unfold sortWorldK putRowK
  have e2:(pdq (ltOf LZ) l.toArray 0 l.toArray.size (Lib.bitLen l.toArray.size) true true)=(gT l).toArray:=by unfold gT;simp
  rw [e2,D9]
  exact this
end
section
open Go Go.RowKit
set_option maxRecDepth 100000
set_option maxHeartbeats 90000000
theorem Ea {α:Type}(f:α->Int)(l:List α):lF f l=false ∨ ∃x,l[jF f l]? = some x/\lF f l=true/\jF f l<l.length:=by
 cases h:lF f l with
 | false=>exact .inl rfl
 | true =>
  have:=wZ h
  exact .inr ⟨l[jF f l],List.getElem?_eq_getElem this,rfl,this⟩
def y9 (a:List Change)(c:Change):Bool:= !lF (fK c.Key) a || !decide (a[jF (fK c.Key) a]? = some c)
theorem Ai {a b:List Change}{k:Nat}{x:Change}(h:a[k]? = some x):yu (a.take (k+1)) b=yu (a.take k) b++(if lF (fK x.Key) b=false then [rR x.Key] else []):=by
 unfold yu
 rw [List.take_add_one,h,List.filter_append,List.map_append]
 cases hb:lF (fK x.Key) b <;> simp [hb]
theorem uw {a b:List Change}{k:Nat}{x:Change}(h:b[k]? = some x):D5 a (b.take (k+1))=D5 a (b.take k)++(if y9 a x=true then [x] else []):=by
 unfold D5
 rw [List.take_add_one,h,List.filter_append]
 congr 1
 cases hb:y9 a x with
 | true=>unfold y9 at hb;simp [hb]
 | false=>unfold y9 at hb;simp [hb]
theorem Ns {a:List Change}{x:Change}(h:lF (fK x.Key) a=false):y9 a x=true:=by unfold y9;rw [h];rfl
theorem Nt {a:List Change}{x y:Change}(h:a[jF (fK x.Key) a]? = some y)(hn:¬ y=x):y9 a x=true:=by
 unfold y9;rw [h,decide_eq_false (fun e=>hn (Option.some.inj e))];simp
theorem Nu {a:List Change}{x y:Change}(hb:lF (fK x.Key) a=true)(h:a[jF (fK x.Key) a]? = some y)(hn:y=x):y9 a x=false:=by
 unfold y9;rw [hb,h,hn];simp
theorem Eb (a b:List Change):(yu a b).length<=a.length:=by unfold yu;rw [List.length_map];exact List.length_filter_le _ _
theorem LG (a b:List Change):(D5 a b).length<=b.length:=List.length_filter_le _ _
theorem o7 (x:Change)(k:ByteArray)(w:World):Calls Tryz.prog 159 #[.agg #[.string x.Key,.string x.Val,.bool x.Gone],.string k] w fun e w'=>e = .returned (iV (fK k x))/\Ext w w':=by
 refine R.enter [] [(0,.agg #[.string x.Key,.string x.Val,.bool x.Gone]),(1,.string k)] Tryz.func159 O O O O<|R.reg O<|R.s O (s.box O O O) fun b1=>?_
 refine R.u 1 O<|R.nil<|R.reg O<|R.q (q.aO O bI O) O<|R.q (q.ld 0 O O bG O) O<|R.u 1 O<|R.c (q.call Jt O O (fun w hw=>(p7 x.Key k w ))) O<|R.u 1 O<|R.nil ?_
 exact R.rv O Tryz.results159 O (rI (by rfl))
set_option maxHeartbeats 90000000 in
theorem Ec (wK:Value)(a:List Change)(yD:Value)(b:List Change)(w:World)(own:List Nat)(H:HN w own [] [ag.ls wK a,ag.ls yD b])(hl:a.length<=1000/\b.length<=1000):RC Tryz.prog 104 #[wK,yD] H (fun z:Value=>z) (fun z=>[ag.row 117 z (gT (mO a b))]) (fun _=>[]):=by
 have WG:=H.cq 0 rfl
 have WH:=H.cq 1 rfl
 refine R.bD [(0,wK),(1,yD)] Tryz.func104 O O O O H<|R.reg O<|R.u 1 O<|R.nil<|R.reg O<|R.u 1 O<|R.nil<|R.reg O<|R.u 1 O<|R.nil<|R.reg O<|R.u 1 O<|R.q (q.len' (dq 0 O) O Tryz.underlying34) O<|R.u 1 O<|R.nil<|R.row0 (α:=Change) 117<|R.loop (fun g_:Nat×Value×(List Change)=>[(0,wK),(1,yD),(5,g_.2.1),(6,.func (.func 159) #[] #[]),(15,wK),(16,iV (a.length:Int)),(17,iV (g_.1:Int))]) (fun g_=>[ag.row 117 g_.2.1 g_.2.2,ag.held w own]) (fun g_=>[ag.ls wK a,ag.ls yD b]) (fun g_=>g_.1<=a.length/\g_.2.2=yu (a.take g_.1) b) (fun g_=>a.length-g_.1) (0,(nS),[]) O (by exact ⟨by omega,rfl⟩) (sF O) (ic [0,1] [0,1] O) ?_
 rintro ⟨k,u,l⟩ ⟨hk,HL⟩
 dsimp only at *
 have ll:=Eb (a.take k) b;rw [<- HL,List.length_take] at ll
 refine R.reg O<|?_
 by_cases h1:k<a.length
 .
  refine R.q (q.dx O O) O<|R.nil<|R.av O O<|R.reg O<|?_
  obtain ⟨x1,hx1⟩:∃z,a[k]? = some z:=⟨_,List.getElem?_eq_getElem (by omega)⟩
  refine R.q (q.idx (i:=k) (dq 0 O) O O cd O hx1) O<|R.q (q.eU (ds:=iz x1) (dq 0 O) hx1 O aX O) O<|R.s O (s.alloc cF O O) fun b1=>?_
  refine R.s O (s.st 0 _ O O O O (.inl aX) O O O O) fun _=>?_
  refine R.nil<|R.reg O<|R.u 1 O<|R.q (q.aO O bI O) O<|R.q (q.ld 0 O O bG O) O<|R.u 1 O<|?_
  rcases Ea (fun x=>(fun (x:Change) (k:ByteArray)=>fK k x) x x1.Key) b with gU|⟨Er,lW,gU,AX⟩
  .
   refine R.c (q.call wF O O (fun w hw=>(cv (congrArg (fun QM=>Value.tuple #[iV ((jF (fun x=>(fun (x:Change) (k:ByteArray)=>fK k x) x x1.Key) b:Nat):Int),.bool QM]) gU) (gF _ b x1.Key (fun (x:Change) (k:ByteArray)=>fK k x) _ _ AK w (hw.bQ 1 O) (fun W x k hW=>o7 x k W ) (by omega))))) O<|R.u 5 O<|R.nil ?_
   refine R.reg O<|R.u 2 O<|R.nil<|R.av O O<|R.reg O<|R.u 1 O<|R.q (q.aO O bI O) O<|R.q (q.ld 0 O O bG O) O<|R.q (q.build kL O O) O<|R.s O (s.bs (l:=([(⟨x1.Key,⟨#[]⟩,true⟩:Change)]:List Change)) cd cF O O O O O O O) fun b2=>?_
   refine R.s O (s.app 2 _ O O O (bB 0 O) jw (by (simp;omega)) (by (simp;omega)) (fun _=>rfl) O) fun v1=>?_
   refine R.u 1 O<|R.nil<|R.reg O<|R.q (q.bA (r:=((k+1:Nat):Int)) O O) O<|R.u 1 O<|R.nil<|R.back (k+1,v1,(l++([(⟨x1.Key,⟨#[]⟩,true⟩:Change)]))) O (by (exact ⟨by omega,by rw [Ai hx1,<- HL];(rw [if_pos (show lF (fK x1.Key) b=false from gU)];rfl)⟩)) (by dsimp only;omega) (sF O) (aD [2,3] [0,1] O)
  refine R.c (q.call wF O O (fun w hw=>(cv (congrArg (fun QM=>Value.tuple #[iV ((jF (fun x=>(fun (x:Change) (k:ByteArray)=>fK k x) x x1.Key) b:Nat):Int),.bool QM]) gU) (gF _ b x1.Key (fun (x:Change) (k:ByteArray)=>fK k x) _ _ AK w (hw.bQ 1 O) (fun W x k hW=>o7 x k W ) (by omega))))) O<|R.u 5 O<|R.nil ?_
  refine R.reg O<|R.u 2 O<|R.nil<|R.aA O O<|R.reg O<|R.q (q.bA (r:=((k+1:Nat):Int)) O O) O<|R.u 1 O<|R.nil<|R.back (k+1,u,l) O (by (exact ⟨by omega,by rw [Ai hx1,<- HL];(rw [if_neg (by rw [show lF (fK x1.Key) b=true from gU];decide)];exact (List.append_nil _).symm)⟩)) (by dsimp only;omega) (sF O) (aD [1,2] [0,1] O)
 refine R.q (q.cU O O) O<|R.nil<|R.aA O O<|R.reg O<|R.u 1 O<|R.q (q.len' (dq 1 O) O Tryz.underlying34) O<|R.u 1 O<|R.nil<|R.loop (fun g_:Nat×Value×(List Change)=>[(0,wK),(5,g_.2.1),(6,.func (.func 159) #[] #[]),(38,yD),(39,iV (b.length:Int)),(40,iV (g_.1:Int))]) (fun g_=>[ag.row 117 g_.2.1 g_.2.2,ag.held w own]) (fun g_=>[ag.ls wK a,ag.ls yD b]) (fun g_=>g_.1<=b.length/\g_.2.2=yu a b++D5 a (b.take g_.1)) (fun g_=>b.length-g_.1) (0,u,l) O (by exact ⟨by omega,by rw [HL,List.take_of_length_le (by omega)];exact (List.append_nil _).symm⟩) (sF O) (ic [0,1] [0,1] O) ?_
 rintro ⟨j,u2,l2⟩ ⟨hj,HL2⟩
 dsimp only at *
 have U7:l2.length<=a.length+j:=by have q1:=Eb a b;have q2:=LG a (b.take j);rw [List.length_take] at q2;rw [HL2,List.length_append];omega
 refine R.reg O<|?_
 by_cases h2:j<b.length
 .
  refine R.q (q.dx O O) O<|R.nil<|R.av O O<|R.reg O<|?_
  obtain ⟨x2,hx2⟩:∃z,b[j]? = some z:=⟨_,List.getElem?_eq_getElem (by omega)⟩
  refine R.q (q.idx (i:=j) (dq 1 O) O O cd O hx2) O<|R.q (q.eU (ds:=iz x2) (dq 1 O) hx2 O aX O) O<|R.s O (s.alloc cF O O) fun b3=>?_
  refine R.s O (s.st 0 _ O O O O (.inl aX) O O O O) fun _=>?_
  refine R.nil<|R.reg O<|R.u 1 O<|R.q (q.aO O bI O) O<|R.q (q.ld 0 O O bG O) O<|R.u 1 O<|?_
  rcases Ea (fun x=>(fun (x:Change) (k:ByteArray)=>fK k x) x x2.Key) a with Tp|⟨Tq,Rl,Tp,WI⟩
  .
   refine R.c (q.call wF O O (fun w hw=>(cv (congrArg (fun QM=>Value.tuple #[iV ((jF (fun x=>(fun (x:Change) (k:ByteArray)=>fK k x) x x2.Key) a:Nat):Int),.bool QM]) Tp) (gF _ a x2.Key (fun (x:Change) (k:ByteArray)=>fK k x) _ _ AK w (hw.bQ 0 O) (fun W x k hW=>o7 x k W ) (by omega))))) O<|R.u 5 O<|R.nil ?_
   refine R.ew O mixed (by kernel_rfl)<|Q.u 10 O<|Q.nil<|R.av O O<|R.reg O<|R.u 1 O<|R.q (q.du 0 O O aX) O<|R.s O (s.bs (l:=([x2]:List Change)) cd cF O O O O O O O) fun b4=>?_
   refine R.s O (s.app 2 _ O O O (bB 0 O) jw (by (simp;omega)) (by (simp;omega)) (fun _=>rfl) O) fun v2=>?_
   refine R.u 1 O<|R.nil<|R.reg O<|R.q (q.bA (r:=((j+1:Nat):Int)) O O) O<|R.u 1 O<|R.nil<|R.back (j+1,v2,(l2++([x2]))) O (by (exact ⟨by omega,by rw [uw hx2,<- List.append_assoc,<- HL2];(rw [if_pos (Ns Tp)];done)⟩)) (by dsimp only;omega) (sF O) (aD [2,3] [0,1] O)
  refine R.c (q.call wF O O (fun w hw=>(cv (congrArg (fun QM=>Value.tuple #[iV ((jF (fun x=>(fun (x:Change) (k:ByteArray)=>fK k x) x x2.Key) a:Nat):Int),.bool QM]) Tp) (gF _ a x2.Key (fun (x:Change) (k:ByteArray)=>fK k x) _ _ AK w (hw.bQ 0 O) (fun W x k hW=>o7 x k W ) (by omega))))) O<|R.u 5 O<|R.nil ?_
  by_cases h3:Tq=x2
  .
   refine R.ew O mixed (by kernel_rfl)<|Q.u 5 O<|Q.qg O (q.idx (i:=(jF (fun x=>(fun (x:Change) (k:ByteArray)=>fK k x) x x2.Key) a)) (dq 0 O) O O cd O Rl) O<|Q.qg O (q.eU (ds:=iz Tq) (dq 0 O) Rl O aX O) O<|Q.qg O (q.du 0 O O aX) O<|Q.qg O (q.vY (x:=Tq) (y:=x2) JF O O h3) O<|Q.u 1 O<|Q.nil<|R.aA O O<|R.reg O<|R.q (q.bA (r:=((j+1:Nat):Int)) O O) O<|R.u 1 O<|R.nil<|R.back (j+1,u2,l2) O (by (exact ⟨by omega,by rw [uw hx2,<- List.append_assoc,<- HL2];(rw [if_neg (by rw [Nu Tp Rl ‹_›];decide)];exact (List.append_nil _).symm)⟩)) (by dsimp only;omega) (sF O) (aD [1,2] [0,1] O)
  refine R.ew O mixed (by kernel_rfl)<|Q.u 5 O<|Q.qg O (q.idx (i:=(jF (fun x=>(fun (x:Change) (k:ByteArray)=>fK k x) x x2.Key) a)) (dq 0 O) O O cd O Rl) O<|Q.qg O (q.eU (ds:=iz Tq) (dq 0 O) Rl O aX O) O<|Q.qg O (q.du 0 O O aX) O<|Q.qg O (q.vZ (x:=Tq) (y:=x2) JF O O h3) O<|Q.u 1 O<|Q.nil<|R.av O O<|R.reg O<|R.u 1 O<|R.q (q.du 0 O O aX) O<|R.s O (s.bs (l:=([x2]:List Change)) cd cF O O O O O O O) fun b5=>?_
  refine R.s O (s.app 2 _ O O O (bB 0 O) jw (by (simp;omega)) (by (simp;omega)) (fun _=>rfl) O) fun v3=>?_
  refine R.u 1 O<|R.nil<|R.reg O<|R.q (q.bA (r:=((j+1:Nat):Int)) O O) O<|R.u 1 O<|R.nil<|R.back (j+1,v3,(l2++([x2]))) O (by (exact ⟨by omega,by rw [uw hx2,<- List.append_assoc,<- HL2];(rw [if_pos (Nt Rl ‹_›)];done)⟩)) (by dsimp only;omega) (sF O) (aD [2,3] [0,1] O)
 refine R.q (q.cU O O) O<|R.nil<|R.aA O O<|R.reg O<|R.u 1 O<|R.s O (s.I2 [0,1] _ _ O O Pt O O (fun w hw H=>IE u2 l2 w H (by omega)) O) fun u1=>?_
 refine R.nil<|R.reg O<|R.u 2 O<|R.nil ?_
 have hz:gT (mO a b)=(gT l2):=by (rw [HL2,List.take_of_length_le (by omega)];rfl)
 rw [hz]
 exact R.w1 u2 [0,1] [] O Tryz.results104 (RV.tmp O) O O O O
end
structure IG (c:Change):Prop where
  k0:0<c.Key.size
  k8:c.Key.size<=8
  v:c.Val.size<=24
  g:c.Gone=false
theorem QN {r:aC}(h:Inv r):∀c∈rowsOf r,IG c:=by
 have a1:=h.oY;have a2:=h.rj;have a3:=h.pC;have a4:=h.pD
 intro c hc
 unfold rowsOf at hc
 rcases List.mem_append.1 hc with hc|hc
 .
  rcases List.mem_append.1 hc with hc|hc
  .
   rcases List.mem_append.1 hc with hc|hc
   .
    obtain ⟨x,hx,rfl⟩:=List.mem_map.1 hc
    have k:=h.Iu hx;have k1:=k.2.1;have k2:=k.2.2
    have e:(hrow x).Key.size=3:=by rw [<- eA,hkey k.1];rfl
    have e2:(hrow x).Val.size=4:=cK (by omega) (by omega)
    exact ⟨by omega,by omega,by omega,rfl⟩
   .
    obtain ⟨x,hx,rfl⟩:=List.mem_map.1 hc
    have k:=h.OE hx;have k1:=k.i0;have k2:=k.i9;have k3:=k.kd;have k4:=k.ds
    have e:(lY x).Key.size=5:=by rw [<- eA,tkey k1 k2];rfl
    have e2:(lY x).Val.size=4+x.Data.size:=by show (bM x.Kind++x.Data).size=_;rw [eX,cK (by omega) (by omega)]
    exact ⟨by omega,by omega,by omega,rfl⟩
  .
   obtain ⟨x,hx,rfl⟩:=List.mem_map.1 hc
   have k:=h.tree.mem hx
   have i1:=k.id1;have i9:=k.Ow;have t1:=k.Qm;have t9:=k.Qn;have b0:=k.Qo;have b9:=k.Qp;have f0:=k.Rf;have fl:=k.Qq;have q0:=k.KD;have q7:=k.KE
   have e:(om x).Key.size=5:=by rw [<- eA,Lh (by omega) (by omega)];rfl
   have e2:(om x).Val.size=16:=by
    show (bM x.aE++bM x.Rights++bM x.aQ++bM x.From).size=_
    simp only [eX]
    rw [cK (by omega) (by omega),cK (by omega) (by omega),cK (by omega) (by omega),cK (by omega) (by omega)]
   exact ⟨by omega,by omega,by omega,rfl⟩
 .
  rw [List.mem_singleton.1 hc]
  have e2:(DG r).Val.size=8:=by
   show (bM r.ae++bM r.ah).size=_
   rw [eX,cK (by omega) (by omega),cK (by omega) (by omega)]
  exact ⟨(by decide:0<kX.size),(by decide:kX.size<=8),by omega,rfl⟩
theorem ru {r:aC}(h:Inv r):∀c∈bH r,IG c:=QN (jz h).1
theorem fW {r:aC}(h:Inv r):dr (bH r):=Ae (jz h).1
theorem FC {r:aC}(h:Inv r):∀c∈bH r,c.Key.size<=1000/\c.Val.size<=1000:=fun c hc=>by
 have k:=ru h c hc;have:=k.k8;have:=k.v;omega
section
theorem LH {α:Type}[DecidableEq α]:∀ (a b:List α),a.Nodup->(∀x∈a,x∈b)->a.length<=b.length
 | [],b,_,_=>Nat.zero_le _
 | x::a,b,hn,h=>by
  obtain ⟨h1,h2⟩:=List.nodup_cons.1 hn
  have hx:=h x (List.mem_cons_self ..)
  have:=LH a (b.erase x) h2 (fun y hy=>(List.mem_erase_of_ne (fun e=>h1 (by rw [<- e];exact hy))).2 (h y (List.mem_cons_of_mem _ hy)))
  rw [List.length_erase_of_mem hx] at this
  have hp:=List.length_pos_of_mem hx
  rw [List.length_cons];omega
def Wb (p:Place):ByteArray:=kH++gS p.aB++gS p.Slot
def QO:List Place:=(List.range 24).map (fun i=>⟨((i / 6+1:Nat):Int),((i % 6:Nat):Int)⟩)
theorem LJ {p:Place}(h:aY p=0):p∈QO:=by
 have h1:=cu h
 refine List.mem_map.2 ⟨((p.aB.toNat-1)*6+p.Slot.toNat),List.mem_range.2 (by omega),?_⟩
 obtain ⟨a,b⟩:=p
 dsimp only at h1 ⊢
 congr 1 <;> omega
def GR (H T:List Int):List ByteArray:=QO.map Wb++T.map (fun i=>kT++bM i)++H.map (fun i=>kW++bM i)++[kX]
theorem LK {H T:List Int}(h1:H.length<=24)(h2:T.length<=10):(GR H T).length<=59:=by
 unfold GR QO
 simp only [List.length_append,List.length_map,List.length_range,List.length_cons,List.length_nil];omega
section
variable {r a b:aC}
theorem Aj (h:Inv r){H T:List Int}(hH:∀x∈r.Held,x.aj∈H)(hT:∀t∈r.Things,t.ID∈T):∀c∈bH r,c.Key∈GR H T:=fun c hc=>by
 obtain ⟨q1,q2,q3,q4,q5⟩:=jz h
 unfold bH rowsOf at hc
 rcases List.mem_append.1 hc with hc|hc
 .
  rcases List.mem_append.1 hc with hc|hc
  .
   rcases List.mem_append.1 hc with hc|hc
   .
    obtain ⟨x,hx,rfl⟩:=List.mem_map.1 hc
    exact List.mem_append_left _ (List.mem_append_left _ (List.mem_append_left _ (List.mem_map.2 ⟨x.Place,LJ (q1.Iu hx).1,rfl⟩)))
   .
    obtain ⟨x,hx,rfl⟩:=List.mem_map.1 hc
    have hx2:=(zY _).2.2.1 x hx
    exact List.mem_append_left _ (List.mem_append_left _ (List.mem_append_right _ (List.mem_map.2 ⟨x.ID,hT x hx2,rfl⟩)))
  .
   obtain ⟨x,hx,rfl⟩:=List.mem_map.1 hc
   have h1:=q1.once x hx
   have h2:cN (aZ r).Notes x.ID=0:=by rw [q2];rfl
   obtain ⟨y,hy,e⟩:=List.countP_pos_iff.1 (show 0<cH (aZ r).Held x.ID by omega)
   have e:y.aj=x.ID:=by simpa using e
   rw [q3] at hy
   exact List.mem_append_left _ (List.mem_append_right _ (List.mem_map.2 ⟨x.ID,e▸hH y hy,rfl⟩))
 .
  rw [List.mem_singleton.1 hc]
  exact List.mem_append_right _ (List.mem_singleton.2 rfl)
theorem GU (ha:Inv a)(hb:Inv b){H T:List Int}(hH:H.length<=24)(hT:T.length<=10)(a1:∀x∈a.Held,x.aj∈H)(a2:∀t∈a.Things,t.ID∈T)(b1:∀x∈b.Held,x.aj∈H)(b2:∀t∈b.Things,t.ID∈T) :
 (dU (bH a) (bH b)).length<=59:=by
 have hr:=sB (fW ha) (fW hb)
 have hn:((dU (bH a) (bH b)).map Change.Key).Nodup:=by
  refine List.pairwise_map.2 ((sC hr).imp fun q=>q)
 have:=LH _ (GR H T) hn (fun k hk=>by
  obtain ⟨x,hx,rfl⟩:=List.mem_map.1 hk
  rcases (mem_merge (fW ha) (fW hb)).1 hx with ⟨c,hc,_,rfl⟩ | ⟨h,_⟩
  .exact Aj ha a1 a2 c hc
  .exact Aj hb b1 b2 x h)
 rw [List.length_map] at this
 exact Nat.le_trans this (LK hH hT)
def Ed (a b:aC):Prop:=(∀x∈a.Held,∃y∈b.Held,y.aj=x.aj)/\(∀t∈a.Things,∃s∈b.Things,s.ID=t.ID)
theorem Ed.refl (a:aC):Ed a a:=⟨fun x hx=>⟨x,hx,rfl⟩,fun t ht=>⟨t,ht,rfl⟩⟩
theorem Nv (ha:Inv a)(hb:Inv b)(h:Ed a b∨Ed b a):(dU (bH a) (bH b)).length<=59:=by
 rcases h with h|h
 .exact GU ha hb (H:=b.Held.map Held.aj) (T:=b.Things.map aE.ID) (by rw [List.length_map];exact tE hb) (by rw [List.length_map];exact hb.jr)
   (fun x hx=>by obtain ⟨y,hy,e⟩:=h.1 x hx;exact List.mem_map.2 ⟨y,hy,e⟩) (fun x hx=>by obtain ⟨y,hy,e⟩:=h.2 x hx;exact List.mem_map.2 ⟨y,hy,e⟩)
   (fun x hx=>List.mem_map.2 ⟨x,hx,rfl⟩) (fun x hx=>List.mem_map.2 ⟨x,hx,rfl⟩)
 .exact GU ha hb (H:=a.Held.map Held.aj) (T:=a.Things.map aE.ID) (by rw [List.length_map];exact tE ha) (by rw [List.length_map];exact ha.jr)
   (fun x hx=>List.mem_map.2 ⟨x,hx,rfl⟩) (fun x hx=>List.mem_map.2 ⟨x,hx,rfl⟩)
   (fun x hx=>by obtain ⟨y,hy,e⟩:=h.1 x hx;exact List.mem_map.2 ⟨y,hy,e⟩) (fun x hx=>by obtain ⟨y,hy,e⟩:=h.2 x hx;exact List.mem_map.2 ⟨y,hy,e⟩)
theorem Ak {ws:List aj}{nw nt:Int}:Ed (dS ⟨ws,r.Things,r.Held,r.Notes,nw,nt⟩) r:=by
 have h:=zY (⟨ws,r.Things,r.Held,r.Notes,nw,nt⟩:aC)
 exact ⟨fun x hx=>⟨x,h.1 x hx,rfl⟩,fun t ht=>⟨t,h.2.2.1 t ht,rfl⟩⟩
theorem QP (h:Inv r){a:ej}(hm:(cQ r a).2=0):Ed r (cQ r a).1∨Ed (cQ r a).1 r:=by
 have n1:=h.oY
 unfold cQ at hm ⊢
 by_cases h1:a.Kind=(⟨#[109,97,107,101]⟩:ByteArray)
 .
  rw [if_pos h1] at hm ⊢
  obtain ⟨hk,hf,hl,ht,hw,he⟩:=xZ hm
  obtain ⟨hp,ha⟩:=me hf
  have hpl:=cu hp
  rw [he (by omega)]
  exact .inl ⟨fun x hx=>⟨x,(lD h.good ha (by omega)).2 (.inr hx),rfl⟩,fun t ht=>⟨t,List.mem_append_left _ ht,rfl⟩⟩
 .
  rw [if_neg h1] at hm ⊢
  by_cases h2:a.Kind=(⟨#[103,105,118,101]⟩:ByteArray)
  .
   rw [if_pos h2] at hm ⊢
   obtain ⟨hg,hf,hr,hw,hd,he⟩:=ya hm
   obtain ⟨hp,ha⟩:=me hf
   have hpl:=cu hp
   obtain ⟨_,hgm,_⟩:=h.get hg
   obtain ⟨GF,hid,hth,_⟩:=h.derive hgm hw hd
   rw [he (by omega)]
   exact .inl ⟨fun x hx=>⟨x,(lD h.good ha (by omega)).2 (.inr hx),rfl⟩,fun t ht=>⟨t,ht,rfl⟩⟩
  .
   rw [if_neg h2] at hm ⊢
   by_cases h3:a.Kind=(⟨#[109,111,118,101]⟩:ByteArray)
   .
    rw [if_pos h3] at hm ⊢
    obtain ⟨hg,hf,he⟩:=yb hm
    obtain ⟨hp,ha⟩:=me hf
    obtain ⟨hpf,hgm,hat,h1,_⟩:=h.get hg
    rw [he]
    have hi:(aS r a.P).1.ID≠0:=by omega
    have hg1:Good (fP r.Held a.P 0):=mJ h.good hpf
    have hne:¬ (⟨a.P.aB,a.A⟩:Place)=a.P:=fun e=>by rw [e] at ha;omega
    have ha1:mV (fP r.Held a.P 0) ⟨a.P.aB,a.A⟩=0:=by rw [zT h.good hpf hne];exact ha
    refine .inr ⟨fun x hx=>?_,fun t ht=>⟨t,ht,rfl⟩⟩
    rcases (lD hg1 ha1 hi).1 hx with e|hx
    .exact ⟨⟨a.P,(aS r a.P).1.ID⟩,at_mem h.good hat.symm hi,by rw [e]⟩
    .exact ⟨x,DC h.good hat.symm hi hx,rfl⟩
   .
    rw [if_neg h3] at hm ⊢
    by_cases h4:a.Kind=(⟨#[100,114,111,112]⟩:ByteArray)
    .
     rw [if_pos h4] at hm ⊢
     rw [(yc hm).2];exact .inr Ak
    .
     rw [if_neg h4] at hm ⊢
     by_cases h5:a.Kind=(⟨#[114,101,118,111,107,101]⟩:ByteArray)
     .
      rw [if_pos h5] at hm ⊢
      rw [(tD hm).2];exact .inr Ak
     .
      rw [if_neg h5] at hm ⊢
      by_cases h6:a.Kind=(⟨#[119,114,105,116,101]⟩:ByteArray)
      .
       rw [if_pos h6] at hm ⊢
       rw [(uX hm).2.2]
       refine .inr ⟨fun x hx=>⟨x,hx,rfl⟩,fun t ht=>?_⟩
       obtain ⟨k,s,hs,e,_⟩:=mem_set ht
       exact ⟨s,List.mem_of_getElem? hs,e.symm⟩
      .
       rw [if_neg h6] at hm ⊢
       by_cases h7:a.Kind=(⟨#[115,101,110,100]⟩:ByteArray)
       .
        rw [if_pos h7] at hm ⊢
        obtain ⟨_,_,_,hc⟩:=yd hm
        rcases hc with ⟨_,he⟩ | ⟨_,_,_,_,_,he⟩
        .rw [he];exact .inr ⟨fun x hx=>⟨x,hx,rfl⟩,fun t ht=>⟨t,ht,rfl⟩⟩
        .rw [he];exact .inr ⟨fun x hx=>⟨x,hx,rfl⟩,fun t ht=>⟨t,ht,rfl⟩⟩
       .
        rw [if_neg h7] at hm ⊢
        by_cases h8:a.Kind=(⟨#[116,97,107,101]⟩:ByteArray)
        .
         rw [if_pos h8] at hm ⊢
         obtain ⟨hy,i,n,hn,hp,hb,_,hc⟩:=ye hm
         rcases hc with ⟨h0,hf,_,he⟩ | ⟨h0,_,he⟩
         .
          obtain ⟨h5,ha⟩:=free_at hf
          dsimp only;rw [he]
          exact .inl ⟨fun x hx=>⟨x,(lD h.good ha (by omega)).2 (.inr hx),rfl⟩,fun t ht=>⟨t,ht,rfl⟩⟩
         .
          dsimp only;rw [he]
          exact .inl ⟨fun x hx=>⟨x,hx,rfl⟩,fun t ht=>⟨t,ht,rfl⟩⟩
        .rw [if_neg h8];exact .inl (Ed.refl r)
theorem QQ (h:Inv r){a:ej}(hm:(cQ r a).2=0):(dU (bH r) (bH (cQ r a).1)).length<=59:=Nv h (h.do hm) (QP h hm)
theorem yv:∀ (l:List Change),(∀c∈l,iI c=0)->jH l=0
 | [],_=>rfl
 | x::l,h=>by
  unfold jH;rw [if_pos (h x (List.mem_cons_self ..))]
  exact yv l (fun c hc=>h c (List.mem_cons_of_mem _ hc))
theorem IG.ok {c:Change}(h:IG c):iI c=0:=JR (fun e=>by have:=h.k0;rw [e] at this;exact absurd this (by decide)) (fun e=>by rw [h.g] at e;cases e) h.k8 h.v
theorem IG.gone {c:Change}(h:IG c):iI (rR c.Key)=0:=JR (fun e=>by have:=h.k0;have e:c.Key=⟨#[]⟩:=e;rw [e] at this;exact absurd this (by decide)) (fun _=>rfl) h.k8 (by show (0:Nat)<=24;decide)
theorem QR (ha:Inv a)(hb:Inv b):jH (dU (bH a) (bH b))=0:=yv _ fun x hx=>by
 rcases (mem_merge (fW ha) (fW hb)).1 hx with ⟨c,hc,_,rfl⟩ | ⟨h,_⟩
 .exact (ru ha c hc).gone
 .exact (ru hb x h).ok
theorem Ca (ha:Inv a)(hb:Inv b):bX (bH a) (dU (bH a) (bH b))=bH b:=u6 (fW ha) (fW hb) (fun c hc=>(ru hb c hc).g)
theorem FD (h:Inv r):bH (aZ r)=bH r:=by
 unfold bH;rw [(jz h).2.2.2.2]
end
end
end Go.Proofs.YtkbhcbipadkcaaaGreatDoor
