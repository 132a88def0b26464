import Derived.Test.YtkbhcbipadkcaaaGreatDoorTO42
import Derived.Sort.OwnSorted
namespace Go.Proofs.YtkbhcbipadkcaaaGreatDoor
set_option linter.unusedVariables false
set_option linter.unusedSimpArgs false
section
open Go Go.RowKit Go.Sort
set_option maxRecDepth 100000
instance:Inhabited Change:=⟨⟨⟨#[]⟩,⟨#[]⟩,false⟩⟩
def LS (x y:Change):Int:=AR x.Key y.Key
theorem BW (x y:Change):ltOf LS x y=jA x.Key y.Key:=by
 unfold ltOf LS
 cases h:jA x.Key y.Key with
 | true=>exact decide_eq_true (wS.2 h)
 | false=>exact decide_eq_false fun q=>by rw [wS.1 q] at h;cases h
theorem GJ:SWO (ltOf LS) where
 irrefl x:=by rw [BW];exact e9 _
 trans x y z h k:=by rw [BW] at h k ⊢;exact l8 h k
 ntrans x y z h k:=by
  rw [BW] at h k ⊢
  cases q:jA x.Key z.Key with
  | false=>rfl
  | true =>
   rcases sT x.Key y.Key with e|e|e
   .rw [e] at h;cases h
   .rw [e] at q;rw [q] at k;cases k
   .rw [l8 e q] at k;cases k
def gT (l:List Change):List Change:=(pdq (ltOf LS) l.toArray 0 l.length (Lib.bitLen l.length) true true).toList
theorem qv (l:List Change):(gT l).Perm l/\(gT l).Pairwise (fun x y => ¬ jA y.Key x.Key=true)/\(gT l).length=l.length:=by
 have h:=pdq_sorts (ltOf LS) GJ l.toArray 0 l.toArray.size (Lib.bitLen l.length) true true (Nat.zero_le _) (Nat.le_refl _) (Or.inl rfl)
 rw [show l.toArray.size=l.length from rfl] at h
 obtain ⟨⟨hs,_,hp⟩,ho⟩:=h
 have hl:(gT l).length=l.length:=by unfold gT;rw [Array.length_toList,hs];rfl
 have e1:∀d:Array Change,d.size=l.length->(d.extract 0 l.length).toList=d.toList:=fun d hd=>by rw [<- hd,Array.extract_size]
 refine ⟨?_,?_,hl⟩
 .
  have:=hp
  rw [e1 _ hs,e1 _ rfl] at this
  exact this
 .
  rw [List.pairwise_iff_getElem]
  intro i j hi hj hij
  have:=ho i j (Nat.zero_le _) hij (by rw [<- hl];exact hj)
  rw [BW,getElem!_pos _ j (by rw [hs];show j<l.length;rw [<- hl];exact hj),getElem!_pos _ i (by rw [hs];show i<l.length;rw [<- hl];exact hi)] at this
  intro q
  exact Bool.noConfusion (this.symm.trans q)
theorem D4 {a b:List Change}(ha:dq a)(hb:dq b):gT (mN a b)=dS a b:=Fu ha hb (qv _).1 (qv _).2.1
theorem D5 (l:List Change):flatK Enc.cells 3 l.toArray=(l.flatMap Enc.cells).toArray:=by
 have hf:=di l
 have h3:Enc.k Change=3:=rfl
 rw [h3] at hf
 refine ext_get! (by simp [hf]) fun t ht=>?_
 rw [size_flatK] at ht
 have ht':t<l.length*3:=ht
 rw [get_flatK _ _ _ t ht]
 have hi:t / 3<l.length:=by omega
 have hj:t % 3<(Enc.cells (l[t / 3]'hi)).length:=by rw [Enc.len,h3];omega
 have g:=flat_get l (t / 3) (l[t / 3]'hi) (t % 3) _ (List.getElem?_eq_getElem hi) (List.getElem?_eq_getElem hj)
 rw [h3,show t / 3*3+t % 3=t by omega] at g
 have e1:l.toArray[t / 3]! = l[t / 3]'hi:=by simp [hi]
 have e2:(Enc.cells (l[t / 3]'hi))[t % 3]! = (Enc.cells (l[t / 3]'hi))[t % 3]'hj:=getElem!_pos (Enc.cells (l[t / 3]'hi)) (t % 3) hj
 rw [e1,e2]
 have h2:t<(l.flatMap Enc.cells).length:=by rw [hf];exact ht'
 rw [getElem!_pos _ t (by simpa using h2)]
 rw [List.getElem?_eq_getElem h2] at g
 simpa using (Option.some.inj g).symm
theorem Ly {w:World}{g:Nat}{cur:Array Value}{e:TypeId}{xs:List Value}(hb:w.heap[g]? = some (.cells cur e (0,0)))(ht:cur.toList.take xs.length=xs):Holds id w g 0 xs.toArray:=by
 intro j hj
 have hj':j<xs.length:=by simpa using hj
 refine ⟨?_,by simp [World.frozen?,hb]⟩
 have h1:(cur.toList.take xs.length)[j]? = xs[j]?:=by rw [ht]
 rw [List.getElem?_take_of_lt hj'] at h1
 simp only [World.cell?,hb,Nat.zero_add]
 simp only [Option.isSome_none,Bool.false_eq_true,if_false]
 rw [<- Array.getElem?_toList,h1]
 simp [hj']
theorem Nj {w:World}{g n:Nat}{os:Array Obj}{cur:Array Value}{e:TypeId}{fr:Nat×Nat}(d:Array Value)(hb:w.heap[g]? = some (.cells cur e fr)) :
 (Sort.grow (putRow id (Sort.ahead w n) g 0 d) os).heap[g]? = some (.cells (putCells id 0 d cur) e fr):=by
 have hg:g<w.heap.size:=(Array.getElem?_eq_some_iff.1 hb).1
 rw [heap_grow_old _ _ (by simpa using hg)]
 simp [putRow,mapBlock,Sort.ahead,Array.getElem?_modify,hb,onCells]
theorem Fv {w:World}{g n:Nat}{os:Array Obj}(d:Array Value):w.grownBy (Sort.grow (putRow id (Sort.ahead w n) g 0 d) os) (some g):=by
 refine ⟨rfl,rfl,rfl,by simp,fun k hk hne=>?_⟩
 rw [heap_grow_old _ _ (by simpa using hk)]
 have:g≠k:=fun e=>hne (by rw [e])
 simp [putRow,mapBlock,Sort.ahead,Array.getElem?_modify,this]
theorem Nk (cur:Array Value)(ts:List Value)(h:ts.length<=cur.size):(putCells id 0 ts.toArray cur).toList.take ts.length=ts:=by
 apply List.ext_getElem?
 intro j
 by_cases hj:j<ts.length
 .
  rw [List.getElem?_take_of_lt hj,Array.getElem?_toList]
  simp [putCells,hj,show j<cur.size by omega]
 .rw [List.getElem?_take_eq_none (by omega),List.getElem?_eq_none (by omega)]
theorem Uv (x y:Change)(w:World):Calls Tryz.prog 161 #[.agg (Enc.cells x).toArray,.agg (Enc.cells y).toArray] w fun e w'=>e = .returned (.int .i64 (LS x y)) /\ ∃q os',w'=Sort.grow (w.drewN q) os':=by
 have hcon:∀W,Calls Tryz.prog 147 #[.string x.Key,.string y.Key] W fun e w'=>e = .returned (.int .i64 (LS x y))/\w'=W:=fun W=>(Tryz.strings_Compare x.Key y.Key W).mono fun e w' ⟨h1,h2⟩=>⟨by rw [h1,<- m4,<- m4,F7];rfl,h2⟩
 generalize LS x y=r at hcon ⊢
 show Calls Tryz.prog 161 #[.agg #[.string x.Key,.string x.Val,.bool x.Gone],.agg #[.string y.Key,.string y.Val,.bool y.Gone]] w _
 go_enter Tryz.func161,Tryz.ntmps161
 go_wp2_with (go_at_call 147;refine (hcon _).mono ?_;rintro e w' ⟨rfl,rfl⟩)
 go_ret
 exact ⟨rfl,0,_,by rw [alloc_eq_grow,alloc_eq_grow,grow_grow];rfl⟩
theorem Fw {w:World}{g cap n:Nat}{os:Array Obj}{l ts:List Change}{v:Value}(hv:v = .slice (some ⟨g,0,none⟩) l.length cap)(how:Own 0 117 w v l)(hl:ts.length=l.length) :
 Turned [ag.row 117 v l] [ag.row 117 v ts] w (Sort.grow (putRow id (Sort.ahead w n) g 0 (ts.flatMap Enc.cells).toArray) os):=by
 obtain ⟨hlen,hn|⟨g',cap',cur,hv',_,hgg,hnc,hcm,hcs,htk⟩⟩:=how
 .rw [hn.1] at hv;cases hv
 rw [hv] at hv'
 simp only [Value.slice.injEq,Option.some.injEq,Addr.mk.injEq,and_true,true_and] at hv'
 obtain ⟨rfl,rfl⟩:=hv'
 have h3:cur.size=cap*3:=hcs
 have hf:(ts.flatMap Enc.cells).length=ts.length*3:=di ts
 have hgb:=Fv (w:=w) (g:=g) (n:=n) (os:=os) (ts.flatMap Enc.cells).toArray
 have hown:Own 0 117 (Sort.grow (putRow id (Sort.ahead w n) g 0 (ts.flatMap Enc.cells).toArray) os) v ts:=by
  refine ⟨di ts,.inr ⟨g,cap,_,by rw [hv,hl],Nat.zero_le _,Nj _ hgg,by omega,hcm,by simpa [putCells] using hcs,?_⟩⟩
  show (putCells id 0 (ts.flatMap Enc.cells).toArray cur).toList.take (ts.length*3)=_
  rw [<- hf];exact Nk cur _ (by rw [hf,h3,hl];exact Nat.mul_le_mul_right 3 hnc)
 have hlt:g<w.heap.size:=(Array.getElem?_eq_some_iff.1 hgg).1
 refine ⟨⟨hgb.os,hgb.tape,hgb.output,hgb.size,fun k hk hx=>hgb.block k hk (fun e=>hx ?_)⟩,?_,?_,fun k hk=>?_⟩
 .injection e with e;subst e;rw [hv];simp [blks,ag.row,dY]
 .intro r hr;simp at hr;subst hr;exact hown
 .rw [hv];simp [blks,ag.row,dY]
 .
  rw [hv] at hk;simp [blks,ag.row,dY] at hk;subst hk
  exact ⟨Nat.lt_of_lt_of_le hlt hgb.size,.inl (by rw [hv];simp [blks,ag.row,dY])⟩
theorem Turned.Tf {B0:List ag}{w:World}(h:Hnd B0 w):Turned B0 B0 w w:=⟨lS.refl _ _,h.ok,h.sep,fun k hk=>⟨h.lt k hk,.inl hk⟩⟩
theorem Iy (v:Value)(l:List Change)(w:World)(H:Hnd [ag.row 117 v l] w)(hl:l.length<=1000000):Calls Tryz.prog 160 [v,.func (.func 161) #[] #[]].toArray w fun e w' => ∃_z:Unit,e = .returned (.tuple #[])/\Turned [ag.row 117 v l] [ag.row 117 v (gT l)] w w':=by
 have how:Own 0 117 w v l:=H.ok (ag.row 117 v l) (List.mem_singleton.2 rfl)
 have hs:=(qv l).2.2
 rcases how.2 with ⟨rfl,h0⟩ | ⟨g,cap,cur,hv,_,hgg,hnc,hcm,hcs,htk⟩
 .
  have:l=[]:=List.eq_nil_of_length_eq_zero h0
  subst this
  refine (AnyF.slices_SortFunc_none { Tryz.laysSF with } none 0 _ w).mono ?_
  rintro e w' ⟨rfl,rfl⟩
  have e0:gT []=[]:=List.eq_nil_of_length_eq_zero hs
  rw [e0]
  exact ⟨(),rfl,Turned.Tf H⟩
 .
  have hH:HoldsK Enc.cells 3 w g 0 l.toArray:=by
   unfold HoldsK;rw [D5]
   exact Ly hgg (by rw [di];exact htk)
  have eg:∀args w,(callFunc 161 args).run Tryz.prog w = .ok (.enter 161 args) w:=enters_of Tryz.func161 (by kernel_rfl) rfl
  rw [hv]
  refine (AnyQ.slices_SortFunc_eq Tryz.laysSF 3 Tryz.isAgg117 Tryz.sizeOf117 Enc.cells Enc.len Enc.one LS GJ 161 #[] g 0 cap l.toArray w eg (fun _ _ _ _ x y=>Uv x y _) hH (Array.getElem?_eq_some_iff.1 hgg).1 (by simp;omega)).mono ?_
  rintro e w' ⟨rfl,n,os,rfl⟩
  refine ⟨(),rfl,?_⟩
  have:=Fw (os:=os) (n:=n) (ts:=gT l) hv how hs
  rw [hv] at this
  unfold sortWorldK putRowK
  have e2:(pdq (ltOf LS) l.toArray 0 l.toArray.size (Lib.bitLen l.toArray.size) true true)=(gT l).toArray:=by unfold gT;simp
  rw [e2,D5]
  exact this
end
section
open Go Go.RowKit
set_option maxRecDepth 100000
set_option maxHeartbeats 90000000
theorem D6 {α:Type}(f:α->Int)(l:List α):lG f l=false ∨ ∃x,l[jF f l]? = some x/\lG f l=true/\jF f l<l.length:=by
 cases h:lG f l with
 | false=>exact .inl rfl
 | true =>
  have:=wU h
  exact .inr ⟨l[jF f l],List.getElem?_eq_getElem this,rfl,this⟩
def yV (a:List Change)(c:Change):Bool:= !lG (fK c.Key) a || !decide (a[jF (fK c.Key) a]? = some c)
theorem Ad {a b:List Change}{k:Nat}{x:Change}(h:a[k]? = some x):yo (a.take (k+1)) b=yo (a.take k) b++(if lG (fK x.Key) b=false then [rN x.Key] else []):=by
 unfold yo
 rw [List.take_add_one,h,List.filter_append,List.map_append]
 cases hb:lG (fK x.Key) b <;> simp [hb]
theorem uq {a b:List Change}{k:Nat}{x:Change}(h:b[k]? = some x):D1 a (b.take (k+1))=D1 a (b.take k)++(if yV a x=true then [x] else []):=by
 unfold D1
 rw [List.take_add_one,h,List.filter_append]
 congr 1
 cases hb:yV a x with
 | true=>unfold yV at hb;simp [hb]
 | false=>unfold yV at hb;simp [hb]
theorem Nl {a:List Change}{x:Change}(h:lG (fK x.Key) a=false):yV a x=true:=by unfold yV;rw [h];rfl
theorem Nm {a:List Change}{x y:Change}(h:a[jF (fK x.Key) a]? = some y)(hn:¬ y=x):yV a x=true:=by
 unfold yV;rw [h,decide_eq_false (fun e=>hn (Option.some.inj e))];simp
theorem Nn {a:List Change}{x y:Change}(hb:lG (fK x.Key) a=true)(h:a[jF (fK x.Key) a]? = some y)(hn:y=x):yV a x=false:=by
 unfold yV;rw [hb,h,hn];simp
theorem D7 (a b:List Change):(yo a b).length<=a.length:=by unfold yo;rw [List.length_map];exact List.length_filter_le _ _
theorem Lz (a b:List Change):(D1 a b).length<=b.length:=List.length_filter_le _ _
theorem o6 (x:Change)(k:ByteArray)(w:World):Calls Tryz.prog 159 #[.agg #[.string x.Key,.string x.Val,.bool x.Gone],.string k] w fun e w'=>e = .returned (iV (fK k x))/\Ext w w':=by
 refine R.enter [] [(0,.agg #[.string x.Key,.string x.Val,.bool x.Gone]),(1,.string k)] Tryz.func159 O O O O<|R.reg O<|R.s O (s.box O O O) fun b1=>?_
 refine R.u 1 O<|R.nil<|R.reg O<|R.q (q.aO O bG O) O<|R.q (q.ld 0 O O bE O) O<|R.u 1 O<|R.c (q.call Jn O O (fun w hw=>(pY x.Key k w ))) O<|R.u 1 O<|R.nil ?_
 exact R.rv O Tryz.results159 O (rI (by rfl))
set_option maxHeartbeats 90000000 in
theorem D8 (wF:Value)(a:List Change)(yy:Value)(b:List Change)(w:World)(own:List Nat)(H:HN w own [] [ag.ls wF a,ag.ls yy b])(hl:a.length<=1000/\b.length<=1000):RC Tryz.prog 104 #[wF,yy] H (fun z:Value=>z) (fun z=>[ag.row 117 z (gT (mN a b))]) (fun _=>[]):=by
 have Wx:=H.cq 0 rfl
 have Wy:=H.cq 1 rfl
 refine R.bC [(0,wF),(1,yy)] Tryz.func104 O O O O H<|R.reg O<|R.u 1 O<|R.nil<|R.reg O<|R.u 1 O<|R.nil<|R.reg O<|R.u 1 O<|R.nil<|R.reg O<|R.u 1 O<|R.q (q.len' (dw 0 O) O Tryz.underlying34) O<|R.u 1 O<|R.nil<|R.row0 (α:=Change) 117<|R.loop (fun g_:Nat×Value×(List Change)=>[(0,wF),(1,yy),(5,g_.2.1),(6,.func (.func 159) #[] #[]),(15,wF),(16,iV (a.length:Int)),(17,iV (g_.1:Int))]) (fun g_=>[ag.row 117 g_.2.1 g_.2.2,ag.held w own]) (fun g_=>[ag.ls wF a,ag.ls yy b]) (fun g_=>g_.1<=a.length/\g_.2.2=yo (a.take g_.1) b) (fun g_=>a.length-g_.1) (0,(nS),[]) O (by exact ⟨by omega,rfl⟩) (sF O) (ic [0,1] [0,1] O) ?_
 rintro ⟨k,u,l⟩ ⟨hk,HL⟩
 dsimp only at *
 have ll:=D7 (a.take k) b;rw [<- HL,List.length_take] at ll
 refine R.reg O<|?_
 by_cases h1:k<a.length
 .
  refine R.q (q.dx O O) O<|R.nil<|R.av O O<|R.reg O<|?_
  obtain ⟨x1,hx1⟩:∃z,a[k]? = some z:=⟨_,List.getElem?_eq_getElem (by omega)⟩
  refine R.q (q.idx (i:=k) (dw 0 O) O O cd O hx1) O<|R.q (q.eS (ds:=iz x1) (dw 0 O) hx1 O aX O) O<|R.s O (s.alloc cF O O) fun b1=>?_
  refine R.s O (s.st 0 _ O O O O (.inl aX) O O O O) fun _=>?_
  refine R.nil<|R.reg O<|R.u 1 O<|R.q (q.aO O bG O) O<|R.q (q.ld 0 O O bE O) O<|R.u 1 O<|?_
  rcases D6 (fun x=>(fun (x:Change) (k:ByteArray)=>fK k x) x x1.Key) b with gU|⟨Em,lW,gU,AQ⟩
  .
   refine R.c (q.call wA O O (fun w hw=>(cv (congrArg (fun QF=>Value.tuple #[iV ((jF (fun x=>(fun (x:Change) (k:ByteArray)=>fK k x) x x1.Key) b:Nat):Int),.bool QF]) gU) (gF _ b x1.Key (fun (x:Change) (k:ByteArray)=>fK k x) _ _ AE w (hw.bP 1 O) (fun W x k hW=>o6 x k W ) (by omega))))) O<|R.u 5 O<|R.nil ?_
   refine R.reg O<|R.u 2 O<|R.nil<|R.av O O<|R.reg O<|R.u 1 O<|R.q (q.aO O bG O) O<|R.q (q.ld 0 O O bE O) O<|R.q (q.build kM O O) O<|R.s O (s.bs (l:=([(⟨x1.Key,⟨#[]⟩,true⟩:Change)]:List Change)) cd cF O O O O O O O) fun b2=>?_
   refine R.s O (s.app 2 _ O O O (bB 0 O) jw (by (simp;omega)) (by (simp;omega)) (fun _=>rfl) O) fun v1=>?_
   refine R.u 1 O<|R.nil<|R.reg O<|R.q (q.bA (r:=((k+1:Nat):Int)) O O) O<|R.u 1 O<|R.nil<|R.back (k+1,v1,(l++([(⟨x1.Key,⟨#[]⟩,true⟩:Change)]))) O (by (exact ⟨by omega,by rw [Ad hx1,<- HL];(rw [if_pos (show lG (fK x1.Key) b=false from gU)];rfl)⟩)) (by dsimp only;omega) (sF O) (aD [2,3] [0,1] O)
  refine R.c (q.call wA O O (fun w hw=>(cv (congrArg (fun QF=>Value.tuple #[iV ((jF (fun x=>(fun (x:Change) (k:ByteArray)=>fK k x) x x1.Key) b:Nat):Int),.bool QF]) gU) (gF _ b x1.Key (fun (x:Change) (k:ByteArray)=>fK k x) _ _ AE w (hw.bP 1 O) (fun W x k hW=>o6 x k W ) (by omega))))) O<|R.u 5 O<|R.nil ?_
  refine R.reg O<|R.u 2 O<|R.nil<|R.aA O O<|R.reg O<|R.q (q.bA (r:=((k+1:Nat):Int)) O O) O<|R.u 1 O<|R.nil<|R.back (k+1,u,l) O (by (exact ⟨by omega,by rw [Ad hx1,<- HL];(rw [if_neg (by rw [show lG (fK x1.Key) b=true from gU];decide)];exact (List.append_nil _).symm)⟩)) (by dsimp only;omega) (sF O) (aD [1,2] [0,1] O)
 refine R.q (q.cU O O) O<|R.nil<|R.aA O O<|R.reg O<|R.u 1 O<|R.q (q.len' (dw 1 O) O Tryz.underlying34) O<|R.u 1 O<|R.nil<|R.loop (fun g_:Nat×Value×(List Change)=>[(0,wF),(5,g_.2.1),(6,.func (.func 159) #[] #[]),(38,yy),(39,iV (b.length:Int)),(40,iV (g_.1:Int))]) (fun g_=>[ag.row 117 g_.2.1 g_.2.2,ag.held w own]) (fun g_=>[ag.ls wF a,ag.ls yy b]) (fun g_=>g_.1<=b.length/\g_.2.2=yo a b++D1 a (b.take g_.1)) (fun g_=>b.length-g_.1) (0,u,l) O (by exact ⟨by omega,by rw [HL,List.take_of_length_le (by omega)];exact (List.append_nil _).symm⟩) (sF O) (ic [0,1] [0,1] O) ?_
 rintro ⟨j,u2,l2⟩ ⟨hj,HL2⟩
 dsimp only at *
 have U0:l2.length<=a.length+j:=by have q1:=D7 a b;have q2:=Lz a (b.take j);rw [List.length_take] at q2;rw [HL2,List.length_append];omega
 refine R.reg O<|?_
 by_cases h2:j<b.length
 .
  refine R.q (q.dx O O) O<|R.nil<|R.av O O<|R.reg O<|?_
  obtain ⟨x2,hx2⟩:∃z,b[j]? = some z:=⟨_,List.getElem?_eq_getElem (by omega)⟩
  refine R.q (q.idx (i:=j) (dw 1 O) O O cd O hx2) O<|R.q (q.eS (ds:=iz x2) (dw 1 O) hx2 O aX O) O<|R.s O (s.alloc cF O O) fun b3=>?_
  refine R.s O (s.st 0 _ O O O O (.inl aX) O O O O) fun _=>?_
  refine R.nil<|R.reg O<|R.u 1 O<|R.q (q.aO O bG O) O<|R.q (q.ld 0 O O bE O) O<|R.u 1 O<|?_
  rcases D6 (fun x=>(fun (x:Change) (k:ByteArray)=>fK k x) x x2.Key) a with Tg|⟨Ti,Rb,Tg,Wz⟩
  .
   refine R.c (q.call wA O O (fun w hw=>(cv (congrArg (fun QF=>Value.tuple #[iV ((jF (fun x=>(fun (x:Change) (k:ByteArray)=>fK k x) x x2.Key) a:Nat):Int),.bool QF]) Tg) (gF _ a x2.Key (fun (x:Change) (k:ByteArray)=>fK k x) _ _ AE w (hw.bP 0 O) (fun W x k hW=>o6 x k W ) (by omega))))) O<|R.u 5 O<|R.nil ?_
   refine R.eu O mixed (by kernel_rfl)<|Q.u 10 O<|Q.nil<|R.av O O<|R.reg O<|R.u 1 O<|R.q (q.dt 0 O O aX) O<|R.s O (s.bs (l:=([x2]:List Change)) cd cF O O O O O O O) fun b4=>?_
   refine R.s O (s.app 2 _ O O O (bB 0 O) jw (by (simp;omega)) (by (simp;omega)) (fun _=>rfl) O) fun v2=>?_
   refine R.u 1 O<|R.nil<|R.reg O<|R.q (q.bA (r:=((j+1:Nat):Int)) O O) O<|R.u 1 O<|R.nil<|R.back (j+1,v2,(l2++([x2]))) O (by (exact ⟨by omega,by rw [uq hx2,<- List.append_assoc,<- HL2];(rw [if_pos (Nl Tg)];done)⟩)) (by dsimp only;omega) (sF O) (aD [2,3] [0,1] O)
  refine R.c (q.call wA O O (fun w hw=>(cv (congrArg (fun QF=>Value.tuple #[iV ((jF (fun x=>(fun (x:Change) (k:ByteArray)=>fK k x) x x2.Key) a:Nat):Int),.bool QF]) Tg) (gF _ a x2.Key (fun (x:Change) (k:ByteArray)=>fK k x) _ _ AE w (hw.bP 0 O) (fun W x k hW=>o6 x k W ) (by omega))))) O<|R.u 5 O<|R.nil ?_
  by_cases h3:Ti=x2
  .
   refine R.eu O mixed (by kernel_rfl)<|Q.u 5 O<|Q.qg O (q.idx (i:=(jF (fun x=>(fun (x:Change) (k:ByteArray)=>fK k x) x x2.Key) a)) (dw 0 O) O O cd O Rb) O<|Q.qg O (q.eS (ds:=iz Ti) (dw 0 O) Rb O aX O) O<|Q.qg O (q.dt 0 O O aX) O<|Q.qg O (q.vT (x:=Ti) (y:=x2) Jz O O h3) O<|Q.u 1 O<|Q.nil<|R.aA O O<|R.reg O<|R.q (q.bA (r:=((j+1:Nat):Int)) O O) O<|R.u 1 O<|R.nil<|R.back (j+1,u2,l2) O (by (exact ⟨by omega,by rw [uq hx2,<- List.append_assoc,<- HL2];(rw [if_neg (by rw [Nn Tg Rb ‹_›];decide)];exact (List.append_nil _).symm)⟩)) (by dsimp only;omega) (sF O) (aD [1,2] [0,1] O)
  refine R.eu O mixed (by kernel_rfl)<|Q.u 5 O<|Q.qg O (q.idx (i:=(jF (fun x=>(fun (x:Change) (k:ByteArray)=>fK k x) x x2.Key) a)) (dw 0 O) O O cd O Rb) O<|Q.qg O (q.eS (ds:=iz Ti) (dw 0 O) Rb O aX O) O<|Q.qg O (q.dt 0 O O aX) O<|Q.qg O (q.vU (x:=Ti) (y:=x2) Jz O O h3) O<|Q.u 1 O<|Q.nil<|R.av O O<|R.reg O<|R.u 1 O<|R.q (q.dt 0 O O aX) O<|R.s O (s.bs (l:=([x2]:List Change)) cd cF O O O O O O O) fun b5=>?_
  refine R.s O (s.app 2 _ O O O (bB 0 O) jw (by (simp;omega)) (by (simp;omega)) (fun _=>rfl) O) fun v3=>?_
  refine R.u 1 O<|R.nil<|R.reg O<|R.q (q.bA (r:=((j+1:Nat):Int)) O O) O<|R.u 1 O<|R.nil<|R.back (j+1,v3,(l2++([x2]))) O (by (exact ⟨by omega,by rw [uq hx2,<- List.append_assoc,<- HL2];(rw [if_pos (Nm Rb ‹_›)];done)⟩)) (by dsimp only;omega) (sF O) (aD [2,3] [0,1] O)
 refine R.q (q.cU O O) O<|R.nil<|R.aA O O<|R.reg O<|R.u 1 O<|R.s O (s.IW [0,1] _ _ O O Pm O O (fun w hw H=>Iy u2 l2 w H (by omega)) O) fun u1=>?_
 refine R.nil<|R.reg O<|R.u 2 O<|R.nil ?_
 have hz:gT (mN a b)=(gT l2):=by (rw [HL2,List.take_of_length_le (by omega)];rfl)
 rw [hz]
 exact R.w1 u2 [0,1] [] O Tryz.results104 (RV.tmp O) O O O O
end
structure Iz (c:Change):Prop where
  k0:0<c.Key.size
  k8:c.Key.size<=8
  v:c.Val.size<=24
  g:c.Gone=false
theorem QG {r:aC}(h:Inv r):∀c∈rowsOf r,Iz c:=by
 have a1:=h.oX;have a2:=h.qZ;have a3:=h.pA;have a4:=h.pB
 intro c hc
 unfold rowsOf at hc
 rcases List.mem_append.1 hc with hc|hc
 .
  rcases List.mem_append.1 hc with hc|hc
  .
   rcases List.mem_append.1 hc with hc|hc
   .
    obtain ⟨x,hx,rfl⟩:=List.mem_map.1 hc
    have k:=h.Im hx;have k1:=k.2.1;have k2:=k.2.2
    have e:(hrow x).Key.size=3:=by rw [<- ez,hkey k.1];rfl
    have e2:(hrow x).Val.size=4:=cK (by omega) (by omega)
    exact ⟨by omega,by omega,by omega,rfl⟩
   .
    obtain ⟨x,hx,rfl⟩:=List.mem_map.1 hc
    have k:=h.Ox hx;have k1:=k.i0;have k2:=k.i9;have k3:=k.kd;have k4:=k.ds
    have e:(lY x).Key.size=5:=by rw [<- ez,tkey k1 k2];rfl
    have e2:(lY x).Val.size=4+x.Data.size:=by show (bK x.Kind++x.Data).size=_;rw [eW,cK (by omega) (by omega)]
    exact ⟨by omega,by omega,by omega,rfl⟩
  .
   obtain ⟨x,hx,rfl⟩:=List.mem_map.1 hc
   have k:=h.tree.mem hx
   have i1:=k.id1;have i9:=k.Ol;have t1:=k.Qf;have t9:=k.Qg;have b0:=k.Qh;have b9:=k.Qi;have f0:=k.Q6;have fl:=k.Qj;have q0:=k.Kx;have q7:=k.Ky
   have e:(og x).Key.size=5:=by rw [<- ez,La (by omega) (by omega)];rfl
   have e2:(og x).Val.size=16:=by
    show (bK x.aE++bK x.Rights++bK x.aQ++bK x.From).size=_
    simp only [eW]
    rw [cK (by omega) (by omega),cK (by omega) (by omega),cK (by omega) (by omega),cK (by omega) (by omega)]
   exact ⟨by omega,by omega,by omega,rfl⟩
 .
  rw [List.mem_singleton.1 hc]
  have e2:(Dy r).Val.size=8:=by
   show (bK r.ae++bK r.ah).size=_
   rw [eW,cK (by omega) (by omega),cK (by omega) (by omega)]
  exact ⟨(by decide:0<kX.size),(by decide:kX.size<=8),by omega,rfl⟩
theorem rl {r:aC}(h:Inv r):∀c∈bF r,Iz c:=QG (jz h).1
theorem fW {r:aC}(h:Inv r):dq (bF r):=zZ (jz h).1
theorem Fx {r:aC}(h:Inv r):∀c∈bF r,c.Key.size<=1000/\c.Val.size<=1000:=fun c hc=>by
 have k:=rl h c hc;have:=k.k8;have:=k.v;omega
section
theorem LA {α:Type}[DecidableEq α]:∀ (a b:List α),a.Nodup->(∀x∈a,x∈b)->a.length<=b.length
 | [],b,_,_=>Nat.zero_le _
 | x::a,b,hn,h=>by
  obtain ⟨h1,h2⟩:=List.nodup_cons.1 hn
  have hx:=h x (List.mem_cons_self ..)
  have:=LA a (b.erase x) h2 (fun y hy=>(List.mem_erase_of_ne (fun e=>h1 (by rw [<- e];exact hy))).2 (h y (List.mem_cons_of_mem _ hy)))
  rw [List.length_erase_of_mem hx] at this
  have hp:=List.length_pos_of_mem hx
  rw [List.length_cons];omega
def V4 (p:Place):ByteArray:=kH++gS p.aB++gS p.Slot
def QH:List Place:=(List.range 24).map (fun i=>⟨((i / 6+1:Nat):Int),((i % 6:Nat):Int)⟩)
theorem LB {p:Place}(h:aY p=0):p∈QH:=by
 have h1:=cu h
 refine List.mem_map.2 ⟨((p.aB.toNat-1)*6+p.Slot.toNat),List.mem_range.2 (by omega),?_⟩
 obtain ⟨a,b⟩:=p
 dsimp only at h1 ⊢
 congr 1 <;> omega
def GK (H T:List Int):List ByteArray:=QH.map V4++T.map (fun i=>kT++bK i)++H.map (fun i=>kW++bK i)++[kX]
theorem LC {H T:List Int}(h1:H.length<=24)(h2:T.length<=10):(GK H T).length<=59:=by
 unfold GK QH
 simp only [List.length_append,List.length_map,List.length_range,List.length_cons,List.length_nil];omega
section
variable {r a b:aC}
theorem Ae (h:Inv r){H T:List Int}(hH:∀x∈r.Held,x.aj∈H)(hT:∀t∈r.Things,t.ID∈T):∀c∈bF r,c.Key∈GK H T:=fun c hc=>by
 obtain ⟨q1,q2,q3,q4,q5⟩:=jz h
 unfold bF rowsOf at hc
 rcases List.mem_append.1 hc with hc|hc
 .
  rcases List.mem_append.1 hc with hc|hc
  .
   rcases List.mem_append.1 hc with hc|hc
   .
    obtain ⟨x,hx,rfl⟩:=List.mem_map.1 hc
    exact List.mem_append_left _ (List.mem_append_left _ (List.mem_append_left _ (List.mem_map.2 ⟨x.Place,LB (q1.Im hx).1,rfl⟩)))
   .
    obtain ⟨x,hx,rfl⟩:=List.mem_map.1 hc
    have hx2:=(zT _).2.2.1 x hx
    exact List.mem_append_left _ (List.mem_append_left _ (List.mem_append_right _ (List.mem_map.2 ⟨x.ID,hT x hx2,rfl⟩)))
  .
   obtain ⟨x,hx,rfl⟩:=List.mem_map.1 hc
   have h1:=q1.once x hx
   have h2:cN (aZ r).Notes x.ID=0:=by rw [q2];rfl
   obtain ⟨y,hy,e⟩:=List.countP_pos_iff.1 (show 0<cH (aZ r).Held x.ID by omega)
   have e:y.aj=x.ID:=by simpa using e
   rw [q3] at hy
   exact List.mem_append_left _ (List.mem_append_right _ (List.mem_map.2 ⟨x.ID,e▸hH y hy,rfl⟩))
 .
  rw [List.mem_singleton.1 hc]
  exact List.mem_append_right _ (List.mem_singleton.2 rfl)
theorem GL (ha:Inv a)(hb:Inv b){H T:List Int}(hH:H.length<=24)(hT:T.length<=10)(a1:∀x∈a.Held,x.aj∈H)(a2:∀t∈a.Things,t.ID∈T)(b1:∀x∈b.Held,x.aj∈H)(b2:∀t∈b.Things,t.ID∈T) :
 (dS (bF a) (bF b)).length<=59:=by
 have hr:=sr (fW ha) (fW hb)
 have hn:((dS (bF a) (bF b)).map Change.Key).Nodup:=by
  refine List.pairwise_map.2 ((su hr).imp fun q=>q)
 have:=LA _ (GK H T) hn (fun k hk=>by
  obtain ⟨x,hx,rfl⟩:=List.mem_map.1 hk
  rcases (mem_merge (fW ha) (fW hb)).1 hx with ⟨c,hc,_,rfl⟩ | ⟨h,_⟩
  .exact Ae ha a1 a2 c hc
  .exact Ae hb b1 b2 x h)
 rw [List.length_map] at this
 exact Nat.le_trans this (LC hH hT)
def D9 (a b:aC):Prop:=(∀x∈a.Held,∃y∈b.Held,y.aj=x.aj)/\(∀t∈a.Things,∃s∈b.Things,s.ID=t.ID)
theorem D9.refl (a:aC):D9 a a:=⟨fun x hx=>⟨x,hx,rfl⟩,fun t ht=>⟨t,ht,rfl⟩⟩
theorem Np (ha:Inv a)(hb:Inv b)(h:D9 a b∨D9 b a):(dS (bF a) (bF b)).length<=59:=by
 rcases h with h|h
 .exact GL ha hb (H:=b.Held.map Held.aj) (T:=b.Things.map aE.ID) (by rw [List.length_map];exact tw hb) (by rw [List.length_map];exact hb.jr)
   (fun x hx=>by obtain ⟨y,hy,e⟩:=h.1 x hx;exact List.mem_map.2 ⟨y,hy,e⟩) (fun x hx=>by obtain ⟨y,hy,e⟩:=h.2 x hx;exact List.mem_map.2 ⟨y,hy,e⟩)
   (fun x hx=>List.mem_map.2 ⟨x,hx,rfl⟩) (fun x hx=>List.mem_map.2 ⟨x,hx,rfl⟩)
 .exact GL ha hb (H:=a.Held.map Held.aj) (T:=a.Things.map aE.ID) (by rw [List.length_map];exact tw ha) (by rw [List.length_map];exact ha.jr)
   (fun x hx=>List.mem_map.2 ⟨x,hx,rfl⟩) (fun x hx=>List.mem_map.2 ⟨x,hx,rfl⟩)
   (fun x hx=>by obtain ⟨y,hy,e⟩:=h.1 x hx;exact List.mem_map.2 ⟨y,hy,e⟩) (fun x hx=>by obtain ⟨y,hy,e⟩:=h.2 x hx;exact List.mem_map.2 ⟨y,hy,e⟩)
theorem Af {ws:List aj}{nw nt:Int}:D9 (dR ⟨ws,r.Things,r.Held,r.Notes,nw,nt⟩) r:=by
 have h:=zT (⟨ws,r.Things,r.Held,r.Notes,nw,nt⟩:aC)
 exact ⟨fun x hx=>⟨x,h.1 x hx,rfl⟩,fun t ht=>⟨t,h.2.2.1 t ht,rfl⟩⟩
theorem QI (h:Inv r){a:eh}(hm:(cQ r a).2=0):D9 r (cQ r a).1∨D9 (cQ r a).1 r:=by
 have n1:=h.oX
 unfold cQ at hm ⊢
 by_cases h1:a.Kind=(⟨#[109,97,107,101]⟩:ByteArray)
 .
  rw [if_pos h1] at hm ⊢
  obtain ⟨hk,hf,hl,ht,hw,he⟩:=xU hm
  obtain ⟨hp,ha⟩:=me hf
  have hpl:=cu hp
  rw [he (by omega)]
  exact .inl ⟨fun x hx=>⟨x,(lE h.good ha (by omega)).2 (.inr hx),rfl⟩,fun t ht=>⟨t,List.mem_append_left _ ht,rfl⟩⟩
 .
  rw [if_neg h1] at hm ⊢
  by_cases h2:a.Kind=(⟨#[103,105,118,101]⟩:ByteArray)
  .
   rw [if_pos h2] at hm ⊢
   obtain ⟨hg,hf,hr,hw,hd,he⟩:=xV hm
   obtain ⟨hp,ha⟩:=me hf
   have hpl:=cu hp
   obtain ⟨_,hgm,_⟩:=h.get hg
   obtain ⟨Gy,hid,hth,_⟩:=h.derive hgm hw hd
   rw [he (by omega)]
   exact .inl ⟨fun x hx=>⟨x,(lE h.good ha (by omega)).2 (.inr hx),rfl⟩,fun t ht=>⟨t,ht,rfl⟩⟩
  .
   rw [if_neg h2] at hm ⊢
   by_cases h3:a.Kind=(⟨#[109,111,118,101]⟩:ByteArray)
   .
    rw [if_pos h3] at hm ⊢
    obtain ⟨hg,hf,he⟩:=xW hm
    obtain ⟨hp,ha⟩:=me hf
    obtain ⟨hpf,hgm,hat,h1,_⟩:=h.get hg
    rw [he]
    have hi:(aS r a.P).1.ID≠0:=by omega
    have hg1:Good (fP r.Held a.P 0):=mI h.good hpf
    have hne:¬ (⟨a.P.aB,a.A⟩:Place)=a.P:=fun e=>by rw [e] at ha;omega
    have ha1:mU (fP r.Held a.P 0) ⟨a.P.aB,a.A⟩=0:=by rw [zO h.good hpf hne];exact ha
    refine .inr ⟨fun x hx=>?_,fun t ht=>⟨t,ht,rfl⟩⟩
    rcases (lE hg1 ha1 hi).1 hx with e|hx
    .exact ⟨⟨a.P,(aS r a.P).1.ID⟩,at_mem h.good hat.symm hi,by rw [e]⟩
    .exact ⟨x,Dw h.good hat.symm hi hx,rfl⟩
   .
    rw [if_neg h3] at hm ⊢
    by_cases h4:a.Kind=(⟨#[100,114,111,112]⟩:ByteArray)
    .
     rw [if_pos h4] at hm ⊢
     rw [(xX hm).2];exact .inr Af
    .
     rw [if_neg h4] at hm ⊢
     by_cases h5:a.Kind=(⟨#[114,101,118,111,107,101]⟩:ByteArray)
     .
      rw [if_pos h5] at hm ⊢
      rw [(tv hm).2];exact .inr Af
     .
      rw [if_neg h5] at hm ⊢
      by_cases h6:a.Kind=(⟨#[119,114,105,116,101]⟩:ByteArray)
      .
       rw [if_pos h6] at hm ⊢
       rw [(uS hm).2.2]
       refine .inr ⟨fun x hx=>⟨x,hx,rfl⟩,fun t ht=>?_⟩
       obtain ⟨k,s,hs,e,_⟩:=mem_set ht
       exact ⟨s,List.mem_of_getElem? hs,e.symm⟩
      .
       rw [if_neg h6] at hm ⊢
       by_cases h7:a.Kind=(⟨#[115,101,110,100]⟩:ByteArray)
       .
        rw [if_pos h7] at hm ⊢
        obtain ⟨_,_,_,hc⟩:=xY hm
        rcases hc with ⟨_,he⟩ | ⟨_,_,_,_,_,he⟩
        .rw [he];exact .inr ⟨fun x hx=>⟨x,hx,rfl⟩,fun t ht=>⟨t,ht,rfl⟩⟩
        .rw [he];exact .inr ⟨fun x hx=>⟨x,hx,rfl⟩,fun t ht=>⟨t,ht,rfl⟩⟩
       .
        rw [if_neg h7] at hm ⊢
        by_cases h8:a.Kind=(⟨#[116,97,107,101]⟩:ByteArray)
        .
         rw [if_pos h8] at hm ⊢
         obtain ⟨hy,i,n,hn,hp,hb,_,hc⟩:=xZ hm
         rcases hc with ⟨h0,hf,_,he⟩ | ⟨h0,_,he⟩
         .
          obtain ⟨h5,ha⟩:=free_at hf
          dsimp only;rw [he]
          exact .inl ⟨fun x hx=>⟨x,(lE h.good ha (by omega)).2 (.inr hx),rfl⟩,fun t ht=>⟨t,ht,rfl⟩⟩
         .
          dsimp only;rw [he]
          exact .inl ⟨fun x hx=>⟨x,hx,rfl⟩,fun t ht=>⟨t,ht,rfl⟩⟩
        .rw [if_neg h8];exact .inl (D9.refl r)
theorem QJ (h:Inv r){a:eh}(hm:(cQ r a).2=0):(dS (bF r) (bF (cQ r a).1)).length<=59:=Np h (h.do hm) (QI h hm)
theorem yp:∀ (l:List Change),(∀c∈l,iI c=0)->jH l=0
 | [],_=>rfl
 | x::l,h=>by
  unfold jH;rw [if_pos (h x (List.mem_cons_self ..))]
  exact yp l (fun c hc=>h c (List.mem_cons_of_mem _ hc))
theorem Iz.ok {c:Change}(h:Iz c):iI c=0:=JK (fun e=>by have:=h.k0;rw [e] at this;exact absurd this (by decide)) (fun e=>by rw [h.g] at e;cases e) h.k8 h.v
theorem Iz.gone {c:Change}(h:Iz c):iI (rN c.Key)=0:=JK (fun e=>by have:=h.k0;have e:c.Key=⟨#[]⟩:=e;rw [e] at this;exact absurd this (by decide)) (fun _=>rfl) h.k8 (by show (0:Nat)<=24;decide)
theorem QK (ha:Inv a)(hb:Inv b):jH (dS (bF a) (bF b))=0:=yp _ fun x hx=>by
 rcases (mem_merge (fW ha) (fW hb)).1 hx with ⟨c,hc,_,rfl⟩ | ⟨h,_⟩
 .exact (rl ha c hc).gone
 .exact (rl hb x h).ok
theorem BX (ha:Inv a)(hb:Inv b):bW (bF a) (dS (bF a) (bF b))=bF b:=uV (fW ha) (fW hb) (fun c hc=>(rl hb c hc).g)
theorem Fy (h:Inv r):bF (aZ r)=bF r:=by
 unfold bF;rw [(jz h).2.2.2.2]
end
end
end Go.Proofs.YtkbhcbipadkcaaaGreatDoor
