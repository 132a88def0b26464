import Derived.Test.YtkbhcbipadkcaaaGreatDoorTO42
import Derived.Sort.OwnSorted
namespace Go.Proofs.YtkbhcbipadkcaaaGreatDoor
set_option linter.unusedVariables false
set_option linter.unusedSimpArgs false
section
open Go Go.RowKit Go.Sort
set_option maxRecDepth 100000
instance:Inhabited Change:=⟨⟨⟨#[]⟩,⟨#[]⟩,false⟩⟩
def LV (x y:Change):Int:=A8 x.Key y.Key
theorem B6 (x y:Change):ltOf LV x y=jz x.Key y.Key:=by
 unfold ltOf LV
 cases h:jz x.Key y.Key with
 | true=>exact decide_eq_true (wU.2 h)
 | false=>exact decide_eq_false fun q=>by rw [wU.1 q] at h;cases h
theorem GM:SWO (ltOf LV) where
 irrefl x:=by rw [B6];exact fc _
 trans x y z h k:=by rw [B6] at h k ⊢;exact ma h k
 ntrans x y z h k:=by
  rw [B6] at h k ⊢
  cases q:jz x.Key z.Key with
  | false=>rfl
  | true =>
   rcases sV x.Key y.Key with e|e|e
   .rw [e] at h;cases h
   .rw [e] at q;rw [q] at k;cases k
   .rw [ma e q] at k;cases k
def gV (l:List Change):List Change:=(pdq (ltOf LV) l.toArray 0 l.length (Lib.bitLen l.length) true true).toList
theorem qv (l:List Change):(gV l).Perm l/\(gV l).Pairwise (fun x y => ¬ jz y.Key x.Key=true)/\(gV l).length=l.length:=by
 have h:=pdq_sorts (ltOf LV) GM l.toArray 0 l.toArray.size (Lib.bitLen l.length) true true (Nat.zero_le _) (Nat.le_refl _) (Or.inl rfl)
 rw [show l.toArray.size=l.length from rfl] at h
 obtain ⟨⟨hs,_,hp⟩,ho⟩:=h
 have hl:(gV l).length=l.length:=by unfold gV;rw [Array.length_toList,hs];rfl
 have e1:∀d:Array Change,d.size=l.length->(d.extract 0 l.length).toList=d.toList:=fun d hd=>by rw [<- hd,Array.extract_size]
 refine ⟨?_,?_,hl⟩
 .
  have:=hp
  rw [e1 _ hs,e1 _ rfl] at this
  exact this
 .
  rw [List.pairwise_iff_getElem]
  intro i j hi hj hij
  have:=ho i j (Nat.zero_le _) hij (by rw [<- hl];exact hj)
  rw [B6,getElem!_pos _ j (by rw [hs];show j<l.length;rw [<- hl];exact hj),getElem!_pos _ i (by rw [hs];show i<l.length;rw [<- hl];exact hi)] at this
  intro q
  exact Bool.noConfusion (this.symm.trans q)
theorem D9 {a b:List Change}(ha:dt a)(hb:dt b):gV (mQ a b)=dU a b:=Fx ha hb (qv _).1 (qv _).2.1
theorem Ea (l:List Change):flatK Enc.cells 3 l.toArray=(l.flatMap Enc.cells).toArray:=by
 have hf:=dj l
 have h3:Enc.k Change=3:=rfl
 rw [h3] at hf
 refine ext_get! (by simp [hf]) fun t ht=>?_
 rw [size_flatK] at ht
 have ht':t<l.length*3:=ht
 rw [get_flatK _ _ _ t ht]
 have hi:t / 3<l.length:=by omega
 have hj:t % 3<(Enc.cells (l[t / 3]'hi)).length:=by rw [Enc.len,h3];omega
 have g:=flat_get l (t / 3) (l[t / 3]'hi) (t % 3) _ (List.getElem?_eq_getElem hi) (List.getElem?_eq_getElem hj)
 rw [h3,show t / 3*3+t % 3=t by omega] at g
 have e1:l.toArray[t / 3]! = l[t / 3]'hi:=by simp [hi]
 have e2:(Enc.cells (l[t / 3]'hi))[t % 3]! = (Enc.cells (l[t / 3]'hi))[t % 3]'hj:=getElem!_pos (Enc.cells (l[t / 3]'hi)) (t % 3) hj
 rw [e1,e2]
 have h2:t<(l.flatMap Enc.cells).length:=by rw [hf];exact ht'
 rw [getElem!_pos _ t (by simpa using h2)]
 rw [List.getElem?_eq_getElem h2] at g
 simpa using (Option.some.inj g).symm
theorem LA {w:World}{g:Nat}{cur:Array Value}{e:TypeId}{xs:List Value}(hb:w.heap[g]? = some (.cells cur e (0,0)))(ht:cur.toList.take xs.length=xs):Holds id w g 0 xs.toArray:=by
 intro j hj
 have hj':j<xs.length:=by simpa using hj
 refine ⟨?_,by simp [World.frozen?,hb]⟩
 have h1:(cur.toList.take xs.length)[j]? = xs[j]?:=by rw [ht]
 rw [List.getElem?_take_of_lt hj'] at h1
 simp only [World.cell?,hb,Nat.zero_add]
 simp only [Option.isSome_none,Bool.false_eq_true,if_false]
 rw [<- Array.getElem?_toList,h1]
 simp [hj']
theorem Nk {w:World}{g n:Nat}{os:Array Obj}{cur:Array Value}{e:TypeId}{fr:Nat×Nat}(d:Array Value)(hb:w.heap[g]? = some (.cells cur e fr)) :
 (Sort.grow (putRow id (Sort.ahead w n) g 0 d) os).heap[g]? = some (.cells (putCells id 0 d cur) e fr):=by
 have hg:g<w.heap.size:=(Array.getElem?_eq_some_iff.1 hb).1
 rw [heap_grow_old _ _ (by simpa using hg)]
 simp [putRow,mapBlock,Sort.ahead,Array.getElem?_modify,hb,onCells]
theorem Fy {w:World}{g n:Nat}{os:Array Obj}(d:Array Value):w.grownBy (Sort.grow (putRow id (Sort.ahead w n) g 0 d) os) (some g):=by
 refine ⟨rfl,rfl,rfl,by simp,fun k hk hne=>?_⟩
 rw [heap_grow_old _ _ (by simpa using hk)]
 have:g≠k:=fun e=>hne (by rw [e])
 simp [putRow,mapBlock,Sort.ahead,Array.getElem?_modify,this]
theorem Nl (cur:Array Value)(ts:List Value)(h:ts.length<=cur.size):(putCells id 0 ts.toArray cur).toList.take ts.length=ts:=by
 apply List.ext_getElem?
 intro j
 by_cases hj:j<ts.length
 .
  rw [List.getElem?_take_of_lt hj,Array.getElem?_toList]
  simp [putCells,hj,show j<cur.size by omega]
 .rw [List.getElem?_take_eq_none (by omega),List.getElem?_eq_none (by omega)]
theorem Uv (x y:Change)(w:World):Calls Tryz.prog 161 #[.agg (Enc.cells x).toArray,.agg (Enc.cells y).toArray] w fun e w'=>e = .returned (.int .i64 (LV x y)) /\ ∃q os',w'=Sort.grow (w.drewN q) os':=by
 have hcon:∀W,Calls Tryz.prog 147 #[.string x.Key,.string y.Key] W fun e w'=>e = .returned (.int .i64 (LV x y))/\w'=W:=fun W=>(Tryz.strings_Compare x.Key y.Key W).mono fun e w' ⟨h1,h2⟩=>⟨by rw [h1,<- mZ,<- mZ,Gb];rfl,h2⟩
 generalize LV x y=r at hcon ⊢
 show Calls Tryz.prog 161 #[.agg #[.string x.Key,.string x.Val,.bool x.Gone],.agg #[.string y.Key,.string y.Val,.bool y.Gone]] w _
 go_enter Tryz.func161,Tryz.ntmps161
 go_wp2_with (go_at_call 147;refine (hcon _).mono ?_;rintro e w' ⟨rfl,rfl⟩)
 go_ret
 exact ⟨rfl,0,_,by rw [alloc_eq_grow,alloc_eq_grow,grow_grow];rfl⟩
theorem FA {w:World}{g cap n:Nat}{os:Array Obj}{l ts:List Change}{v:Value}(hv:v = .slice (some ⟨g,0,none⟩) l.length cap)(how:Own 0 117 w v l)(hl:ts.length=l.length) :
 Turned [af.row 117 v l] [af.row 117 v ts] w (Sort.grow (putRow id (Sort.ahead w n) g 0 (ts.flatMap Enc.cells).toArray) os):=by
 obtain ⟨hlen,hn|⟨g',cap',cur,hv',_,hgg,hnc,hcm,hcs,htk⟩⟩:=how
 .rw [hn.1] at hv;cases hv
 rw [hv] at hv'
 simp only [Value.slice.injEq,Option.some.injEq,Addr.mk.injEq,and_true,true_and] at hv'
 obtain ⟨rfl,rfl⟩:=hv'
 have h3:cur.size=cap*3:=hcs
 have hf:(ts.flatMap Enc.cells).length=ts.length*3:=dj ts
 have hgb:=Fy (w:=w) (g:=g) (n:=n) (os:=os) (ts.flatMap Enc.cells).toArray
 have hown:Own 0 117 (Sort.grow (putRow id (Sort.ahead w n) g 0 (ts.flatMap Enc.cells).toArray) os) v ts:=by
  refine ⟨dj ts,.inr ⟨g,cap,_,by rw [hv,hl],Nat.zero_le _,Nk _ hgg,by omega,hcm,by simpa [putCells] using hcs,?_⟩⟩
  show (putCells id 0 (ts.flatMap Enc.cells).toArray cur).toList.take (ts.length*3)=_
  rw [<- hf];exact Nl cur _ (by rw [hf,h3,hl];exact Nat.mul_le_mul_right 3 hnc)
 have hlt:g<w.heap.size:=(Array.getElem?_eq_some_iff.1 hgg).1
 refine ⟨⟨hgb.os,hgb.tape,hgb.output,hgb.size,fun k hk hx=>hgb.block k hk (fun e=>hx ?_)⟩,?_,?_,fun k hk=>?_⟩
 .injection e with e;subst e;rw [hv];simp [blks,af.row,dZ]
 .intro r hr;simp at hr;subst hr;exact hown
 .rw [hv];simp [blks,af.row,dZ]
 .
  rw [hv] at hk;simp [blks,af.row,dZ] at hk;subst hk
  exact ⟨Nat.lt_of_lt_of_le hlt hgb.size,.inl (by rw [hv];simp [blks,af.row,dZ])⟩
theorem Turned.Tg {B0:List af}{w:World}(h:Hnd B0 w):Turned B0 B0 w w:=⟨lU.refl _ _,h.ok,h.sep,fun k hk=>⟨h.lt k hk,.inl hk⟩⟩
theorem IB (v:Value)(l:List Change)(w:World)(H:Hnd [af.row 117 v l] w)(hl:l.length<=1000000):Calls Tryz.prog 160 [v,.func (.func 161) #[] #[]].toArray w fun e w' => ∃_z:Unit,e = .returned (.tuple #[])/\Turned [af.row 117 v l] [af.row 117 v (gV l)] w w':=by
 have how:Own 0 117 w v l:=H.ok (af.row 117 v l) (List.mem_singleton.2 rfl)
 have hs:=(qv l).2.2
 rcases how.2 with ⟨rfl,h0⟩ | ⟨g,cap,cur,hv,_,hgg,hnc,hcm,hcs,htk⟩
 .
  have:l=[]:=List.eq_nil_of_length_eq_zero h0
  subst this
  refine (AnyF.slices_SortFunc_none { Tryz.laysSF with } none 0 _ w).mono ?_
  rintro e w' ⟨rfl,rfl⟩
  have e0:gV []=[]:=List.eq_nil_of_length_eq_zero hs
  rw [e0]
  exact ⟨(),rfl,Turned.Tg H⟩
 .
  have hH:HoldsK Enc.cells 3 w g 0 l.toArray:=by
   unfold HoldsK;rw [Ea]
   exact LA hgg (by rw [dj];exact htk)
  have eg:∀args w,(callFunc 161 args).run Tryz.prog w = .ok (.enter 161 args) w:=enters_of Tryz.func161 (by kernel_rfl) rfl
  rw [hv]
  refine (AnyQ.slices_SortFunc_eq Tryz.laysSF 3 Tryz.isAgg117 Tryz.sizeOf117 Enc.cells Enc.len Enc.one LV GM 161 #[] g 0 cap l.toArray w eg (fun _ _ _ _ x y=>Uv x y _) hH (Array.getElem?_eq_some_iff.1 hgg).1 (by simp;omega)).mono ?_
  rintro e w' ⟨rfl,n,os,rfl⟩
  refine ⟨(),rfl,?_⟩
  have:=FA (os:=os) (n:=n) (ts:=gV l) hv how hs
  rw [hv] at this
  unfold sortWorldK putRowK
  have e2:(pdq (ltOf LV) l.toArray 0 l.toArray.size (Lib.bitLen l.toArray.size) true true)=(gV l).toArray:=by unfold gV;simp
  rw [e2,Ea]
  exact this
end
section
open Go Go.RowKit
set_option maxRecDepth 100000
set_option maxHeartbeats 1000000
theorem Eb {α:Type}(f:α->Int)(l:List α):lE f l=false \/ ∃x,l[jE f l]? = some x/\lE f l=true/\jE f l<l.length:=by
 cases h:lE f l with
 | false=>exact .inl rfl
 | true =>
  have:=wW h
  exact .inr ⟨l[jE f l],List.getElem?_eq_getElem this,rfl,this⟩
def yZ (a:List Change)(c:Change):Bool:= !lE (fK c.Key) a || !decide (a[jE (fK c.Key) a]? = some c)
theorem Ai {a b:List Change}{k:Nat}{x:Change}(h:a[k]? = some x):yt (a.take (k+1)) b=yt (a.take k) b++(if lE (fK x.Key) b=false then [rN x.Key] else []):=by
 unfold yt
 rw [List.take_add_one,h,List.filter_append,List.map_append]
 cases hb:lE (fK x.Key) b <;> simp [hb]
theorem uu {a b:List Change}{k:Nat}{x:Change}(h:b[k]? = some x):D6 a (b.take (k+1))=D6 a (b.take k)++(if yZ a x=true then [x] else []):=by
 unfold D6
 rw [List.take_add_one,h,List.filter_append]
 congr 1
 cases hb:yZ a x with
 | true=>unfold yZ at hb;simp [hb]
 | false=>unfold yZ at hb;simp [hb]
theorem Nm {a:List Change}{x:Change}(h:lE (fK x.Key) a=false):yZ a x=true:=by unfold yZ;rw [h];rfl
theorem Nn {a:List Change}{x y:Change}(h:a[jE (fK x.Key) a]? = some y)(hn:¬ y=x):yZ a x=true:=by
 unfold yZ;rw [h,decide_eq_false (fun e=>hn (Option.some.inj e))];simp
theorem Np {a:List Change}{x y:Change}(hb:lE (fK x.Key) a=true)(h:a[jE (fK x.Key) a]? = some y)(hn:y=x):yZ a x=false:=by
 unfold yZ;rw [hb,h,hn];simp
theorem Ec (a b:List Change):(yt a b).length<=a.length:=by unfold yt;rw [List.length_map];exact List.length_filter_le _ _
theorem LB (a b:List Change):(D6 a b).length<=b.length:=List.length_filter_le _ _
theorem o0 (x:Change)(k:ByteArray)(w:World):Calls Tryz.prog 159 #[.agg #[.string x.Key,.string x.Val,.bool x.Gone],.string k] w fun e w'=>e = .returned (iV (fK k x))/\Ext w w':=by
 exact R.enter [] [(0,.agg #[.string x.Key,.string x.Val,.bool x.Gone]),(1,.string k)] Tryz.func159 rfl rfl rfl rfl<|R.reg rfl<|R.s rfl (s.box rfl rfl rfl) fun b1=>R.u 1 rfl<|R.nil<|R.reg rfl<|R.q (q.aO rfl bM rfl) rfl<|R.q (q.ld 0 rfl rfl bK rfl) rfl<|R.u 1 rfl<|R.c (q.call Jr rfl rfl (fun w hw=>(pX x.Key k w ))) rfl<|R.u 1 rfl<|R.nil<|R.rv rfl Tryz.results159 rfl (rI (by rfl))
set_option maxHeartbeats 1600000 in
theorem Ed (wH:Value)(a:List Change)(yC:Value)(b:List Change)(w:World)(own:List Nat)(H:HN w own [] [af.ls wH a,af.ls yC b])(hl:a.length<=1000/\b.length<=1000):RC Tryz.prog 104 #[wH,yC] H (fun z:Value=>z) (fun z=>[af.row 117 z (gV (mQ a b))]) (fun _=>[]):=by
 have Wx:=H.cx 0 rfl
 have Wy:=H.cx 1 rfl
 refine R.bF [(0,wH),(1,yC)] Tryz.func104 O O O O H<|R.reg O<|R.u 1 O<|R.nil<|R.reg O<|R.u 1 O<|R.nil<|R.reg O<|R.u 1 O<|R.nil<|R.reg O<|R.u 1 O<|R.q (q.len' (dr 0 O) O Tryz.underlying34) O<|R.u 1 O<|R.nil<|R.row0 (α:=Change) 117<|R.loop (fun g_:Nat×Value×(List Change)=>[(0,wH),(1,yC),(5,g_.2.1),(6,.func (.func 159) #[] #[]),(15,wH),(16,iV (a.length:Int)),(17,iV (g_.1:Int))]) (fun g_=>[af.row 117 g_.2.1 g_.2.2,af.held w own]) (fun g_=>[af.ls wH a,af.ls yC b]) (fun g_=>g_.1<=a.length/\g_.2.2=yt (a.take g_.1) b) (fun g_=>a.length-g_.1) (0,(nS),[]) O (by exact ⟨by omega,rfl⟩) (sF O) (fun _=>Wd.pick [0,1] [0,1] O O O) ?_
 rintro ⟨k,u,l⟩ ⟨hk,HL⟩
 dsimp only at *
 have ll:=Ec (a.take k) b;rw [<- HL,List.length_take] at ll
 refine R.reg O<|?_
 by_cases h1:k<a.length
 .
  refine R.q (q.dy O O) O<|R.nil<|R.ay O O<|R.reg O<|?_
  obtain ⟨x1,hx1⟩:∃z,a[k]? = some z:=⟨_,List.getElem?_eq_getElem (by omega)⟩
  refine R.q (q.idx (i:=k) (dr 0 O) O O cp O hx1) O<|R.q (q.eV (ds:=eR x1) (dr 0 O) hx1 O aX O) O<|R.s O (s.alloc cJ O O) fun b1=>R.s O (s.st 0 _ O O O O (.inl aX) O O O O) fun _=>R.nil<|R.reg O<|R.u 1 O<|R.q (q.aO O bM O) O<|R.q (q.ld 0 O O bK O) O<|R.u 1 O<|?_
  rcases Eb (fun x=>(fun (x:Change) (k:ByteArray)=>fK k x) x x1.Key) b with gW|⟨AY,lY,gW,AZ⟩
  .
   refine R.c (q.call wC O O (fun w hw=>(cv (congrArg (fun QG=>Value.tuple #[iV ((jE (fun x=>(fun (x:Change) (k:ByteArray)=>fK k x) x x1.Key) b:Nat):Int),.bool QG]) gW) (gG _ b x1.Key (fun (x:Change) (k:ByteArray)=>fK k x) _ _ AL w (hw.bT 1 O) (fun W x k hW=>o0 x k W ) (by omega))))) O<|R.u 5 O<|R.nil<|R.reg O<|R.u 2 O<|R.nil<|R.ay O O<|R.reg O<|R.u 1 O<|R.q (q.aO O bM O) O<|R.q (q.ld 0 O O bK O) O<|R.q (q.build kK O O) O<|R.s O (s.bs (l:=([(⟨x1.Key,⟨#[]⟩,true⟩:Change)]:List Change)) cp cJ O O O O O O O) fun b2=>R.s O (s.app 2 _ O O O (ck 0 O) jv (by (simp;omega)) (by (simp;omega)) (fun _=>rfl) O) fun v1=>R.u 1 O<|R.nil<|R.reg O<|R.q (q.bA (r:=((k+1:Nat):Int)) O O) O<|R.u 1 O<|R.nil<|R.back (k+1,v1,(l++([(⟨x1.Key,⟨#[]⟩,true⟩:Change)]))) O (by (exact ⟨by omega,by rw [Ai hx1,<- HL];(rw [if_pos (show lE (fK x1.Key) b=false from gW)];rfl)⟩)) (by dsimp only;omega) (sF O) (aC [2,3] [0,1] O O O)
  refine R.c (q.call wC O O (fun w hw=>(cv (congrArg (fun QG=>Value.tuple #[iV ((jE (fun x=>(fun (x:Change) (k:ByteArray)=>fK k x) x x1.Key) b:Nat):Int),.bool QG]) gW) (gG _ b x1.Key (fun (x:Change) (k:ByteArray)=>fK k x) _ _ AL w (hw.bT 1 O) (fun W x k hW=>o0 x k W ) (by omega))))) O<|R.u 5 O<|R.nil<|R.reg O<|R.u 2 O<|R.nil<|R.aB O O<|R.reg O<|R.q (q.bA (r:=((k+1:Nat):Int)) O O) O<|R.u 1 O<|R.nil<|R.back (k+1,u,l) O (by (exact ⟨by omega,by rw [Ai hx1,<- HL];(rw [if_neg (by rw [show lE (fK x1.Key) b=true from gW];decide)];exact (List.append_nil _).symm)⟩)) (by dsimp only;omega) (sF O) (aC [1,2] [0,1] O O O)
 refine R.q (q.cW O O) O<|R.nil<|R.aB O O<|R.reg O<|R.u 1 O<|R.q (q.len' (dr 1 O) O Tryz.underlying34) O<|R.u 1 O<|R.nil<|R.loop (fun g_:Nat×Value×(List Change)=>[(0,wH),(5,g_.2.1),(6,.func (.func 159) #[] #[]),(38,yC),(39,iV (b.length:Int)),(40,iV (g_.1:Int))]) (fun g_=>[af.row 117 g_.2.1 g_.2.2,af.held w own]) (fun g_=>[af.ls wH a,af.ls yC b]) (fun g_=>g_.1<=b.length/\g_.2.2=yt a b++D6 a (b.take g_.1)) (fun g_=>b.length-g_.1) (0,u,l) O (by exact ⟨by omega,by rw [HL,List.take_of_length_le (by omega)];exact (List.append_nil _).symm⟩) (sF O) (fun _=>Wd.pick [0,1] [0,1] O O O) ?_
 rintro ⟨j,u2,l2⟩ ⟨hj,HL2⟩
 dsimp only at *
 have U0:l2.length<=a.length+j:=by have q1:=Ec a b;have q2:=LB a (b.take j);rw [List.length_take] at q2;rw [HL2,List.length_append];omega
 refine R.reg O<|?_
 by_cases h2:j<b.length
 .
  refine R.q (q.dy O O) O<|R.nil<|R.ay O O<|R.reg O<|?_
  obtain ⟨x2,hx2⟩:∃z,b[j]? = some z:=⟨_,List.getElem?_eq_getElem (by omega)⟩
  refine R.q (q.idx (i:=j) (dr 1 O) O O cp O hx2) O<|R.q (q.eV (ds:=eR x2) (dr 1 O) hx2 O aX O) O<|R.s O (s.alloc cJ O O) fun b3=>R.s O (s.st 0 _ O O O O (.inl aX) O O O O) fun _=>R.nil<|R.reg O<|R.u 1 O<|R.q (q.aO O bM O) O<|R.q (q.ld 0 O O bK O) O<|R.u 1 O<|?_
  rcases Eb (fun x=>(fun (x:Change) (k:ByteArray)=>fK k x) x x2.Key) a with Ti|⟨Tj,Rc,Ti,Wz⟩
  .
   refine R.c (q.call wC O O (fun w hw=>(cv (congrArg (fun QG=>Value.tuple #[iV ((jE (fun x=>(fun (x:Change) (k:ByteArray)=>fK k x) x x2.Key) a:Nat):Int),.bool QG]) Ti) (gG _ a x2.Key (fun (x:Change) (k:ByteArray)=>fK k x) _ _ AL w (hw.bT 0 O) (fun W x k hW=>o0 x k W ) (by omega))))) O<|R.u 5 O<|R.nil<|R.ew O mixed (by kernel_rfl)<|Q.u 10 O<|Q.nil<|R.ay O O<|R.reg O<|R.u 1 O<|R.q (q.dv 0 O O aX) O<|R.s O (s.bs (l:=([x2]:List Change)) cp cJ O O O O O O O) fun b4=>R.s O (s.app 2 _ O O O (ck 0 O) jv (by (simp;omega)) (by (simp;omega)) (fun _=>rfl) O) fun v2=>R.u 1 O<|R.nil<|R.reg O<|R.q (q.bA (r:=((j+1:Nat):Int)) O O) O<|R.u 1 O<|R.nil<|R.back (j+1,v2,(l2++([x2]))) O (by (exact ⟨by omega,by rw [uu hx2,<- List.append_assoc,<- HL2];(rw [if_pos (Nm Ti)];done)⟩)) (by dsimp only;omega) (sF O) (aC [2,3] [0,1] O O O)
  refine R.c (q.call wC O O (fun w hw=>(cv (congrArg (fun QG=>Value.tuple #[iV ((jE (fun x=>(fun (x:Change) (k:ByteArray)=>fK k x) x x2.Key) a:Nat):Int),.bool QG]) Ti) (gG _ a x2.Key (fun (x:Change) (k:ByteArray)=>fK k x) _ _ AL w (hw.bT 0 O) (fun W x k hW=>o0 x k W ) (by omega))))) O<|R.u 5 O<|R.nil ?_
  by_cases h3:Tj=x2
  .
   refine R.ew O mixed (by kernel_rfl)<|Q.u 5 O<|Q.qg O (q.idx (i:=(jE (fun x=>(fun (x:Change) (k:ByteArray)=>fK k x) x x2.Key) a)) (dr 0 O) O O cp O Rc) O<|Q.qg O (q.eV (ds:=eR Tj) (dr 0 O) Rc O aX O) O<|Q.qg O (q.dv 0 O O aX) O<|Q.qg O (q.vV (x:=Tj) (y:=x2) JD O O h3) O<|Q.u 1 O<|Q.nil<|R.aB O O<|R.reg O<|R.q (q.bA (r:=((j+1:Nat):Int)) O O) O<|R.u 1 O<|R.nil<|R.back (j+1,u2,l2) O (by (exact ⟨by omega,by rw [uu hx2,<- List.append_assoc,<- HL2];(rw [if_neg (by rw [Np Ti Rc ‹_›];decide)];exact (List.append_nil _).symm)⟩)) (by dsimp only;omega) (sF O) (aC [1,2] [0,1] O O O)
  refine R.ew O mixed (by kernel_rfl)<|Q.u 5 O<|Q.qg O (q.idx (i:=(jE (fun x=>(fun (x:Change) (k:ByteArray)=>fK k x) x x2.Key) a)) (dr 0 O) O O cp O Rc) O<|Q.qg O (q.eV (ds:=eR Tj) (dr 0 O) Rc O aX O) O<|Q.qg O (q.dv 0 O O aX) O<|Q.qg O (q.vW (x:=Tj) (y:=x2) JD O O h3) O<|Q.u 1 O<|Q.nil<|R.ay O O<|R.reg O<|R.u 1 O<|R.q (q.dv 0 O O aX) O<|R.s O (s.bs (l:=([x2]:List Change)) cp cJ O O O O O O O) fun b5=>R.s O (s.app 2 _ O O O (ck 0 O) jv (by (simp;omega)) (by (simp;omega)) (fun _=>rfl) O) fun v3=>R.u 1 O<|R.nil<|R.reg O<|R.q (q.bA (r:=((j+1:Nat):Int)) O O) O<|R.u 1 O<|R.nil<|R.back (j+1,v3,(l2++([x2]))) O (by (exact ⟨by omega,by rw [uu hx2,<- List.append_assoc,<- HL2];(rw [if_pos (Nn Rc ‹_›)];done)⟩)) (by dsimp only;omega) (sF O) (aC [2,3] [0,1] O O O)
 refine R.q (q.cW O O) O<|R.nil<|R.aB O O<|R.reg O<|R.u 1 O<|R.s O (s.I0 [0,1] _ _ O O Po O O (fun w hw H=>IB u2 l2 w H (by omega)) O) fun u1=>R.nil<|R.reg O<|R.u 2 O<|R.nil ?_
 have hz:gV (mQ a b)=(gV l2):=by (rw [HL2,List.take_of_length_le (by omega)];rfl)
 rw [hz]
 exact R.w1 u2 [0,1] [] O Tryz.results104 (RV.tmp O) O O O O
end
structure IC (c:Change):Prop where
  k0:0<c.Key.size
  k8:c.Key.size<=8
  v:c.Val.size<=24
  g:c.Gone=false
theorem QH {r:aD}(h:Inv r):∀c∈rowsOf r,IC c:=by
 have a1:=h.oV;have a2:=h.qZ;have a3:=h.pz;have a4:=h.pA
 intro c hc
 unfold rowsOf at hc
 rcases List.mem_append.1 hc with hc|hc
 .
  rcases List.mem_append.1 hc with hc|hc
  .
   rcases List.mem_append.1 hc with hc|hc
   .
    obtain ⟨x,hx,rfl⟩:=List.mem_map.1 hc
    have k:=h.Iq hx;have k1:=k.2.1;have k2:=k.2.2
    have e:(hrow x).Key.size=3:=by rw [<- eA,hkey k.1];rfl
    have e2:(hrow x).Val.size=4:=cO (by omega) (by omega)
    exact ⟨by omega,by omega,by omega,rfl⟩
   .
    obtain ⟨x,hx,rfl⟩:=List.mem_map.1 hc
    have k:=h.Oz hx;have k1:=k.i0;have k2:=k.i9;have k3:=k.kd;have k4:=k.ds
    have e:(l4 x).Key.size=5:=by rw [<- eA,tkey k1 k2];rfl
    have e2:(l4 x).Val.size=4+x.Data.size:=by show (bO x.Kind++x.Data).size=_;rw [eY,cO (by omega) (by omega)]
    exact ⟨by omega,by omega,by omega,rfl⟩
  .
   obtain ⟨x,hx,rfl⟩:=List.mem_map.1 hc
   have k:=h.tree.mem hx
   have i1:=k.id1;have i9:=k.Oo;have t1:=k.Qg;have t9:=k.Qh;have b0:=k.Qi;have b9:=k.Qj;have f0:=k.Q7;have fl:=k.Qk;have q0:=k.KA;have q7:=k.KB
   have e:(od x).Key.size=5:=by rw [<- eA,Lc (by omega) (by omega)];rfl
   have e2:(od x).Val.size=16:=by
    show (bO x.aE++bO x.Rights++bO x.aN++bO x.From).size=_
    simp only [eY]
    rw [cO (by omega) (by omega),cO (by omega) (by omega),cO (by omega) (by omega),cO (by omega) (by omega)]
   exact ⟨by omega,by omega,by omega,rfl⟩
 .
  rw [List.mem_singleton.1 hc]
  have e2:(DI r).Val.size=8:=by
   show (bO r.ae++bO r.ah).size=_
   rw [eY,cO (by omega) (by omega),cO (by omega) (by omega)]
  exact ⟨(by decide:0<kX.size),(by decide:kX.size<=8),by omega,rfl⟩
theorem rl {r:aD}(h:Inv r):∀c∈bL r,IC c:=QH (jy h).1
theorem fY {r:aD}(h:Inv r):dt (bL r):=Ae (jy h).1
theorem FB {r:aD}(h:Inv r):∀c∈bL r,c.Key.size<=1000/\c.Val.size<=1000:=fun c hc=>by
 have k:=rl h c hc;have:=k.k8;have:=k.v;omega
section
theorem LC {α:Type}[DecidableEq α]:∀ (a b:List α),a.Nodup->(∀x∈a,x∈b)->a.length<=b.length
 | [],b,_,_=>Nat.zero_le _
 | x::a,b,hn,h=>by
  obtain ⟨h1,h2⟩:=List.nodup_cons.1 hn
  have hx:=h x (List.mem_cons_self ..)
  have:=LC a (b.erase x) h2 (fun y hy=>(List.mem_erase_of_ne (fun e=>h1 (by rw [<- e];exact hy))).2 (h y (List.mem_cons_of_mem _ hy)))
  rw [List.length_erase_of_mem hx] at this
  have hp:=List.length_pos_of_mem hx
  rw [List.length_cons];omega
def V4 (p:Place):ByteArray:=kH++gU p.az++gU p.Slot
def QI:List Place:=(List.range 24).map (fun i=>⟨((i / 6+1:Nat):Int),((i % 6:Nat):Int)⟩)
theorem LD {p:Place}(h:aY p=0):p∈QI:=by
 have h1:=cC h
 refine List.mem_map.2 ⟨((p.az.toNat-1)*6+p.Slot.toNat),List.mem_range.2 (by omega),?_⟩
 obtain ⟨a,b⟩:=p
 dsimp only at h1 ⊢
 congr 1 <;> omega
def GN (H T:List Int):List ByteArray:=QI.map V4++T.map (fun i=>kT++bO i)++H.map (fun i=>kW++bO i)++[kX]
theorem LF {H T:List Int}(h1:H.length<=24)(h2:T.length<=10):(GN H T).length<=59:=by
 unfold GN QI
 simp only [List.length_append,List.length_map,List.length_range,List.length_cons,List.length_nil];omega
section
variable {r a b:aD}
theorem Aj (h:Inv r){H T:List Int}(hH:∀x∈r.Held,x.ap∈H)(hT:∀t∈r.Things,t.ID∈T):∀c∈bL r,c.Key∈GN H T:=fun c hc=>by
 obtain ⟨q1,q2,q3,q4,q5⟩:=jy h
 unfold bL rowsOf at hc
 rcases List.mem_append.1 hc with hc|hc
 .
  rcases List.mem_append.1 hc with hc|hc
  .
   rcases List.mem_append.1 hc with hc|hc
   .
    obtain ⟨x,hx,rfl⟩:=List.mem_map.1 hc
    exact List.mem_append_left _ (List.mem_append_left _ (List.mem_append_left _ (List.mem_map.2 ⟨x.Place,LD (q1.Iq hx).1,rfl⟩)))
   .
    obtain ⟨x,hx,rfl⟩:=List.mem_map.1 hc
    have hx2:=(zY _).2.2.1 x hx
    exact List.mem_append_left _ (List.mem_append_left _ (List.mem_append_right _ (List.mem_map.2 ⟨x.ID,hT x hx2,rfl⟩)))
  .
   obtain ⟨x,hx,rfl⟩:=List.mem_map.1 hc
   have h1:=q1.once x hx
   have h2:cN (aR r).Notes x.ID=0:=by rw [q2];rfl
   obtain ⟨y,hy,e⟩:=List.countP_pos_iff.1 (show 0<cH (aR r).Held x.ID by omega)
   have e:y.ap=x.ID:=by simpa using e
   rw [q3] at hy
   exact List.mem_append_left _ (List.mem_append_right _ (List.mem_map.2 ⟨x.ID,e▸hH y hy,rfl⟩))
 .
  rw [List.mem_singleton.1 hc]
  exact List.mem_append_right _ (List.mem_singleton.2 rfl)
theorem GQ (ha:Inv a)(hb:Inv b){H T:List Int}(hH:H.length<=24)(hT:T.length<=10)(a1:∀x∈a.Held,x.ap∈H)(a2:∀t∈a.Things,t.ID∈T)(b1:∀x∈b.Held,x.ap∈H)(b2:∀t∈b.Things,t.ID∈T) :
 (dU (bL a) (bL b)).length<=59:=by
 have hr:=sy (fY ha) (fY hb)
 have hn:((dU (bL a) (bL b)).map Change.Key).Nodup:=by
  refine List.pairwise_map.2 ((sA hr).imp fun q=>q)
 have:=LC _ (GN H T) hn (fun k hk=>by
  obtain ⟨x,hx,rfl⟩:=List.mem_map.1 hk
  rcases (mem_merge (fY ha) (fY hb)).1 hx with ⟨c,hc,_,rfl⟩ | ⟨h,_⟩
  .exact Aj ha a1 a2 c hc
  .exact Aj hb b1 b2 x h)
 rw [List.length_map] at this
 exact Nat.le_trans this (LF hH hT)
def Ee (a b:aD):Prop:=(∀x∈a.Held,∃y∈b.Held,y.ap=x.ap)/\(∀t∈a.Things,∃s∈b.Things,s.ID=t.ID)
theorem Ee.refl (a:aD):Ee a a:=⟨fun x hx=>⟨x,hx,rfl⟩,fun t ht=>⟨t,ht,rfl⟩⟩
theorem Nq (ha:Inv a)(hb:Inv b)(h:Ee a b\/Ee b a):(dU (bL a) (bL b)).length<=59:=by
 rcases h with h|h
 .exact GQ ha hb (H:=b.Held.map Held.ap) (T:=b.Things.map aE.ID) (by rw [List.length_map];exact tC hb) (by rw [List.length_map];exact hb.jq)
   (fun x hx=>by obtain ⟨y,hy,e⟩:=h.1 x hx;exact List.mem_map.2 ⟨y,hy,e⟩) (fun x hx=>by obtain ⟨y,hy,e⟩:=h.2 x hx;exact List.mem_map.2 ⟨y,hy,e⟩)
   (fun x hx=>List.mem_map.2 ⟨x,hx,rfl⟩) (fun x hx=>List.mem_map.2 ⟨x,hx,rfl⟩)
 .exact GQ ha hb (H:=a.Held.map Held.ap) (T:=a.Things.map aE.ID) (by rw [List.length_map];exact tC ha) (by rw [List.length_map];exact ha.jq)
   (fun x hx=>List.mem_map.2 ⟨x,hx,rfl⟩) (fun x hx=>List.mem_map.2 ⟨x,hx,rfl⟩)
   (fun x hx=>by obtain ⟨y,hy,e⟩:=h.1 x hx;exact List.mem_map.2 ⟨y,hy,e⟩) (fun x hx=>by obtain ⟨y,hy,e⟩:=h.2 x hx;exact List.mem_map.2 ⟨y,hy,e⟩)
theorem Ak {ws:List ap}{nw nt:Int}:Ee (dS ⟨ws,r.Things,r.Held,r.Notes,nw,nt⟩) r:=by
 have h:=zY (⟨ws,r.Things,r.Held,r.Notes,nw,nt⟩:aD)
 exact ⟨fun x hx=>⟨x,h.1 x hx,rfl⟩,fun t ht=>⟨t,h.2.2.1 t ht,rfl⟩⟩
theorem QJ (h:Inv r){a:ej}(hm:(cR r a).2=0):Ee r (cR r a).1\/Ee (cR r a).1 r:=by
 have n1:=h.oV
 unfold cR at hm ⊢
 by_cases h1:a.Kind=(⟨#[109,97,107,101]⟩:ByteArray)
 .
  rw [if_pos h1] at hm ⊢
  obtain ⟨hk,hf,hl,ht,hw,he⟩:=xY hm
  obtain ⟨hp,ha⟩:=mh hf
  have hpl:=cC hp
  rw [he (by omega)]
  exact .inl ⟨fun x hx=>⟨x,(lC h.good ha (by omega)).2 (.inr hx),rfl⟩,fun t ht=>⟨t,List.mem_append_left _ ht,rfl⟩⟩
 .
  rw [if_neg h1] at hm ⊢
  by_cases h2:a.Kind=(⟨#[103,105,118,101]⟩:ByteArray)
  .
   rw [if_pos h2] at hm ⊢
   obtain ⟨hg,hf,hr,hw,hd,he⟩:=xZ hm
   obtain ⟨hp,ha⟩:=mh hf
   have hpl:=cC hp
   obtain ⟨_,hgm,_⟩:=h.get hg
   obtain ⟨GB,hid,hth,_⟩:=h.derive hgm hw hd
   rw [he (by omega)]
   exact .inl ⟨fun x hx=>⟨x,(lC h.good ha (by omega)).2 (.inr hx),rfl⟩,fun t ht=>⟨t,ht,rfl⟩⟩
  .
   rw [if_neg h2] at hm ⊢
   by_cases h3:a.Kind=(⟨#[109,111,118,101]⟩:ByteArray)
   .
    rw [if_pos h3] at hm ⊢
    obtain ⟨hg,hf,he⟩:=ya hm
    obtain ⟨hp,ha⟩:=mh hf
    obtain ⟨hpf,hgm,hat,h1,_⟩:=h.get hg
    rw [he]
    have hi:(aQ r a.P).1.ID≠0:=by omega
    have hg1:Good (fL r.Held a.P 0):=mM h.good hpf
    have hne:¬ (⟨a.P.az,a.A⟩:Place)=a.P:=fun e=>by rw [e] at ha;omega
    have ha1:mT (fL r.Held a.P 0) ⟨a.P.az,a.A⟩=0:=by rw [zT h.good hpf hne];exact ha
    refine .inr ⟨fun x hx=>?_,fun t ht=>⟨t,ht,rfl⟩⟩
    rcases (lC hg1 ha1 hi).1 hx with e|hx
    .exact ⟨⟨a.P,(aQ r a.P).1.ID⟩,at_mem h.good hat.symm hi,by rw [e]⟩
    .exact ⟨x,DF h.good hat.symm hi hx,rfl⟩
   .
    rw [if_neg h3] at hm ⊢
    by_cases h4:a.Kind=(⟨#[100,114,111,112]⟩:ByteArray)
    .
     rw [if_pos h4] at hm ⊢
     rw [(yb hm).2];exact .inr Ak
    .
     rw [if_neg h4] at hm ⊢
     by_cases h5:a.Kind=(⟨#[114,101,118,111,107,101]⟩:ByteArray)
     .
      rw [if_pos h5] at hm ⊢
      rw [(tA hm).2];exact .inr Ak
     .
      rw [if_neg h5] at hm ⊢
      by_cases h6:a.Kind=(⟨#[119,114,105,116,101]⟩:ByteArray)
      .
       rw [if_pos h6] at hm ⊢
       rw [(uS hm).2.2]
       refine .inr ⟨fun x hx=>⟨x,hx,rfl⟩,fun t ht=>?_⟩
       obtain ⟨k,s,hs,e,_⟩:=mem_set ht
       exact ⟨s,List.mem_of_getElem? hs,e.symm⟩
      .
       rw [if_neg h6] at hm ⊢
       by_cases h7:a.Kind=(⟨#[115,101,110,100]⟩:ByteArray)
       .
        rw [if_pos h7] at hm ⊢
        obtain ⟨_,_,_,hc⟩:=yc hm
        rcases hc with ⟨_,he⟩ | ⟨_,_,_,_,_,he⟩
        .rw [he];exact .inr ⟨fun x hx=>⟨x,hx,rfl⟩,fun t ht=>⟨t,ht,rfl⟩⟩
        .rw [he];exact .inr ⟨fun x hx=>⟨x,hx,rfl⟩,fun t ht=>⟨t,ht,rfl⟩⟩
       .
        rw [if_neg h7] at hm ⊢
        by_cases h8:a.Kind=(⟨#[116,97,107,101]⟩:ByteArray)
        .
         rw [if_pos h8] at hm ⊢
         obtain ⟨hy,i,n,hn,hp,hb,_,hc⟩:=yd hm
         rcases hc with ⟨h0,hf,_,he⟩ | ⟨h0,_,he⟩
         .
          obtain ⟨h5,ha⟩:=free_at hf
          dsimp only;rw [he]
          exact .inl ⟨fun x hx=>⟨x,(lC h.good ha (by omega)).2 (.inr hx),rfl⟩,fun t ht=>⟨t,ht,rfl⟩⟩
         .
          dsimp only;rw [he]
          exact .inl ⟨fun x hx=>⟨x,hx,rfl⟩,fun t ht=>⟨t,ht,rfl⟩⟩
        .rw [if_neg h8];exact .inl (Ee.refl r)
theorem QK (h:Inv r){a:ej}(hm:(cR r a).2=0):(dU (bL r) (bL (cR r a).1)).length<=59:=Nq h (h.do hm) (QJ h hm)
theorem yu:∀ (l:List Change),(∀c∈l,iG c=0)->jG l=0
 | [],_=>rfl
 | x::l,h=>by
  unfold jG;rw [if_pos (h x (List.mem_cons_self ..))]
  exact yu l (fun c hc=>h c (List.mem_cons_of_mem _ hc))
theorem IC.ok {c:Change}(h:IC c):iG c=0:=JN (fun e=>by have:=h.k0;rw [e] at this;exact absurd this (by decide)) (fun e=>by rw [h.g] at e;cases e) h.k8 h.v
theorem IC.gone {c:Change}(h:IC c):iG (rN c.Key)=0:=JN (fun e=>by have:=h.k0;have e:c.Key=⟨#[]⟩:=e;rw [e] at this;exact absurd this (by decide)) (fun _=>rfl) h.k8 (by show (0:Nat)<=24;decide)
theorem QL (ha:Inv a)(hb:Inv b):jG (dU (bL a) (bL b))=0:=yu _ fun x hx=>by
 rcases (mem_merge (fY ha) (fY hb)).1 hx with ⟨c,hc,_,rfl⟩ | ⟨h,_⟩
 .exact (rl ha c hc).gone
 .exact (rl hb x h).ok
theorem Ca (ha:Inv a)(hb:Inv b):bZ (bL a) (dU (bL a) (bL b))=bL b:=uV (fY ha) (fY hb) (fun c hc=>(rl hb c hc).g)
theorem FC (h:Inv r):bL (aR r)=bL r:=by
 unfold bL;rw [(jy h).2.2.2.2]
end
end
end Go.Proofs.YtkbhcbipadkcaaaGreatDoor
