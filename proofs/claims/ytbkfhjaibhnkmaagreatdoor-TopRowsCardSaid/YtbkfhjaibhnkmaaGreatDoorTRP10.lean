import Derived.Test.YtbkfhjaibhnkmaaGreatDoorTRP9
namespace Go.Proofs.YtbkfhjaibhnkmaaGreatDoor
open Go Go.RowKit
set_option linter.unusedVariables false
set_option linter.unusedSimpArgs false
def ah.held (w0:World)(own:List Nat):ah:=⟨own,fun w => ∀k∈own,w.heap[k]? = w0.heap[k]?,fun w w' h ho k hk=>(h k hk).trans (ho k hk)⟩
theorem fU (B:List ah)(w:World)(own:List Nat):blks (B++[ah.held w own])=blks B++own:=by
  rw [bE];simp [blks,ah.held]
theorem qK {F F0:List ah}{js:List Nat}(h:dD F js=some F0):∀k∈blks F0,k∈blks F:=fun k hk=>by
  obtain ⟨r,hr,hk⟩:=bG.1 hk
  exact bG.2 ⟨r,ij h r hr,hk⟩
section
variable {we w w':World} {X:List Nat} {B0 Br B1 F F0 F1:List ah}
theorem Wd.wD (hw:Wd we X (B0++Br) F w){js:List Nat}(hj:dD F js=some F0):Wd w (blks B0++blks Br) (B0++[ah.held w (blks Br)]) F0 w:=by
  have hs:=hw.sep
  rw [bE] at hs
  refine ⟨iL.refl _ _,fun r hr=>?_,fun r hr=>hw.okF r (ij hj r hr),by rw [fU];exact hs,fun k hk=>?_,fun k hk=>?_⟩
  ·
    rcases List.mem_append.1 hr with hr|hr
    · exact hw.okB r (List.mem_append.2 (.inl hr))
    · simp at hr;subst hr;exact fun k _=>rfl
  ·
    rw [fU] at hk
    exact ⟨(hw.own k (by rw [bE];exact hk)).1,fun _=>hk⟩
  ·
    rw [fU,← bE]
    exact hw.ko k (qK hj k hk)
theorem Wd.after (hw:Wd we X (B0++Br) F w)(hp:Wd w (blks B0++blks Br) (B1++[ah.held w (blks Br)]) F1 w'):Wd we X (B1++Br) (F1++F) w':=by
  have hout:∀k,k<w.heap.size→k∉blks (B0++Br)→w'.heap[k]? = w.heap[k]?:=fun k hk hn=>hp.upd.block k hk (by rw [← bE];exact hn)
  have zT:∀k∈blks Br,w'.heap[k]? = w.heap[k]?:=hp.okB (ah.held w (blks Br)) (List.mem_append.2 (.inr (List.mem_singleton.2 rfl)))
  have hsz:=hp.upd.size
  have hold:∀k∈blks B1,k<w.heap.size→k∈blks (B0++Br):=fun k hk hlt=>by
    rw [bE];exact (hp.own k (by rw [fU];exact List.mem_append.2 (.inl hk))).2 hlt
  refine ⟨⟨hp.upd.os.trans hw.upd.os,hp.upd.tape.trans hw.upd.tape,hp.upd.output.trans hw.upd.output,Nat.le_trans hw.upd.size hsz,fun k hk hx=>?_⟩,fun r hr=>?_,fun r hr=>?_,?_,fun k hk=>?_,fun k hk=>?_⟩
  ·
    have hk2:k<w.heap.size:=Nat.lt_of_lt_of_le hk hw.upd.size
    exact (hout k hk2 (fun hb=>hx ((hw.own k hb).2 hk))).trans (hw.upd.block k hk hx)
  ·
    rcases List.mem_append.1 hr with hr|hr
    · exact hp.okB r (List.mem_append.2 (.inl hr))
    · exact r.loc w w' (fun k hk=>zT k (bG.2 ⟨r,hr,hk⟩)) (hw.okB r (List.mem_append.2 (.inr hr)))
  ·
    rcases List.mem_append.1 hr with hr|hr
    · exact hp.okF r hr
    ·
      refine r.loc w w' (fun k hk=>?_) (hw.okF r hr)
      have:=hw.ko k (bG.2 ⟨r,hr,hk⟩)
      exact hout k this.1 this.2
  ·
    have:=hp.sep
    rw [fU] at this;rw [bE];exact this
  ·
    rw [bE] at hk
    have h1:=hp.own k (by rw [fU];exact hk)
    refine ⟨h1.1,fun hlt=>?_⟩
    rcases List.mem_append.1 hk with hk|hk
    · exact (hw.own k (hold k hk (Nat.lt_of_lt_of_le hlt hw.upd.size))).2 hlt
    · exact (hw.own k (by rw [bE];exact List.mem_append.2 (.inr hk))).2 hlt
  ·
    rw [bE] at hk
    rcases List.mem_append.1 hk with hk|hk
    ·
      have:=hp.ko k hk
      rw [fU] at this;rw [bE];exact this
    ·
      have:=hw.ko k hk
      refine ⟨Nat.lt_of_lt_of_le this.1 hsz,fun hb=>?_⟩
      rw [bE] at hb
      rcases List.mem_append.1 hb with hb|hb
      · exact this.2 (hold k hb this.1)
      · exact this.2 (by rw [bE];exact List.mem_append.2 (.inr hb))
end
section
variable {P:Program} {n:Nat} {we:World} {X:List Nat} {Q:Exit→Act→World→Prop} {k k':List It} {L:Fm} {B F:List ah} {ops rest:List Oper}
variable {dst:Option Nat} {d:Nat} {ty:TypeId} {pos:String} {dM:Array Edge} {g:Option (Nat×Bool)} {v:Value}
variable {x y:Operand} {xT yT t e:TypeId} {α:Type} [Enc α] {l:List α}
theorem s.bA {β:Type}{f:FuncId}{c:Operand}{xs:Array Operand}{ts:Array TypeId}{vs:List Value}{cap:Array Value}{B0 Br F0:List ah}(is js:List Nat)(G:β→Value)(B1 F1:β→List ah)(hp:dD B is=some (B0++Br))(ha':gu is=true)(hj:dD F js=some F0)
    (eg:∀args w,(callFunc f args).run P w = .ok (.enter f args) w) (hargs:evs L xs.toList=some vs) (hc:ev L c=some (.func (.func f) #[] cap))
    (hcall:∀w own,Wd we X B F w→Wd w (blks B0++own) (B0++[ah.held w own]) F0 w→Calls P f (vs++cap.toList).toArray w fun e w' => ∃z,e = .returned (G z)∧Wd w (blks B0++own) (B1 z++[ah.held w own]) (F1 z) w') (hd:Nat.blt d n=true) :
    Stp P n we X L B F ⟨some d,.call { callee:= .value c,args:=xs,argTypes:=ts },ty,pos,dM,g⟩ (fun z=>(d,G z)::L) (fun z=>B1 z++Br) (fun z=>F1 z++F):=by
  intro K Q' a w ha hw hK
  have hw2:=hw.zM is hp ha'
  unfold Oper.wp
  rw [kO ha hargs hc eg,Oper.upon_enter]
  refine (hcall w (blks Br) hw (hw2.wD hj)).mono fun e w' he=>?_
  obtain ⟨z,rfl,ht⟩:=he
  exact hK z _ _ (ha.put d _ hd) (hw2.after ht)
theorem R.cQ {f:FuncId}{fn:Func}{c:Code}{vs:List Value}{w:World}{R:Ending→World→Prop}(L:Fm)(hf:P.funcs[f]? = some fn)(hb:fn.body=some c)(hn:fn.ntmps=n)
    (hle:Nat.ble vs.length n=true) (hL:zB 0 vs=L) (h0:Wd w X B F w) (h:Run P n w X (bodyPost P fn R) [.c c] L B F):Calls P f vs.toArray w R:=by
  have hle':vs.length≤n:=Nat.le_of_ble_eq_true hle
  refine calls_of_wp hf hb ?_
  refine wp_mono (h _ w ⟨?_,rfl,fun i v hv=>?_⟩ h0) (fun e a w q=>by cases e <;> exact q)
  · simp [hn];omega
  ·
    rw [← hL] at hv
    obtain ⟨h1,h2⟩:=qJ vs 0 i v hv
    simp only [Nat.sub_zero] at h2
    have hi:i<vs.length:=(List.getElem?_eq_some_iff.1 h2).1
    show (vs.toArray++Array.replicate (fn.ntmps-vs.toArray.size) undef)[i]? = some v
    rw [Array.getElem?_append_left (by simpa using hi)]
    simpa using h2
section
variable {fn:Func} {β:Type} {B1 F1:β→List ah} {V:β→Value} {r1 r2 r3 r4:ResultVar} {v1 v2 v3 v4:Value}
theorem R.w0 (z:β)(is js:List Nat)(h:norm 200 k=[] ∨ ∃k',norm 200 k = .c .ret::k')(hr:fn.results = #[])(hp:dD B is=some (B1 z))(ha:gu is=true)(hj:dD F js=some (F1 z))(e:V z = .tuple #[]):Run P n we X (bodyPost P fn fun en w' => ∃z,en = .returned (V z)∧Wd we X (B1 z) (F1 z) w') k L B F:=by
  rcases h with h|⟨k',h⟩
  · exact R.Bm h hr fun w hw=>⟨z,by rw [e],hw.aK is js hp hj ha⟩
  · exact R.Bn h hr fun w hw=>⟨z,by rw [e],hw.aK is js hp hj ha⟩
theorem R.w1 (z:β)(is js:List Nat)(h:norm 200 k = .c .ret::k')(hr:fn.results = #[r1])(h1:RV P n we X L B F r1 v1)(hp:dD B is=some (B1 z))(ha:gu is=true)(hj:dD F js=some (F1 z))(e:v1=V z):Run P n we X (bodyPost P fn fun en w' => ∃z,en = .returned (V z)∧Wd we X (B1 z) (F1 z) w') k L B F :=
  R.zI h hr h1 fun w hw=>⟨z,by rw [e],hw.aK is js hp hj ha⟩
theorem R.w2 (z:β)(is js:List Nat)(h:norm 200 k = .c .ret::k')(hr:fn.results = #[r1,r2])(h1:RV P n we X L B F r1 v1)(h2:RV P n we X L B F r2 v2)(hp:dD B is=some (B1 z))(ha:gu is=true)(hj:dD F js=some (F1 z))(e : .tuple #[v1,v2]=V z):Run P n we X (bodyPost P fn fun en w' => ∃z,en = .returned (V z)∧Wd we X (B1 z) (F1 z) w') k L B F :=
  R.xy h hr h1 h2 fun w hw=>⟨z,by rw [e],hw.aK is js hp hj ha⟩
theorem R.w3 (z:β)(is js:List Nat)(h:norm 200 k = .c .ret::k')(hr:fn.results = #[r1,r2,r3])(h1:RV P n we X L B F r1 v1)(h2:RV P n we X L B F r2 v2)(h3:RV P n we X L B F r3 v3)(hp:dD B is=some (B1 z))(ha:gu is=true)(hj:dD F js=some (F1 z))(e : .tuple #[v1,v2,v3]=V z):Run P n we X (bodyPost P fn fun en w' => ∃z,en = .returned (V z)∧Wd we X (B1 z) (F1 z) w') k L B F :=
  R.xA h hr h1 h2 h3 fun w hw=>⟨z,by rw [e],hw.aK is js hp hj ha⟩
theorem R.w4 (z:β)(is js:List Nat)(h:norm 200 k = .c .ret::k')(hr:fn.results = #[r1,r2,r3,r4])(h1:RV P n we X L B F r1 v1)(h2:RV P n we X L B F r2 v2)(h3:RV P n we X L B F r3 v3)(h4:RV P n we X L B F r4 v4)(hp:dD B is=some (B1 z))(ha:gu is=true)(hj:dD F js=some (F1 z))(e : .tuple #[v1,v2,v3,v4]=V z):Run P n we X (bodyPost P fn fun en w' => ∃z,en = .returned (V z)∧Wd we X (B1 z) (F1 z) w') k L B F :=
  R.zJ h hr h1 h2 h3 h4 fun w hw=>⟨z,by rw [e],hw.aK is js hp hj ha⟩
end
theorem Wd.m8 {w W:World}{r r':ah}(hw:Wd we X B F w)(i j:Nat)(hi:B[i]? = some r)(hj:B[j]? = some r')(hij:i≠j)(hu:iL (blks [r']) w W):r.ok W :=
  r.loc w W (fun k hk=>hu.block k (hw.own k (bG.2 ⟨r,List.mem_of_getElem? hi,hk⟩)).1 (fun hc=>eS hi hj hij hw.sep k hk (by simpa [blks] using hc))) (hw.b i hi)
theorem Wd.xE {w W:World}{r r':ah}(hw:Wd we X B F w)(i j:Nat)(hi:F[i]? = some r)(hj:B[j]? = some r')(hu:iL (blks [r']) w W):r.ok W :=
  r.loc w W (fun k hk=>by
    have:=hw.ko k (bG.2 ⟨r,List.mem_of_getElem? hi,hk⟩)
    exact hu.block k this.1 (fun hc=>this.2 (bG.2 ⟨r',List.mem_of_getElem? hj,by simpa [blks] using hc⟩))) (hw.f i hi)
theorem Wd.ml {w:World}{K own:List Nat}(hw:Wd we (K++own) B F w)(i:Nat)(hi:B[i]? = some (ah.held we own)):iL K we w :=
  ⟨hw.upd.os,hw.upd.tape,hw.upd.output,hw.upd.size,fun k hk hn=>by
    by_cases ho:k∈own
    · exact hw.b i hi k ho
    · exact hw.upd.block k hk (fun h=>(List.mem_append.1 h).elim hn ho)⟩
theorem yl {v:Value}{l:List α}:∀k∈(ah.ls v l).blk,k∈dW v:=fun k hk=>by
  unfold ah.ls at hk
  dsimp only at hk
  split at hk
  · cases hk
  · exact hk
theorem Wd.dh {w:World}(hw:Wd we X B F w)(i:Nat)(B':List ah)(hB:B[i]? = some (ah.row e v l))(hB':B.eraseIdx i=B'):Wd we X B' (ah.ls v l::F) w:=by
  subst hB'
  have how:Own 0 e w v l:=hw.b i hB
  have hi:i<B.length:=(List.getElem?_eq_some_iff.1 hB).1
  have hsub:(B.eraseIdx i).Sublist B:=List.eraseIdx_sublist B i
  have hbs:(blks (B.eraseIdx i)).Sublist (blks B):=kQ hsub
  have hmem:∀k∈dW v,k∈blks B:=fun k hk=>bG.2 ⟨_,List.mem_of_getElem? hB,hk⟩
  have hnot:∀k∈dW v,k∉blks (B.eraseIdx i):=fun k hk hb=>by
    obtain ⟨r,hr,hkr⟩:=bG.1 hb
    obtain ⟨j,hj⟩:=List.mem_iff_getElem?.1 hr
    rw [List.getElem?_eraseIdx] at hj
    split at hj
    · exact eS hB hj (by omega) hw.sep k hk hkr
    · exact eS hB hj (by omega) hw.sep k hk hkr
  refine ⟨hw.upd,fun r hr=>hw.okB r (hsub.subset hr),fun r hr=>(List.mem_cons.1 hr).elim (fun e=>e▸how.sl) (hw.okF r),hbs.nodup hw.sep,fun k hk=>hw.own k (hbs.subset hk),fun k hk=>?_⟩
  rcases List.mem_append.1 hk with hk|hk
  ·
    have hk':=yl k hk
    exact ⟨(hw.own k (hmem k hk')).1,hnot k hk'⟩
  · exact ⟨(hw.ko k hk).1,fun h=>(hw.ko k hk).2 (hbs.subset h)⟩
theorem Wd.aU {w:World}(hw:Wd we X B F w):Wd we X B (ah.ls (α:=α) (.slice none 0 0) []::F) w:=hw.fact (Sl.nil w) (by simp [ah.ls])
theorem R.mp {B' F':List ah}(hm:∀w,Wd we X B F w→Wd we X B' F' w)(h:Run P n we X Q k L B' F'):Run P n we X Q k L B F:=fun a w ha hw=>h a w ha (hm w hw)
theorem Rg.mp {B' F':List ah}(hm:∀w,Wd we X B F w→Wd we X B' F' w)(h:Rg P n we X Q ops rest k L B' F'):Rg P n we X Q ops rest k L B F:=fun a w ha hw=>h a w ha (hm w hw)
theorem R.ym (hs:Sl we v l)(h:Run P n we [] Q k L B (ah.ls v l::F)):Run P n we [] Q k L B F:=R.m0 (r:=ah.ls v l) hs (xC hs) h
theorem q.m9 {m:Int}{i kk q:Nat}{kd:IntKind}(hs:∀w,Wd we X B F w→Sl w v l)(hx:ev L x=some (YtbkfhjaibhnkmaaGreatDoor.gJ v q))(hy:ev L y=some (.int kd m))(ht:mj P xT=some (e,kk))(hm:m=(i:Int))(hi:i≤q)(hq:q≤gv v) :
    Qt P n we X L B F (.slice xT x (some y) none none) ty (YtbkfhjaibhnkmaaGreatDoor.dw (YtbkfhjaibhnkmaaGreatDoor.gJ v q) i kk):=fun _ _ _ _ a w ha hw=>by
  obtain ⟨A,c,rfl,h1,h2,h3⟩:=hs w hw
  obtain ⟨hu,hz⟩:=ef (P:=P) w ht
  subst hm
  simp only [gv] at hq
  have hx':ev L x=some (.slice A q c):=hx
  simp only [execOp,ha.ev hx',Option.map_some,Option.map_none,ha.ev hy,Instr.sliceAt,Sem.run_bind,run_underlying hu,Result.andThen_ok,Instr.slice,Instr.sliceBounds,Instr.sliceBound,asIntOf,Sem.run_pure]
  rw [if_pos ⟨by omega,by omega⟩]
  simp [hz,YtbkfhjaibhnkmaaGreatDoor.dw,YtbkfhjaibhnkmaaGreatDoor.gJ]
theorem s.sd {lo hi:Nat}{z0:α}{z:Value}(i:Nat)(hB:B[i]? = some (ah.row e v l))(hx:ev L x=some (sl2 v lo hi (Enc.k α)))(ht:mj P t=some (e,Enc.k α))(hz:fk P e=some z)(hzs:z.cells=(Enc.cells z0).toArray)(hlo:l.length≤lo)(hh:lo≤hi)(hhi:hi≤gv v) :
    Stp P n we X L B F ⟨none,.call { callee:= .builtin .clear,args:= #[x],argTypes:= #[t] },ty,pos,dM,g⟩ (fun _:Unit=>L) (fun _=>B) (fun _=>F) :=
  s.Bu (kk:=0) i hB hx ht (by rw [hz];rfl) (fun z' h=>by
    rw [hz] at h;injection h with h;subst h
    rw [hzs];exact ⟨by simpa using Enc.len z0,fun u hu=>Enc.one z0 u (by simpa using hu)⟩) hlo hh hhi
theorem s.ux {o o' m:Nat}{A:TypeId}(i:Nat)(B':List ah)(hB:B[i]? = some (ah.row e v l))(ho:o<l.length)(hm:m=l.length+1)(ho':o'=o+1)(hroom:l.length+1≤gv v)(hx:ev L x=some (dw (gJ v m) o' (Enc.k α)))(hy:ev L y=some (dw (gJ v m) o (Enc.k α)))(ht:mj P t=some (e,Enc.k α))(hB':B.set i (ah.row e (gJ v m) (l.take (o+1)++l.drop o))=B')(hd:Nat.blt d n=true) :
    Stp P n we X L B F ⟨some d,.call { callee:= .builtin .copy,args:= #[x,y],argTypes:= #[t,A] },ty,pos,dM,g⟩ (fun _:Unit=>(d,.int .i64 ((l.length-o:Nat):Int))::L) (fun _=>B') (fun _=>F):=by
  subst hm;subst ho'
  exact s.zQ i B' hB ho hroom hx hy ht hB' hd
theorem eA (v:Value)(i:Nat):gv (gJ v i)=gv v:=by
  cases v <;> rfl
theorem Own.cap {base:Nat}{w:World}{v:Value}{l:List α}(h:Own base e w v l):l.length≤gv v:=by
  obtain ⟨A,c,rfl,h1,_⟩:=h.sl
  exact h1
theorem Wd.cap {w:World}(hw:Wd we X B F w)(i:Nat)(hB:B[i]? = some (ah.row e v l)):l.length≤gv v:=Own.cap (hw.b i hB)
theorem Wd.nf {w:World}(hw:Wd we X B F w)(i:Nat)(hB:B[i]? = some (ah.row e v l)):l.length≤9223372036854775807:=Sl.dQ (Own.sl (hw.b i hB))
theorem Wd.cL {w:World}(hw:Wd we X B F w)(i:Nat)(hF:F[i]? = some (ah.ls v l)):l.length≤9223372036854775807:=Sl.dQ (hw.aS i hF)
theorem Sl.one {w:World}{v:Value}{l:List α}(h:Sl w v l):v.oneCell'=true:=by
  obtain ⟨A,c,rfl,_⟩:=h;rfl
theorem Sl.cr {w:World}{v:Value}{l:List α}(h:Sl w v l):v.cells=[v].toArray:=by
  obtain ⟨A,c,rfl,_⟩:=h;rfl
theorem aO:∀u∈([]:List Value),u.oneCell'=true:=fun u hu=>by cases hu
theorem ao {u:Value}{us:List Value}(h:u.oneCell'=true)(hs:∀q∈us,q.oneCell'=true):∀q∈u::us,q.oneCell'=true:=fun q hq=>(List.mem_cons.1 hq).elim (fun e=>e▸h) (hs q)
theorem s.eH {b o:Nat}{cs us cs':List Value}{t:TypeId}{u:Value}(i:Nat)(B':List ah)(hB:B[i]? = some (ah.box b cs t))(hx:ev L x=some (.pointer (some ⟨b,o,none⟩)))(hy:ev L y=some u)(hu:∀w,Wd we X B F w→u.cells=us.toArray)
    (ht:(iM P xT=some us.length∨iN P xT=true∧us.length=1)) (hone:∀w,Wd we X B F w → ∀q∈us,q.oneCell'=true) (hcs:cs.take o++us++cs.drop (o+us.length)=cs') (hl:Nat.ble (o+us.length) cs.length=true) (hB':B.set i (ah.box b cs' t)=B') :
    Stp P n we X L B F ⟨none,.store xT x y,ty,pos,dM,g⟩ (fun _:Unit=>L) (fun _=>B') (fun _=>F):=by
  intro K Q' a w ha hw hK
  exact s.st i B' hB hx hy (hu w hw) ht (List.all_eq_true.2 (hone w hw)) hcs hl hB' K Q' a w ha hw hK
theorem s.stP {j o:Nat}{z z':α}{u:Value}{us:List Value}(i:Nat)(B':List ah)(hB:B[i]? = some (ah.row e v l))(hj:l[j]? = some z')(hx:ev L x=some (ep v j (Enc.k α) o))(hy:ev L y=some u)(hu:u.cells=us.toArray)(zN:Enc.cells z=(Enc.cells z').take o++us++(Enc.cells z').drop (o+us.length))(hol:Nat.ble (o+us.length) (Enc.k α)=true)(h1:∀q∈us,q.oneCell'=true)
    (ht:(iM P xT=some us.length∨iN P xT=true∧us.length=1)) (hB':B.set i (ah.row e v (l.set j z))=B') :
    Stp P n we X L B F ⟨none,.store xT x y,ty,pos,dM,g⟩ (fun _:Unit=>L) (fun _=>B') (fun _=>F):=by
  intro K Q' a w ha hw hK
  have hjl:j<l.length:=(List.getElem?_eq_some_iff.1 hj).1
  have how:Own 0 e w v l:=hw.b i hB
  obtain ⟨gb,cap,cur,rfl,_,hgg,hnc,hcm,hcs,htk⟩:=how.parts (by omega)
  have Cx:o+us.length≤Enc.k α:=Nat.le_of_ble_eq_true hol
  have hjk:j*Enc.k α+Enc.k α≤l.length*Enc.k α:=by
    have:(j+1)*Enc.k α≤l.length*Enc.k α:=Nat.mul_le_mul_right _ hjl
    rw [Nat.add_mul] at this;omega
  have hlc:l.length*Enc.k α≤cap*Enc.k α:=Nat.mul_le_mul_right _ hnc
  have hsz:(sizeOf xT).run P w = .ok us.length w:=by
    rcases ht with h|⟨h,h'⟩
    · exact (mD (P:=P) w h).2
    · rw [h'];exact (mE (P:=P) w h).2
  have hst:=run_storeCells_at P gb (j*Enc.k α+o) e us 0 cur w hgg (by omega) h1
  have hrun:(execOp a.eval ⟨none,.store xT x y,ty,pos,dM,g⟩).run P w = .ok .skip (w.setRow gb (cur.toList.take (j*Enc.k α+o)++us++cur.toList.drop (j*Enc.k α+o+us.length)).toArray):=by
    simp only [execOp,ha.ev hx,ha.ev hy,ep,Instr.storeAt,Instr.sureAddr,storeVar,hu,Sem.run_bind,Sem.run_pure,Result.andThen_ok,hsz]
    simp only [List.size_toArray,ne_eq,not_true_eq_false,if_false,Nat.add_zero,Nat.zero_add] at hst ⊢
    simp only [hst,Result.andThen_ok]
  unfold Oper.wp
  rw [hrun,Oper.upon_skip]
  have hz:(l.flatMap Enc.cells).drop (j*Enc.k α)=Enc.cells z'++(l.flatMap Enc.cells).drop (j*Enc.k α+Enc.k α):=by
    have e1:l.drop j=z'::l.drop (j+1):=by
      rw [List.drop_eq_getElem_cons hjl];congr 1;exact (List.getElem?_eq_some_iff.1 hj).2
    rw [← im,e1,List.flatMap_cons,im,Nat.add_mul,Nat.one_mul]
  have hzl:=Enc.len z'
  have hll:(l.set j z).length=l.length:=List.length_set
  have h3:(cur.toList.take (j*Enc.k α+o)).length=j*Enc.k α+o:=by rw [List.length_take];simp;omega
  have:=hw.lA (l':=l.set j z) (cs':=cur.toList.take (j*Enc.k α+o)++us++cur.toList.drop (j*Enc.k α+o+us.length)) hB hgg hcm hcs (by simp only [List.length_append,h3,List.length_drop];simp;omega) (by
      have hfl:=cU l
      rw [hll,m7 l j z hjl,m6 _ _ _ _ (by omega) (by simp;omega),htk,zN]
      have a1:(l.flatMap Enc.cells).take (j*Enc.k α+o)=(l.flatMap Enc.cells).take (j*Enc.k α)++(Enc.cells z').take o:=by
        rw [List.take_add,hz,List.take_append_of_le_length (by omega)]
      have a2:(l.flatMap Enc.cells).drop (j*Enc.k α+o+us.length)=(Enc.cells z').drop (o+us.length)++(l.flatMap Enc.cells).drop (j*Enc.k α+Enc.k α):=by
        rw [Nat.add_assoc,← List.drop_drop,hz,List.drop_append_of_le_length (by omega)]
      rw [a1,a2];simp only [List.append_assoc]) (by omega)
  rw [hll] at this
  exact hK () _ _ (by simpa [Act.put] using ha) (hB'▸this)
end
section
variable {P:Program} {n:Nat} {we:World} {X:List Nat} {L:Fm} {B F B2 F2:List ah}
theorem s.pre {β:Type}{o:Oper}{L':β→Fm}{B' F':β→List ah}(hm:∀w,Wd we X B F w→Wd we X B2 F2 w)(h:Stp P n we X L B2 F2 o L' B' F'):Stp P n we X L B F o L' B' F' :=
  fun K Q' a w ha hw hK=>h K Q' a w ha (hm w hw) hK
theorem Wd.row0 {α:Type}[Enc α]{w:World}(hw:Wd we X B F w)(e:TypeId):Wd we X (ah.row e (.slice none 0 0) ([]:List α)::B) F w :=
  hw.new (r:=ah.row e (.slice none 0 0) ([]:List α)) (Own.nil 0 e w) (by simp [ah.row,dW]) (by simp [ah.row,dW])
end
end Go.Proofs.YtbkfhjaibhnkmaaGreatDoor
