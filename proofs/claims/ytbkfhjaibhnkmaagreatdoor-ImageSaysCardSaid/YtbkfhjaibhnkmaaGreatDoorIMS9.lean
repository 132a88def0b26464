import Derived.Test.YtbkfhjaibhnkmaaGreatDoorIMS8
namespace Go.Proofs.YtbkfhjaibhnkmaaGreatDoor
open Go Go.RowKit
set_option linter.unusedVariables false
set_option linter.unusedSimpArgs false
def ag.held (w0:World)(own:List Nat):ag:=⟨own,fun w => ∀k∈own,w.heap[k]? = w0.heap[k]?,fun w w' h ho k hk=>(h k hk).trans (ho k hk)⟩
theorem iC (B:List ag)(w:World)(own:List Nat):blks (B++[ag.held w own])=blks B++own:=by
 rw [cO];simp [blks,ag.held]
theorem wT {F F0:List ag}{js:List Nat}(h:eI F js=some F0):∀k∈blks F0,k∈blks F:=fun k hk=>by
 obtain ⟨r,hr,hk⟩:=cW.1 hk
 exact cW.2 ⟨r,kF h r hr,hk⟩
section
variable {we w w':World} {X:List Nat} {B0 Br B1 F F0 F1:List ag}
theorem Wd.Db (hw:Wd we X (B0++Br) F w){js:List Nat}(hj:eI F js=some F0):Wd w (blks B0++blks Br) (B0++[ag.held w (blks Br)]) F0 w:=by
 have hs:=hw.sep
 rw [cO] at hs
 refine ⟨kC.refl _ _,fun r hr=>?_,fun r hr=>hw.okF r (kF hj r hr),by rw [iC];exact hs,fun k hk=>?_,fun k hk=>?_⟩
 ·
  rcases List.mem_append.1 hr with hr|hr
  ·exact hw.okB r (List.mem_append.2 (.inl hr))
  ·simp at hr;subst hr;exact fun k _=>rfl
 ·
  rw [iC] at hk
  exact ⟨(hw.own k (by rw [cO];exact hk)).1,fun _=>hk⟩
 ·
  rw [iC,← cO]
  exact hw.nF k (wT hj k hk)
theorem Wd.after (hw:Wd we X (B0++Br) F w)(hp:Wd w (blks B0++blks Br) (B1++[ag.held w (blks Br)]) F1 w'):Wd we X (B1++Br) (F1++F) w':=by
 have hout:∀k,k<w.heap.size→k∉blks (B0++Br)→w'.heap[k]? = w.heap[k]?:=fun k hk hn=>hp.upd.block k hk (by rw [← cO];exact hn)
 have GL:∀k∈blks Br,w'.heap[k]? = w.heap[k]?:=hp.okB (ag.held w (blks Br)) (List.mem_append.2 (.inr (List.mem_singleton.2 rfl)))
 have hsz:=hp.upd.size
 have hold:∀k∈blks B1,k<w.heap.size→k∈blks (B0++Br):=fun k hk hlt=>by
  rw [cO];exact (hp.own k (by rw [iC];exact List.mem_append.2 (.inl hk))).2 hlt
 refine ⟨⟨hp.upd.os.trans hw.upd.os,hp.upd.tape.trans hw.upd.tape,hp.upd.output.trans hw.upd.output,Nat.le_trans hw.upd.size hsz,fun k hk hx=>?_⟩,fun r hr=>?_,fun r hr=>?_,?_,fun k hk=>?_,fun k hk=>?_⟩
 ·
  have hk2:k<w.heap.size:=Nat.lt_of_lt_of_le hk hw.upd.size
  exact (hout k hk2 (fun hb=>hx ((hw.own k hb).2 hk))).trans (hw.upd.block k hk hx)
 ·
  rcases List.mem_append.1 hr with hr|hr
  ·exact hp.okB r (List.mem_append.2 (.inl hr))
  ·exact r.loc w w' (fun k hk=>GL k (cW.2 ⟨r,hr,hk⟩)) (hw.okB r (List.mem_append.2 (.inr hr)))
 ·
  rcases List.mem_append.1 hr with hr|hr
  ·exact hp.okF r hr
  ·
   refine r.loc w w' (fun k hk=>?_) (hw.okF r hr)
   have:=hw.nF k (cW.2 ⟨r,hr,hk⟩)
   exact hout k this.1 this.2
 ·
  have:=hp.sep
  rw [iC] at this;rw [cO];exact this
 ·
  rw [cO] at hk
  have h1:=hp.own k (by rw [iC];exact hk)
  refine ⟨h1.1,fun hlt=>?_⟩
  rcases List.mem_append.1 hk with hk|hk
  ·exact (hw.own k (hold k hk (Nat.lt_of_lt_of_le hlt hw.upd.size))).2 hlt
  ·exact (hw.own k (by rw [cO];exact List.mem_append.2 (.inr hk))).2 hlt
 ·
  rw [cO] at hk
  rcases List.mem_append.1 hk with hk|hk
  ·
   have:=hp.nF k hk
   rw [iC] at this;rw [cO];exact this
  ·
   have:=hw.nF k hk
   refine ⟨Nat.lt_of_lt_of_le this.1 hsz,fun hb=>?_⟩
   rw [cO] at hb
   rcases List.mem_append.1 hb with hb|hb
   ·exact this.2 (hold k hb this.1)
   ·exact this.2 (by rw [cO];exact List.mem_append.2 (.inr hb))
end
section
variable {P:Program} {n:Nat} {we:World} {X:List Nat} {Q:Exit→Act→World→Prop} {k k':List It} {L:Fm} {B F:List ag} {ops rest:List Oper}
variable {dst:Option Nat} {d:Nat} {ty:TypeId} {pos:String} {eV:Array Edge} {g:Option (Nat×Bool)} {v:Value}
variable {x y:Operand} {xT yT t e:TypeId} {α:Type} [Enc α] {l:List α}
theorem s.bP {β:Type}{f:FuncId}{c:Operand}{xs:Array Operand}{ts:Array TypeId}{vs:List Value}{cap:Array Value}{B0 Br F0:List ag}(is js:List Nat)(G:β→Value)(B1 F1:β→List ag)(hp:eI B is=some (B0++Br))(ha':iA is=true)(hj:eI F js=some F0)
 (eg:∀args w,(callFunc f args).run P w = .ok (.enter f args) w) (hargs:evs L xs.toList=some vs) (hc:ev L c=some (.func (.func f) #[] cap))
 (hcall:∀w own,Wd we X B F w→Wd w (blks B0++own) (B0++[ag.held w own]) F0 w→Calls P f (vs++cap.toList).toArray w fun e w' => ∃z,e = .returned (G z)∧Wd w (blks B0++own) (B1 z++[ag.held w own]) (F1 z) w') (hd:Nat.blt d n=true) :
 Stp P n we X L B F ⟨some d,.call { callee:= .value c,args:=xs,argTypes:=ts },ty,pos,eV,g⟩ (fun z=>(d,G z)::L) (fun z=>B1 z++Br) (fun z=>F1 z++F):=by
 intro K Q' a w ha hw hK
 have hw2:=hw.GD is hp ha'
 unfold Oper.wp
 rw [oh ha hargs hc eg,Oper.upon_enter]
 refine (hcall w (blks Br) hw (hw2.Db hj)).mono fun e w' he=>?_
 obtain ⟨z,rfl,ht⟩:=he
 exact hK z _ _ (ha.put d _ hd) (hw2.after ht)
theorem R.da {f:FuncId}{fn:Func}{c:Code}{vs:List Value}{w:World}{R:Ending→World→Prop}(L:Fm)(hf:P.funcs[f]? = some fn)(hb:fn.body=some c)(hn:fn.ntmps=n)
 (hle:Nat.ble vs.length n=true) (hL:Gq 0 vs=L) (h0:Wd w X B F w) (h:Run P n w X (bodyPost P fn R) [.c c] L B F):Calls P f vs.toArray w R:=by
 have hle':vs.length≤n:=Nat.le_of_ble_eq_true hle
 refine calls_of_wp hf hb ?_
 refine wp_mono (h _ w ⟨?_,rfl,fun i v hv=>?_⟩ h0) (fun e a w q=>by cases e <;> exact q)
 ·simp [hn];omega
 ·
  rw [← hL] at hv
  obtain ⟨h1,h2⟩:=wS vs 0 i v hv
  simp only [Nat.sub_zero] at h2
  have hi:i<vs.length:=(List.getElem?_eq_some_iff.1 h2).1
  show (vs.toArray++Array.replicate (fn.ntmps-vs.toArray.size) undef)[i]? = some v
  rw [Array.getElem?_append_left (by simpa using hi)]
  simpa using h2
section
variable {fn:Func} {β:Type} {B1 F1:β→List ag} {V:β→Value} {r1 r2 r3 r4:ResultVar} {v1 v2 v3 v4:Value}
theorem R.w0 (z:β)(is js:List Nat)(h:norm 200 k=[] ∨ ∃k',norm 200 k = .c .ret::k')(hr:fn.results = #[])(hp:eI B is=some (B1 z))(ha:iA is=true)(hj:eI F js=some (F1 z))(e:V z = .tuple #[]):Run P n we X (bodyPost P fn fun en w' => ∃z,en = .returned (V z)∧Wd we X (B1 z) (F1 z) w') k L B F:=by
 rcases h with h|⟨k',h⟩
 ·exact R.Iq h hr fun w hw=>⟨z,by rw [e],hw.uO is js hp hj ha⟩
 ·exact R.Ir h hr fun w hw=>⟨z,by rw [e],hw.uO is js hp hj ha⟩
theorem R.w1 (z:β)(is js:List Nat)(h:norm 200 k = .c .ret::k')(hr:fn.results = #[r1])(h1:RV P n we X L B F r1 v1)(hp:eI B is=some (B1 z))(ha:iA is=true)(hj:eI F js=some (F1 z))(e:v1=V z):Run P n we X (bodyPost P fn fun en w' => ∃z,en = .returned (V z)∧Wd we X (B1 z) (F1 z) w') k L B F :=
 R.Gz h hr h1 fun w hw=>⟨z,by rw [e],hw.uO is js hp hj ha⟩
theorem R.w2 (z:β)(is js:List Nat)(h:norm 200 k = .c .ret::k')(hr:fn.results = #[r1,r2])(h1:RV P n we X L B F r1 v1)(h2:RV P n we X L B F r2 v2)(hp:eI B is=some (B1 z))(ha:iA is=true)(hj:eI F js=some (F1 z))(e : .tuple #[v1,v2]=V z):Run P n we X (bodyPost P fn fun en w' => ∃z,en = .returned (V z)∧Wd we X (B1 z) (F1 z) w') k L B F :=
 R.En h hr h1 h2 fun w hw=>⟨z,by rw [e],hw.uO is js hp hj ha⟩
theorem R.w3 (z:β)(is js:List Nat)(h:norm 200 k = .c .ret::k')(hr:fn.results = #[r1,r2,r3])(h1:RV P n we X L B F r1 v1)(h2:RV P n we X L B F r2 v2)(h3:RV P n we X L B F r3 v3)(hp:eI B is=some (B1 z))(ha:iA is=true)(hj:eI F js=some (F1 z))(e : .tuple #[v1,v2,v3]=V z):Run P n we X (bodyPost P fn fun en w' => ∃z,en = .returned (V z)∧Wd we X (B1 z) (F1 z) w') k L B F :=
 R.Eo h hr h1 h2 h3 fun w hw=>⟨z,by rw [e],hw.uO is js hp hj ha⟩
theorem R.w4 (z:β)(is js:List Nat)(h:norm 200 k = .c .ret::k')(hr:fn.results = #[r1,r2,r3,r4])(h1:RV P n we X L B F r1 v1)(h2:RV P n we X L B F r2 v2)(h3:RV P n we X L B F r3 v3)(h4:RV P n we X L B F r4 v4)(hp:eI B is=some (B1 z))(ha:iA is=true)(hj:eI F js=some (F1 z))(e : .tuple #[v1,v2,v3,v4]=V z):Run P n we X (bodyPost P fn fun en w' => ∃z,en = .returned (V z)∧Wd we X (B1 z) (F1 z) w') k L B F :=
 R.GA h hr h1 h2 h3 h4 fun w hw=>⟨z,by rw [e],hw.uO is js hp hj ha⟩
end
theorem Wd.qY {w W:World}{r r':ag}(hw:Wd we X B F w)(i j:Nat)(hi:B[i]? = some r)(hj:B[j]? = some r')(hij:i≠j)(hu:kC (blks [r']) w W):r.ok W :=
 r.loc w W (fun k hk=>hu.block k (hw.own k (cW.2 ⟨r,List.mem_of_getElem? hi,hk⟩)).1 (fun hc=>gq hi hj hij hw.sep k hk (by simpa [blks] using hc))) (hw.b i hi)
theorem Wd.Es {w W:World}{r r':ag}(hw:Wd we X B F w)(i j:Nat)(hi:F[i]? = some r)(hj:B[j]? = some r')(hu:kC (blks [r']) w W):r.ok W :=
 r.loc w W (fun k hk=>by
  have:=hw.nF k (cW.2 ⟨r,List.mem_of_getElem? hi,hk⟩)
  exact hu.block k this.1 (fun hc=>this.2 (cW.2 ⟨r',List.mem_of_getElem? hj,by simpa [blks] using hc⟩))) (hw.f i hi)
theorem Wd.qf {w:World}{K own:List Nat}(hw:Wd we (K++own) B F w)(i:Nat)(hi:B[i]? = some (ag.held we own)):kC K we w :=
 ⟨hw.upd.os,hw.upd.tape,hw.upd.output,hw.upd.size,fun k hk hn=>by
  by_cases ho:k∈own
  ·exact hw.b i hi k ho
  ·exact hw.upd.block k hk (fun h=>(List.mem_append.1 h).elim hn ho)⟩
theorem E4 {v:Value}{l:List α}:∀k∈(ag.ls v l).blk,k∈eO v:=fun k hk=>by
 unfold ag.ls at hk
 dsimp only at hk
 split at hk
 ·cases hk
 ·exact hk
theorem Wd.bH {w:World}(hw:Wd we X B F w)(i:Nat)(B':List ag)(hB:B[i]? = some (ag.row e v l))(hB':B.eraseIdx i=B'):Wd we X B' (ag.ls v l::F) w:=by
 subst hB'
 have how:Own 0 e w v l:=hw.b i hB
 have hi:i<B.length:=(List.getElem?_eq_some_iff.1 hB).1
 have hsub:(B.eraseIdx i).Sublist B:=List.eraseIdx_sublist B i
 have hbs:(blks (B.eraseIdx i)).Sublist (blks B):=oo hsub
 have hmem:∀k∈eO v,k∈blks B:=fun k hk=>cW.2 ⟨_,List.mem_of_getElem? hB,hk⟩
 have hnot:∀k∈eO v,k∉blks (B.eraseIdx i):=fun k hk hb=>by
  obtain ⟨r,hr,hkr⟩:=cW.1 hb
  obtain ⟨j,hj⟩:=List.mem_iff_getElem?.1 hr
  rw [List.getElem?_eraseIdx] at hj
  split at hj
  ·exact gq hB hj (by omega) hw.sep k hk hkr
  ·exact gq hB hj (by omega) hw.sep k hk hkr
 refine ⟨hw.upd,fun r hr=>hw.okB r (hsub.subset hr),fun r hr=>(List.mem_cons.1 hr).elim (fun e=>e▸how.sl) (hw.okF r),hbs.nodup hw.sep,fun k hk=>hw.own k (hbs.subset hk),fun k hk=>?_⟩
 rcases List.mem_append.1 hk with hk|hk
 ·
  have hk':=E4 k hk
  exact ⟨(hw.own k (hmem k hk')).1,hnot k hk'⟩
 ·exact ⟨(hw.nF k hk).1,fun h=>(hw.nF k hk).2 (hbs.subset h)⟩
theorem Wd.aR {w:World}(hw:Wd we X B F w):Wd we X B (ag.ls (α:=α) (.slice none 0 0) []::F) w:=hw.fact (Sl.nil w) (by simp [ag.ls])
theorem R.mp {B' F':List ag}(hm:∀w,Wd we X B F w→Wd we X B' F' w)(h:Run P n we X Q k L B' F'):Run P n we X Q k L B F:=fun a w ha hw=>h a w ha (hm w hw)
theorem Rg.mp {B' F':List ag}(hm:∀w,Wd we X B F w→Wd we X B' F' w)(h:Rg P n we X Q ops rest k L B' F'):Rg P n we X Q ops rest k L B F:=fun a w ha hw=>h a w ha (hm w hw)
theorem R.Au (hs:Sl we v l)(h:Run P n we [] Q k L B (ag.ls v l::F)):Run P n we [] Q k L B F:=R.qd (r:=ag.ls v l) hs (Er hs) h
theorem q.qZ {m:Int}{i kk q:Nat}{kd:IntKind}(hs:∀w,Wd we X B F w→Sl w v l)(hx:ev L x=some (YtbkfhjaibhnkmaaGreatDoor.jj v q))(hy:ev L y=some (.int kd m))(ht:oV P xT=some (e,kk))(hm:m=(i:Int))(hi:i≤q)(hq:q≤jk v) :
 Qt P n we X L B F (.slice xT x (some y) none none) ty (YtbkfhjaibhnkmaaGreatDoor.eh (YtbkfhjaibhnkmaaGreatDoor.jj v q) i kk):=fun _ _ _ _ a w ha hw=>by
 obtain ⟨A,c,rfl,h1,h2,h3⟩:=hs w hw
 obtain ⟨hu,hz⟩:=e7 (P:=P) w ht
 subst hm
 simp only [jk] at hq
 have hx':ev L x=some (.slice A q c):=hx
 simp only [execOp,ha.ev hx',Option.map_some,Option.map_none,ha.ev hy,Instr.sliceAt,Sem.run_bind,run_underlying hu,Result.andThen_ok,Instr.slice,Instr.sliceBounds,Instr.sliceBound,asIntOf,Sem.run_pure]
 rw [if_pos ⟨by omega,by omega⟩]
 simp [hz,YtbkfhjaibhnkmaaGreatDoor.eh,YtbkfhjaibhnkmaaGreatDoor.jj]
theorem s.yj {lo hi:Nat}{z0:α}{z:Value}(i:Nat)(hB:B[i]? = some (ag.row e v l))(hx:ev L x=some (sl2 v lo hi (Enc.k α)))(ht:oV P t=some (e,Enc.k α))(hz:gJ P e=some z)(hzs:z.cells=(Enc.cells z0).toArray)(hlo:l.length≤lo)(hh:lo≤hi)(hhi:hi≤jk v) :
 Stp P n we X L B F ⟨none,.call { callee:= .builtin .clear,args:= #[x],argTypes:= #[t] },ty,pos,eV,g⟩ (fun _:Unit=>L) (fun _=>B) (fun _=>F) :=
 s.IA (kk:=0) i hB hx ht (by rw [hz];rfl) (fun z' h=>by
  rw [hz] at h;injection h with h;subst h
  rw [hzs];exact ⟨by simpa using Enc.len z0,fun u hu=>Enc.one z0 u (by simpa using hu)⟩) hlo hh hhi
theorem s.Av {o o' m:Nat}{A:TypeId}(i:Nat)(B':List ag)(hB:B[i]? = some (ag.row e v l))(ho:o<l.length)(hm:m=l.length+1)(ho':o'=o+1)(hroom:l.length+1≤jk v)(hx:ev L x=some (eh (jj v m) o' (Enc.k α)))(hy:ev L y=some (eh (jj v m) o (Enc.k α)))(ht:oV P t=some (e,Enc.k α))(hB':B.set i (ag.row e (jj v m) (l.take (o+1)++l.drop o))=B')(hd:Nat.blt d n=true) :
 Stp P n we X L B F ⟨some d,.call { callee:= .builtin .copy,args:= #[x,y],argTypes:= #[t,A] },ty,pos,eV,g⟩ (fun _:Unit=>(d,.int .i64 ((l.length-o:Nat):Int))::L) (fun _=>B') (fun _=>F):=by
 subst hm;subst ho'
 exact s.GI i B' hB ho hroom hx hy ht hB' hd
theorem je (v:Value)(i:Nat):jk (jj v i)=jk v:=by
 cases v <;> rfl
theorem Own.cap {base:Nat}{w:World}{v:Value}{l:List α}(h:Own base e w v l):l.length≤jk v:=by
 obtain ⟨A,c,rfl,h1,_⟩:=h.sl
 exact h1
theorem Wd.cap {w:World}(hw:Wd we X B F w)(i:Nat)(hB:B[i]? = some (ag.row e v l)):l.length≤jk v:=Own.cap (hw.b i hB)
theorem Wd.q8 {w:World}(hw:Wd we X B F w)(i:Nat)(hB:B[i]? = some (ag.row e v l)):l.length≤9223372036854775807:=Sl.ec (Own.sl (hw.b i hB))
theorem Wd.ct {w:World}(hw:Wd we X B F w)(i:Nat)(hF:F[i]? = some (ag.ls v l)):l.length≤9223372036854775807:=Sl.ec (hw.bq i hF)
theorem Sl.one {w:World}{v:Value}{l:List α}(h:Sl w v l):v.oneCell'=true:=by
 obtain ⟨A,c,rfl,_⟩:=h;rfl
theorem Sl.cm {w:World}{v:Value}{l:List α}(h:Sl w v l):v.cells=[v].toArray:=by
 obtain ⟨A,c,rfl,_⟩:=h;rfl
theorem aL:∀u∈([]:List Value),u.oneCell'=true:=fun u hu=>by cases hu
theorem ah {u:Value}{us:List Value}(h:u.oneCell'=true)(hs:∀q∈us,q.oneCell'=true):∀q∈u::us,q.oneCell'=true:=fun q hq=>(List.mem_cons.1 hq).elim (fun e=>e▸h) (hs q)
theorem s.dy {b o:Nat}{cs us cs':List Value}{t:TypeId}{u:Value}(i:Nat)(B':List ag)(hB:B[i]? = some (ag.box b cs t))(hx:ev L x=some (.pointer (some ⟨b,o,none⟩)))(hy:ev L y=some u)(hu:∀w,Wd we X B F w→u.cells=us.toArray)
 (ht:(lf P xT=some us.length∨lg P xT=true∧us.length=1)) (hone:∀w,Wd we X B F w → ∀q∈us,q.oneCell'=true) (hcs:cs.take o++us++cs.drop (o+us.length)=cs') (hl:Nat.ble (o+us.length) cs.length=true) (hB':B.set i (ag.box b cs' t)=B') :
 Stp P n we X L B F ⟨none,.store xT x y,ty,pos,eV,g⟩ (fun _:Unit=>L) (fun _=>B') (fun _=>F):=by
 intro K Q' a w ha hw hK
 exact s.st i B' hB hx hy (hu w hw) ht (List.all_eq_true.2 (hone w hw)) hcs hl hB' K Q' a w ha hw hK
theorem s.stP {j o:Nat}{z z':α}{u:Value}{us:List Value}(i:Nat)(B':List ag)(hB:B[i]? = some (ag.row e v l))(hj:l[j]? = some z')(hx:ev L x=some (ep v j (Enc.k α) o))(hy:ev L y=some u)(hu:u.cells=us.toArray)(GF:Enc.cells z=(Enc.cells z').take o++us++(Enc.cells z').drop (o+us.length))(hol:Nat.ble (o+us.length) (Enc.k α)=true)(h1:∀q∈us,q.oneCell'=true)
 (ht:(lf P xT=some us.length∨lg P xT=true∧us.length=1)) (hB':B.set i (ag.row e v (l.set j z))=B') :
 Stp P n we X L B F ⟨none,.store xT x y,ty,pos,eV,g⟩ (fun _:Unit=>L) (fun _=>B') (fun _=>F):=by
 intro K Q' a w ha hw hK
 have hjl:j<l.length:=(List.getElem?_eq_some_iff.1 hj).1
 have how:Own 0 e w v l:=hw.b i hB
 obtain ⟨gb,cap,cur,rfl,_,hgg,hnc,hcm,hcs,htk⟩:=how.parts (by omega)
 have JG:o+us.length≤Enc.k α:=Nat.le_of_ble_eq_true hol
 have hjk:j*Enc.k α+Enc.k α≤l.length*Enc.k α:=by
  have:(j+1)*Enc.k α≤l.length*Enc.k α:=Nat.mul_le_mul_right _ hjl
  rw [Nat.add_mul] at this;omega
 have hlc:l.length*Enc.k α≤cap*Enc.k α:=Nat.mul_le_mul_right _ hnc
 have hsz:(sizeOf xT).run P w = .ok us.length w:=by
  rcases ht with h|⟨h,h'⟩
  ·exact (qo (P:=P) w h).2
  ·rw [h'];exact (qp (P:=P) w h).2
 have hst:=run_storeCells_at P gb (j*Enc.k α+o) e us 0 cur w hgg (by omega) h1
 have hrun:(execOp a.eval ⟨none,.store xT x y,ty,pos,eV,g⟩).run P w = .ok .skip (w.setRow gb (cur.toList.take (j*Enc.k α+o)++us++cur.toList.drop (j*Enc.k α+o+us.length)).toArray):=by
  simp only [execOp,ha.ev hx,ha.ev hy,ep,Instr.storeAt,Instr.sureAddr,storeVar,hu,Sem.run_bind,Sem.run_pure,Result.andThen_ok,hsz]
  simp only [List.size_toArray,ne_eq,not_true_eq_false,if_false,Nat.add_zero,Nat.zero_add] at hst ⊢
  simp only [hst,Result.andThen_ok]
 unfold Oper.wp
 rw [hrun,Oper.upon_skip]
 have hz:(l.flatMap Enc.cells).drop (j*Enc.k α)=Enc.cells z'++(l.flatMap Enc.cells).drop (j*Enc.k α+Enc.k α):=by
  have e1:l.drop j=z'::l.drop (j+1):=by
   rw [List.drop_eq_getElem_cons hjl];congr 1;exact (List.getElem?_eq_some_iff.1 hj).2
  rw [← kG,e1,List.flatMap_cons,kG,Nat.add_mul,Nat.one_mul]
 have hzl:=Enc.len z'
 have hll:(l.set j z).length=l.length:=List.length_set
 have h3:(cur.toList.take (j*Enc.k α+o)).length=j*Enc.k α+o:=by rw [List.length_take];simp;omega
 have:=hw.oX (l':=l.set j z) (cs':=cur.toList.take (j*Enc.k α+o)++us++cur.toList.drop (j*Enc.k α+o+us.length)) hB hgg hcm hcs (by simp only [List.length_append,h3,List.length_drop];simp;omega) (by
  have hfl:=dO l
  rw [hll,qX l j z hjl,qW _ _ _ _ (by omega) (by simp;omega),htk,GF]
  have a1:(l.flatMap Enc.cells).take (j*Enc.k α+o)=(l.flatMap Enc.cells).take (j*Enc.k α)++(Enc.cells z').take o:=by
   rw [List.take_add,hz,List.take_append_of_le_length (by omega)]
  have a2:(l.flatMap Enc.cells).drop (j*Enc.k α+o+us.length)=(Enc.cells z').drop (o+us.length)++(l.flatMap Enc.cells).drop (j*Enc.k α+Enc.k α):=by
   rw [Nat.add_assoc,← List.drop_drop,hz,List.drop_append_of_le_length (by omega)]
  rw [a1,a2];simp only [List.append_assoc]) (by omega)
 rw [hll] at this
 exact hK () _ _ (by simpa [Act.put] using ha) (hB'▸this)
end
section
variable {P:Program} {n:Nat} {we:World} {X:List Nat} {L:Fm} {B F B2 F2:List ag}
theorem s.pre {β:Type}{o:Oper}{L':β→Fm}{B' F':β→List ag}(hm:∀w,Wd we X B F w→Wd we X B2 F2 w)(h:Stp P n we X L B2 F2 o L' B' F'):Stp P n we X L B F o L' B' F' :=
 fun K Q' a w ha hw hK=>h K Q' a w ha (hm w hw) hK
theorem Wd.row0 {α:Type}[Enc α]{w:World}(hw:Wd we X B F w)(e:TypeId):Wd we X (ag.row e (.slice none 0 0) ([]:List α)::B) F w :=
 hw.new (r:=ag.row e (.slice none 0 0) ([]:List α)) (Own.nil 0 e w) (by simp [ag.row,eO]) (by simp [ag.row,eO])
end
end Go.Proofs.YtbkfhjaibhnkmaaGreatDoor
