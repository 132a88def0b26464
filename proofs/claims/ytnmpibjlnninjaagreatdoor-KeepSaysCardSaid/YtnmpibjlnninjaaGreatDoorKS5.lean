import Derived.Test.YtnmpibjlnninjaaGreatDoorKS4
namespace Go.Proofs.YtnmpibjlnninjaaGreatDoor
set_option linter.unusedVariables false
set_option linter.unusedSimpArgs false
set_option maxRecDepth 100000
set_option maxHeartbeats 90000000
section
open Go Go.RowKit
def aj.held (w0:World)(own:List Nat):aj:=⟨own,fun w => ∀k∈own,w.heap[k]? = w0.heap[k]?,fun w w' h ho k hk=>(h k hk).trans (ho k hk)⟩
theorem gx (B:List aj)(w:World)(own:List Nat):blks (B++[aj.held w own])=blks B++own:=by
 grind [blks,aj.held,bG]
theorem Hj {F F0:List aj}{js:List Nat}(h:dJ F js=some F0):∀k∈blks F0,k∈blks F:=fun k hk=>by
 grind [bX,oM]
section
variable {we w w':World} {X:List Nat} {B0 Br B1 F F0 F1:List aj}
theorem Wd.CR (hw:Wd we X (B0++Br) F w){js:List Nat}(hj:dJ F js=some F0):Wd w (blks B0++blks Br) (B0++[aj.held w (blks Br)]) F0 w:=by
 have hs:=hw.sep
 rw [bG] at hs
 refine ⟨mH.refl _ _,fun r hr=>?_,fun r hr=>hw.okF r (oM hj r hr),by grind [gx],fun k hk=>?_,fun k hk=>?_⟩
 .
  rcases List.mem_append.1 hr with hr|hr
  .exact hw.okB r (List.mem_append.2 (.inl hr))
  simp at hr;subst hr;exact fun k _=>rfl
 .
  rw [gx] at hk
  exact ⟨(hw.own k (by grind [bG])).1,fun _=>hk⟩
 rw [gx,<- bG]
 exact hw.mR k (Hj hj k hk)
theorem Wd.after (hw:Wd we X (B0++Br) F w)(hp:Wd w (blks B0++blks Br) (B1++[aj.held w (blks Br)]) F1 w'):Wd we X (B1++Br) (F1++F) w':=by
 have hout:∀k,k<w.heap.size->k∉blks (B0++Br)->w'.heap[k]? = w.heap[k]?:=fun k hk hn=>hp.upd.block k hk (by grind [bG])
 have Wi:∀k∈blks Br,w'.heap[k]? = w.heap[k]?:=hp.okB (aj.held w (blks Br)) (List.mem_append.2 (.inr (List.mem_singleton.2 rfl)))
 have hsz:=hp.upd.size
 have hold:∀k∈blks B1,k<w.heap.size->k∈blks (B0++Br):=fun k hk hlt=>by
  rw [bG];exact (hp.own k (by grind [gx])).2 hlt
 refine ⟨⟨hp.upd.os.trans hw.upd.os,hp.upd.tape.trans hw.upd.tape,hp.upd.output.trans hw.upd.output,Nat.le_trans hw.upd.size hsz,fun k hk hx=>?_⟩,fun r hr=>?_,fun r hr=>?_,?_,fun k hk=>?_,fun k hk=>?_⟩
 .
  have hk2:k<w.heap.size:=Nat.lt_of_lt_of_le hk hw.upd.size
  exact (hout k hk2 (fun hb=>hx ((hw.own k hb).2 hk))).trans (hw.upd.block k hk hx)
 .
  rcases List.mem_append.1 hr with hr|hr
  .exact hp.okB r (List.mem_append.2 (.inl hr))
  exact r.loc w w' (fun k hk=>Wi k (bX.2 ⟨r,hr,hk⟩)) (hw.okB r (List.mem_append.2 (.inr hr)))
 .
  rcases List.mem_append.1 hr with hr|hr
  .exact hp.okF r hr
  refine r.loc w w' (fun k hk=>?_) (hw.okF r hr)
  have:=hw.mR k (bX.2 ⟨r,hr,hk⟩)
  grind
 .
  have:=hp.sep
  grind [gx,bG]
 .
  rw [bG] at hk
  have h1:=hp.own k (by grind [gx])
  refine ⟨h1.1,fun hlt=>?_⟩
  rcases List.mem_append.1 hk with hk|hk
  .exact (hw.own k (hold k hk (Nat.lt_of_lt_of_le hlt hw.upd.size))).2 hlt
  exact (hw.own k (by grind [bG])).2 hlt
 rw [bG] at hk
 rcases List.mem_append.1 hk with hk|hk
 .
  have:=hp.mR k hk
  grind [gx,bG]
 have:=hw.mR k hk
 grind [Nat.lt_of_lt_of_le,bG]
end
abbrev HN (w:World)(own:List Nat)(B F:List aj):Prop:=Wd w (blks B++own) (B++[aj.held w own]) F w
abbrev RC {β:Type}{w:World}{own:List Nat}{B0 F0:List aj}(P:Program)(f:FuncId)(ar:Array Value)(_:HN w own B0 F0)(G:β->Value)(B1 F1:β->List aj):Prop:=Calls P f ar w fun e w' => ∃z,e = .returned (G z)/\Wd w (blks B0++own) (B1 z++[aj.held w own]) (F1 z) w'
section
variable {P:Program} {n:Nat} {we:World} {X:List Nat} {Q:Exit->Act->World->Prop} {k k':List It} {L:Fm} {B F:List aj} {ops rest:List Oper}
variable {dst:Option Nat} {d:Nat} {ty:TypeId} {pos:String} {eC:Array Edge} {g:Option (Nat×Bool)} {v:Value}
variable {x y:Operand} {xT yT t e:TypeId} {α:Type} [Enc α] {l:List α}
theorem s.aT {β:Type}{f:FuncId}{c:Operand}{xs:Array Operand}{ts:Array TypeId}{vs:List Value}{cap:Array Value}{B0 Br F0:List aj}(is js:List Nat)(G:β->Value)(B1 F1:β->List aj)(hp:dJ B is=some (B0++Br))(ha':hG is=true)(hj:dJ F js=some F0)
 (eg:∀args w,(callFunc f args).run P w = .ok (.enter f args) w) (hargs:evs L xs.toList=some vs) (hc:ev L c=some (.func (.func f) #[] cap))
 (hcall:∀w own,Wd we X B F w->Wd w (blks B0++own) (B0++[aj.held w own]) F0 w->Calls P f (vs++cap.toList).toArray w fun e w' => ∃z,e = .returned (G z)/\Wd w (blks B0++own) (B1 z++[aj.held w own]) (F1 z) w') (hd:Nat.blt d n=true) :
 Stp P n we X L B F ⟨some d,.call { callee:= .value c,args:=xs,argTypes:=ts },ty,pos,eC,g⟩ (fun z=>(d,G z)::L) (fun z=>B1 z++Br) (fun z=>F1 z++F):=by
 intro K Q' a w ha hw hK
 have hw2:=hw.PY is hp ha'
 unfold Oper.wp
 rw [qC ha hargs hc eg,Oper.upon_enter]
 refine (hcall w (blks Br) hw (hw2.CR hj)).mono fun e w' he=>?_
 obtain ⟨z,rfl,ht⟩:=he
 exact hK z _ _ (ha.put d _ hd) (hw2.after ht)
theorem R.bE {f:FuncId}{fn:Func}{c:Code}{vs:List Value}{w:World}{R:Ending->World->Prop}(L:Fm)(hf:P.funcs[f]? = some fn)(hb:fn.body=some c)(hn:fn.ntmps=n)
 (hle:Nat.ble vs.length n=true) (hL:Tc 0 vs=L) (h0:Wd w X B F w) (h:Run P n w X (bodyPost P fn R) [.c c] L B F):Calls P f vs.toArray w R:=by
 have hle':vs.length<=n:=Nat.le_of_ble_eq_true hle
 refine calls_of_wp hf hb<|wp_mono (h _ w ⟨?_,rfl,fun i v hv=>?_⟩ h0) (fun e a w q=>by cases e <;> exact q)
 .simp [hn];omega
 rw [<- hL] at hv
 obtain ⟨h1,h2⟩:=ym vs 0 i v hv
 simp only [Nat.sub_zero] at h2
 have hi:i<vs.length:=(List.getElem?_eq_some_iff.1 h2).1
 show (vs.toArray++Array.replicate (fn.ntmps-vs.toArray.size) undef)[i]? = some v
 rw [Array.getElem?_append_left (by simpa using hi)]
 simpa using h2
section
variable {fn:Func} {β:Type} {B1 F1:β->List aj} {V:β->Value} {r1 r2 r3 r4:ResultVar} {v1 v2 v3 v4:Value}
theorem R.w0 (z:β)(is js:List Nat)(h:norm 200 k=[] ∨ ∃k',norm 200 k = .c .ret::k')(hr:fn.results = #[])(hp:dJ B is=some (B1 z))(ha:hG is=true)(hj:dJ F js=some (F1 z))(e:V z = .tuple #[]):Run P n we X (bodyPost P fn fun en w' => ∃z,en = .returned (V z)/\Wd we X (B1 z) (F1 z) w') k L B F:=by
 rcases h with h|⟨k',h⟩
 .exact R.YF h hr fun w hw=>⟨z,by rw [e],hw.Mn is js hp hj ha⟩
 exact R.YG h hr fun w hw=>⟨z,by rw [e],hw.Mn is js hp hj ha⟩
theorem R.w1 (z:β)(is js:List Nat)(h:norm 200 k = .c .ret::k')(hr:fn.results = #[r1])(h1:RV P n we X L B F r1 v1)(hp:dJ B is=some (B1 z))(ha:hG is=true)(hj:dJ F js=some (F1 z))(e:v1=V z):Run P n we X (bodyPost P fn fun en w' => ∃z,en = .returned (V z)/\Wd we X (B1 z) (F1 z) w') k L B F :=
 R.V7 h hr h1 fun w hw=>⟨z,by rw [e],hw.Mn is js hp hj ha⟩
theorem R.w2 (z:β)(is js:List Nat)(h:norm 200 k = .c .ret::k')(hr:fn.results = #[r1,r2])(h1:RV P n we X L B F r1 v1)(h2:RV P n we X L B F r2 v2)(hp:dJ B is=some (B1 z))(ha:hG is=true)(hj:dJ F js=some (F1 z))(e : .tuple #[v1,v2]=V z):Run P n we X (bodyPost P fn fun en w' => ∃z,en = .returned (V z)/\Wd we X (B1 z) (F1 z) w') k L B F :=
 R.RR h hr h1 h2 fun w hw=>⟨z,by rw [e],hw.Mn is js hp hj ha⟩
theorem R.w3 (z:β)(is js:List Nat)(h:norm 200 k = .c .ret::k')(hr:fn.results = #[r1,r2,r3])(h1:RV P n we X L B F r1 v1)(h2:RV P n we X L B F r2 v2)(h3:RV P n we X L B F r3 v3)(hp:dJ B is=some (B1 z))(ha:hG is=true)(hj:dJ F js=some (F1 z))(e : .tuple #[v1,v2,v3]=V z):Run P n we X (bodyPost P fn fun en w' => ∃z,en = .returned (V z)/\Wd we X (B1 z) (F1 z) w') k L B F :=
 R.RS h hr h1 h2 h3 fun w hw=>⟨z,by rw [e],hw.Mn is js hp hj ha⟩
theorem R.w4 (z:β)(is js:List Nat)(h:norm 200 k = .c .ret::k')(hr:fn.results = #[r1,r2,r3,r4])(h1:RV P n we X L B F r1 v1)(h2:RV P n we X L B F r2 v2)(h3:RV P n we X L B F r3 v3)(h4:RV P n we X L B F r4 v4)(hp:dJ B is=some (B1 z))(ha:hG is=true)(hj:dJ F js=some (F1 z))(e : .tuple #[v1,v2,v3,v4]=V z):Run P n we X (bodyPost P fn fun en w' => ∃z,en = .returned (V z)/\Wd we X (B1 z) (F1 z) w') k L B F :=
 R.V8 h hr h1 h2 h3 h4 fun w hw=>⟨z,by rw [e],hw.Mn is js hp hj ha⟩
end
theorem Wd.yv {w W:World}{r r':aj}(hw:Wd we X B F w)(i j:Nat)(hi:B[i]? = some r)(hj:B[j]? = some r')(hij:i≠j)(hu:mH (blks [r']) w W):r.ok W :=
 r.loc w W (fun k hk=>hu.block k (hw.own k (bX.2 ⟨r,List.mem_of_getElem? hi,hk⟩)).1 (fun hc=>jg hi hj hij hw.sep k hk (by grind [blks]))) (hw.b i hi)
theorem Wd.RY {w W:World}{r r':aj}(hw:Wd we X B F w)(i j:Nat)(hi:F[i]? = some r)(hj:B[j]? = some r')(hu:mH (blks [r']) w W):r.ok W :=
 r.loc w W (fun k hk=>by
  have:=hw.mR k (bX.2 ⟨r,List.mem_of_getElem? hi,hk⟩)
  exact hu.block k this.1 (fun hc=>this.2 (bX.2 ⟨r',List.mem_of_getElem? hj,by grind [blks]⟩))) (hw.f i hi)
theorem Wd.xt {w:World}{K own:List Nat}(hw:Wd we (K++own) B F w)(i:Nat)(hi:B[i]? = some (aj.held we own)):mH K we w :=
 ⟨hw.upd.os,hw.upd.tape,hw.upd.output,hw.upd.size,fun k hk hn=>by
  by_cases ho:k∈own
  .exact hw.b i hi k ho
  exact hw.upd.block k hk (fun h=>(List.mem_append.1 h).elim hn ho)⟩
theorem Ms {v:Value}{l:List α}:∀k∈(aj.ls v l).blk,k∈fk v:=fun k hk=>by
 grind [aj.ls]
theorem Wd.bu {w:World}(hw:Wd we X B F w)(i:Nat)(B':List aj)(hB:B[i]? = some (aj.row e v l))(hB':B.eraseIdx i=B'):Wd we X B' (aj.ls v l::F) w:=by
 subst hB'
 have how:Own 0 e w v l:=hw.b i hB
 have hi:i<B.length:=(List.getElem?_eq_some_iff.1 hB).1
 have hsub:(B.eraseIdx i).Sublist B:=List.eraseIdx_sublist B i
 have hbs:(blks (B.eraseIdx i)).Sublist (blks B):=uf hsub
 have hmem:∀k∈fk v,k∈blks B:=fun k hk=>bX.2 ⟨_,List.mem_of_getElem? hB,hk⟩
 have hnot:∀k∈fk v,k∉blks (B.eraseIdx i):=fun k hk hb=>by
  obtain ⟨r,hr,hkr⟩:=bX.1 hb
  obtain ⟨j,hj⟩:=List.mem_iff_getElem?.1 hr
  rw [List.getElem?_eraseIdx] at hj
  split at hj
  .exact jg hB hj ae hw.sep k hk hkr
  exact jg hB hj ae hw.sep k hk hkr
 refine ⟨hw.upd,fun r hr=>hw.okB r (hsub.subset hr),fun r hr=>(List.mem_cons.1 hr).elim (fun e=>e▸how.sl) (hw.okF r),hbs.nodup hw.sep,fun k hk=>hw.own k (hbs.subset hk),fun k hk=>?_⟩
 rcases List.mem_append.1 hk with hk|hk
 .
  have hk':=Ms k hk
  exact ⟨(hw.own k (hmem k hk')).1,hnot k hk'⟩
 exact ⟨(hw.mR k hk).1,fun h=>(hw.mR k hk).2 (hbs.subset h)⟩
theorem Wd.Wj {w:World}(hw:Wd we X B F w)(j:Nat)(r r':aj)(hF:F[j]? = some r)(hs:∀k∈r'.blk,k∈r.blk)(hr:r'.ok w):Wd we X B (r'::F) w :=
 hw.fact hr fun k hk=>hw.mR k (bX.2 ⟨r,List.mem_of_getElem? hF,hs k hk⟩)
theorem Wd.Hl {w:World}(hw:Wd we X B F w):Wd we X B (aj.ls (α:=α) (.slice none 0 0) []::F) w:=hw.fact (Sl.nil w) (by simp [aj.ls])
theorem R.mp {B' F':List aj}(hm:∀w,Wd we X B F w->Wd we X B' F' w)(h:Run P n we X Q k L B' F'):Run P n we X Q k L B F:=fun a w ha hw=>h a w ha (hm w hw)
theorem R.qH (hs:Sl we v l)(h:Run P n we [] Q k L B (aj.ls v l::F)):Run P n we [] Q k L B F:=R.oN (r:=aj.ls v l) hs (RX hs) h
theorem q.oD {m:Int}{i kk q:Nat}{kd:IntKind}(hs:∀w,Wd we X B F w->Sl w v l)(hx:ev L x=some (YtnmpibjlnninjaaGreatDoor.ku v q))(hy:ev L y=some (.int kd m))(ht:qv P xT=some (e,kk))(hm:m=(i:Int))(hi:i<=q)(hq:q<=mT v) :
 Qt P n we X L B F (.slice xT x (some y) none none) ty (YtnmpibjlnninjaaGreatDoor.dL (YtnmpibjlnninjaaGreatDoor.ku v q) i kk):=fun _ _ _ _ a w ha hw=>by
 obtain ⟨A,c,rfl,h1,h2,h3⟩:=hs w hw
 obtain ⟨hu,hz⟩:=fA (P:=P) w ht
 subst hm
 simp only [mT] at hq
 have hx':ev L x=some (.slice A q c):=hx
 simp only [execOp,ha.ev hx',Option.map_some,Option.map_none,ha.ev hy,Instr.sliceAt,Sem.run_bind,run_underlying hu,Result.andThen_ok,Instr.slice,Instr.sliceBounds,Instr.sliceBound,asIntOf,Sem.run_pure]
 rw [if_pos ⟨ae,ae⟩]
 simp [hz,YtnmpibjlnninjaaGreatDoor.dL,YtnmpibjlnninjaaGreatDoor.ku]
theorem s.BG {lo hi:Nat}{z0:α}{z:Value}(i:Nat)(hB:B[i]? = some (aj.row e v l))(hx:ev L x=some (sl2 v lo hi (Enc.k α)))(ht:qv P t=some (e,Enc.k α))(hz:gA P e=some z)(hzs:z.cells=(Enc.cells z0).toArray)(hlo:l.length<=lo)(hh:lo<=hi)(hhi:hi<=mT v) :
 Stp P n we X L B F ⟨none,.call { callee:= .builtin .clear,args:= #[x],argTypes:= #[t] },ty,pos,eC,g⟩ (fun _:Unit=>L) (fun _=>B) (fun _=>F) :=
 s.YL (kk:=0) i hB hx ht aB (fun z' h=>by
  grind [Enc.len,Enc.one]) hlo hh hhi
theorem s.CS {o o' m:Nat}{A:TypeId}(i:Nat)(B':List aj)(hB:B[i]? = some (aj.row e v l))(ho:o<l.length)(hm:m=l.length+1)(ho':o'=o+1)(hroom:l.length+1<=mT v)(hx:ev L x=some (dL (ku v m) o' (Enc.k α)))(hy:ev L y=some (dL (ku v m) o (Enc.k α)))(ht:qv P t=some (e,Enc.k α))(hB':B.set i (aj.row e (ku v m) (l.take (o+1)++l.drop o))=B')(hd:Nat.blt d n=true) :
 Stp P n we X L B F ⟨some d,.call { callee:= .builtin .copy,args:= #[x,y],argTypes:= #[t,A] },ty,pos,eC,g⟩ (fun _:Unit=>(d,.int .i64 ((l.length-o:Nat):Int))::L) (fun _=>B') (fun _=>F):=by
 subst hm;subst ho'
 exact s.Wc i B' hB ho hroom hx hy ht hB' hd
theorem iC (v:Value)(i:Nat):mT (ku v i)=mT v:=by
 cases v <;> rfl
theorem Own.cap {base:Nat}{w:World}{v:Value}{l:List α}(h:Own base e w v l):l.length<=mT v:=by
 obtain ⟨A,c,rfl,h1,_⟩:=h.sl
 exact h1
theorem Wd.cap {w:World}(hw:Wd we X B F w)(i:Nat)(hB:B[i]? = some (aj.row e v l)):l.length<=mT v:=Own.cap (hw.b i hB)
theorem Wd.dr {w:World}(hw:Wd we X B F w)(i:Nat)(hB:B[i]? = some (aj.row e v l)):l.length<=9223372036854775807:=Sl.eV (Own.sl (hw.b i hB))
theorem Wd.bD {w:World}(hw:Wd we X B F w)(i:Nat)(hF:F[i]? = some (aj.ls v l)):l.length<=9223372036854775807:=Sl.eV (hw.bz i hF)
theorem Sl.one {w:World}{v:Value}{l:List α}(h:Sl w v l):v.oneCell'=true:=by
 obtain ⟨A,c,rfl,_⟩:=h;rfl
theorem Sl.bF {w:World}{v:Value}{l:List α}(h:Sl w v l):v.cells=[v].toArray:=by
 obtain ⟨A,c,rfl,_⟩:=h;rfl
theorem s.Wk {t:TypeId}{cs:List Value}(hx:ev L x=some v)(hv:∀w,Wd we X B F w->v.cells=cs.toArray)(hd:Nat.blt d n=true) :
 Stp P n we X L B F ⟨some d,.box t x,ty,pos,eC,g⟩ (fun b:Nat=>(d,.pointer (some ⟨b,0,none⟩))::L) (fun b=>aj.box b cs t::B) (fun _=>F):=by
 intro K Q' a w ha hw hK
 exact s.box hx (hv w hw) hd K Q' a w ha hw hK
theorem bq:∀u∈([]:List Value),u.oneCell'=true:=fun u hu=>by grind
theorem aJ {u:Value}{us:List Value}(h:u.oneCell'=true)(hs:∀q∈us,q.oneCell'=true):∀q∈u::us,q.oneCell'=true:=fun q hq=>(List.mem_cons.1 hq).elim (fun e=>e▸h) (hs q)
theorem dx {α β γ δ:Type}[Enc α][Enc β][Enc γ][Enc δ]{w:World}{a b c d x y:Value}{la:List α}{lb:List β}{lc:List γ}{ld:List δ}(h1:Sl w a la)(h2:Sl w b lb)(h3:Sl w c lc)(h4:Sl w d ld)(hx:x.oneCell'=true)(hy:y.oneCell'=true):∀q∈[a,b,c,d,x,y],q.oneCell'=true :=
 aJ (Sl.one h1) (aJ (Sl.one h2) (aJ (Sl.one h3) (aJ (Sl.one h4) (aJ hx (aJ hy bq)))))
theorem R.iY (α β γ δ:Type)[Enc α][Enc β][Enc γ][Enc δ](h:Run P n we X Q k L B (aj.ls (α:=δ) (.slice none 0 0) []::aj.ls (α:=γ) (.slice none 0 0) []::aj.ls (α:=β) (.slice none 0 0) []::aj.ls (α:=α) (.slice none 0 0) []::F)):Run P n we X Q k L B F :=
 R.mp (fun _ hw=>hw.Hl (α:=α)) (R.mp (fun _ hw=>hw.Hl (α:=β)) (R.mp (fun _ hw=>hw.Hl (α:=γ)) (R.mp (fun _ hw=>hw.Hl (α:=δ)) h)))
theorem s.dE {b o:Nat}{cs us cs':List Value}{t:TypeId}{u:Value}(i:Nat)(B':List aj)(hB:B[i]? = some (aj.box b cs t))(hx:ev L x=some (.pointer (some ⟨b,o,none⟩)))(hy:ev L y=some u)(hu:∀w,Wd we X B F w->u.cells=us.toArray)
 (ht:(ko P xT=some us.length∨gD P xT=true/\us.length=1)) (hone:∀w,Wd we X B F w -> ∀q∈us,q.oneCell'=true) (hcs:cs.take o++us++cs.drop (o+us.length)=cs') (hl:Nat.ble (o+us.length) cs.length=true) (hB':B.set i (aj.box b cs' t)=B') :
 Stp P n we X L B F ⟨none,.store xT x y,ty,pos,eC,g⟩ (fun _:Unit=>L) (fun _=>B') (fun _=>F):=by
 intro K Q' a w ha hw hK
 exact s.st i B' hB hx hy (hu w hw) ht (List.all_eq_true.2 (hone w hw)) hcs hl hB' K Q' a w ha hw hK
theorem s.stP {j o:Nat}{z z':α}{u:Value}{us:List Value}(i:Nat)(B':List aj)(hB:B[i]? = some (aj.row e v l))(hj:l[j]? = some z')(hx:ev L x=some (ep v j (Enc.k α) o))(hy:ev L y=some u)(hu:u.cells=us.toArray)(Yo:Enc.cells z=(Enc.cells z').take o++us++(Enc.cells z').drop (o+us.length))(hol:Nat.ble (o+us.length) (Enc.k α)=true)(h1:∀q∈us,q.oneCell'=true)
 (ht:(ko P xT=some us.length∨gD P xT=true/\us.length=1)) (hB':B.set i (aj.row e v (l.set j z))=B') :
 Stp P n we X L B F ⟨none,.store xT x y,ty,pos,eC,g⟩ (fun _:Unit=>L) (fun _=>B') (fun _=>F):=by
 intro K Q' a w ha hw hK
 have hjl:j<l.length:=(List.getElem?_eq_some_iff.1 hj).1
 have how:Own 0 e w v l:=hw.b i hB
 obtain ⟨gb,cap,cur,rfl,_,hgg,hnc,hcm,hcs,htk⟩:=how.parts ae
 have aag:o+us.length<=Enc.k α:=Nat.le_of_ble_eq_true hol
 have hjk:j*Enc.k α+Enc.k α<=l.length*Enc.k α:=by
  have:(j+1)*Enc.k α<=l.length*Enc.k α:=Nat.mul_le_mul_right _ hjl
  grind
 have hlc:l.length*Enc.k α<=cap*Enc.k α:=Nat.mul_le_mul_right _ hnc
 have hsz:(sizeOf xT).run P w = .ok us.length w:=by
  rcases ht with h|⟨h,h'⟩
  .exact (xG (P:=P) w h).2
  rw [h'];exact (xH (P:=P) w h).2
 have hst:=run_storeCells_at P gb (j*Enc.k α+o) e us 0 cur w hgg ae h1
 have hrun:(execOp a.eval ⟨none,.store xT x y,ty,pos,eC,g⟩).run P w = .ok .skip (w.setRow gb (cur.toList.take (j*Enc.k α+o)++us++cur.toList.drop (j*Enc.k α+o+us.length)).toArray):=by
  simp only [execOp,ha.ev hx,ha.ev hy,ep,Instr.storeAt,Instr.sureAddr,storeVar,hu,Sem.run_bind,Sem.run_pure,Result.andThen_ok,hsz]
  simp_all
 unfold Oper.wp
 rw [hrun,Oper.upon_skip]
 have hz:(l.flatMap Enc.cells).drop (j*Enc.k α)=Enc.cells z'++(l.flatMap Enc.cells).drop (j*Enc.k α+Enc.k α):=by
  have e1:l.drop j=z'::l.drop (j+1):=by
   grind [List.drop_eq_getElem_cons,List.getElem?_eq_some_iff]
  rw [<- mI,e1,List.flatMap_cons,mI,Nat.add_mul,Nat.one_mul]
 have hzl:=Enc.len z'
 have hll:(l.set j z).length=l.length:=List.length_set
 have h3:(cur.toList.take (j*Enc.k α+o)).length=j*Enc.k α+o:=aB
 have:=hw.s9 (l':=l.set j z) (cs':=cur.toList.take (j*Enc.k α+o)++us++cur.toList.drop (j*Enc.k α+o+us.length)) hB hgg hcm hcs aB (by
  have hfl:=eK l
  rw [hll,yu l j z hjl,uj _ _ _ _ ae aB,htk,Yo]
  have a1:(l.flatMap Enc.cells).take (j*Enc.k α+o)=(l.flatMap Enc.cells).take (j*Enc.k α)++(Enc.cells z').take o:=by
   rw [List.take_add,hz,List.take_append_of_le_length ae]
  have a2:(l.flatMap Enc.cells).drop (j*Enc.k α+o+us.length)=(Enc.cells z').drop (o+us.length)++(l.flatMap Enc.cells).drop (j*Enc.k α+Enc.k α):=by
   rw [Nat.add_assoc,<- List.drop_drop,hz,List.drop_append_of_le_length ae]
  grind) ae
 simp_all [Act.put]
end
section
variable {P:Program} {n:Nat} {we:World} {X:List Nat} {L:Fm} {B F B2 F2:List aj}
theorem s.pre {β:Type}{o:Oper}{L':β->Fm}{B' F':β->List aj}(hm:∀w,Wd we X B F w->Wd we X B2 F2 w)(h:Stp P n we X L B2 F2 o L' B' F'):Stp P n we X L B F o L' B' F' :=
 fun K Q' a w ha hw hK=>h K Q' a w ha (hm w hw) hK
end
end
section
open Go Go.RowKit
theorem CU {n r:Int}(h:n=r/\0<=r/\r<=18446744073709551615):IntKind.u64.wrap n=r:=by
 obtain ⟨rfl,h1,h2⟩:=h
 have:IntKind.u64.wrap n=n % 18446744073709551616:=rfl
 omega
theorem uk {n r:Int}(h:n=r/\0<=r/\r<=255):IntKind.u8.wrap n=r:=by
 obtain ⟨rfl,h1,h2⟩:=h
 have:IntKind.u8.wrap n=n % 256:=rfl
 omega
theorem qJ {n:Int}:IntKind.u8.wrap n=n % 256:=rfl
theorem Ku {m e D:Int}(h:e=D)(h0:0<=D):m.fdiv e=m / D:=aB
theorem P1 {m D:Nat}{e:Int}(h:e=((D:Nat):Int)):((m:Nat):Int).fdiv e=((m / D:Nat):Int):=by
 grind
section
variable {P:Program} {n:Nat} {we:World} {X:List Nat} {Q:Exit->Act->World->Prop} {k k':List It} {L:Fm} {B F:List aj} {ops rest:List Oper}
variable {dst:Option Nat} {d:Nat} {op:Op} {ty:TypeId} {pos:String} {eC:Array Edge} {g:Option (Nat×Bool)} {v:Value}
variable {x y z:Operand} {xT yT t e:TypeId} {kd Wa:IntKind} {α:Type} [Enc α] {l:List α}
theorem q.Kv {op:Op}{v v':Value}(h:v=v')(hq:Qt P n we X L B F op ty v):Qt P n we X L B F op ty v':=h▸hq
theorem q.iU {s:ByteArray}{m:Int}{i:Nat}{c:UInt8}(hx:ev L x=some (.string s))(hy:ev L y=some (.int kd m))(ht:P.underlying xT=some .string)(hm:m=(i:Int))(hi:s.data[i]? = some c) :
 Qt P n we X L B F (.index xT x y) ty (.int .u8 ((c.toNat:Nat):Int)):=fun _ _ _ _ a w ha hw=>by
 subst hm
 have hlt:i<s.size:=(Array.getElem?_eq_some_iff.1 hi).1
 have h2:s[i]=c:=(Array.getElem?_eq_some_iff.1 hi).2
 have:=run_index_string (P:=P) w xT s kd (i:Int) ht
 simp only [execOp,ha.ev hx,ha.ev hy]
 simp_all
theorem q.EO {s:ByteArray}{m r:Int}{i j:Nat}(hx:ev L x=some (.string s))(hy:ev L y=some (.int kd m))(hz:ev L z=some (.int Wa r))(ht:P.underlying xT=some .string)(hm:m=(i:Int))(hr:r=(j:Int))(hij:i<=j)(hj:j<=s.size) :
 Qt P n we X L B F (.slice xT x (some y) (some z) none) ty (.string (s.extract i j)):=fun _ _ _ _ a w ha hw=>by
 subst hm;subst hr
 have e:(Instr.slice xT (.string s) (some (.int kd (i:Int))) (some (.int Wa (j:Int))) none).run P w = .ok (.string (s.extract i j)) w:=by
  simp_all [Instr.slice,Instr.sliceBounds,sliced,run_underlying,run_sliceBound]
 simp only [execOp,ha.ev hx,Option.map_some,Option.map_none,ha.ev hy,ha.ev hz,Sem.run_bind,run_sliceAt_string w xT _ _ _ _ ht,e,Result.andThen_ok,Sem.run_pure]
theorem q.EP {s:ByteArray}{m:Int}{i:Nat}(hx:ev L x=some (.string s))(hy:ev L y=some (.int kd m))(ht:P.underlying xT=some .string)(hm:m=(i:Int))(hi:i<=s.size) :
 Qt P n we X L B F (.slice xT x (some y) none none) ty (.string (s.extract i s.size)):=fun _ _ _ _ a w ha hw=>by
 subst hm
 have e:=run_slice_string_l (P:=P) w xT s ht kd (i:Int) ae ae
 simp only [Int.toNat_natCast] at e
 simp only [execOp,ha.ev hx,Option.map_some,Option.map_none,ha.ev hy,Sem.run_bind,run_sliceAt_string w xT _ _ _ _ ht,e,Result.andThen_ok,Sem.run_pure]
theorem q.sTo {s:ByteArray}{m:Int}{i:Nat}(hx:ev L x=some (.string s))(hy:ev L y=some (.int kd m))(ht:P.underlying xT=some .string)(hm:m=(i:Int))(hi:i<=s.size) :
 Qt P n we X L B F (.slice xT x none (some y) none) ty (.string (s.extract 0 i)):=fun _ _ _ _ a w ha hw=>by
 subst hm
 have e:=run_slice_string_h (P:=P) w xT s ht kd (i:Int) ae ae
 simp only [Int.toNat_natCast] at e
 simp only [execOp,ha.ev hx,Option.map_some,Option.map_none,ha.ev hy,Sem.run_bind,run_sliceAt_string w xT _ _ _ _ ht,e,Result.andThen_ok,Sem.run_pure]
def gQ (a b:ByteArray):Bool:=Op.bytesLess a.toList b.toList
theorem q.P2 {a b:ByteArray}{r:Bool}(hx:ev L x=some (.string a))(hy:ev L y=some (.string b))(h:gQ a b=r):Qt P n we X L B F (.binOp .lss xT x y yT) ty (.bool r):=fun _ _ _ _ q w ha hw=>by
 subst h;simp only [execOp,ha.ev hx,ha.ev hy,binOp,Op.stringOp,eqGuard,gQ];simp
theorem q.Kw {a b:ByteArray}{r:Bool}(hx:ev L x=some (.string a))(hy:ev L y=some (.string b))(h:(gQ a b||decide (a=b))=r):Qt P n we X L B F (.binOp .leq xT x y yT) ty (.bool r):=fun _ _ _ _ q w ha hw=>by
 subst h;simp only [execOp,ha.ev hx,ha.ev hy,binOp,Op.stringOp,eqGuard,gQ,lN];simp
theorem yw {P:Program}{t pT:TypeId}(h:P.underlying t=some (.pointer pT)):P.underlying t=some (.pointer (P.pointee t)):=by
 simp [Program.pointee,h]
theorem q.P3 {a:Option Addr}{pT:TypeId}(hx:ev L x=some (.pointer a))(hy:ev L y=some (.pointer none))(ht:P.underlying xT=some (.pointer pT)):Qt P n we X L B F (.binOp .eql xT x y yT) ty (.bool a.isNone):=fun _ _ _ _ q w ha hw=>by
 simp only [execOp,ha.ev hx,ha.ev hy,eqGuard_at_pointer,Sem.run_bind,Sem.run_pure,Result.andThen_ok,run_eql_pointer_nil w xT a (yw ht)]
theorem q.P4 {a:Option Addr}{pT:TypeId}(hx:ev L x=some (.pointer a))(hy:ev L y=some (.pointer none))(ht:P.underlying xT=some (.pointer pT)):Qt P n we X L B F (.binOp .neq xT x y yT) ty (.bool (!a.isNone)):=fun _ _ _ _ q w ha hw=>by
 simp only [execOp,ha.ev hx,ha.ev hy,eqGuard_at_pointer,Sem.run_bind,Sem.run_pure,Result.andThen_ok,run_neq_pointer_nil w xT a (yw ht)]
def qK (v:Value):Bool:=match v with | .slice A _ _=>A.isNone|_=>true
theorem Sl.qK {w:World}{v:Value}{l:List α}(h:Sl w v l)(hn:YtnmpibjlnninjaaGreatDoor.qK v=true):l=[]:=by
 obtain ⟨A,c,rfl,h1,h2,h3⟩:=h
 cases l with
 | nil=>rfl
 | cons x l =>
  obtain ⟨b,off,hA,_⟩:=h3 0 x rfl
  simp [YtnmpibjlnninjaaGreatDoor.qK,hA] at hn
theorem q.qm {c:Value}(hs:∀w,Wd we X B F w->Sl w v l)(hx:ev L x=some v)(hy:ev L (.const c)=some (.slice none 0 0))(ht:P.underlying xT=some (.slice e)):Qt P n we X L B F (.binOp .eql xT x (.const c) yT) ty (.bool (qK v)):=fun _ _ _ _ q w ha hw=>by
 obtain ⟨A,cc,rfl,h1,h2,h3⟩:=hs w hw
 have hc:c = .slice none 0 0:=by simpa [YtnmpibjlnninjaaGreatDoor.ev] using hy
 subst hc
 have he:(Op.equal xT (.slice A l.length cc) (.slice none 0 0)).run P w = .ok A.isNone w:=by
  show (Op.equalIn (9999+1) xT _ _).run P w=_
  unfold Op.equalIn
  cases A <;> simp [run_underlying ht]
 have hev:q.eval (.const (.slice none 0 0)) = .slice none 0 0:=rfl
 simp only [execOp,ha.ev hx,hev,eqGuard_at_slice,binOp,Sem.run_bind,Sem.run_pure,Result.andThen_ok,he,YtnmpibjlnninjaaGreatDoor.qK]
end
end
section
open Go Go.RowKit
structure fL where
  Kind:ByteArray
  S:ByteArray
  P:Place
  Q:Place
  A:Int
  B:Int
  N:Int
  K:Int
  ca:Option Addr
  cn:Nat
  cc:Nat
  Changes:List Change
abbrev fL.cv (x:fL):Value:= .slice x.ca x.cn x.cc
abbrev CV (x:fL):List Value:=[.string x.Kind,.string x.S,.int .i64 x.P.ay,.int .i64 x.P.Slot,.int .i64 x.Q.ay,.int .i64 x.Q.Slot,.int .i64 x.A,.int .i64 x.B,.int .i64 x.N,.int .u64 x.K,x.cv]
abbrev fL.cs (x:fL):List Value:=[.string x.Kind,.string x.S,.int .i64 x.P.ay,.int .i64 x.P.Slot,.int .i64 x.Q.ay,.int .i64 x.Q.Slot,.int .i64 x.A,.int .i64 x.B,.int .i64 x.N,.int .u64 x.K,x.cv]
abbrev fL.val (x:fL):Value:= .agg #[.string x.Kind,.string x.S,.int .i64 x.P.ay,.int .i64 x.P.Slot,.int .i64 x.Q.ay,.int .i64 x.Q.Slot,.int .i64 x.A,.int .i64 x.B,.int .i64 x.N,.int .u64 x.K,x.cv]
instance:Enc fL:=⟨11,fL.cs,fun _=>rfl,fun x u hu=>by simp [fL.cs] at hu;rcases hu with rfl|rfl|rfl|rfl|rfl|rfl|rfl|rfl|rfl|rfl|rfl <;> rfl,by decide⟩
def aj.acts (l:List fL):aj:=⟨l.flatMap (fun x=>(aj.ls x.cv x.Changes).blk),fun w => ∀x∈l,Sl w x.cv x.Changes,fun w w' h hs x hx=>(aj.ls x.cv x.Changes).loc w w' (fun k hk=>h k (List.mem_flatMap.2 ⟨x,hx,hk⟩)) (hs x hx)⟩
theorem Jk {w:World}{l:List fL}(h:∀x∈l,Sl w x.cv x.Changes):∀k∈(aj.acts l).blk,k<w.heap.size:=fun k hk=>by
 obtain ⟨x,hx,hk⟩:=List.mem_flatMap.1 hk
 exact RX (h x hx) k hk
theorem Wd.acts {we w:World}{X:List Nat}{B F:List aj}{l:List fL}(i:Nat)(h:F[i]? = some (aj.acts l))(hw:Wd we X B F w):∀x∈l,Sl w x.cv x.Changes:=hw.f i h
theorem Wd.Tj {we w:World}{X:List Nat}{B F:List aj}{l:List fL}{x:fL}(i:Nat)(h:F[i]? = some (aj.acts l))(hx:x∈l)(hw:Wd we X B F w):Sl w x.cv x.Changes:=hw.f i h x hx
end
section
open Go.ChangeShapes Go.WideShapes Go.ChangeAt Go.RowKit Go.Deep
def Change.Fit (x:Change):Prop:=x.Key.size<=maxLen/\x.Val.size<=maxLen
def YP (n:Int):Prop:=0<=n/\n<=18446744073709551615
def fL.Fit (x:fL):Prop:=x.Kind.size<=maxLen/\x.S.size<=maxLen/\x.P.Fit/\x.Q.Fit/\Hf x.A/\Hf x.B/\Hf x.N/\YP x.K /\ ∀z∈x.Changes,z.Fit
section
variable {H:Type} {enc:TypeId×Value->H} {w:World} {base:Nat} {spare:Nat->Bool} {held:Bool}
theorem nW:Tryz.prog.cellsOf 9=1:=ai
theorem Kx:Tryz.prog.cellsOf 4=1:=ai
theorem Mt:Tryz.prog.cellsOf 33=1:=ai
theorem qL:Tryz.prog.cellsOf 115=3:=ai
theorem CW:Tryz.prog.cellsOf 34=1:=ai
theorem BH:Tryz.prog.cellsOf 36=11:=ai
theorem CX {m:Nat}{c:Value}{y:DataW H×List MemPlace}(h:DataW.trod enc Tryz.prog w base spare held m 9 [c]=some y):∃s,c = .string s/\s.size<=maxLen:=by
 obtain ⟨s,hs,_,hw⟩:=DataW.trod_string Tryz.underlying9 h
 injection hs with hs _
 exact ⟨s,hs,hw⟩
theorem P5 {m:Nat}{c:Value}{y:DataW H×List MemPlace}(h:DataW.trod enc Tryz.prog w base spare held m 4 [c]=some y):∃b,c = .bool b:=by
 obtain ⟨b,hs,_⟩:=DataW.trod_bool Tryz.underlying4 h
 injection hs with hs _
 exact ⟨b,hs⟩
theorem Tk {m:Nat}{c:Value}{y:DataW H×List MemPlace}(h:DataW.trod enc Tryz.prog w base spare held m 33 [c]=some y):∃n,c = .int .u64 n/\YP n:=by
 obtain ⟨n,hn,_,hw⟩:=DataW.trod_int Tryz.underlying33 h
 injection hn with hn _
 exact ⟨n,hn,bounds_u64 hw⟩
theorem vp {m:Nat}{cs:List Value}{y:DataW H×List MemPlace}(hl:cs.length=3)(h:DataW.trod enc Tryz.prog w base spare held m 115 cs=some y):∃z:Change,cs=Enc.cells z/\z.Fit:=by
 match cs,hl with
 | [c0,c1,c2],_ =>
  obtain ⟨xs,n,_,_,_,hlen,hf⟩:=DataW.trod_struct Tryz.underlying115 h
  match xs,hlen with
  | [y0,y1,y2],_ =>
   have g0:=eL hf 0 _ rfl 9 0 1 rfl rfl nW;have g1:=eL hf 1 _ rfl 9 1 1 rfl rfl nW;have g2:=eL hf 2 _ rfl 4 2 1 rfl rfl Kx
   obtain ⟨n0,rfl,w0⟩:=CX (c:=c0) (by simpa using g0)
   obtain ⟨n1,rfl,w1⟩:=CX (c:=c1) (by simpa using g1)
   obtain ⟨n2,rfl⟩:=P5 (c:=c2) (by simpa using g2)
   exact ⟨⟨n0,n1,n2⟩,rfl,w0,w1⟩
theorem Mu {m:Nat}{cs:List Value}{y:DataW H×List MemPlace}(hl:cs.length=11)(h:DataW.trod enc Tryz.prog w base spare held m 36 cs=some y):∃z:fL,cs=Enc.cells z/\(Sl w z.cv z.Changes/\z.Fit):=by
 match cs,hl with
 | [c0,c1,c2,c3,c4,c5,c6,c7,c8,c9,c10],_ =>
  obtain ⟨xs,n,_,_,_,hlen,hf⟩:=DataW.trod_struct Tryz.underlying36 h
  match xs,hlen with
  | [y0,y1,y2,y3,y4,y5,y6,y7,y8],_ =>
   have g0:=eL hf 0 _ rfl 9 0 1 rfl rfl nW;have g1:=eL hf 1 _ rfl 9 1 1 rfl rfl nW
   have g2:=eL hf 2 _ rfl 32 2 2 rfl rfl po;have g3:=eL hf 3 _ rfl 32 4 2 rfl rfl po
   have g4:=eL hf 4 _ rfl 3 6 1 rfl rfl jf;have g5:=eL hf 5 _ rfl 3 7 1 rfl rfl jf;have g6:=eL hf 6 _ rfl 3 8 1 rfl rfl jf
   have g7:=eL hf 7 _ rfl 33 9 1 rfl rfl Mt;have g8:=eL hf 8 _ rfl 34 10 1 rfl rfl CW
   obtain ⟨n0,rfl,w0⟩:=CX (c:=c0) (by simpa using g0)
   obtain ⟨n1,rfl,w1⟩:=CX (c:=c1) (by simpa using g1)
   obtain ⟨z0,e0,w2⟩:=ub (cs:=[c2,c3]) rfl (by simpa using g2)
   simp only [List.cons.injEq,and_true] at e0
   obtain ⟨rfl,rfl⟩:=e0
   obtain ⟨z1,e1,w3⟩:=ub (cs:=[c4,c5]) rfl (by simpa using g3)
   simp only [List.cons.injEq,and_true] at e1
   obtain ⟨rfl,rfl⟩:=e1
   obtain ⟨n4,rfl,w4⟩:=mQ (c:=c6) (by simpa using g4)
   obtain ⟨n5,rfl,w5⟩:=mQ (c:=c7) (by simpa using g5)
   obtain ⟨n6,rfl,w6⟩:=mQ (c:=c8) (by simpa using g6)
   obtain ⟨n7,rfl,w7⟩:=Tk (c:=c9) (by simpa using g7)
   obtain ⟨l,hs,hg⟩:=open_list (v:=c10) Tryz.underlying34 qL Change.Fit (fun _ _ _ hl hy=>vp hl hy) (by simpa using g8)
   have hs':=hs
   obtain ⟨A,c,rfl,_⟩:=hs
   exact ⟨⟨n0,n1,z0,z1,n4,n5,n6,n7,A,l.length,c,l⟩,rfl,hs',w0,w1,w2,w3,w4,w5,w6,w7,hg⟩
theorem Yp {r:Reach}{b0:Nat}{v:Value}{d:DataW H}{p:List MemPlace}(hv:Value.okWide Tryz.prog w r b0 36 v)(h:DataW.Trod enc Tryz.prog w base spare held 36 v d p):∃x:fL,v=x.val/\Sl w x.cv x.Changes/\x.Fit:=by
 obtain ⟨cs,rfl,hsz⟩:=okWide_struct Tryz.underlying36 hv
 obtain ⟨m,hm⟩:=h
 obtain ⟨z,hz,hg⟩:=Mu (cs:=cs.toList) (by simpa using hsz.trans BH) (by simpa [Value.cells] using hm)
 refine ⟨z,?_,hg⟩
 have:cs=(Enc.cells z).toArray:=by rw [<- hz]
 rw [this];rfl
theorem Mv {r:Reach}{b0:Nat}{v:Value}{d:DataW H}{p:List MemPlace}(hv:Value.okWide Tryz.prog w r b0 22 v)(h:DataW.Trod enc Tryz.prog w base spare held 22 v d p):∃l:List fL,Sl w v l/\(∀z∈l,Sl w z.cv z.Changes) /\ ∀z∈l,z.Fit:=by
 obtain ⟨a,len,cap,rfl⟩:=okWide_slice Tryz.underlying22 hv
 obtain ⟨m,hm⟩:=h
 obtain ⟨l,h1,h2⟩:=open_list Tryz.underlying22 BH (fun z:fL=>Sl w z.cv z.Changes/\z.Fit) (fun _ _ _ hl hy=>Mu hl hy) hm
 exact ⟨l,h1,fun z hz=>(h2 z hz).1,fun z hz=>(h2 z hz).2⟩
theorem Yq {r:Reach}{b0:Nat}{v:Value}{d:DataW H}{p:List MemPlace}(hv:Value.okWide Tryz.prog w r b0 33 v)(h:DataW.Trod enc Tryz.prog w base spare held 33 v d p):∃n,v = .int .u64 n/\YP n:=by
 obtain ⟨n,hn,_,_,hw⟩:=open_int Tryz.underlying33 hv h
 exact ⟨n,hn,bounds_u64 hw⟩
theorem Tl {r:Reach}{b0:Nat}{v:Value}{d:DataW H}{p:List MemPlace}(hv:Value.okWide Tryz.prog w r b0 115 v)(h:DataW.Trod enc Tryz.prog w base spare held 115 v d p):∃x:Change,v=x.val/\x.Fit:=by
 obtain ⟨cs,rfl,hsz⟩:=okWide_struct Tryz.underlying115 hv
 obtain ⟨m,hm⟩:=h
 obtain ⟨z,hz,hg⟩:=vp (cs:=cs.toList) (by simpa using hsz.trans qL) (by simpa [Value.cells] using hm)
 refine ⟨z,?_,hg⟩
 have:cs=(Enc.cells z).toArray:=by rw [<- hz]
 rw [this];rfl
theorem RZ {r:Reach}{b0:Nat}{v:Value}{d:DataW H}{p:List MemPlace}(hv:Value.okWide Tryz.prog w r b0 34 v)(h:DataW.Trod enc Tryz.prog w base spare held 34 v d p):∃l:List Change,Sl w v l /\ ∀z∈l,z.Fit:=by
 obtain ⟨a,len,cap,rfl⟩:=okWide_slice Tryz.underlying34 hv
 obtain ⟨m,hm⟩:=h
 exact open_list Tryz.underlying34 qL Change.Fit (fun _ _ _ hl hy=>vp hl hy) hm
end
end
end Go.Proofs.YtnmpibjlnninjaaGreatDoor
