import Derived.Test.YtkbhcbipadkcaaaGreatDoorTO7
namespace Go.Proofs.YtkbhcbipadkcaaaGreatDoor
set_option linter.unusedVariables false
set_option linter.unusedSimpArgs false
section
open Go Go.RowKit
def ag.held (w0:World)(own:List Nat):ag:=⟨own,fun w => ∀k∈own,w.heap[k]? = w0.heap[k]?,fun w w' h ho k hk=>(h k hk).trans (ho k hk)⟩
theorem fO (B:List ag)(w:World)(own:List Nat):blks (B++[ag.held w own])=blks B++own:=by
 rw [aU];simp [blks,ag.held]
theorem Et {F F0:List ag}{js:List Nat}(h:cZ F js=some F0):∀k∈blks F0,k∈blks F:=fun k hk=>by
 obtain ⟨r,hr,hk⟩:=bu.1 hk
 exact bu.2 ⟨r,nH h r hr,hk⟩
section
variable {we w w':World} {X:List Nat} {B0 Br B1 F F0 F1:List ag}
theorem Wd.Ao (hw:Wd we X (B0++Br) F w){js:List Nat}(hj:cZ F js=some F0):Wd w (blks B0++blks Br) (B0++[ag.held w (blks Br)]) F0 w:=by
 have hs:=hw.sep
 rw [aU] at hs
 refine ⟨lS.refl _ _,fun r hr=>?_,fun r hr=>hw.okF r (nH hj r hr),by rw [fO];exact hs,fun k hk=>?_,fun k hk=>?_⟩
 .
  rcases List.mem_append.1 hr with hr|hr
  .exact hw.okB r (List.mem_append.2 (.inl hr))
  .simp at hr;subst hr;exact fun k _=>rfl
 .
  rw [fO] at hk
  exact ⟨(hw.own k (by rw [aU];exact hk)).1,fun _=>hk⟩
 .
  rw [fO,<- aU]
  exact hw.mj k (Et hj k hk)
theorem Wd.after (hw:Wd we X (B0++Br) F w)(hp:Wd w (blks B0++blks Br) (B1++[ag.held w (blks Br)]) F1 w'):Wd we X (B1++Br) (F1++F) w':=by
 have hout:∀k,k<w.heap.size->k∉blks (B0++Br)->w'.heap[k]? = w.heap[k]?:=fun k hk hn=>hp.upd.block k hk (by rw [<- aU];exact hn)
 have Rw:∀k∈blks Br,w'.heap[k]? = w.heap[k]?:=hp.okB (ag.held w (blks Br)) (List.mem_append.2 (.inr (List.mem_singleton.2 rfl)))
 have hsz:=hp.upd.size
 have hold:∀k∈blks B1,k<w.heap.size->k∈blks (B0++Br):=fun k hk hlt=>by
  rw [aU];exact (hp.own k (by rw [fO];exact List.mem_append.2 (.inl hk))).2 hlt
 refine ⟨⟨hp.upd.os.trans hw.upd.os,hp.upd.tape.trans hw.upd.tape,hp.upd.output.trans hw.upd.output,Nat.le_trans hw.upd.size hsz,fun k hk hx=>?_⟩,fun r hr=>?_,fun r hr=>?_,?_,fun k hk=>?_,fun k hk=>?_⟩
 .
  have hk2:k<w.heap.size:=Nat.lt_of_lt_of_le hk hw.upd.size
  exact (hout k hk2 (fun hb=>hx ((hw.own k hb).2 hk))).trans (hw.upd.block k hk hx)
 .
  rcases List.mem_append.1 hr with hr|hr
  .exact hp.okB r (List.mem_append.2 (.inl hr))
  .exact r.loc w w' (fun k hk=>Rw k (bu.2 ⟨r,hr,hk⟩)) (hw.okB r (List.mem_append.2 (.inr hr)))
 .
  rcases List.mem_append.1 hr with hr|hr
  .exact hp.okF r hr
  .
   refine r.loc w w' (fun k hk=>?_) (hw.okF r hr)
   have:=hw.mj k (bu.2 ⟨r,hr,hk⟩)
   exact hout k this.1 this.2
 .
  have:=hp.sep
  rw [fO] at this;rw [aU];exact this
 .
  rw [aU] at hk
  have h1:=hp.own k (by rw [fO];exact hk)
  refine ⟨h1.1,fun hlt=>?_⟩
  rcases List.mem_append.1 hk with hk|hk
  .exact (hw.own k (hold k hk (Nat.lt_of_lt_of_le hlt hw.upd.size))).2 hlt
  .exact (hw.own k (by rw [aU];exact List.mem_append.2 (.inr hk))).2 hlt
 .
  rw [aU] at hk
  rcases List.mem_append.1 hk with hk|hk
  .
   have:=hp.mj k hk
   rw [fO] at this;rw [aU];exact this
  .
   have:=hw.mj k hk
   refine ⟨Nat.lt_of_lt_of_le this.1 hsz,fun hb=>?_⟩
   rw [aU] at hb
   rcases List.mem_append.1 hb with hb|hb
   .exact this.2 (hold k hb this.1)
   .exact this.2 (by rw [aU];exact List.mem_append.2 (.inr hb))
end
abbrev HN (w:World)(own:List Nat)(B F:List ag):Prop:=Wd w (blks B++own) (B++[ag.held w own]) F w
abbrev RC {β:Type}{w:World}{own:List Nat}{B0 F0:List ag}(P:Program)(f:FuncId)(ar:Array Value)(_:HN w own B0 F0)(G:β->Value)(B1 F1:β->List ag):Prop:=Calls P f ar w fun e w' => ∃z,e = .returned (G z)/\Wd w (blks B0++own) (B1 z++[ag.held w own]) (F1 z) w'
section
variable {P:Program} {n:Nat} {we:World} {X:List Nat} {Q:Exit->Act->World->Prop} {k k':List It} {L:Fm} {B F:List ag} {ops rest:List Oper}
variable {dst:Option Nat} {d:Nat} {ty:TypeId} {pos:String} {ea:Array Edge} {g:Option (Nat×Bool)} {v:Value}
variable {x y:Operand} {xT yT t e:TypeId} {α:Type} [Enc α] {l:List α}
theorem s.aW {β:Type}{f:FuncId}{c:Operand}{xs:Array Operand}{ts:Array TypeId}{vs:List Value}{cap:Array Value}{B0 Br F0:List ag}(is js:List Nat)(G:β->Value)(B1 F1:β->List ag)(hp:cZ B is=some (B0++Br))(ha':iq is=true)(hj:cZ F js=some F0)
 (eg:∀args w,(callFunc f args).run P w = .ok (.enter f args) w) (hargs:evs L xs.toList=some vs) (hc:ev L c=some (.func (.func f) #[] cap))
 (hcall:∀w own,Wd we X B F w->Wd w (blks B0++own) (B0++[ag.held w own]) F0 w->Calls P f (vs++cap.toList).toArray w fun e w' => ∃z,e = .returned (G z)/\Wd w (blks B0++own) (B1 z++[ag.held w own]) (F1 z) w') (hd:Nat.blt d n=true) :
 Stp P n we X L B F ⟨some d,.call { callee:= .value c,args:=xs,argTypes:=ts },ty,pos,ea,g⟩ (fun z=>(d,G z)::L) (fun z=>B1 z++Br) (fun z=>F1 z++F):=by
 intro K Q' a w ha hw hK
 have hw2:=hw.LY is hp ha'
 unfold Oper.wp
 rw [pH ha hargs hc eg,Oper.upon_enter]
 refine (hcall w (blks Br) hw (hw2.Ao hj)).mono fun e w' he=>?_
 obtain ⟨z,rfl,ht⟩:=he
 exact hK z _ _ (ha.put d _ hd) (hw2.after ht)
theorem R.bC {f:FuncId}{fn:Func}{c:Code}{vs:List Value}{w:World}{R:Ending->World->Prop}(L:Fm)(hf:P.funcs[f]? = some fn)(hb:fn.body=some c)(hn:fn.ntmps=n)
 (hle:Nat.ble vs.length n=true) (hL:OJ 0 vs=L) (h0:Wd w X B F w) (h:Run P n w X (bodyPost P fn R) [.c c] L B F):Calls P f vs.toArray w R:=by
 have hle':vs.length<=n:=Nat.le_of_ble_eq_true hle
 refine calls_of_wp hf hb<|wp_mono (h _ w ⟨?_,rfl,fun i v hv=>?_⟩ h0) (fun e a w q=>by cases e <;> exact q)
 .simp [hn];omega
 rw [<- hL] at hv
 obtain ⟨h1,h2⟩:=vP vs 0 i v hv
 simp only [Nat.sub_zero] at h2
 have hi:i<vs.length:=(List.getElem?_eq_some_iff.1 h2).1
 show (vs.toArray++Array.replicate (fn.ntmps-vs.toArray.size) undef)[i]? = some v
 rw [Array.getElem?_append_left (by simpa using hi)]
 simpa using h2
section
variable {fn:Func} {β:Type} {B1 F1:β->List ag} {V:β->Value} {r1 r2 r3 r4:ResultVar} {v1 v2 v3 v4:Value}
theorem R.w0 (z:β)(is js:List Nat)(h:norm 200 k=[] ∨ ∃k',norm 200 k = .c .ret::k')(hr:fn.results = #[])(hp:cZ B is=some (B1 z))(ha:iq is=true)(hj:cZ F js=some (F1 z))(e:V z = .tuple #[]):Run P n we X (bodyPost P fn fun en w' => ∃z,en = .returned (V z)/\Wd we X (B1 z) (F1 z) w') k L B F:=by
 rcases h with h|⟨k',h⟩
 .exact R.TK h hr fun w hw=>⟨z,by rw [e],hw.fy is js hp hj ha⟩
 .exact R.TM h hr fun w hw=>⟨z,by rw [e],hw.fy is js hp hj ha⟩
theorem R.w1 (z:β)(is js:List Nat)(h:norm 200 k = .c .ret::k')(hr:fn.results = #[r1])(h1:RV P n we X L B F r1 v1)(hp:cZ B is=some (B1 z))(ha:iq is=true)(hj:cZ F js=some (F1 z))(e:v1=V z):Run P n we X (bodyPost P fn fun en w' => ∃z,en = .returned (V z)/\Wd we X (B1 z) (F1 z) w') k L B F :=
 R.Rk h hr h1 fun w hw=>⟨z,by rw [e],hw.fy is js hp hj ha⟩
theorem R.w2 (z:β)(is js:List Nat)(h:norm 200 k = .c .ret::k')(hr:fn.results = #[r1,r2])(h1:RV P n we X L B F r1 v1)(h2:RV P n we X L B F r2 v2)(hp:cZ B is=some (B1 z))(ha:iq is=true)(hj:cZ F js=some (F1 z))(e : .tuple #[v1,v2]=V z):Run P n we X (bodyPost P fn fun en w' => ∃z,en = .returned (V z)/\Wd we X (B1 z) (F1 z) w') k L B F :=
 R.NH h hr h1 h2 fun w hw=>⟨z,by rw [e],hw.fy is js hp hj ha⟩
theorem R.w3 (z:β)(is js:List Nat)(h:norm 200 k = .c .ret::k')(hr:fn.results = #[r1,r2,r3])(h1:RV P n we X L B F r1 v1)(h2:RV P n we X L B F r2 v2)(h3:RV P n we X L B F r3 v3)(hp:cZ B is=some (B1 z))(ha:iq is=true)(hj:cZ F js=some (F1 z))(e : .tuple #[v1,v2,v3]=V z):Run P n we X (bodyPost P fn fun en w' => ∃z,en = .returned (V z)/\Wd we X (B1 z) (F1 z) w') k L B F :=
 R.NI h hr h1 h2 h3 fun w hw=>⟨z,by rw [e],hw.fy is js hp hj ha⟩
theorem R.w4 (z:β)(is js:List Nat)(h:norm 200 k = .c .ret::k')(hr:fn.results = #[r1,r2,r3,r4])(h1:RV P n we X L B F r1 v1)(h2:RV P n we X L B F r2 v2)(h3:RV P n we X L B F r3 v3)(h4:RV P n we X L B F r4 v4)(hp:cZ B is=some (B1 z))(ha:iq is=true)(hj:cZ F js=some (F1 z))(e : .tuple #[v1,v2,v3,v4]=V z):Run P n we X (bodyPost P fn fun en w' => ∃z,en = .returned (V z)/\Wd we X (B1 z) (F1 z) w') k L B F :=
 R.Rl h hr h1 h2 h3 h4 fun w hw=>⟨z,by rw [e],hw.fy is js hp hj ha⟩
end
theorem Wd.vZ {w W:World}{r r':ag}(hw:Wd we X B F w)(i j:Nat)(hi:B[i]? = some r)(hj:B[j]? = some r')(hij:i≠j)(hu:lS (blks [r']) w W):r.ok W :=
 r.loc w W (fun k hk=>hu.block k (hw.own k (bu.2 ⟨r,List.mem_of_getElem? hi,hk⟩)).1 (fun hc=>iU hi hj hij hw.sep k hk (by simpa [blks] using hc))) (hw.b i hi)
theorem Wd.NL {w W:World}{r r':ag}(hw:Wd we X B F w)(i j:Nat)(hi:F[i]? = some r)(hj:B[j]? = some r')(hu:lS (blks [r']) w W):r.ok W :=
 r.loc w W (fun k hk=>by
  have:=hw.mj k (bu.2 ⟨r,List.mem_of_getElem? hi,hk⟩)
  exact hu.block k this.1 (fun hc=>this.2 (bu.2 ⟨r',List.mem_of_getElem? hj,by simpa [blks] using hc⟩))) (hw.f i hi)
theorem Wd.u6 {w:World}{K own:List Nat}(hw:Wd we (K++own) B F w)(i:Nat)(hi:B[i]? = some (ag.held we own)):lS K we w :=
 ⟨hw.upd.os,hw.upd.tape,hw.upd.output,hw.upd.size,fun k hk hn=>by
  by_cases ho:k∈own
  .exact hw.b i hi k ho
  .exact hw.upd.block k hk (fun h=>(List.mem_append.1 h).elim hn ho)⟩
theorem IZ {v:Value}{l:List α}:∀k∈(ag.ls v l).blk,k∈dY v:=fun k hk=>by
 unfold ag.ls at hk
 dsimp only at hk
 split at hk
 .cases hk
 .exact hk
theorem Wd.cW {w:World}(hw:Wd we X B F w)(i:Nat)(B':List ag)(hB:B[i]? = some (ag.row e v l))(hB':B.eraseIdx i=B'):Wd we X B' (ag.ls v l::F) w:=by
 subst hB'
 have how:Own 0 e w v l:=hw.b i hB
 have hi:i<B.length:=(List.getElem?_eq_some_iff.1 hB).1
 have hsub:(B.eraseIdx i).Sublist B:=List.eraseIdx_sublist B i
 have hbs:(blks (B.eraseIdx i)).Sublist (blks B):=sJ hsub
 have hmem:∀k∈dY v,k∈blks B:=fun k hk=>bu.2 ⟨_,List.mem_of_getElem? hB,hk⟩
 have hnot:∀k∈dY v,k∉blks (B.eraseIdx i):=fun k hk hb=>by
  obtain ⟨r,hr,hkr⟩:=bu.1 hb
  obtain ⟨j,hj⟩:=List.mem_iff_getElem?.1 hr
  rw [List.getElem?_eraseIdx] at hj
  split at hj
  .exact iU hB hj (by omega) hw.sep k hk hkr
  .exact iU hB hj (by omega) hw.sep k hk hkr
 refine ⟨hw.upd,fun r hr=>hw.okB r (hsub.subset hr),fun r hr=>(List.mem_cons.1 hr).elim (fun e=>e▸how.sl) (hw.okF r),hbs.nodup hw.sep,fun k hk=>hw.own k (hbs.subset hk),fun k hk=>?_⟩
 rcases List.mem_append.1 hk with hk|hk
 .
  have hk':=IZ k hk
  exact ⟨(hw.own k (hmem k hk')).1,hnot k hk'⟩
 .exact ⟨(hw.mj k hk).1,fun h=>(hw.mj k hk).2 (hbs.subset h)⟩
theorem Wd.Rx {w:World}(hw:Wd we X B F w)(j:Nat)(r r':ag)(hF:F[j]? = some r)(hs:∀k∈r'.blk,k∈r.blk)(hr:r'.ok w):Wd we X B (r'::F) w :=
 hw.fact hr fun k hk=>hw.mj k (bu.2 ⟨r,List.mem_of_getElem? hF,hs k hk⟩)
theorem Wd.a8 {w:World}(hw:Wd we X B F w):Wd we X B (ag.ls (α:=α) (.slice none 0 0) []::F) w:=hw.fact (Sl.nil w) (by simp [ag.ls])
theorem R.mp {B' F':List ag}(hm:∀w,Wd we X B F w->Wd we X B' F' w)(h:Run P n we X Q k L B' F'):Run P n we X Q k L B F:=fun a w ha hw=>h a w ha (hm w hw)
theorem Rg.mp {B' F':List ag}(hm:∀w,Wd we X B F w->Wd we X B' F' w)(h:Rg P n we X Q ops rest k L B' F'):Rg P n we X Q ops rest k L B F:=fun a w ha hw=>h a w ha (hm w hw)
theorem R.pO (hs:Sl we v l)(h:Run P n we [] Q k L B (ag.ls v l::F)):Run P n we [] Q k L B F:=R.nI (r:=ag.ls v l) hs (NK hs) h
theorem q.nr {m:Int}{i kk q:Nat}{kd:IntKind}(hs:∀w,Wd we X B F w->Sl w v l)(hx:ev L x=some (YtkbhcbipadkcaaaGreatDoor.kI v q))(hy:ev L y=some (.int kd m))(ht:pw P xT=some (e,kk))(hm:m=(i:Int))(hi:i<=q)(hq:q<=ly v) :
 Qt P n we X L B F (.slice xT x (some y) none none) ty (YtkbhcbipadkcaaaGreatDoor.dA (YtkbhcbipadkcaaaGreatDoor.kI v q) i kk):=fun _ _ _ _ a w ha hw=>by
 obtain ⟨A,c,rfl,h1,h2,h3⟩:=hs w hw
 obtain ⟨hu,hz⟩:=eR (P:=P) w ht
 subst hm
 simp only [ly] at hq
 have hx':ev L x=some (.slice A q c):=hx
 simp only [execOp,ha.ev hx',Option.map_some,Option.map_none,ha.ev hy,Instr.sliceAt,Sem.run_bind,run_underlying hu,Result.andThen_ok,Instr.slice,Instr.sliceBounds,Instr.sliceBound,asIntOf,Sem.run_pure]
 rw [if_pos ⟨by omega,by omega⟩]
 simp [hz,YtkbhcbipadkcaaaGreatDoor.dA,YtkbhcbipadkcaaaGreatDoor.kI]
theorem s.zd {lo hi:Nat}{z0:α}{z:Value}(i:Nat)(hB:B[i]? = some (ag.row e v l))(hx:ev L x=some (sl2 v lo hi (Enc.k α)))(ht:pw P t=some (e,Enc.k α))(hz:fZ P e=some z)(hzs:z.cells=(Enc.cells z0).toArray)(hlo:l.length<=lo)(hh:lo<=hi)(hhi:hi<=ly v) :
 Stp P n we X L B F ⟨none,.call { callee:= .builtin .clear,args:= #[x],argTypes:= #[t] },ty,pos,ea,g⟩ (fun _:Unit=>L) (fun _=>B) (fun _=>F) :=
 s.TW (kk:=0) i hB hx ht (by rw [hz];rfl) (fun z' h=>by
  rw [hz] at h;injection h with h;subst h
  rw [hzs];exact ⟨by simpa using Enc.len z0,fun u hu=>Enc.one z0 u (by simpa using hu)⟩) hlo hh hhi
theorem s.Ap {o o' m:Nat}{A:TypeId}(i:Nat)(B':List ag)(hB:B[i]? = some (ag.row e v l))(ho:o<l.length)(hm:m=l.length+1)(ho':o'=o+1)(hroom:l.length+1<=ly v)(hx:ev L x=some (dA (kI v m) o' (Enc.k α)))(hy:ev L y=some (dA (kI v m) o (Enc.k α)))(ht:pw P t=some (e,Enc.k α))(hB':B.set i (ag.row e (kI v m) (l.take (o+1)++l.drop o))=B')(hd:Nat.blt d n=true) :
 Stp P n we X L B F ⟨some d,.call { callee:= .builtin .copy,args:= #[x,y],argTypes:= #[t,A] },ty,pos,ea,g⟩ (fun _:Unit=>(d,.int .i64 ((l.length-o:Nat):Int))::L) (fun _=>B') (fun _=>F):=by
 subst hm;subst ho'
 exact s.Rt i B' hB ho hroom hx hy ht hB' hd
theorem fh (v:Value)(i:Nat):ly (kI v i)=ly v:=by
 cases v <;> rfl
theorem Own.cap {base:Nat}{w:World}{v:Value}{l:List α}(h:Own base e w v l):l.length<=ly v:=by
 obtain ⟨A,c,rfl,h1,_⟩:=h.sl
 exact h1
theorem Wd.cap {w:World}(hw:Wd we X B F w)(i:Nat)(hB:B[i]? = some (ag.row e v l)):l.length<=ly v:=Own.cap (hw.b i hB)
theorem Wd.cL {w:World}(hw:Wd we X B F w)(i:Nat)(hB:B[i]? = some (ag.row e v l)):l.length<=9223372036854775807:=Sl.fA (Own.sl (hw.b i hB))
theorem Wd.cq {w:World}(hw:Wd we X B F w)(i:Nat)(hF:F[i]? = some (ag.ls v l)):l.length<=9223372036854775807:=Sl.fA (hw.bP i hF)
theorem Sl.one {w:World}{v:Value}{l:List α}(h:Sl w v l):v.oneCell'=true:=by
 obtain ⟨A,c,rfl,_⟩:=h;rfl
theorem Sl.cm {w:World}{v:Value}{l:List α}(h:Sl w v l):v.cells=[v].toArray:=by
 obtain ⟨A,c,rfl,_⟩:=h;rfl
theorem s.Ry {t:TypeId}{cs:List Value}(hx:ev L x=some v)(hv:∀w,Wd we X B F w->v.cells=cs.toArray)(hd:Nat.blt d n=true) :
 Stp P n we X L B F ⟨some d,.box t x,ty,pos,ea,g⟩ (fun b:Nat=>(d,.pointer (some ⟨b,0,none⟩))::L) (fun b=>ag.box b cs t::B) (fun _=>F):=by
 intro K Q' a w ha hw hK
 exact s.box hx (hv w hw) hd K Q' a w ha hw hK
theorem aP:∀u∈([]:List Value),u.oneCell'=true:=fun u hu=>by cases hu
theorem af {u:Value}{us:List Value}(h:u.oneCell'=true)(hs:∀q∈us,q.oneCell'=true):∀q∈u::us,q.oneCell'=true:=fun q hq=>(List.mem_cons.1 hq).elim (fun e=>e▸h) (hs q)
theorem s.fX {b o:Nat}{cs us cs':List Value}{t:TypeId}{u:Value}(i:Nat)(B':List ag)(hB:B[i]? = some (ag.box b cs t))(hx:ev L x=some (.pointer (some ⟨b,o,none⟩)))(hy:ev L y=some u)(hu:∀w,Wd we X B F w->u.cells=us.toArray)
 (ht:(nE P xT=some us.length∨kg P xT=true/\us.length=1)) (hone:∀w,Wd we X B F w -> ∀q∈us,q.oneCell'=true) (hcs:cs.take o++us++cs.drop (o+us.length)=cs') (hl:Nat.ble (o+us.length) cs.length=true) (hB':B.set i (ag.box b cs' t)=B') :
 Stp P n we X L B F ⟨none,.store xT x y,ty,pos,ea,g⟩ (fun _:Unit=>L) (fun _=>B') (fun _=>F):=by
 intro K Q' a w ha hw hK
 exact s.st i B' hB hx hy (hu w hw) ht (List.all_eq_true.2 (hone w hw)) hcs hl hB' K Q' a w ha hw hK
theorem s.stP {j o:Nat}{z z':α}{u:Value}{us:List Value}(i:Nat)(B':List ag)(hB:B[i]? = some (ag.row e v l))(hj:l[j]? = some z')(hx:ev L x=some (ep v j (Enc.k α) o))(hy:ev L y=some u)(hu:u.cells=us.toArray)(Ro:Enc.cells z=(Enc.cells z').take o++us++(Enc.cells z').drop (o+us.length))(hol:Nat.ble (o+us.length) (Enc.k α)=true)(h1:∀q∈us,q.oneCell'=true)
 (ht:(nE P xT=some us.length∨kg P xT=true/\us.length=1)) (hB':B.set i (ag.row e v (l.set j z))=B') :
 Stp P n we X L B F ⟨none,.store xT x y,ty,pos,ea,g⟩ (fun _:Unit=>L) (fun _=>B') (fun _=>F):=by
 intro K Q' a w ha hw hK
 have hjl:j<l.length:=(List.getElem?_eq_some_iff.1 hj).1
 have how:Own 0 e w v l:=hw.b i hB
 obtain ⟨gb,cap,cur,rfl,_,hgg,hnc,hcm,hcs,htk⟩:=how.parts (by omega)
 have Vn:o+us.length<=Enc.k α:=Nat.le_of_ble_eq_true hol
 have hjk:j*Enc.k α+Enc.k α<=l.length*Enc.k α:=by
  have:(j+1)*Enc.k α<=l.length*Enc.k α:=Nat.mul_le_mul_right _ hjl
  rw [Nat.add_mul] at this;omega
 have hlc:l.length*Enc.k α<=cap*Enc.k α:=Nat.mul_le_mul_right _ hnc
 have hsz:(sizeOf xT).run P w = .ok us.length w:=by
  rcases ht with h|⟨h,h'⟩
  .exact (vq (P:=P) w h).2
  .rw [h'];exact (vt (P:=P) w h).2
 have hst:=run_storeCells_at P gb (j*Enc.k α+o) e us 0 cur w hgg (by omega) h1
 have hrun:(execOp a.eval ⟨none,.store xT x y,ty,pos,ea,g⟩).run P w = .ok .skip (w.setRow gb (cur.toList.take (j*Enc.k α+o)++us++cur.toList.drop (j*Enc.k α+o+us.length)).toArray):=by
  simp only [execOp,ha.ev hx,ha.ev hy,ep,Instr.storeAt,Instr.sureAddr,storeVar,hu,Sem.run_bind,Sem.run_pure,Result.andThen_ok,hsz]
  simp only [List.size_toArray,ne_eq,not_true_eq_false,if_false,Nat.add_zero,Nat.zero_add] at hst ⊢
  simp only [hst,Result.andThen_ok]
 unfold Oper.wp
 rw [hrun,Oper.upon_skip]
 have hz:(l.flatMap Enc.cells).drop (j*Enc.k α)=Enc.cells z'++(l.flatMap Enc.cells).drop (j*Enc.k α+Enc.k α):=by
  have e1:l.drop j=z'::l.drop (j+1):=by
   rw [List.drop_eq_getElem_cons hjl];congr 1;exact (List.getElem?_eq_some_iff.1 hj).2
  rw [<- l6,e1,List.flatMap_cons,l6,Nat.add_mul,Nat.one_mul]
 have hzl:=Enc.len z'
 have hll:(l.set j z).length=l.length:=List.length_set
 have h3:(cur.toList.take (j*Enc.k α+o)).length=j*Enc.k α+o:=by rw [List.length_take];simp;omega
 have:=hw.rO (l':=l.set j z) (cs':=cur.toList.take (j*Enc.k α+o)++us++cur.toList.drop (j*Enc.k α+o+us.length)) hB hgg hcm hcs (by simp only [List.length_append,h3,List.length_drop];simp;omega) (by
  have hfl:=di l
  rw [hll,vY l j z hjl,sM _ _ _ _ (by omega) (by simp;omega),htk,Ro]
  have a1:(l.flatMap Enc.cells).take (j*Enc.k α+o)=(l.flatMap Enc.cells).take (j*Enc.k α)++(Enc.cells z').take o:=by
   rw [List.take_add,hz,List.take_append_of_le_length (by omega)]
  have a2:(l.flatMap Enc.cells).drop (j*Enc.k α+o+us.length)=(Enc.cells z').drop (o+us.length)++(l.flatMap Enc.cells).drop (j*Enc.k α+Enc.k α):=by
   rw [Nat.add_assoc,<- List.drop_drop,hz,List.drop_append_of_le_length (by omega)]
  rw [a1,a2];simp only [List.append_assoc]) (by omega)
 rw [hll] at this
 exact hK () _ _ (by simpa [Act.put] using ha) (hB'▸this)
end
section
variable {P:Program} {n:Nat} {we:World} {X:List Nat} {L:Fm} {B F B2 F2:List ag}
theorem s.pre {β:Type}{o:Oper}{L':β->Fm}{B' F':β->List ag}(hm:∀w,Wd we X B F w->Wd we X B2 F2 w)(h:Stp P n we X L B2 F2 o L' B' F'):Stp P n we X L B F o L' B' F' :=
 fun K Q' a w ha hw hK=>h K Q' a w ha (hm w hw) hK
theorem Wd.row0 {α:Type}[Enc α]{w:World}(hw:Wd we X B F w)(e:TypeId):Wd we X (ag.row e (.slice none 0 0) ([]:List α)::B) F w :=
 hw.new (r:=ag.row e (.slice none 0 0) ([]:List α)) (Own.nil 0 e w) (by simp [ag.row,dY]) (by simp [ag.row,dY])
end
end
section
open Go Go.RowKit
theorem Aq {n r:Int}(h:n=r/\0<=r/\r<=18446744073709551615):IntKind.u64.wrap n=r:=by
 obtain ⟨rfl,h1,h2⟩:=h
 have:IntKind.u64.wrap n=n % 18446744073709551616:=rfl
 rw [this];omega
theorem wh {n r:Int}(h:n=r/\0<=r/\r<=255):IntKind.u8.wrap n=r:=by
 obtain ⟨rfl,h1,h2⟩:=h
 have:IntKind.u8.wrap n=n % 256:=rfl
 rw [this];omega
theorem pP {n:Int}:IntKind.u8.wrap n=n % 256:=rfl
theorem G3 {m e D:Int}(h:e=D)(h0:0<=D):m.fdiv e=m / D:=by subst h;exact Int.fdiv_eq_ediv_of_nonneg m h0
theorem L6 {m D:Nat}{e:Int}(h:e=((D:Nat):Int)):((m:Nat):Int).fdiv e=((m / D:Nat):Int):=by
 subst h;rw [Int.fdiv_eq_ediv_of_nonneg _ (by omega)];rfl
section
variable {P:Program} {n:Nat} {we:World} {X:List Nat} {Q:Exit->Act->World->Prop} {k k':List It} {L:Fm} {B F:List ag} {ops rest:List Oper}
variable {dst:Option Nat} {d:Nat} {op:Op} {ty:TypeId} {pos:String} {ea:Array Edge} {g:Option (Nat×Bool)} {v:Value}
variable {x y z:Operand} {xT yT t e:TypeId} {kd Rp:IntKind} {α:Type} [Enc α] {l:List α}
theorem q.G4 {op:Op}{v v':Value}(h:v=v')(hq:Qt P n we X L B F op ty v):Qt P n we X L B F op ty v':=h▸hq
theorem q.iL {s:ByteArray}{m:Int}{i:Nat}{c:UInt8}(hx:ev L x=some (.string s))(hy:ev L y=some (.int kd m))(ht:P.underlying xT=some .string)(hm:m=(i:Int))(hi:s.data[i]? = some c) :
 Qt P n we X L B F (.index xT x y) ty (.int .u8 ((c.toNat:Nat):Int)):=fun _ _ _ _ a w ha hw=>by
 subst hm
 have hlt:i<s.size:=(Array.getElem?_eq_some_iff.1 hi).1
 have h2:s[i]=c:=(Array.getElem?_eq_some_iff.1 hi).2
 have:=run_index_string (P:=P) w xT s kd (i:Int) ht
 simp only [execOp,ha.ev hx,ha.ev hy]
 simp [Instr.index,run_underlying ht,asIntOf,hlt,h2]
theorem q.Cl {s:ByteArray}{m r:Int}{i j:Nat}(hx:ev L x=some (.string s))(hy:ev L y=some (.int kd m))(hz:ev L z=some (.int Rp r))(ht:P.underlying xT=some .string)(hm:m=(i:Int))(hr:r=(j:Int))(hij:i<=j)(hj:j<=s.size) :
 Qt P n we X L B F (.slice xT x (some y) (some z) none) ty (.string (s.extract i j)):=fun _ _ _ _ a w ha hw=>by
 subst hm;subst hr
 have e:(Instr.slice xT (.string s) (some (.int kd (i:Int))) (some (.int Rp (j:Int))) none).run P w = .ok (.string (s.extract i j)) w:=by
  have h1:(i:Int)<=(j:Int):=by omega
  have h2:(j:Int)<=(s.size:Int):=by omega
  simp [Instr.slice,run_underlying ht,Instr.sliceBounds,run_sliceBound,sliced, *]
 simp only [execOp,ha.ev hx,Option.map_some,Option.map_none,ha.ev hy,ha.ev hz,Sem.run_bind,run_sliceAt_string w xT _ _ _ _ ht,e,Result.andThen_ok,Sem.run_pure]
theorem q.Cm {s:ByteArray}{m:Int}{i:Nat}(hx:ev L x=some (.string s))(hy:ev L y=some (.int kd m))(ht:P.underlying xT=some .string)(hm:m=(i:Int))(hi:i<=s.size) :
 Qt P n we X L B F (.slice xT x (some y) none none) ty (.string (s.extract i s.size)):=fun _ _ _ _ a w ha hw=>by
 subst hm
 have e:=run_slice_string_l (P:=P) w xT s ht kd (i:Int) (by omega) (by omega)
 simp only [Int.toNat_natCast] at e
 simp only [execOp,ha.ev hx,Option.map_some,Option.map_none,ha.ev hy,Sem.run_bind,run_sliceAt_string w xT _ _ _ _ ht,e,Result.andThen_ok,Sem.run_pure]
theorem q.Vo {s:ByteArray}{m:Int}{i:Nat}(hx:ev L x=some (.string s))(hy:ev L y=some (.int kd m))(ht:P.underlying xT=some .string)(hm:m=(i:Int))(hi:i<=s.size) :
 Qt P n we X L B F (.slice xT x none (some y) none) ty (.string (s.extract 0 i)):=fun _ _ _ _ a w ha hw=>by
 subst hm
 have e:=run_slice_string_h (P:=P) w xT s ht kd (i:Int) (by omega) (by omega)
 simp only [Int.toNat_natCast] at e
 simp only [execOp,ha.ev hx,Option.map_some,Option.map_none,ha.ev hy,Sem.run_bind,run_sliceAt_string w xT _ _ _ _ ht,e,Result.andThen_ok,Sem.run_pure]
def jA (a b:ByteArray):Bool:=Op.bytesLess a.toList b.toList
theorem q.L8 {a b:ByteArray}{r:Bool}(hx:ev L x=some (.string a))(hy:ev L y=some (.string b))(h:(jA a b||decide (a=b))=r):Qt P n we X L B F (.binOp .leq xT x y yT) ty (.bool r):=fun _ _ _ _ q w ha hw=>by
 subst h;simp only [execOp,ha.ev hx,ha.ev hy,binOp,Op.stringOp,eqGuard,jA,lw];simp
theorem wj {P:Program}{t pT:TypeId}(h:P.underlying t=some (.pointer pT)):P.underlying t=some (.pointer (P.pointee t)):=by
 simp [Program.pointee,h]
theorem q.OT {a:Option Addr}{pT:TypeId}(hx:ev L x=some (.pointer a))(hy:ev L y=some (.pointer none))(ht:P.underlying xT=some (.pointer pT)):Qt P n we X L B F (.binOp .eql xT x y yT) ty (.bool a.isNone):=fun _ _ _ _ q w ha hw=>by
 simp only [execOp,ha.ev hx,ha.ev hy,eqGuard_at_pointer,Sem.run_bind,Sem.run_pure,Result.andThen_ok,run_eql_pointer_nil w xT a (wj ht)]
theorem q.Rz {a:Option Addr}{pT:TypeId}(hx:ev L x=some (.pointer a))(hy:ev L y=some (.pointer none))(ht:P.underlying xT=some (.pointer pT)):Qt P n we X L B F (.binOp .neq xT x y yT) ty (.bool (!a.isNone)):=fun _ _ _ _ q w ha hw=>by
 simp only [execOp,ha.ev hx,ha.ev hy,eqGuard_at_pointer,Sem.run_bind,Sem.run_pure,Result.andThen_ok,run_neq_pointer_nil w xT a (wj ht)]
def px (v:Value):Bool:=match v with | .slice A _ _=>A.isNone|_=>true
theorem Sl.px {w:World}{v:Value}{l:List α}(h:Sl w v l)(hn:YtkbhcbipadkcaaaGreatDoor.px v=true):l=[]:=by
 obtain ⟨A,c,rfl,h1,h2,h3⟩:=h
 cases l with
 | nil=>rfl
 | cons x l =>
  obtain ⟨b,off,hA,_⟩:=h3 0 x rfl
  simp [YtkbhcbipadkcaaaGreatDoor.px,hA] at hn
theorem q.pd {c:Value}(hs:∀w,Wd we X B F w->Sl w v l)(hx:ev L x=some v)(hy:ev L (.const c)=some (.slice none 0 0))(ht:P.underlying xT=some (.slice e)):Qt P n we X L B F (.binOp .eql xT x (.const c) yT) ty (.bool (px v)):=fun _ _ _ _ q w ha hw=>by
 obtain ⟨A,cc,rfl,h1,h2,h3⟩:=hs w hw
 have hc:c = .slice none 0 0:=by simpa [YtkbhcbipadkcaaaGreatDoor.ev] using hy
 subst hc
 have he:(Op.equal xT (.slice A l.length cc) (.slice none 0 0)).run P w = .ok A.isNone w:=by
  show (Op.equalIn (9999+1) xT _ _).run P w=_
  unfold Op.equalIn
  cases A <;> simp [run_underlying ht]
 have hev:q.eval (.const (.slice none 0 0)) = .slice none 0 0:=rfl
 simp only [execOp,ha.ev hx,hev,eqGuard_at_slice,binOp,Sem.run_bind,Sem.run_pure,Result.andThen_ok,he,YtkbhcbipadkcaaaGreatDoor.px]
end
end
section
open Go Go.RowKit
structure eh where
  Kind:ByteArray
  S:ByteArray
  P:Place
  Q:Place
  A:Int
  B:Int
  N:Int
  K:Int
  ca:Option Addr
  cn:Nat
  cc:Nat
  Changes:List Change
abbrev eh.cv (x:eh):Value:= .slice x.ca x.cn x.cc
abbrev Eu (x:eh):List Value:=[.string x.Kind,.string x.S,.int .i64 x.P.aB,.int .i64 x.P.Slot,.int .i64 x.Q.aB,.int .i64 x.Q.Slot,.int .i64 x.A,.int .i64 x.B,.int .i64 x.N,.int .u64 x.K,x.cv]
abbrev eh.cs (x:eh):List Value:=[.string x.Kind,.string x.S,.int .i64 x.P.aB,.int .i64 x.P.Slot,.int .i64 x.Q.aB,.int .i64 x.Q.Slot,.int .i64 x.A,.int .i64 x.B,.int .i64 x.N,.int .u64 x.K,x.cv]
abbrev eh.val (x:eh):Value:= .agg #[.string x.Kind,.string x.S,.int .i64 x.P.aB,.int .i64 x.P.Slot,.int .i64 x.Q.aB,.int .i64 x.Q.Slot,.int .i64 x.A,.int .i64 x.B,.int .i64 x.N,.int .u64 x.K,x.cv]
instance:Enc eh:=⟨11,eh.cs,fun _=>rfl,fun x u hu=>by simp [eh.cs] at hu;rcases hu with rfl|rfl|rfl|rfl|rfl|rfl|rfl|rfl|rfl|rfl|rfl <;> rfl,by decide⟩
def ag.acts (l:List eh):ag:=⟨l.flatMap (fun x=>(ag.ls x.cv x.Changes).blk),fun w => ∀x∈l,Sl w x.cv x.Changes,fun w w' h hs x hx=>(ag.ls x.cv x.Changes).loc w w' (fun k hk=>h k (List.mem_flatMap.2 ⟨x,hx,hk⟩)) (hs x hx)⟩
theorem FR {w:World}{l:List eh}(h:∀x∈l,Sl w x.cv x.Changes):∀k∈(ag.acts l).blk,k<w.heap.size:=fun k hk=>by
 obtain ⟨x,hx,hk⟩:=List.mem_flatMap.1 hk
 exact NK (h x hx) k hk
theorem Wd.acts {we w:World}{X:List Nat}{B F:List ag}{l:List eh}(i:Nat)(h:F[i]? = some (ag.acts l))(hw:Wd we X B F w):∀x∈l,Sl w x.cv x.Changes:=hw.f i h
theorem Wd.RA {we w:World}{X:List Nat}{B F:List ag}{l:List eh}{x:eh}(i:Nat)(h:F[i]? = some (ag.acts l))(hx:x∈l)(hw:Wd we X B F w):Sl w x.cv x.Changes:=hw.f i h x hx
end
section
open Go.ChangeShapes Go.WideShapes Go.ChangeAt Go.RowKit Go.Deep
set_option maxRecDepth 100000
def Change.Fit (x:Change):Prop:=x.Key.size<=maxLen/\x.Val.size<=maxLen
def UD (n:Int):Prop:=0<=n/\n<=18446744073709551615
def eh.Fit (x:eh):Prop:=x.Kind.size<=maxLen/\x.S.size<=maxLen/\x.P.Fit/\x.Q.Fit/\FJ x.A/\FJ x.B/\FJ x.N/\UD x.K /\ ∀z∈x.Changes,z.Fit
section
variable {H:Type} {enc:TypeId×Value->H} {w:World} {base:Nat} {spare:Nat->Bool} {held:Bool}
theorem mX:Tryz.prog.cellsOf 9=1:=by kernel_rfl
theorem G5:Tryz.prog.cellsOf 4=1:=by kernel_rfl
theorem I0:Tryz.prog.cellsOf 33=1:=by kernel_rfl
theorem Cn:Tryz.prog.cellsOf 117=3:=by kernel_rfl
theorem Ar:Tryz.prog.cellsOf 34=1:=by kernel_rfl
theorem G6:Tryz.prog.cellsOf 36=11:=by kernel_rfl
theorem Au {m:Nat}{c:Value}{y:DataW H×List MemPlace}(h:DataW.trod enc Tryz.prog w base spare held m 9 [c]=some y):∃s,c = .string s/\s.size<=maxLen:=by
 obtain ⟨s,hs,_,hw⟩:=DataW.trod_string Tryz.underlying9 h
 injection hs with hs _
 exact ⟨s,hs,hw⟩
theorem L9 {m:Nat}{c:Value}{y:DataW H×List MemPlace}(h:DataW.trod enc Tryz.prog w base spare held m 4 [c]=some y):∃b,c = .bool b:=by
 obtain ⟨b,hs,_⟩:=DataW.trod_bool Tryz.underlying4 h
 injection hs with hs _
 exact ⟨b,hs⟩
theorem OU {m:Nat}{c:Value}{y:DataW H×List MemPlace}(h:DataW.trod enc Tryz.prog w base spare held m 33 [c]=some y):∃n,c = .int .u64 n/\UD n:=by
 obtain ⟨n,hn,_,hw⟩:=DataW.trod_int Tryz.underlying33 h
 injection hn with hn _
 exact ⟨n,hn,bounds_u64 hw⟩
theorem G7 {m:Nat}{cs:List Value}{y:DataW H×List MemPlace}(hl:cs.length=3)(h:DataW.trod enc Tryz.prog w base spare held m 117 cs=some y):∃z:Change,cs=Enc.cells z/\z.Fit:=by
 match cs,hl with
 | [c0,c1,c2],_ =>
  obtain ⟨xs,n,_,_,_,hlen,hf⟩:=DataW.trod_struct Tryz.underlying117 h
  match xs,hlen with
  | [y0,y1,y2],_ =>
   have g0:=gv hf 0 _ rfl 9 0 1 rfl rfl mX;have g1:=gv hf 1 _ rfl 9 1 1 rfl rfl mX;have g2:=gv hf 2 _ rfl 4 2 1 rfl rfl G5
   obtain ⟨n0,rfl,w0⟩:=Au (c:=c0) (by simpa using g0)
   obtain ⟨n1,rfl,w1⟩:=Au (c:=c1) (by simpa using g1)
   obtain ⟨n2,rfl⟩:=L9 (c:=c2) (by simpa using g2)
   exact ⟨⟨n0,n1,n2⟩,rfl,w0,w1⟩
theorem OV {m:Nat}{cs:List Value}{y:DataW H×List MemPlace}(hl:cs.length=11)(h:DataW.trod enc Tryz.prog w base spare held m 36 cs=some y):∃z:eh,cs=Enc.cells z/\(Sl w z.cv z.Changes/\z.Fit):=by
 match cs,hl with
 | [c0,c1,c2,c3,c4,c5,c6,c7,c8,c9,c10],_ =>
  obtain ⟨xs,n,_,_,_,hlen,hf⟩:=DataW.trod_struct Tryz.underlying36 h
  match xs,hlen with
  | [y0,y1,y2,y3,y4,y5,y6,y7,y8],_ =>
   have g0:=gv hf 0 _ rfl 9 0 1 rfl rfl mX;have g1:=gv hf 1 _ rfl 9 1 1 rfl rfl mX
   have g2:=gv hf 2 _ rfl 32 2 2 rfl rfl vO;have g3:=gv hf 3 _ rfl 32 4 2 rfl rfl vO
   have g4:=gv hf 4 _ rfl 3 6 1 rfl rfl pG;have g5:=gv hf 5 _ rfl 3 7 1 rfl rfl pG;have g6:=gv hf 6 _ rfl 3 8 1 rfl rfl pG
   have g7:=gv hf 7 _ rfl 33 9 1 rfl rfl I0;have g8:=gv hf 8 _ rfl 34 10 1 rfl rfl Ar
   obtain ⟨n0,rfl,w0⟩:=Au (c:=c0) (by simpa using g0)
   obtain ⟨n1,rfl,w1⟩:=Au (c:=c1) (by simpa using g1)
   obtain ⟨z0,e0,w2⟩:=Ce (cs:=[c2,c3]) rfl (by simpa using g2)
   simp only [List.cons.injEq,and_true] at e0
   obtain ⟨rfl,rfl⟩:=e0
   obtain ⟨z1,e1,w3⟩:=Ce (cs:=[c4,c5]) rfl (by simpa using g3)
   simp only [List.cons.injEq,and_true] at e1
   obtain ⟨rfl,rfl⟩:=e1
   obtain ⟨n4,rfl,w4⟩:=vN (c:=c6) (by simpa using g4)
   obtain ⟨n5,rfl,w5⟩:=vN (c:=c7) (by simpa using g5)
   obtain ⟨n6,rfl,w6⟩:=vN (c:=c8) (by simpa using g6)
   obtain ⟨n7,rfl,w7⟩:=OU (c:=c9) (by simpa using g7)
   obtain ⟨l,hs,hg⟩:=open_list (v:=c10) Tryz.underlying34 Cn Change.Fit (fun _ _ _ hl hy=>G7 hl hy) (by simpa using g8)
   have hs':=hs
   obtain ⟨A,c,rfl,_⟩:=hs
   exact ⟨⟨n0,n1,z0,z1,n4,n5,n6,n7,A,l.length,c,l⟩,rfl,hs',w0,w1,w2,w3,w4,w5,w6,w7,hg⟩
theorem I1 {r:Reach}{b0:Nat}{v:Value}{d:DataW H}{p:List MemPlace}(hv:Value.okWide Tryz.prog w r b0 22 v)(h:DataW.Trod enc Tryz.prog w base spare held 22 v d p):∃l:List eh,Sl w v l/\(∀z∈l,Sl w z.cv z.Changes) /\ ∀z∈l,z.Fit:=by
 obtain ⟨a,len,cap,rfl⟩:=okWide_slice Tryz.underlying22 hv
 obtain ⟨m,hm⟩:=h
 obtain ⟨l,h1,h2⟩:=open_list Tryz.underlying22 G6 (fun z:eh=>Sl w z.cv z.Changes/\z.Fit) (fun _ _ _ hl hy=>OV hl hy) hm
 exact ⟨l,h1,fun z hz=>(h2 z hz).1,fun z hz=>(h2 z hz).2⟩
end
end
end Go.Proofs.YtkbhcbipadkcaaaGreatDoor
