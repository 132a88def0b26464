import Derived.Test.YtkbhcbipadkcaaaGreatDoorTS4
import Derived.Shelf.Abstract
namespace Go.Proofs.YtkbhcbipadkcaaaGreatDoor
set_option linter.unusedVariables false
set_option linter.unusedSimpArgs false
set_option maxRecDepth 100000
set_option maxHeartbeats 90000000
section
open Go Go.RowKit
def ag.held (w0:World)(own:List Nat):ag:=⟨own,fun w => ∀k∈own,w.heap[k]? = w0.heap[k]?,fun w w' h ho k hk=>(h k hk).trans (ho k hk)⟩
theorem fR (B:List ag)(w:World)(own:List Nat):blks (B++[ag.held w own])=blks B++own:=by
 rw [aW];simp [blks,ag.held]
theorem Ex {F F0:List ag}{js:List Nat}(h:cZ F js=some F0):∀k∈blks F0,k∈blks F:=fun k hk=>by
 obtain ⟨r,hr,hk⟩:=bB.1 hk
 exact bB.2 ⟨r,nA h r hr,hk⟩
section
variable {we w w':World} {X:List Nat} {B0 Br B1 F F0 F1:List ag}
theorem Wd.Aj (hw:Wd we X (B0++Br) F w){js:List Nat}(hj:cZ F js=some F0):Wd w (blks B0++blks Br) (B0++[ag.held w (blks Br)]) F0 w:=by
 have hs:=hw.sep
 rw [aW] at hs
 refine ⟨lR.refl _ _,fun r hr=>?_,fun r hr=>hw.okF r (nA hj r hr),by rw [fR];exact hs,fun k hk=>?_,fun k hk=>?_⟩
 .
  rcases List.mem_append.1 hr with hr|hr
  .exact hw.okB r (List.mem_append.2 (.inl hr))
  .simp at hr;subst hr;exact fun k _=>rfl
 .
  rw [fR] at hk
  exact ⟨(hw.own k (by rw [aW];exact hk)).1,fun _=>hk⟩
 .
  rw [fR,<- aW]
  exact hw.mb k (Ex hj k hk)
theorem Wd.after (hw:Wd we X (B0++Br) F w)(hp:Wd w (blks B0++blks Br) (B1++[ag.held w (blks Br)]) F1 w'):Wd we X (B1++Br) (F1++F) w':=by
 have hout:∀k,k<w.heap.size->k∉blks (B0++Br)->w'.heap[k]? = w.heap[k]?:=fun k hk hn=>hp.upd.block k hk (by rw [<- aW];exact hn)
 have Rx:∀k∈blks Br,w'.heap[k]? = w.heap[k]?:=hp.okB (ag.held w (blks Br)) (List.mem_append.2 (.inr (List.mem_singleton.2 rfl)))
 have hsz:=hp.upd.size
 have hold:∀k∈blks B1,k<w.heap.size->k∈blks (B0++Br):=fun k hk hlt=>by
  rw [aW];exact (hp.own k (by rw [fR];exact List.mem_append.2 (.inl hk))).2 hlt
 refine ⟨⟨hp.upd.os.trans hw.upd.os,hp.upd.tape.trans hw.upd.tape,hp.upd.output.trans hw.upd.output,Nat.le_trans hw.upd.size hsz,fun k hk hx=>?_⟩,fun r hr=>?_,fun r hr=>?_,?_,fun k hk=>?_,fun k hk=>?_⟩
 .
  have hk2:k<w.heap.size:=Nat.lt_of_lt_of_le hk hw.upd.size
  exact (hout k hk2 (fun hb=>hx ((hw.own k hb).2 hk))).trans (hw.upd.block k hk hx)
 .
  rcases List.mem_append.1 hr with hr|hr
  .exact hp.okB r (List.mem_append.2 (.inl hr))
  .exact r.loc w w' (fun k hk=>Rx k (bB.2 ⟨r,hr,hk⟩)) (hw.okB r (List.mem_append.2 (.inr hr)))
 .
  rcases List.mem_append.1 hr with hr|hr
  .exact hp.okF r hr
  .
   refine r.loc w w' (fun k hk=>?_) (hw.okF r hr)
   have:=hw.mb k (bB.2 ⟨r,hr,hk⟩)
   exact hout k this.1 this.2
 .
  have:=hp.sep
  rw [fR] at this;rw [aW];exact this
 .
  rw [aW] at hk
  have h1:=hp.own k (by rw [fR];exact hk)
  refine ⟨h1.1,fun hlt=>?_⟩
  rcases List.mem_append.1 hk with hk|hk
  .exact (hw.own k (hold k hk (Nat.lt_of_lt_of_le hlt hw.upd.size))).2 hlt
  .exact (hw.own k (by rw [aW];exact List.mem_append.2 (.inr hk))).2 hlt
 .
  rw [aW] at hk
  rcases List.mem_append.1 hk with hk|hk
  .
   have:=hp.mb k hk
   rw [fR] at this;rw [aW];exact this
  .
   have:=hw.mb k hk
   refine ⟨Nat.lt_of_lt_of_le this.1 hsz,fun hb=>?_⟩
   rw [aW] at hb
   rcases List.mem_append.1 hb with hb|hb
   .exact this.2 (hold k hb this.1)
   .exact this.2 (by rw [aW];exact List.mem_append.2 (.inr hb))
end
abbrev HN (w:World)(own:List Nat)(B F:List ag):Prop:=Wd w (blks B++own) (B++[ag.held w own]) F w
abbrev RC {β:Type}{w:World}{own:List Nat}{B0 F0:List ag}(P:Program)(f:FuncId)(ar:Array Value)(_:HN w own B0 F0)(G:β->Value)(B1 F1:β->List ag):Prop:=Calls P f ar w fun e w' => ∃z,e = .returned (G z)/\Wd w (blks B0++own) (B1 z++[ag.held w own]) (F1 z) w'
section
variable {P:Program} {n:Nat} {we:World} {X:List Nat} {Q:Exit->Act->World->Prop} {k k':List It} {L:Fm} {B F:List ag} {ops rest:List Oper}
variable {dst:Option Nat} {d:Nat} {ty:TypeId} {pos:String} {eh:Array Edge} {g:Option (Nat×Bool)} {v:Value}
variable {x y:Operand} {xT yT t e:TypeId} {α:Type} [Enc α] {l:List α}
theorem s.aT {β:Type}{f:FuncId}{c:Operand}{xs:Array Operand}{ts:Array TypeId}{vs:List Value}{cap:Array Value}{B0 Br F0:List ag}(is js:List Nat)(G:β->Value)(B1 F1:β->List ag)(hp:cZ B is=some (B0++Br))(ha':ic is=true)(hj:cZ F js=some F0)
 (eg:∀args w,(callFunc f args).run P w = .ok (.enter f args) w) (hargs:evs L xs.toList=some vs) (hc:ev L c=some (.func (.func f) #[] cap))
 (hcall:∀w own,Wd we X B F w->Wd w (blks B0++own) (B0++[ag.held w own]) F0 w->Calls P f (vs++cap.toList).toArray w fun e w' => ∃z,e = .returned (G z)/\Wd w (blks B0++own) (B1 z++[ag.held w own]) (F1 z) w') (hd:Nat.blt d n=true) :
 Stp P n we X L B F ⟨some d,.call { callee:= .value c,args:=xs,argTypes:=ts },ty,pos,eh,g⟩ (fun z=>(d,G z)::L) (fun z=>B1 z++Br) (fun z=>F1 z++F):=by
 intro K Q' a w ha hw hK
 have hw2:=hw.LU is hp ha'
 unfold Oper.wp
 rw [pG ha hargs hc eg,Oper.upon_enter]
 refine (hcall w (blks Br) hw (hw2.Aj hj)).mono fun e w' he=>?_
 obtain ⟨z,rfl,ht⟩:=he
 exact hK z _ _ (ha.put d _ hd) (hw2.after ht)
theorem R.bF {f:FuncId}{fn:Func}{c:Code}{vs:List Value}{w:World}{R:Ending->World->Prop}(L:Fm)(hf:P.funcs[f]? = some fn)(hb:fn.body=some c)(hn:fn.ntmps=n)
 (hle:Nat.ble vs.length n=true) (hL:OE 0 vs=L) (h0:Wd w X B F w) (h:Run P n w X (bodyPost P fn R) [.c c] L B F):Calls P f vs.toArray w R:=by
 have hle':vs.length<=n:=Nat.le_of_ble_eq_true hle
 refine calls_of_wp hf hb<|wp_mono (h _ w ⟨?_,rfl,fun i v hv=>?_⟩ h0) (fun e a w q=>by cases e <;> exact q)
 .simp [hn];omega
 rw [<- hL] at hv
 obtain ⟨h1,h2⟩:=vS vs 0 i v hv
 simp only [Nat.sub_zero] at h2
 have hi:i<vs.length:=(List.getElem?_eq_some_iff.1 h2).1
 show (vs.toArray++Array.replicate (fn.ntmps-vs.toArray.size) undef)[i]? = some v
 rw [Array.getElem?_append_left (by simpa using hi)]
 simpa using h2
section
variable {fn:Func} {β:Type} {B1 F1:β->List ag} {V:β->Value} {r1 r2 r3 r4:ResultVar} {v1 v2 v3 v4:Value}
theorem R.w0 (z:β)(is js:List Nat)(h:norm 200 k=[] ∨ ∃k',norm 200 k = .c .ret::k')(hr:fn.results = #[])(hp:cZ B is=some (B1 z))(ha:ic is=true)(hj:cZ F js=some (F1 z))(e:V z = .tuple #[]):Run P n we X (bodyPost P fn fun en w' => ∃z,en = .returned (V z)/\Wd we X (B1 z) (F1 z) w') k L B F:=by
 rcases h with h|⟨k',h⟩
 .exact R.TW h hr fun w hw=>⟨z,by rw [e],hw.fB is js hp hj ha⟩
 .exact R.TX h hr fun w hw=>⟨z,by rw [e],hw.fB is js hp hj ha⟩
theorem R.w1 (z:β)(is js:List Nat)(h:norm 200 k = .c .ret::k')(hr:fn.results = #[r1])(h1:RV P n we X L B F r1 v1)(hp:cZ B is=some (B1 z))(ha:ic is=true)(hj:cZ F js=some (F1 z))(e:v1=V z):Run P n we X (bodyPost P fn fun en w' => ∃z,en = .returned (V z)/\Wd we X (B1 z) (F1 z) w') k L B F :=
 R.Rl h hr h1 fun w hw=>⟨z,by rw [e],hw.fB is js hp hj ha⟩
theorem R.w2 (z:β)(is js:List Nat)(h:norm 200 k = .c .ret::k')(hr:fn.results = #[r1,r2])(h1:RV P n we X L B F r1 v1)(h2:RV P n we X L B F r2 v2)(hp:cZ B is=some (B1 z))(ha:ic is=true)(hj:cZ F js=some (F1 z))(e : .tuple #[v1,v2]=V z):Run P n we X (bodyPost P fn fun en w' => ∃z,en = .returned (V z)/\Wd we X (B1 z) (F1 z) w') k L B F :=
 R.NH h hr h1 h2 fun w hw=>⟨z,by rw [e],hw.fB is js hp hj ha⟩
theorem R.w3 (z:β)(is js:List Nat)(h:norm 200 k = .c .ret::k')(hr:fn.results = #[r1,r2,r3])(h1:RV P n we X L B F r1 v1)(h2:RV P n we X L B F r2 v2)(h3:RV P n we X L B F r3 v3)(hp:cZ B is=some (B1 z))(ha:ic is=true)(hj:cZ F js=some (F1 z))(e : .tuple #[v1,v2,v3]=V z):Run P n we X (bodyPost P fn fun en w' => ∃z,en = .returned (V z)/\Wd we X (B1 z) (F1 z) w') k L B F :=
 R.NI h hr h1 h2 h3 fun w hw=>⟨z,by rw [e],hw.fB is js hp hj ha⟩
theorem R.w4 (z:β)(is js:List Nat)(h:norm 200 k = .c .ret::k')(hr:fn.results = #[r1,r2,r3,r4])(h1:RV P n we X L B F r1 v1)(h2:RV P n we X L B F r2 v2)(h3:RV P n we X L B F r3 v3)(h4:RV P n we X L B F r4 v4)(hp:cZ B is=some (B1 z))(ha:ic is=true)(hj:cZ F js=some (F1 z))(e : .tuple #[v1,v2,v3,v4]=V z):Run P n we X (bodyPost P fn fun en w' => ∃z,en = .returned (V z)/\Wd we X (B1 z) (F1 z) w') k L B F :=
 R.Rm h hr h1 h2 h3 h4 fun w hw=>⟨z,by rw [e],hw.fB is js hp hj ha⟩
end
theorem Wd.vZ {w W:World}{r r':ag}(hw:Wd we X B F w)(i j:Nat)(hi:B[i]? = some r)(hj:B[j]? = some r')(hij:i≠j)(hu:lR (blks [r']) w W):r.ok W :=
 r.loc w W (fun k hk=>hu.block k (hw.own k (bB.2 ⟨r,List.mem_of_getElem? hi,hk⟩)).1 (fun hc=>iR hi hj hij hw.sep k hk (by simpa [blks] using hc))) (hw.b i hi)
theorem Wd.NL {w W:World}{r r':ag}(hw:Wd we X B F w)(i j:Nat)(hi:F[i]? = some r)(hj:B[j]? = some r')(hu:lR (blks [r']) w W):r.ok W :=
 r.loc w W (fun k hk=>by
  have:=hw.mb k (bB.2 ⟨r,List.mem_of_getElem? hi,hk⟩)
  exact hu.block k this.1 (fun hc=>this.2 (bB.2 ⟨r',List.mem_of_getElem? hj,by simpa [blks] using hc⟩))) (hw.f i hi)
theorem Wd.u6 {w:World}{K own:List Nat}(hw:Wd we (K++own) B F w)(i:Nat)(hi:B[i]? = some (ag.held we own)):lR K we w :=
 ⟨hw.upd.os,hw.upd.tape,hw.upd.output,hw.upd.size,fun k hk hn=>by
  by_cases ho:k∈own
  .exact hw.b i hi k ho
  .exact hw.upd.block k hk (fun h=>(List.mem_append.1 h).elim hn ho)⟩
theorem I1 {v:Value}{l:List α}:∀k∈(ag.ls v l).blk,k∈dW v:=fun k hk=>by
 unfold ag.ls at hk
 dsimp only at hk
 split at hk
 .cases hk
 .exact hk
theorem Wd.cW {w:World}(hw:Wd we X B F w)(i:Nat)(B':List ag)(hB:B[i]? = some (ag.row e v l))(hB':B.eraseIdx i=B'):Wd we X B' (ag.ls v l::F) w:=by
 subst hB'
 have how:Own 0 e w v l:=hw.b i hB
 have hi:i<B.length:=(List.getElem?_eq_some_iff.1 hB).1
 have hsub:(B.eraseIdx i).Sublist B:=List.eraseIdx_sublist B i
 have hbs:(blks (B.eraseIdx i)).Sublist (blks B):=sE hsub
 have hmem:∀k∈dW v,k∈blks B:=fun k hk=>bB.2 ⟨_,List.mem_of_getElem? hB,hk⟩
 have hnot:∀k∈dW v,k∉blks (B.eraseIdx i):=fun k hk hb=>by
  obtain ⟨r,hr,hkr⟩:=bB.1 hb
  obtain ⟨j,hj⟩:=List.mem_iff_getElem?.1 hr
  rw [List.getElem?_eraseIdx] at hj
  split at hj
  .exact iR hB hj (by omega) hw.sep k hk hkr
  .exact iR hB hj (by omega) hw.sep k hk hkr
 refine ⟨hw.upd,fun r hr=>hw.okB r (hsub.subset hr),fun r hr=>(List.mem_cons.1 hr).elim (fun e=>e▸how.sl) (hw.okF r),hbs.nodup hw.sep,fun k hk=>hw.own k (hbs.subset hk),fun k hk=>?_⟩
 rcases List.mem_append.1 hk with hk|hk
 .
  have hk':=I1 k hk
  exact ⟨(hw.own k (hmem k hk')).1,hnot k hk'⟩
 .exact ⟨(hw.mb k hk).1,fun h=>(hw.mb k hk).2 (hbs.subset h)⟩
theorem Wd.Ry {w:World}(hw:Wd we X B F w)(j:Nat)(r r':ag)(hF:F[j]? = some r)(hs:∀k∈r'.blk,k∈r.blk)(hr:r'.ok w):Wd we X B (r'::F) w :=
 hw.fact hr fun k hk=>hw.mb k (bB.2 ⟨r,List.mem_of_getElem? hF,hs k hk⟩)
theorem Wd.bg {w:World}(hw:Wd we X B F w):Wd we X B (ag.ls (α:=α) (.slice none 0 0) []::F) w:=hw.fact (Sl.nil w) (by simp [ag.ls])
theorem R.mp {B' F':List ag}(hm:∀w,Wd we X B F w->Wd we X B' F' w)(h:Run P n we X Q k L B' F'):Run P n we X Q k L B F:=fun a w ha hw=>h a w ha (hm w hw)
theorem Rg.mp {B' F':List ag}(hm:∀w,Wd we X B F w->Wd we X B' F' w)(h:Rg P n we X Q ops rest k L B' F'):Rg P n we X Q ops rest k L B F:=fun a w ha hw=>h a w ha (hm w hw)
theorem R.pK (hs:Sl we v l)(h:Run P n we [] Q k L B (ag.ls v l::F)):Run P n we [] Q k L B F:=R.nC (r:=ag.ls v l) hs (NK hs) h
theorem q.nh {m:Int}{i kk q:Nat}{kd:IntKind}(hs:∀w,Wd we X B F w->Sl w v l)(hx:ev L x=some (YtkbhcbipadkcaaaGreatDoor.kG v q))(hy:ev L y=some (.int kd m))(ht:o9 P xT=some (e,kk))(hm:m=(i:Int))(hi:i<=q)(hq:q<=lz v) :
 Qt P n we X L B F (.slice xT x (some y) none none) ty (YtkbhcbipadkcaaaGreatDoor.dA (YtkbhcbipadkcaaaGreatDoor.kG v q) i kk):=fun _ _ _ _ a w ha hw=>by
 obtain ⟨A,c,rfl,h1,h2,h3⟩:=hs w hw
 obtain ⟨hu,hz⟩:=eR (P:=P) w ht
 subst hm
 simp only [lz] at hq
 have hx':ev L x=some (.slice A q c):=hx
 simp only [execOp,ha.ev hx',Option.map_some,Option.map_none,ha.ev hy,Instr.sliceAt,Sem.run_bind,run_underlying hu,Result.andThen_ok,Instr.slice,Instr.sliceBounds,Instr.sliceBound,asIntOf,Sem.run_pure]
 rw [if_pos ⟨by omega,by omega⟩]
 simp [hz,YtkbhcbipadkcaaaGreatDoor.dA,YtkbhcbipadkcaaaGreatDoor.kG]
theorem s.yY {lo hi:Nat}{z0:α}{z:Value}(i:Nat)(hB:B[i]? = some (ag.row e v l))(hx:ev L x=some (sl2 v lo hi (Enc.k α)))(ht:o9 P t=some (e,Enc.k α))(hz:gi P e=some z)(hzs:z.cells=(Enc.cells z0).toArray)(hlo:l.length<=lo)(hh:lo<=hi)(hhi:hi<=lz v) :
 Stp P n we X L B F ⟨none,.call { callee:= .builtin .clear,args:= #[x],argTypes:= #[t] },ty,pos,eh,g⟩ (fun _:Unit=>L) (fun _=>B) (fun _=>F) :=
 s.T7 (kk:=0) i hB hx ht (by rw [hz];rfl) (fun z' h=>by
  rw [hz] at h;injection h with h;subst h
  rw [hzs];exact ⟨by simpa using Enc.len z0,fun u hu=>Enc.one z0 u (by simpa using hu)⟩) hlo hh hhi
theorem s.Ak {o o' m:Nat}{A:TypeId}(i:Nat)(B':List ag)(hB:B[i]? = some (ag.row e v l))(ho:o<l.length)(hm:m=l.length+1)(ho':o'=o+1)(hroom:l.length+1<=lz v)(hx:ev L x=some (dA (kG v m) o' (Enc.k α)))(hy:ev L y=some (dA (kG v m) o (Enc.k α)))(ht:o9 P t=some (e,Enc.k α))(hB':B.set i (ag.row e (kG v m) (l.take (o+1)++l.drop o))=B')(hd:Nat.blt d n=true) :
 Stp P n we X L B F ⟨some d,.call { callee:= .builtin .copy,args:= #[x,y],argTypes:= #[t,A] },ty,pos,eh,g⟩ (fun _:Unit=>(d,.int .i64 ((l.length-o:Nat):Int))::L) (fun _=>B') (fun _=>F):=by
 subst hm;subst ho'
 exact s.Ru i B' hB ho hroom hx hy ht hB' hd
theorem fe (v:Value)(i:Nat):lz (kG v i)=lz v:=by
 cases v <;> rfl
theorem Own.cap {base:Nat}{w:World}{v:Value}{l:List α}(h:Own base e w v l):l.length<=lz v:=by
 obtain ⟨A,c,rfl,h1,_⟩:=h.sl
 exact h1
theorem Wd.cap {w:World}(hw:Wd we X B F w)(i:Nat)(hB:B[i]? = some (ag.row e v l)):l.length<=lz v:=Own.cap (hw.b i hB)
theorem Wd.cE {w:World}(hw:Wd we X B F w)(i:Nat)(hB:B[i]? = some (ag.row e v l)):l.length<=9223372036854775807:=Sl.gW (Own.sl (hw.b i hB))
theorem Wd.cq {w:World}(hw:Wd we X B F w)(i:Nat)(hF:F[i]? = some (ag.ls v l)):l.length<=9223372036854775807:=Sl.gW (hw.bO i hF)
theorem Sl.one {w:World}{v:Value}{l:List α}(h:Sl w v l):v.oneCell'=true:=by
 obtain ⟨A,c,rfl,_⟩:=h;rfl
theorem Sl.cr {w:World}{v:Value}{l:List α}(h:Sl w v l):v.cells=[v].toArray:=by
 obtain ⟨A,c,rfl,_⟩:=h;rfl
theorem s.Rz {t:TypeId}{cs:List Value}(hx:ev L x=some v)(hv:∀w,Wd we X B F w->v.cells=cs.toArray)(hd:Nat.blt d n=true) :
 Stp P n we X L B F ⟨some d,.box t x,ty,pos,eh,g⟩ (fun b:Nat=>(d,.pointer (some ⟨b,0,none⟩))::L) (fun b=>ag.box b cs t::B) (fun _=>F):=by
 intro K Q' a w ha hw hK
 exact s.box hx (hv w hw) hd K Q' a w ha hw hK
theorem aO:∀u∈([]:List Value),u.oneCell'=true:=fun u hu=>by cases hu
theorem ae {u:Value}{us:List Value}(h:u.oneCell'=true)(hs:∀q∈us,q.oneCell'=true):∀q∈u::us,q.oneCell'=true:=fun q hq=>(List.mem_cons.1 hq).elim (fun e=>e▸h) (hs q)
theorem s.fP {b o:Nat}{cs us cs':List Value}{t:TypeId}{u:Value}(i:Nat)(B':List ag)(hB:B[i]? = some (ag.box b cs t))(hx:ev L x=some (.pointer (some ⟨b,o,none⟩)))(hy:ev L y=some u)(hu:∀w,Wd we X B F w->u.cells=us.toArray)
 (ht:(m8 P xT=some us.length∨j9 P xT=true/\us.length=1)) (hone:∀w,Wd we X B F w -> ∀q∈us,q.oneCell'=true) (hcs:cs.take o++us++cs.drop (o+us.length)=cs') (hl:Nat.ble (o+us.length) cs.length=true) (hB':B.set i (ag.box b cs' t)=B') :
 Stp P n we X L B F ⟨none,.store xT x y,ty,pos,eh,g⟩ (fun _:Unit=>L) (fun _=>B') (fun _=>F):=by
 intro K Q' a w ha hw hK
 exact s.st i B' hB hx hy (hu w hw) ht (List.all_eq_true.2 (hone w hw)) hcs hl hB' K Q' a w ha hw hK
theorem s.stP {j o:Nat}{z z':α}{u:Value}{us:List Value}(i:Nat)(B':List ag)(hB:B[i]? = some (ag.row e v l))(hj:l[j]? = some z')(hx:ev L x=some (ep v j (Enc.k α) o))(hy:ev L y=some u)(hu:u.cells=us.toArray)(Rp:Enc.cells z=(Enc.cells z').take o++us++(Enc.cells z').drop (o+us.length))(hol:Nat.ble (o+us.length) (Enc.k α)=true)(h1:∀q∈us,q.oneCell'=true)
 (ht:(m8 P xT=some us.length∨j9 P xT=true/\us.length=1)) (hB':B.set i (ag.row e v (l.set j z))=B') :
 Stp P n we X L B F ⟨none,.store xT x y,ty,pos,eh,g⟩ (fun _:Unit=>L) (fun _=>B') (fun _=>F):=by
 intro K Q' a w ha hw hK
 have hjl:j<l.length:=(List.getElem?_eq_some_iff.1 hj).1
 have how:Own 0 e w v l:=hw.b i hB
 obtain ⟨gb,cap,cur,rfl,_,hgg,hnc,hcm,hcs,htk⟩:=how.parts (by omega)
 have Vz:o+us.length<=Enc.k α:=Nat.le_of_ble_eq_true hol
 have hjk:j*Enc.k α+Enc.k α<=l.length*Enc.k α:=by
  have:(j+1)*Enc.k α<=l.length*Enc.k α:=Nat.mul_le_mul_right _ hjl
  rw [Nat.add_mul] at this;omega
 have hlc:l.length*Enc.k α<=cap*Enc.k α:=Nat.mul_le_mul_right _ hnc
 have hsz:(sizeOf xT).run P w = .ok us.length w:=by
  rcases ht with h|⟨h,h'⟩
  .exact (vu (P:=P) w h).2
  .rw [h'];exact (vv (P:=P) w h).2
 have hst:=run_storeCells_at P gb (j*Enc.k α+o) e us 0 cur w hgg (by omega) h1
 have hrun:(execOp a.eval ⟨none,.store xT x y,ty,pos,eh,g⟩).run P w = .ok .skip (w.setRow gb (cur.toList.take (j*Enc.k α+o)++us++cur.toList.drop (j*Enc.k α+o+us.length)).toArray):=by
  simp only [execOp,ha.ev hx,ha.ev hy,ep,Instr.storeAt,Instr.sureAddr,storeVar,hu,Sem.run_bind,Sem.run_pure,Result.andThen_ok,hsz]
  simp only [List.size_toArray,ne_eq,not_true_eq_false,if_false,Nat.add_zero,Nat.zero_add] at hst ⊢
  simp only [hst,Result.andThen_ok]
 unfold Oper.wp
 rw [hrun,Oper.upon_skip]
 have hz:(l.flatMap Enc.cells).drop (j*Enc.k α)=Enc.cells z'++(l.flatMap Enc.cells).drop (j*Enc.k α+Enc.k α):=by
  have e1:l.drop j=z'::l.drop (j+1):=by
   rw [List.drop_eq_getElem_cons hjl];congr 1;exact (List.getElem?_eq_some_iff.1 hj).2
  rw [<- lZ,e1,List.flatMap_cons,lZ,Nat.add_mul,Nat.one_mul]
 have hzl:=Enc.len z'
 have hll:(l.set j z).length=l.length:=List.length_set
 have h3:(cur.toList.take (j*Enc.k α+o)).length=j*Enc.k α+o:=by rw [List.length_take];simp;omega
 have:=hw.rH (l':=l.set j z) (cs':=cur.toList.take (j*Enc.k α+o)++us++cur.toList.drop (j*Enc.k α+o+us.length)) hB hgg hcm hcs (by simp only [List.length_append,h3,List.length_drop];simp;omega) (by
  have hfl:=di l
  rw [hll,vY l j z hjl,sI _ _ _ _ (by omega) (by simp;omega),htk,Rp]
  have a1:(l.flatMap Enc.cells).take (j*Enc.k α+o)=(l.flatMap Enc.cells).take (j*Enc.k α)++(Enc.cells z').take o:=by
   rw [List.take_add,hz,List.take_append_of_le_length (by omega)]
  have a2:(l.flatMap Enc.cells).drop (j*Enc.k α+o+us.length)=(Enc.cells z').drop (o+us.length)++(l.flatMap Enc.cells).drop (j*Enc.k α+Enc.k α):=by
   rw [Nat.add_assoc,<- List.drop_drop,hz,List.drop_append_of_le_length (by omega)]
  rw [a1,a2];simp only [List.append_assoc]) (by omega)
 rw [hll] at this
 exact hK () _ _ (by simpa [Act.put] using ha) (hB'▸this)
end
section
variable {P:Program} {n:Nat} {we:World} {X:List Nat} {L:Fm} {B F B2 F2:List ag}
theorem s.pre {β:Type}{o:Oper}{L':β->Fm}{B' F':β->List ag}(hm:∀w,Wd we X B F w->Wd we X B2 F2 w)(h:Stp P n we X L B2 F2 o L' B' F'):Stp P n we X L B F o L' B' F' :=
 fun K Q' a w ha hw hK=>h K Q' a w ha (hm w hw) hK
theorem Wd.row0 {α:Type}[Enc α]{w:World}(hw:Wd we X B F w)(e:TypeId):Wd we X (ag.row e (.slice none 0 0) ([]:List α)::B) F w :=
 hw.new (r:=ag.row e (.slice none 0 0) ([]:List α)) (Own.nil 0 e w) (by simp [ag.row,dW]) (by simp [ag.row,dW])
end
end
section
open Go Go.RowKit
theorem Al {n r:Int}(h:n=r/\0<=r/\r<=18446744073709551615):IntKind.u64.wrap n=r:=by
 obtain ⟨rfl,h1,h2⟩:=h
 have:IntKind.u64.wrap n=n % 18446744073709551616:=rfl
 rw [this];omega
theorem wh {n r:Int}(h:n=r/\0<=r/\r<=255):IntKind.u8.wrap n=r:=by
 obtain ⟨rfl,h1,h2⟩:=h
 have:IntKind.u8.wrap n=n % 256:=rfl
 rw [this];omega
theorem pL {n:Int}:IntKind.u8.wrap n=n % 256:=rfl
theorem G6 {m e D:Int}(h:e=D)(h0:0<=D):m.fdiv e=m / D:=by subst h;exact Int.fdiv_eq_ediv_of_nonneg m h0
theorem LX {m D:Nat}{e:Int}(h:e=((D:Nat):Int)):((m:Nat):Int).fdiv e=((m / D:Nat):Int):=by
 subst h;rw [Int.fdiv_eq_ediv_of_nonneg _ (by omega)];rfl
section
variable {P:Program} {n:Nat} {we:World} {X:List Nat} {Q:Exit->Act->World->Prop} {k k':List It} {L:Fm} {B F:List ag} {ops rest:List Oper}
variable {dst:Option Nat} {d:Nat} {op:Op} {ty:TypeId} {pos:String} {eh:Array Edge} {g:Option (Nat×Bool)} {v:Value}
variable {x y z:Operand} {xT yT t e:TypeId} {kd Rr:IntKind} {α:Type} [Enc α] {l:List α}
theorem q.G7 {op:Op}{v v':Value}(h:v=v')(hq:Qt P n we X L B F op ty v):Qt P n we X L B F op ty v':=h▸hq
theorem q.iK {s:ByteArray}{m:Int}{i:Nat}{c:UInt8}(hx:ev L x=some (.string s))(hy:ev L y=some (.int kd m))(ht:P.underlying xT=some .string)(hm:m=(i:Int))(hi:s.data[i]? = some c) :
 Qt P n we X L B F (.index xT x y) ty (.int .u8 ((c.toNat:Nat):Int)):=fun _ _ _ _ a w ha hw=>by
 subst hm
 have hlt:i<s.size:=(Array.getElem?_eq_some_iff.1 hi).1
 have h2:s[i]=c:=(Array.getElem?_eq_some_iff.1 hi).2
 have:=run_index_string (P:=P) w xT s kd (i:Int) ht
 simp only [execOp,ha.ev hx,ha.ev hy]
 simp [Instr.index,run_underlying ht,asIntOf,hlt,h2]
theorem q.Cp {s:ByteArray}{m r:Int}{i j:Nat}(hx:ev L x=some (.string s))(hy:ev L y=some (.int kd m))(hz:ev L z=some (.int Rr r))(ht:P.underlying xT=some .string)(hm:m=(i:Int))(hr:r=(j:Int))(hij:i<=j)(hj:j<=s.size) :
 Qt P n we X L B F (.slice xT x (some y) (some z) none) ty (.string (s.extract i j)):=fun _ _ _ _ a w ha hw=>by
 subst hm;subst hr
 have e:(Instr.slice xT (.string s) (some (.int kd (i:Int))) (some (.int Rr (j:Int))) none).run P w = .ok (.string (s.extract i j)) w:=by
  have h1:(i:Int)<=(j:Int):=by omega
  have h2:(j:Int)<=(s.size:Int):=by omega
  simp [Instr.slice,run_underlying ht,Instr.sliceBounds,run_sliceBound,sliced, *]
 simp only [execOp,ha.ev hx,Option.map_some,Option.map_none,ha.ev hy,ha.ev hz,Sem.run_bind,run_sliceAt_string w xT _ _ _ _ ht,e,Result.andThen_ok,Sem.run_pure]
theorem q.Cq {s:ByteArray}{m:Int}{i:Nat}(hx:ev L x=some (.string s))(hy:ev L y=some (.int kd m))(ht:P.underlying xT=some .string)(hm:m=(i:Int))(hi:i<=s.size) :
 Qt P n we X L B F (.slice xT x (some y) none none) ty (.string (s.extract i s.size)):=fun _ _ _ _ a w ha hw=>by
 subst hm
 have e:=run_slice_string_l (P:=P) w xT s ht kd (i:Int) (by omega) (by omega)
 simp only [Int.toNat_natCast] at e
 simp only [execOp,ha.ev hx,Option.map_some,Option.map_none,ha.ev hy,Sem.run_bind,run_sliceAt_string w xT _ _ _ _ ht,e,Result.andThen_ok,Sem.run_pure]
theorem q.VA {s:ByteArray}{m:Int}{i:Nat}(hx:ev L x=some (.string s))(hy:ev L y=some (.int kd m))(ht:P.underlying xT=some .string)(hm:m=(i:Int))(hi:i<=s.size) :
 Qt P n we X L B F (.slice xT x none (some y) none) ty (.string (s.extract 0 i)):=fun _ _ _ _ a w ha hw=>by
 subst hm
 have e:=run_slice_string_h (P:=P) w xT s ht kd (i:Int) (by omega) (by omega)
 simp only [Int.toNat_natCast] at e
 simp only [execOp,ha.ev hx,Option.map_some,Option.map_none,ha.ev hy,Sem.run_bind,run_sliceAt_string w xT _ _ _ _ ht,e,Result.andThen_ok,Sem.run_pure]
def jy (a b:ByteArray):Bool:=Op.bytesLess a.toList b.toList
theorem q.LY {a b:ByteArray}{r:Bool}(hx:ev L x=some (.string a))(hy:ev L y=some (.string b))(h:(jy a b||decide (a=b))=r):Qt P n we X L B F (.binOp .leq xT x y yT) ty (.bool r):=fun _ _ _ _ q w ha hw=>by
 subst h;simp only [execOp,ha.ev hx,ha.ev hy,binOp,Op.stringOp,eqGuard,jy,nB];simp
theorem wj {P:Program}{t pT:TypeId}(h:P.underlying t=some (.pointer pT)):P.underlying t=some (.pointer (P.pointee t)):=by
 simp [Program.pointee,h]
theorem q.OO {a:Option Addr}{pT:TypeId}(hx:ev L x=some (.pointer a))(hy:ev L y=some (.pointer none))(ht:P.underlying xT=some (.pointer pT)):Qt P n we X L B F (.binOp .eql xT x y yT) ty (.bool a.isNone):=fun _ _ _ _ q w ha hw=>by
 simp only [execOp,ha.ev hx,ha.ev hy,eqGuard_at_pointer,Sem.run_bind,Sem.run_pure,Result.andThen_ok,run_eql_pointer_nil w xT a (wj ht)]
theorem q.RA {a:Option Addr}{pT:TypeId}(hx:ev L x=some (.pointer a))(hy:ev L y=some (.pointer none))(ht:P.underlying xT=some (.pointer pT)):Qt P n we X L B F (.binOp .neq xT x y yT) ty (.bool (!a.isNone)):=fun _ _ _ _ q w ha hw=>by
 simp only [execOp,ha.ev hx,ha.ev hy,eqGuard_at_pointer,Sem.run_bind,Sem.run_pure,Result.andThen_ok,run_neq_pointer_nil w xT a (wj ht)]
def pb (v:Value):Bool:=match v with | .slice A _ _=>A.isNone|_=>true
theorem Sl.pb {w:World}{v:Value}{l:List α}(h:Sl w v l)(hn:YtkbhcbipadkcaaaGreatDoor.pb v=true):l=[]:=by
 obtain ⟨A,c,rfl,h1,h2,h3⟩:=h
 cases l with
 | nil=>rfl
 | cons x l =>
  obtain ⟨b,off,hA,_⟩:=h3 0 x rfl
  simp [YtkbhcbipadkcaaaGreatDoor.pb,hA] at hn
theorem q.oY {c:Value}(hs:∀w,Wd we X B F w->Sl w v l)(hx:ev L x=some v)(hy:ev L (.const c)=some (.slice none 0 0))(ht:P.underlying xT=some (.slice e)):Qt P n we X L B F (.binOp .eql xT x (.const c) yT) ty (.bool (pb v)):=fun _ _ _ _ q w ha hw=>by
 obtain ⟨A,cc,rfl,h1,h2,h3⟩:=hs w hw
 have hc:c = .slice none 0 0:=by simpa [YtkbhcbipadkcaaaGreatDoor.ev] using hy
 subst hc
 have he:(Op.equal xT (.slice A l.length cc) (.slice none 0 0)).run P w = .ok A.isNone w:=by
  show (Op.equalIn (9999+1) xT _ _).run P w=_
  unfold Op.equalIn
  cases A <;> simp [run_underlying ht]
 have hev:q.eval (.const (.slice none 0 0)) = .slice none 0 0:=rfl
 simp only [execOp,ha.ev hx,hev,eqGuard_at_slice,binOp,Sem.run_bind,Sem.run_pure,Result.andThen_ok,he,YtkbhcbipadkcaaaGreatDoor.pb]
end
end
section
open Go Go.RowKit
structure ft where
  Kind:ByteArray
  S:ByteArray
  P:Place
  Q:Place
  A:Int
  B:Int
  N:Int
  K:Int
  ca:Option Addr
  cn:Nat
  cc:Nat
  Changes:List Change
abbrev ft.cv (x:ft):Value:= .slice x.ca x.cn x.cc
abbrev Am (x:ft):List Value:=[.string x.Kind,.string x.S,.int .i64 x.P.aC,.int .i64 x.P.Slot,.int .i64 x.Q.aC,.int .i64 x.Q.Slot,.int .i64 x.A,.int .i64 x.B,.int .i64 x.N,.int .u64 x.K,x.cv]
abbrev ft.cs (x:ft):List Value:=[.string x.Kind,.string x.S,.int .i64 x.P.aC,.int .i64 x.P.Slot,.int .i64 x.Q.aC,.int .i64 x.Q.Slot,.int .i64 x.A,.int .i64 x.B,.int .i64 x.N,.int .u64 x.K,x.cv]
abbrev ft.val (x:ft):Value:= .agg #[.string x.Kind,.string x.S,.int .i64 x.P.aC,.int .i64 x.P.Slot,.int .i64 x.Q.aC,.int .i64 x.Q.Slot,.int .i64 x.A,.int .i64 x.B,.int .i64 x.N,.int .u64 x.K,x.cv]
instance:Enc ft:=⟨11,ft.cs,fun _=>rfl,fun x u hu=>by simp [ft.cs] at hu;rcases hu with rfl|rfl|rfl|rfl|rfl|rfl|rfl|rfl|rfl|rfl|rfl <;> rfl,by decide⟩
def ag.acts (l:List ft):ag:=⟨l.flatMap (fun x=>(ag.ls x.cv x.Changes).blk),fun w => ∀x∈l,Sl w x.cv x.Changes,fun w w' h hs x hx=>(ag.ls x.cv x.Changes).loc w w' (fun k hk=>h k (List.mem_flatMap.2 ⟨x,hx,hk⟩)) (hs x hx)⟩
theorem FZ {w:World}{l:List ft}(h:∀x∈l,Sl w x.cv x.Changes):∀k∈(ag.acts l).blk,k<w.heap.size:=fun k hk=>by
 obtain ⟨x,hx,hk⟩:=List.mem_flatMap.1 hk
 exact NK (h x hx) k hk
theorem Wd.acts {we w:World}{X:List Nat}{B F:List ag}{l:List ft}(i:Nat)(h:F[i]? = some (ag.acts l))(hw:Wd we X B F w):∀x∈l,Sl w x.cv x.Changes:=hw.f i h
theorem Wd.RD {we w:World}{X:List Nat}{B F:List ag}{l:List ft}{x:ft}(i:Nat)(h:F[i]? = some (ag.acts l))(hx:x∈l)(hw:Wd we X B F w):Sl w x.cv x.Changes:=hw.f i h x hx
end
section
open Go.ChangeShapes Go.WideShapes Go.ChangeAt Go.RowKit Go.Deep
def Change.Fit (x:Change):Prop:=x.Key.size<=maxLen/\x.Val.size<=maxLen
def UR (n:Int):Prop:=0<=n/\n<=18446744073709551615
def ft.Fit (x:ft):Prop:=x.Kind.size<=maxLen/\x.S.size<=maxLen/\x.P.Fit/\x.Q.Fit/\FN x.A/\FN x.B/\FN x.N/\UR x.K /\ ∀z∈x.Changes,z.Fit
section
variable {H:Type} {enc:TypeId×Value->H} {w:World} {base:Nat} {spare:Nat->Bool} {held:Bool}
theorem mP:Tryz.prog.cellsOf 9=1:=by kernel_rfl
theorem G8:Tryz.prog.cellsOf 4=1:=by kernel_rfl
theorem I2:Tryz.prog.cellsOf 33=1:=by kernel_rfl
theorem Cr:Tryz.prog.cellsOf 117=3:=by kernel_rfl
theorem Ao:Tryz.prog.cellsOf 34=1:=by kernel_rfl
theorem G9:Tryz.prog.cellsOf 36=11:=by kernel_rfl
theorem Ap {m:Nat}{c:Value}{y:DataW H×List MemPlace}(h:DataW.trod enc Tryz.prog w base spare held m 9 [c]=some y):∃s,c = .string s/\s.size<=maxLen:=by
 obtain ⟨s,hs,_,hw⟩:=DataW.trod_string Tryz.underlying9 h
 injection hs with hs _
 exact ⟨s,hs,hw⟩
theorem LZ {m:Nat}{c:Value}{y:DataW H×List MemPlace}(h:DataW.trod enc Tryz.prog w base spare held m 4 [c]=some y):∃b,c = .bool b:=by
 obtain ⟨b,hs,_⟩:=DataW.trod_bool Tryz.underlying4 h
 injection hs with hs _
 exact ⟨b,hs⟩
theorem OP {m:Nat}{c:Value}{y:DataW H×List MemPlace}(h:DataW.trod enc Tryz.prog w base spare held m 33 [c]=some y):∃n,c = .int .u64 n/\UR n:=by
 obtain ⟨n,hn,_,hw⟩:=DataW.trod_int Tryz.underlying33 h
 injection hn with hn _
 exact ⟨n,hn,bounds_u64 hw⟩
theorem Ha {m:Nat}{cs:List Value}{y:DataW H×List MemPlace}(hl:cs.length=3)(h:DataW.trod enc Tryz.prog w base spare held m 117 cs=some y):∃z:Change,cs=Enc.cells z/\z.Fit:=by
 match cs,hl with
 | [c0,c1,c2],_ =>
  obtain ⟨xs,n,_,_,_,hlen,hf⟩:=DataW.trod_struct Tryz.underlying117 h
  match xs,hlen with
  | [y0,y1,y2],_ =>
   have g0:=gw hf 0 _ rfl 9 0 1 rfl rfl mP;have g1:=gw hf 1 _ rfl 9 1 1 rfl rfl mP;have g2:=gw hf 2 _ rfl 4 2 1 rfl rfl G8
   obtain ⟨n0,rfl,w0⟩:=Ap (c:=c0) (by simpa using g0)
   obtain ⟨n1,rfl,w1⟩:=Ap (c:=c1) (by simpa using g1)
   obtain ⟨n2,rfl⟩:=LZ (c:=c2) (by simpa using g2)
   exact ⟨⟨n0,n1,n2⟩,rfl,w0,w1⟩
theorem OQ {m:Nat}{cs:List Value}{y:DataW H×List MemPlace}(hl:cs.length=11)(h:DataW.trod enc Tryz.prog w base spare held m 36 cs=some y):∃z:ft,cs=Enc.cells z/\(Sl w z.cv z.Changes/\z.Fit):=by
 match cs,hl with
 | [c0,c1,c2,c3,c4,c5,c6,c7,c8,c9,c10],_ =>
  obtain ⟨xs,n,_,_,_,hlen,hf⟩:=DataW.trod_struct Tryz.underlying36 h
  match xs,hlen with
  | [y0,y1,y2,y3,y4,y5,y6,y7,y8],_ =>
   have g0:=gw hf 0 _ rfl 9 0 1 rfl rfl mP;have g1:=gw hf 1 _ rfl 9 1 1 rfl rfl mP
   have g2:=gw hf 2 _ rfl 32 2 2 rfl rfl vR;have g3:=gw hf 3 _ rfl 32 4 2 rfl rfl vR
   have g4:=gw hf 4 _ rfl 3 6 1 rfl rfl pF;have g5:=gw hf 5 _ rfl 3 7 1 rfl rfl pF;have g6:=gw hf 6 _ rfl 3 8 1 rfl rfl pF
   have g7:=gw hf 7 _ rfl 33 9 1 rfl rfl I2;have g8:=gw hf 8 _ rfl 34 10 1 rfl rfl Ao
   obtain ⟨n0,rfl,w0⟩:=Ap (c:=c0) (by simpa using g0)
   obtain ⟨n1,rfl,w1⟩:=Ap (c:=c1) (by simpa using g1)
   obtain ⟨z0,e0,w2⟩:=Ck (cs:=[c2,c3]) rfl (by simpa using g2)
   simp only [List.cons.injEq,and_true] at e0
   obtain ⟨rfl,rfl⟩:=e0
   obtain ⟨z1,e1,w3⟩:=Ck (cs:=[c4,c5]) rfl (by simpa using g3)
   simp only [List.cons.injEq,and_true] at e1
   obtain ⟨rfl,rfl⟩:=e1
   obtain ⟨n4,rfl,w4⟩:=vQ (c:=c6) (by simpa using g4)
   obtain ⟨n5,rfl,w5⟩:=vQ (c:=c7) (by simpa using g5)
   obtain ⟨n6,rfl,w6⟩:=vQ (c:=c8) (by simpa using g6)
   obtain ⟨n7,rfl,w7⟩:=OP (c:=c9) (by simpa using g7)
   obtain ⟨l,hs,hg⟩:=open_list (v:=c10) Tryz.underlying34 Cr Change.Fit (fun _ _ _ hl hy=>Ha hl hy) (by simpa using g8)
   have hs':=hs
   obtain ⟨A,c,rfl,_⟩:=hs
   exact ⟨⟨n0,n1,z0,z1,n4,n5,n6,n7,A,l.length,c,l⟩,rfl,hs',w0,w1,w2,w3,w4,w5,w6,w7,hg⟩
theorem I3 {r:Reach}{b0:Nat}{v:Value}{d:DataW H}{p:List MemPlace}(hv:Value.okWide Tryz.prog w r b0 22 v)(h:DataW.Trod enc Tryz.prog w base spare held 22 v d p):∃l:List ft,Sl w v l/\(∀z∈l,Sl w z.cv z.Changes) /\ ∀z∈l,z.Fit:=by
 obtain ⟨a,len,cap,rfl⟩:=okWide_slice Tryz.underlying22 hv
 obtain ⟨m,hm⟩:=h
 obtain ⟨l,h1,h2⟩:=open_list Tryz.underlying22 G9 (fun z:ft=>Sl w z.cv z.Changes/\z.Fit) (fun _ _ _ hl hy=>OQ hl hy) hm
 exact ⟨l,h1,fun z hz=>(h2 z hz).1,fun z hz=>(h2 z hz).2⟩
end
end
section
open Go Go.RowKit
theorem mixed:Tryz.prog.follows .mixedOrders=true:=by kernel_rfl
theorem ap:j9 Tryz.prog 3=true:=by kernel_rfl
theorem lT:gi Tryz.prog 3=some (.int .i64 0):=by kernel_rfl
theorem ig:j9 Tryz.prog 4=true:=by kernel_rfl
theorem eB:gi Tryz.prog 5=some (.int .u8 0):=by kernel_rfl
theorem bG:j9 Tryz.prog 9=true:=by kernel_rfl
theorem F3:gi Tryz.prog 9=some (.string ⟨#[]⟩):=by kernel_rfl
theorem tF:o9 Tryz.prog 22=some (36,11):=by kernel_rfl
theorem jm:j9 Tryz.prog 25=true:=by kernel_rfl
theorem bP:m8 Tryz.prog 32=some 2:=by kernel_rfl
theorem wk:tB Tryz.prog 32=some ([(0,1),(1,1)],[.int .i64 0,.int .i64 0]):=by kernel_rfl
theorem fu:ez Tryz.prog 32 0=some 0:=by kernel_rfl
theorem nD:ez Tryz.prog 32 1=some 1:=by kernel_rfl
theorem Ct:gi Tryz.prog 32=some (.agg #[.int .i64 0,.int .i64 0]):=by kernel_rfl
theorem L5:j9 Tryz.prog 33=true:=by kernel_rfl
theorem bW:o9 Tryz.prog 34=some (117,3):=by kernel_rfl
theorem gx:j9 Tryz.prog 34=true:=by kernel_rfl
theorem I4:gi Tryz.prog 34=some (.slice none 0 0):=by kernel_rfl
theorem Aq:m8 Tryz.prog 36=some 11:=by kernel_rfl
theorem RE:tB Tryz.prog 36=some ([(0,1),(1,1),(2,2),(4,2),(6,1),(7,1),(8,1),(9,1),(10,1)],[.string ⟨#[]⟩,.string ⟨#[]⟩,.int .i64 0,.int .i64 0,.int .i64 0,.int .i64 0,.int .i64 0,.int .i64 0,.int .i64 0,.int .u64 0,.slice none 0 0]):=by kernel_rfl
theorem Hb:ez Tryz.prog 36 0=some 0:=by kernel_rfl
theorem tG:ez Tryz.prog 36 1=some 1:=by kernel_rfl
theorem j2:ez Tryz.prog 36 2=some 2:=by kernel_rfl
theorem Hc:ez Tryz.prog 36 3=some 4:=by kernel_rfl
theorem qu:ez Tryz.prog 36 4=some 6:=by kernel_rfl
theorem yZ:ez Tryz.prog 36 5=some 7:=by kernel_rfl
theorem He:ez Tryz.prog 36 6=some 8:=by kernel_rfl
theorem Hf:ez Tryz.prog 36 7=some 9:=by kernel_rfl
theorem Hg:ez Tryz.prog 36 8=some 10:=by kernel_rfl
theorem lp:j9 Tryz.prog 38=true:=by kernel_rfl
theorem I5:gi Tryz.prog 38=some (.nilIface):=by kernel_rfl
theorem vx:j9 Tryz.prog 39=true:=by kernel_rfl
theorem I6:gi Tryz.prog 39=some (.nilFunc):=by kernel_rfl
theorem eu:o9 Tryz.prog 43=some (127,5):=by kernel_rfl
theorem cd:j9 Tryz.prog 43=true:=by kernel_rfl
theorem kg:o9 Tryz.prog 44=some (100,3):=by kernel_rfl
theorem eQ:j9 Tryz.prog 44=true:=by kernel_rfl
theorem cK:o9 Tryz.prog 45=some (124,3):=by kernel_rfl
theorem dP:j9 Tryz.prog 45=true:=by kernel_rfl
theorem gJ:o9 Tryz.prog 46=some (89,4):=by kernel_rfl
theorem eC:j9 Tryz.prog 46=true:=by kernel_rfl
theorem aj:m8 Tryz.prog 48=some 6:=by kernel_rfl
theorem dY:tB Tryz.prog 48=some ([(0,1),(1,1),(2,1),(3,1),(4,1),(5,1)],[.slice none 0 0,.slice none 0 0,.slice none 0 0,.slice none 0 0,.int .i64 0,.int .i64 0]):=by kernel_rfl
theorem bq:ez Tryz.prog 48 0=some 0:=by kernel_rfl
theorem I7:T2 Tryz.prog 48 1=some (1,none):=by kernel_rfl
theorem du:ez Tryz.prog 48 1=some 1:=by kernel_rfl
theorem cM:ez Tryz.prog 48 2=some 2:=by kernel_rfl
theorem dv:ez Tryz.prog 48 3=some 3:=by kernel_rfl
theorem cO:ez Tryz.prog 48 4=some 4:=by kernel_rfl
theorem eI:ez Tryz.prog 48 5=some 5:=by kernel_rfl
theorem dq:gi Tryz.prog 48=some (.agg #[.slice none 0 0,.slice none 0 0,.slice none 0 0,.slice none 0 0,.int .i64 0,.int .i64 0]):=by kernel_rfl
theorem jo:j9 Tryz.prog 76=true:=by kernel_rfl
theorem RG:tB Tryz.prog 78=some ([(0,1),(1,6)],[.pointer none,.slice none 0 0,.slice none 0 0,.slice none 0 0,.slice none 0 0,.int .i64 0,.int .i64 0]):=by kernel_rfl
theorem Hh:ez Tryz.prog 78 0=some 0:=by kernel_rfl
theorem nE:ez Tryz.prog 78 1=some 1:=by kernel_rfl
theorem dG:m8 Tryz.prog 89=some 4:=by kernel_rfl
theorem F4:tB Tryz.prog 89=some ([(0,1),(1,1),(2,1),(3,1)],[.int .i64 0,.string ⟨#[]⟩,.int .i64 0,.int .i64 0]):=by kernel_rfl
theorem qv:ez Tryz.prog 89 0=some 0:=by kernel_rfl
theorem iG:ez Tryz.prog 89 3=some 3:=by kernel_rfl
theorem eS:gi Tryz.prog 89=some (.agg #[.int .i64 0,.string ⟨#[]⟩,.int .i64 0,.int .i64 0]):=by kernel_rfl
theorem br:Tryz.prog.concrete 93=true:=by kernel_rfl
theorem jE:m8 Tryz.prog 100=some 3:=by kernel_rfl
theorem Ey:tB Tryz.prog 100=some ([(0,1),(1,1),(2,1)],[.int .i64 0,.int .i64 0,.string ⟨#[]⟩]):=by kernel_rfl
theorem oo:ez Tryz.prog 100 0=some 0:=by kernel_rfl
theorem wm:ez Tryz.prog 100 1=some 1:=by kernel_rfl
theorem wn:ez Tryz.prog 100 2=some 2:=by kernel_rfl
theorem jq:gi Tryz.prog 100=some (.agg #[.int .i64 0,.int .i64 0,.string ⟨#[]⟩]):=by kernel_rfl
theorem fw:o9 Tryz.prog 109=some (9,1):=by kernel_rfl
theorem eD:j9 Tryz.prog 109=true:=by kernel_rfl
theorem oq:o9 Tryz.prog 110=some (114,2):=by kernel_rfl
theorem ff:j9 Tryz.prog 110=true:=by kernel_rfl
theorem OT:tB Tryz.prog 112=some ([(0,1),(1,1),(2,1),(3,1),(4,1)],[.slice none 0 0,.slice none 0 0,.slice none 0 0,.int .i64 0,.bool false]):=by kernel_rfl
theorem rJ:ez Tryz.prog 112 0=some 0:=by kernel_rfl
theorem ij:ez Tryz.prog 112 1=some 1:=by kernel_rfl
theorem eV:ez Tryz.prog 112 2=some 2:=by kernel_rfl
theorem jR:ez Tryz.prog 112 3=some 3:=by kernel_rfl
theorem im:ez Tryz.prog 112 4=some 4:=by kernel_rfl
theorem Cv:m8 Tryz.prog 114=some 2:=by kernel_rfl
theorem Ar:tB Tryz.prog 114=some ([(0,1),(1,1)],[.int .i64 0,.string ⟨#[]⟩]):=by kernel_rfl
theorem Ez:ez Tryz.prog 114 0=some 0:=by kernel_rfl
theorem EA:ez Tryz.prog 114 1=some 1:=by kernel_rfl
theorem kL:gi Tryz.prog 114=some (.agg #[.int .i64 0,.string ⟨#[]⟩]):=by kernel_rfl
theorem aX:m8 Tryz.prog 117=some 3:=by kernel_rfl
theorem kM:tB Tryz.prog 117=some ([(0,1),(1,1),(2,1)],[.string ⟨#[]⟩,.string ⟨#[]⟩,.bool false]):=by kernel_rfl
theorem bI:ez Tryz.prog 117 0=some 0:=by kernel_rfl
theorem cX:ez Tryz.prog 117 1=some 1:=by kernel_rfl
theorem gK:ez Tryz.prog 117 2=some 2:=by kernel_rfl
theorem cC:gi Tryz.prog 117=some (.agg #[.string ⟨#[]⟩,.string ⟨#[]⟩,.bool false]):=by kernel_rfl
theorem gy:m8 Tryz.prog 124=some 3:=by kernel_rfl
theorem I8:tB Tryz.prog 124=some ([(0,2),(2,1)],[.int .i64 0,.int .i64 0,.int .i64 0]):=by kernel_rfl
theorem rK:ez Tryz.prog 124 0=some 0:=by kernel_rfl
theorem jS:ez Tryz.prog 124 1=some 2:=by kernel_rfl
theorem gX:gi Tryz.prog 124=some (.agg #[.int .i64 0,.int .i64 0,.int .i64 0]):=by kernel_rfl
theorem aN:m8 Tryz.prog 127=some 5:=by kernel_rfl
theorem iT:tB Tryz.prog 127=some ([(0,1),(1,1),(2,1),(3,1),(4,1)],[.int .i64 0,.int .i64 0,.int .i64 0,.int .i64 0,.int .i64 0]):=by kernel_rfl
theorem bX:ez Tryz.prog 127 0=some 0:=by kernel_rfl
theorem fU:ez Tryz.prog 127 1=some 1:=by kernel_rfl
theorem jT:ez Tryz.prog 127 2=some 2:=by kernel_rfl
theorem iU:ez Tryz.prog 127 3=some 3:=by kernel_rfl
theorem eW:ez Tryz.prog 127 4=some 4:=by kernel_rfl
theorem bQ:gi Tryz.prog 127=some (.agg #[.int .i64 0,.int .i64 0,.int .i64 0,.int .i64 0,.int .i64 0]):=by kernel_rfl
theorem aU:m8 Tryz.prog 130=some 4:=by kernel_rfl
theorem eN:tB Tryz.prog 130=some ([(0,1),(1,1),(2,1),(3,1)],[.int .i64 0,.int .i64 0,.int .i64 0,.int .i64 0]):=by kernel_rfl
theorem iW:ez Tryz.prog 130 0=some 0:=by kernel_rfl
theorem iq:ez Tryz.prog 130 1=some 1:=by kernel_rfl
theorem jU:ez Tryz.prog 130 2=some 2:=by kernel_rfl
theorem iX:ez Tryz.prog 130 3=some 3:=by kernel_rfl
theorem jr:gi Tryz.prog 130=some (.agg #[.int .i64 0,.int .i64 0,.int .i64 0,.int .i64 0]):=by kernel_rfl
theorem fD:j9 Tryz.prog 131=true:=by kernel_rfl
theorem OU:tB Tryz.prog 133=some ([(0,1),(1,4),(5,1),(6,1)],[.pointer none,.int .i64 0,.int .i64 0,.int .i64 0,.int .i64 0,.pointer none,.slice none 0 0]):=by kernel_rfl
theorem jV:ez Tryz.prog 133 0=some 0:=by kernel_rfl
theorem gL:ez Tryz.prog 133 1=some 1:=by kernel_rfl
theorem kN:ez Tryz.prog 133 2=some 5:=by kernel_rfl
theorem iY:ez Tryz.prog 133 3=some 6:=by kernel_rfl
theorem aR:o9 Tryz.prog 138=some (5,1):=by kernel_rfl
theorem mg:j9 Tryz.prog 138=true:=by kernel_rfl
theorem F5:o9 Tryz.prog 141=some (34,1):=by kernel_rfl
theorem da:o9 Tryz.prog 159=some (3,1):=by kernel_rfl
theorem nF:j9 Tryz.prog 159=true:=by kernel_rfl
theorem y9:gi Tryz.prog 159=some (.slice none 0 0):=by kernel_rfl
theorem sJ:j9 Tryz.prog 192=true:=by kernel_rfl
theorem ot:ez Tryz.prog 194 0=some 0:=by kernel_rfl
theorem ou:ez Tryz.prog 194 1=some 1:=by kernel_rfl
theorem Hj:gi Tryz.prog 194=some (.agg #[.pointer none,.slice none 0 0]):=by kernel_rfl
theorem OV:tB Tryz.prog 198=some ([(0,1),(1,1),(2,1),(3,1),(4,1)],[.pointer none,.int .i64 0,.int .i64 0,.int .i64 0,.int .i64 0]):=by kernel_rfl
theorem kO:ez Tryz.prog 198 0=some 0:=by kernel_rfl
theorem ov:ez Tryz.prog 198 1=some 1:=by kernel_rfl
theorem rL:ez Tryz.prog 198 2=some 2:=by kernel_rfl
theorem jW:ez Tryz.prog 198 3=some 3:=by kernel_rfl
theorem jX:ez Tryz.prog 198 4=some 4:=by kernel_rfl
theorem sK:Cn Tryz.prog 230=true:=by kernel_rfl
theorem sL:o9 Tryz.prog 238=some (39,1):=by kernel_rfl
theorem jt:sD Tryz.prog 34 3=some (117,40):=by kernel_rfl
theorem Au:((Tryz.prog.info? 117).map (·.size)).isSome=true:=by kernel_rfl
theorem lq:sD Tryz.prog 43 5=some (127,40):=by kernel_rfl
theorem Av:((Tryz.prog.info? 127).map (·.size)).isSome=true:=by kernel_rfl
theorem sM:sD Tryz.prog 44 3=some (100,32):=by kernel_rfl
theorem L6:((Tryz.prog.info? 100).map (·.size)).isSome=true:=by kernel_rfl
theorem ow:sD Tryz.prog 45 3=some (124,24):=by kernel_rfl
theorem vy:((Tryz.prog.info? 124).map (·.size)).isSome=true:=by kernel_rfl
theorem ki:sD Tryz.prog 46 4=some (89,40):=by kernel_rfl
theorem F6:((Tryz.prog.info? 89).map (·.size)).isSome=true:=by kernel_rfl
theorem I9:sD Tryz.prog 109 1=some (9,16):=by kernel_rfl
theorem Cw:((Tryz.prog.info? 9).map (·.size)).isSome=true:=by kernel_rfl
theorem nG:sD Tryz.prog 110 2=some (114,24):=by kernel_rfl
theorem Ja:sD Tryz.prog 141 1=some (34,24):=by kernel_rfl
theorem nH:sD Tryz.prog 159 1=some (3,8):=by kernel_rfl
theorem RH:∀args w,(callFunc 9 args).run Tryz.prog w = .ok (.enter 9 args) w:=enters_of Tryz.func9 (by kernel_rfl) rfl
theorem NM:∀args w,(callFunc 10 args).run Tryz.prog w = .ok (.enter 10 args) w:=enters_of Tryz.func10 (by kernel_rfl) rfl
theorem Jb:∀args w,(callFunc 13 args).run Tryz.prog w = .ok (.enter 13 args) w:=enters_of Tryz.func13 (by kernel_rfl) rfl
theorem NN:∀args w,(callFunc 18 args).run Tryz.prog w = .ok (.enter 18 args) w:=enters_of Tryz.func18 (by kernel_rfl) rfl
theorem Jc:∀args w,(callFunc 20 args).run Tryz.prog w = .ok (.enter 20 args) w:=enters_of Tryz.func20 (by kernel_rfl) rfl
theorem RI:∀args w,(callFunc 21 args).run Tryz.prog w = .ok (.enter 21 args) w:=enters_of Tryz.func21 (by kernel_rfl) rfl
theorem RJ:∀args w,(callFunc 23 args).run Tryz.prog w = .ok (.enter 23 args) w:=enters_of Tryz.func23 (by kernel_rfl) rfl
theorem Jd:∀args w,(callFunc 24 args).run Tryz.prog w = .ok (.enter 24 args) w:=enters_of Tryz.func24 (by kernel_rfl) rfl
theorem RL:∀args w,(callFunc 26 args).run Tryz.prog w = .ok (.enter 26 args) w:=enters_of Tryz.func26 (by kernel_rfl) rfl
theorem RN:∀args w,(callFunc 27 args).run Tryz.prog w = .ok (.enter 27 args) w:=enters_of Tryz.func27 (by kernel_rfl) rfl
theorem za:∀args w,(callFunc 28 args).run Tryz.prog w = .ok (.enter 28 args) w:=enters_of Tryz.func28 (by kernel_rfl) rfl
theorem NP:∀args w,(callFunc 29 args).run Tryz.prog w = .ok (.enter 29 args) w:=enters_of Tryz.func29 (by kernel_rfl) rfl
theorem RO:∀args w,(callFunc 30 args).run Tryz.prog w = .ok (.enter 30 args) w:=enters_of Tryz.func30 (by kernel_rfl) rfl
theorem RP:∀args w,(callFunc 31 args).run Tryz.prog w = .ok (.enter 31 args) w:=enters_of Tryz.func31 (by kernel_rfl) rfl
theorem RQ:∀args w,(callFunc 35 args).run Tryz.prog w = .ok (.enter 35 args) w:=enters_of Tryz.func35 (by kernel_rfl) rfl
theorem NQ:∀args w,(callFunc 36 args).run Tryz.prog w = .ok (.enter 36 args) w:=enters_of Tryz.func36 (by kernel_rfl) rfl
theorem RR:∀args w,(callFunc 37 args).run Tryz.prog w = .ok (.enter 37 args) w:=enters_of Tryz.func37 (by kernel_rfl) rfl
theorem RS:∀args w,(callFunc 38 args).run Tryz.prog w = .ok (.enter 38 args) w:=enters_of Tryz.func38 (by kernel_rfl) rfl
theorem RU:∀args w,(callFunc 49 args).run Tryz.prog w = .ok (.enter 49 args) w:=enters_of Tryz.func49 (by kernel_rfl) rfl
theorem RX:∀args w,(callFunc 50 args).run Tryz.prog w = .ok (.enter 50 args) w:=enters_of Tryz.func50 (by kernel_rfl) rfl
theorem NR:∀args w,(callFunc 53 args).run Tryz.prog w = .ok (.enter 53 args) w:=enters_of Tryz.func53 (by kernel_rfl) rfl
theorem Je:∀args w,(callFunc 54 args).run Tryz.prog w = .ok (.enter 54 args) w:=enters_of Tryz.func54 (by kernel_rfl) rfl
theorem Jf:∀args w,(callFunc 55 args).run Tryz.prog w = .ok (.enter 55 args) w:=enters_of Tryz.func55 (by kernel_rfl) rfl
theorem RY:∀args w,(callFunc 56 args).run Tryz.prog w = .ok (.enter 56 args) w:=enters_of Tryz.func56 (by kernel_rfl) rfl
theorem RZ:∀args w,(callFunc 57 args).run Tryz.prog w = .ok (.enter 57 args) w:=enters_of Tryz.func57 (by kernel_rfl) rfl
theorem R0:∀args w,(callFunc 58 args).run Tryz.prog w = .ok (.enter 58 args) w:=enters_of Tryz.func58 (by kernel_rfl) rfl
theorem R1:∀args w,(callFunc 59 args).run Tryz.prog w = .ok (.enter 59 args) w:=enters_of Tryz.func59 (by kernel_rfl) rfl
theorem R2:∀args w,(callFunc 60 args).run Tryz.prog w = .ok (.enter 60 args) w:=enters_of Tryz.func60 (by kernel_rfl) rfl
theorem R3:∀args w,(callFunc 61 args).run Tryz.prog w = .ok (.enter 61 args) w:=enters_of Tryz.func61 (by kernel_rfl) rfl
theorem R4:∀args w,(callFunc 62 args).run Tryz.prog w = .ok (.enter 62 args) w:=enters_of Tryz.func62 (by kernel_rfl) rfl
theorem R5:∀args w,(callFunc 63 args).run Tryz.prog w = .ok (.enter 63 args) w:=enters_of Tryz.func63 (by kernel_rfl) rfl
theorem Cx:∀args w,(callFunc 64 args).run Tryz.prog w = .ok (.enter 64 args) w:=enters_of Tryz.func64 (by kernel_rfl) rfl
theorem NS:∀args w,(callFunc 65 args).run Tryz.prog w = .ok (.enter 65 args) w:=enters_of Tryz.func65 (by kernel_rfl) rfl
theorem R6:∀args w,(callFunc 66 args).run Tryz.prog w = .ok (.enter 66 args) w:=enters_of Tryz.func66 (by kernel_rfl) rfl
theorem Jg:∀args w,(callFunc 67 args).run Tryz.prog w = .ok (.enter 67 args) w:=enters_of Tryz.func67 (by kernel_rfl) rfl
theorem R7:∀args w,(callFunc 68 args).run Tryz.prog w = .ok (.enter 68 args) w:=enters_of Tryz.func68 (by kernel_rfl) rfl
theorem R8:∀args w,(callFunc 69 args).run Tryz.prog w = .ok (.enter 69 args) w:=enters_of Tryz.func69 (by kernel_rfl) rfl
theorem NT:∀args w,(callFunc 70 args).run Tryz.prog w = .ok (.enter 70 args) w:=enters_of Tryz.func70 (by kernel_rfl) rfl
theorem R9:∀args w,(callFunc 71 args).run Tryz.prog w = .ok (.enter 71 args) w:=enters_of Tryz.func71 (by kernel_rfl) rfl
theorem Sb:∀args w,(callFunc 76 args).run Tryz.prog w = .ok (.enter 76 args) w:=enters_of Tryz.func76 (by kernel_rfl) rfl
theorem NU:∀args w,(callFunc 77 args).run Tryz.prog w = .ok (.enter 77 args) w:=enters_of Tryz.func77 (by kernel_rfl) rfl
theorem Sc:∀args w,(callFunc 78 args).run Tryz.prog w = .ok (.enter 78 args) w:=enters_of Tryz.func78 (by kernel_rfl) rfl
theorem uA:∀args w,(callFunc 79 args).run Tryz.prog w = .ok (.enter 79 args) w:=enters_of Tryz.func79 (by kernel_rfl) rfl
theorem zb:∀args w,(callFunc 80 args).run Tryz.prog w = .ok (.enter 80 args) w:=enters_of Tryz.func80 (by kernel_rfl) rfl
theorem NV:∀args w,(callFunc 81 args).run Tryz.prog w = .ok (.enter 81 args) w:=enters_of Tryz.func81 (by kernel_rfl) rfl
theorem NW:∀args w,(callFunc 82 args).run Tryz.prog w = .ok (.enter 82 args) w:=enters_of Tryz.func82 (by kernel_rfl) rfl
theorem uB:∀args w,(callFunc 83 args).run Tryz.prog w = .ok (.enter 83 args) w:=enters_of Tryz.func83 (by kernel_rfl) rfl
theorem NY:∀args w,(callFunc 84 args).run Tryz.prog w = .ok (.enter 84 args) w:=enters_of Tryz.func84 (by kernel_rfl) rfl
theorem Jh:∀args w,(callFunc 85 args).run Tryz.prog w = .ok (.enter 85 args) w:=enters_of Tryz.func85 (by kernel_rfl) rfl
theorem Sd:∀args w,(callFunc 86 args).run Tryz.prog w = .ok (.enter 86 args) w:=enters_of Tryz.func86 (by kernel_rfl) rfl
theorem Se:∀args w,(callFunc 87 args).run Tryz.prog w = .ok (.enter 87 args) w:=enters_of Tryz.func87 (by kernel_rfl) rfl
theorem Ji:∀args w,(callFunc 88 args).run Tryz.prog w = .ok (.enter 88 args) w:=enters_of Tryz.func88 (by kernel_rfl) rfl
theorem F7:∀args w,(callFunc 89 args).run Tryz.prog w = .ok (.enter 89 args) w:=enters_of Tryz.func89 (by kernel_rfl) rfl
theorem Sf:∀args w,(callFunc 90 args).run Tryz.prog w = .ok (.enter 90 args) w:=enters_of Tryz.func90 (by kernel_rfl) rfl
theorem NZ:∀args w,(callFunc 91 args).run Tryz.prog w = .ok (.enter 91 args) w:=enters_of Tryz.func91 (by kernel_rfl) rfl
theorem OW:∀args w,(callFunc 104 args).run Tryz.prog w = .ok (.enter 104 args) w:=enters_of Tryz.func104 (by kernel_rfl) rfl
theorem wq:∀args w,(callFunc 105 args).run Tryz.prog w = .ok (.enter 105 args) w:=enters_of Tryz.func105 (by kernel_rfl) rfl
theorem wt:∀args w,(callFunc 106 args).run Tryz.prog w = .ok (.enter 106 args) w:=enters_of Tryz.func106 (by kernel_rfl) rfl
theorem EB:∀args w,(callFunc 107 args).run Tryz.prog w = .ok (.enter 107 args) w:=enters_of Tryz.func107 (by kernel_rfl) rfl
theorem ox:∀args w,(callFunc 108 args).run Tryz.prog w = .ok (.enter 108 args) w:=enters_of Tryz.func108 (by kernel_rfl) rfl
theorem lJ:∀args w,(callFunc 109 args).run Tryz.prog w = .ok (.enter 109 args) w:=enters_of Tryz.func109 (by kernel_rfl) rfl
theorem Jj:∀args w,(callFunc 110 args).run Tryz.prog w = .ok (.enter 110 args) w:=enters_of Tryz.func110 (by kernel_rfl) rfl
theorem OX:∀args w,(callFunc 111 args).run Tryz.prog w = .ok (.enter 111 args) w:=enters_of Tryz.func111 (by kernel_rfl) rfl
theorem OY:∀args w,(callFunc 112 args).run Tryz.prog w = .ok (.enter 112 args) w:=enters_of Tryz.func112 (by kernel_rfl) rfl
theorem pN:∀args w,(callFunc 113 args).run Tryz.prog w = .ok (.enter 113 args) w:=enters_of Tryz.func113 (by kernel_rfl) rfl
theorem OZ:∀args w,(callFunc 114 args).run Tryz.prog w = .ok (.enter 114 args) w:=enters_of Tryz.func114 (by kernel_rfl) rfl
theorem O0:∀args w,(callFunc 115 args).run Tryz.prog w = .ok (.enter 115 args) w:=enters_of Tryz.func115 (by kernel_rfl) rfl
theorem Aw:∀args w,(callFunc 116 args).run Tryz.prog w = .ok (.enter 116 args) w:=enters_of Tryz.func116 (by kernel_rfl) rfl
theorem wu:∀args w,(callFunc 117 args).run Tryz.prog w = .ok (.enter 117 args) w:=enters_of Tryz.func117 (by kernel_rfl) rfl
theorem tH:∀args w,(callFunc 118 args).run Tryz.prog w = .ok (.enter 118 args) w:=enters_of Tryz.func118 (by kernel_rfl) rfl
theorem pO:∀args w,(callFunc 119 args).run Tryz.prog w = .ok (.enter 119 args) w:=enters_of Tryz.func119 (by kernel_rfl) rfl
theorem wv:∀args w,(callFunc 120 args).run Tryz.prog w = .ok (.enter 120 args) w:=enters_of Tryz.func120 (by kernel_rfl) rfl
theorem tI:∀args w,(callFunc 121 args).run Tryz.prog w = .ok (.enter 121 args) w:=enters_of Tryz.func121 (by kernel_rfl) rfl
theorem O1:∀args w,(callFunc 122 args).run Tryz.prog w = .ok (.enter 122 args) w:=enters_of Tryz.func122 (by kernel_rfl) rfl
theorem O2:∀args w,(callFunc 123 args).run Tryz.prog w = .ok (.enter 123 args) w:=enters_of Tryz.func123 (by kernel_rfl) rfl
theorem O3:∀args w,(callFunc 124 args).run Tryz.prog w = .ok (.enter 124 args) w:=enters_of Tryz.func124 (by kernel_rfl) rfl
theorem EC:∀args w,(callFunc 125 args).run Tryz.prog w = .ok (.enter 125 args) w:=enters_of Tryz.func125 (by kernel_rfl) rfl
theorem Jk:∀args w,(callFunc 126 args).run Tryz.prog w = .ok (.enter 126 args) w:=enters_of Tryz.func126 (by kernel_rfl) rfl
theorem Jl:∀args w,(callFunc 127 args).run Tryz.prog w = .ok (.enter 127 args) w:=enters_of Tryz.func127 (by kernel_rfl) rfl
theorem O4:∀args w,(callFunc 128 args).run Tryz.prog w = .ok (.enter 128 args) w:=enters_of Tryz.func128 (by kernel_rfl) rfl
theorem Jm:∀args w,(callFunc 129 args).run Tryz.prog w = .ok (.enter 129 args) w:=enters_of Tryz.func129 (by kernel_rfl) rfl
theorem ED:∀args w,(callFunc 130 args).run Tryz.prog w = .ok (.enter 130 args) w:=enters_of Tryz.func130 (by kernel_rfl) rfl
theorem lK:∀args w,(callFunc 131 args).run Tryz.prog w = .ok (.enter 131 args) w:=enters_of Tryz.func131 (by kernel_rfl) rfl
theorem O5:∀args w,(callFunc 132 args).run Tryz.prog w = .ok (.enter 132 args) w:=enters_of Tryz.func132 (by kernel_rfl) rfl
theorem tJ:∀args w,(callFunc 133 args).run Tryz.prog w = .ok (.enter 133 args) w:=enters_of Tryz.func133 (by kernel_rfl) rfl
theorem EE:∀args w,(callFunc 134 args).run Tryz.prog w = .ok (.enter 134 args) w:=enters_of Tryz.func134 (by kernel_rfl) rfl
theorem Jn:∀args w,(callFunc 135 args).run Tryz.prog w = .ok (.enter 135 args) w:=enters_of Tryz.func135 (by kernel_rfl) rfl
theorem O6:∀args w,(callFunc 136 args).run Tryz.prog w = .ok (.enter 136 args) w:=enters_of Tryz.func136 (by kernel_rfl) rfl
theorem O7:∀args w,(callFunc 137 args).run Tryz.prog w = .ok (.enter 137 args) w:=enters_of Tryz.func137 (by kernel_rfl) rfl
theorem O8:∀args w,(callFunc 138 args).run Tryz.prog w = .ok (.enter 138 args) w:=enters_of Tryz.func138 (by kernel_rfl) rfl
theorem Jo:∀args w,(callFunc 139 args).run Tryz.prog w = .ok (.enter 139 args) w:=enters_of Tryz.func139 (by kernel_rfl) rfl
theorem Ax:∀args w,(callFunc 140 args).run Tryz.prog w = .ok (.enter 140 args) w:=enters_of Tryz.func140 (by kernel_rfl) rfl
theorem O9:∀args w,(callFunc 141 args).run Tryz.prog w = .ok (.enter 141 args) w:=enters_of Tryz.func141 (by kernel_rfl) rfl
theorem fy:∀args w,(callFunc 142 args).run Tryz.prog w = .ok (.enter 142 args) w:=enters_of Tryz.func142 (by kernel_rfl) rfl
theorem Pb:∀args w,(callFunc 143 args).run Tryz.prog w = .ok (.enter 143 args) w:=enters_of Tryz.func143 (by kernel_rfl) rfl
theorem kj:∀args w,(callFunc 144 args).run Tryz.prog w = .ok (.enter 144 args) w:=enters_of Tryz.func144 (by kernel_rfl) rfl
theorem wA:∀args w,(callFunc 145 args).run Tryz.prog w = .ok (.enter 145 args) w:=enters_of Tryz.func145 (by kernel_rfl) rfl
theorem Pd:∀args w,(callFunc 146 args).run Tryz.prog w = .ok (.enter 146 args) w:=enters_of Tryz.func146 (by kernel_rfl) rfl
theorem Jp:∀args w,(callFunc 147 args).run Tryz.prog w = .ok (.enter 147 args) w:=enters_of Tryz.func147 (by kernel_rfl) rfl
theorem Pe:∀args w,(callFunc 148 args).run Tryz.prog w = .ok (.enter 148 args) w:=enters_of Tryz.func148 (by kernel_rfl) rfl
theorem Pf:∀args w,(callFunc 149 args).run Tryz.prog w = .ok (.enter 149 args) w:=enters_of Tryz.func149 (by kernel_rfl) rfl
theorem wB:∀args w,(callFunc 150 args).run Tryz.prog w = .ok (.enter 150 args) w:=enters_of Tryz.func150 (by kernel_rfl) rfl
theorem Ay:∀args w,(callFunc 151 args).run Tryz.prog w = .ok (.enter 151 args) w:=enters_of Tryz.func151 (by kernel_rfl) rfl
theorem Pg:∀args w,(callFunc 152 args).run Tryz.prog w = .ok (.enter 152 args) w:=enters_of Tryz.func152 (by kernel_rfl) rfl
theorem Jq:∀args w,(callFunc 153 args).run Tryz.prog w = .ok (.enter 153 args) w:=enters_of Tryz.func153 (by kernel_rfl) rfl
theorem Az:∀args w,(callFunc 159 args).run Tryz.prog w = .ok (.enter 159 args) w:=enters_of Tryz.func159 (by kernel_rfl) rfl
theorem Ph:∀args w,(callFunc 160 args).run Tryz.prog w = .ok (.enter 160 args) w:=enters_of Tryz.func160 (by kernel_rfl) rfl
theorem EF:∀args w,(callFunc 162 args).run Tryz.prog w = .ok (.enter 162 args) w:=enters_of Tryz.func162 (by kernel_rfl) rfl
theorem Pj:∀args w,(callFunc 163 args).run Tryz.prog w = .ok (.enter 163 args) w:=enters_of Tryz.func163 (by kernel_rfl) rfl
theorem Pk:∀args w,(callFunc 164 args).run Tryz.prog w = .ok (.enter 164 args) w:=enters_of Tryz.func164 (by kernel_rfl) rfl
theorem Pm:∀args w,(callFunc 165 args).run Tryz.prog w = .ok (.enter 165 args) w:=enters_of Tryz.func165 (by kernel_rfl) rfl
theorem AA:∀args w,(callFunc 166 args).run Tryz.prog w = .ok (.enter 166 args) w:=enters_of Tryz.func166 (by kernel_rfl) rfl
theorem Pn:∀args w,(callFunc 167 args).run Tryz.prog w = .ok (.enter 167 args) w:=enters_of Tryz.func167 (by kernel_rfl) rfl
theorem Jr:∀args w,(callFunc 168 args).run Tryz.prog w = .ok (.enter 168 args) w:=enters_of Tryz.func168 (by kernel_rfl) rfl
theorem AB:∀args w,(callFunc 169 args).run Tryz.prog w = .ok (.enter 169 args) w:=enters_of Tryz.func169 (by kernel_rfl) rfl
theorem Js:∀args w,(callFunc 170 args).run Tryz.prog w = .ok (.enter 170 args) w:=enters_of Tryz.func170 (by kernel_rfl) rfl
theorem AE:∀args w,(callFunc 171 args).run Tryz.prog w = .ok (.enter 171 args) w:=enters_of Tryz.func171 (by kernel_rfl) rfl
theorem Po:∀args w,(callFunc 172 args).run Tryz.prog w = .ok (.enter 172 args) w:=enters_of Tryz.func172 (by kernel_rfl) rfl
theorem Pp:∀args w,(callFunc 173 args).run Tryz.prog w = .ok (.enter 173 args) w:=enters_of Tryz.func173 (by kernel_rfl) rfl
theorem Jt:∀args w,(callFunc 174 args).run Tryz.prog w = .ok (.enter 174 args) w:=enters_of Tryz.func174 (by kernel_rfl) rfl
theorem Pq:∀args w,(callFunc 176 args).run Tryz.prog w = .ok (.enter 176 args) w:=enters_of Tryz.func176 (by kernel_rfl) rfl
theorem Pr:∀args w,(callFunc 179 args).run Tryz.prog w = .ok (.enter 179 args) w:=enters_of Tryz.func179 (by kernel_rfl) rfl
theorem Ps:∀args w,(callFunc 180 args).run Tryz.prog w = .ok (.enter 180 args) w:=enters_of Tryz.func180 (by kernel_rfl) rfl
theorem Pt:∀args w,(callFunc 181 args).run Tryz.prog w = .ok (.enter 181 args) w:=enters_of Tryz.func181 (by kernel_rfl) rfl
theorem Ju:∀args w,(callFunc 182 args).run Tryz.prog w = .ok (.enter 182 args) w:=enters_of Tryz.func182 (by kernel_rfl) rfl
theorem Jv:∀args w,(callFunc 183 args).run Tryz.prog w = .ok (.enter 183 args) w:=enters_of Tryz.func183 (by kernel_rfl) rfl
theorem Jw:∀args w,(callFunc 187 args).run Tryz.prog w = .ok (.enter 187 args) w:=enters_of Tryz.func187 (by kernel_rfl) rfl
theorem Pu:∀args w,(callFunc 188 args).run Tryz.prog w = .ok (.enter 188 args) w:=enters_of Tryz.func188 (by kernel_rfl) rfl
theorem Pv:∀args w,(callFunc 192 args).run Tryz.prog w = .ok (.enter 192 args) w:=enters_of Tryz.func192 (by kernel_rfl) rfl
theorem Pw:∀args w,(callFunc 193 args).run Tryz.prog w = .ok (.enter 193 args) w:=enters_of Tryz.func193 (by kernel_rfl) rfl
theorem Px:∀args w,(callFunc 194 args).run Tryz.prog w = .ok (.enter 194 args) w:=enters_of Tryz.func194 (by kernel_rfl) rfl
theorem Py:∀args w,(callFunc 201 args).run Tryz.prog w = .ok (.enter 201 args) w:=enters_of Tryz.func201 (by kernel_rfl) rfl
theorem Pz:∀args w,(callFunc 226 args).run Tryz.prog w = .ok (.enter 226 args) w:=enters_of Tryz.func226 (by kernel_rfl) rfl
theorem Jx:∀args w,(callFunc 227 args).run Tryz.prog w = .ok (.enter 227 args) w:=enters_of Tryz.func227 (by kernel_rfl) rfl
theorem Jy:∀args w,(callFunc 249 args).run Tryz.prog w = .ok (.enter 249 args) w:=enters_of Tryz.func249 (by kernel_rfl) rfl
end
end Go.Proofs.YtkbhcbipadkcaaaGreatDoor
