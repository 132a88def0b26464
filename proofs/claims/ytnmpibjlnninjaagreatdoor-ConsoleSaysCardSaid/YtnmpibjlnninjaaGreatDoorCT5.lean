import Derived.Test.YtnmpibjlnninjaaGreatDoorCT4
import Derived.Laws.OwnMore
namespace Go.Proofs.YtnmpibjlnninjaaGreatDoor
set_option linter.unusedVariables false
set_option linter.unusedSimpArgs false
set_option maxRecDepth 100000
set_option maxHeartbeats 90000000
section
open Go Go.RowKit
def ag.held (w0:World)(own:List Nat):ag:=⟨own,fun w => ∀k∈own,w.heap[k]? = w0.heap[k]?,fun w w' h ho k hk=>(h k hk).trans (ho k hk)⟩
theorem gA (B:List ag)(w:World)(own:List Nat):blks (B++[ag.held w own])=blks B++own:=by
 grind [blks,ag.held,bz]
theorem zn {F F0:List ag}{js:List Nat}(h:bW F js=some F0):∀k∈blks F0,k∈blks F:=fun k hk=>by
 grind [bK,nu]
section
variable {we w w':World} {X:List Nat} {B0 Br B1 F F0 F1:List ag}
theorem Wd.D6 (hw:Wd we X (B0++Br) F w){js:List Nat}(hj:bW F js=some F0):Wd w (blks B0++blks Br) (B0++[ag.held w (blks Br)]) F0 w:=by
 have hs:=hw.sep
 rw [bz] at hs
 refine ⟨np.refl _ _,fun r hr=>?_,fun r hr=>hw.okF r (nu hj r hr),by grind [gA],fun k hk=>?_,fun k hk=>?_⟩
 .
  rcases List.mem_append.1 hr with hr|hr
  .exact hw.okB r (List.mem_append.2 (.inl hr))
  simp at hr;subst hr;exact fun k _=>rfl
 .
  rw [gA] at hk
  exact ⟨(hw.own k (by grind [bz])).1,fun _=>hk⟩
 rw [gA,<- bz]
 exact hw.nq k (zn hj k hk)
theorem Wd.after (hw:Wd we X (B0++Br) F w)(hp:Wd w (blks B0++blks Br) (B1++[ag.held w (blks Br)]) F1 w'):Wd we X (B1++Br) (F1++F) w':=by
 have hout:∀k,k<w.heap.size->k∉blks (B0++Br)->w'.heap[k]? = w.heap[k]?:=fun k hk hn=>hp.upd.block k hk (by grind [bz])
 have Yi:∀k∈blks Br,w'.heap[k]? = w.heap[k]?:=hp.okB (ag.held w (blks Br)) (List.mem_append.2 (.inr (List.mem_singleton.2 rfl)))
 have hsz:=hp.upd.size
 have hold:∀k∈blks B1,k<w.heap.size->k∈blks (B0++Br):=fun k hk hlt=>by
  rw [bz];exact (hp.own k (by grind [gA])).2 hlt
 refine ⟨⟨hp.upd.os.trans hw.upd.os,hp.upd.tape.trans hw.upd.tape,hp.upd.output.trans hw.upd.output,Nat.le_trans hw.upd.size hsz,fun k hk hx=>?_⟩,fun r hr=>?_,fun r hr=>?_,?_,fun k hk=>?_,fun k hk=>?_⟩
 .
  have hk2:k<w.heap.size:=Nat.lt_of_lt_of_le hk hw.upd.size
  exact (hout k hk2 (fun hb=>hx ((hw.own k hb).2 hk))).trans (hw.upd.block k hk hx)
 .
  rcases List.mem_append.1 hr with hr|hr
  .exact hp.okB r (List.mem_append.2 (.inl hr))
  exact r.loc w w' (fun k hk=>Yi k (bK.2 ⟨r,hr,hk⟩)) (hw.okB r (List.mem_append.2 (.inr hr)))
 .
  rcases List.mem_append.1 hr with hr|hr
  .exact hp.okF r hr
  refine r.loc w w' (fun k hk=>?_) (hw.okF r hr)
  have:=hw.nq k (bK.2 ⟨r,hr,hk⟩)
  grind
 .
  have:=hp.sep
  grind [gA,bz]
 .
  rw [bz] at hk
  have h1:=hp.own k (by grind [gA])
  refine ⟨h1.1,fun hlt=>?_⟩
  rcases List.mem_append.1 hk with hk|hk
  .exact (hw.own k (hold k hk (Nat.lt_of_lt_of_le hlt hw.upd.size))).2 hlt
  exact (hw.own k (by grind [bz])).2 hlt
 rw [bz] at hk
 rcases List.mem_append.1 hk with hk|hk
 .
  have:=hp.nq k hk
  grind [gA,bz]
 have:=hw.nq k hk
 grind [Nat.lt_of_lt_of_le,bz]
end
abbrev HN (w:World)(own:List Nat)(B F:List ag):Prop:=Wd w (blks B++own) (B++[ag.held w own]) F w
abbrev RC {β:Type}{w:World}{own:List Nat}{B0 F0:List ag}(P:Program)(f:FuncId)(ar:Array Value)(_:HN w own B0 F0)(G:β->Value)(B1 F1:β->List ag):Prop:=Calls P f ar w fun e w' => ∃z,e = .returned (G z)/\Wd w (blks B0++own) (B1 z++[ag.held w own]) (F1 z) w'
abbrev RS {σ β:Type}{w:World}{own:List Nat}{B0 F0:List ag}(P:Program)(f:FuncId)(ar:Array Value)(_:HN w own B0 F0)(s:σ)(G:σ->β->Value)(B1 F1:σ->β->List ag):Prop:=Calls P f ar w fun e w' => ∃z,e = .returned (G s z)/\Wd w (blks B0++own) (B1 s z++[ag.held w own]) (F1 s z) w'
section
variable {P:Program} {n:Nat} {we:World} {X:List Nat} {Q:Exit->Act->World->Prop} {k k':List It} {L:Fm} {B F:List ag} {ops rest:List Oper}
variable {dst:Option Nat} {d:Nat} {ty:TypeId} {pos:String} {dV:Array Edge} {g:Option (Nat×Bool)} {v:Value}
variable {x y:Operand} {xT yT t e:TypeId} {α:Type} [Enc α] {l:List α}
theorem s.aH {β:Type}{f:FuncId}{c:Operand}{xs:Array Operand}{ts:Array TypeId}{vs:List Value}{cap:Array Value}{B0 Br F0:List ag}(is js:List Nat)(G:β->Value)(B1 F1:β->List ag)(hp:bW B is=some (B0++Br))(ha':eP is=true)(hj:bW F js=some F0)
 (eg:∀args w,(callFunc f args).run P w = .ok (.enter f args) w) (hargs:evs L xs.toList=some vs) (hc:ev L c=some (.func (.func f) #[] cap))
 (hcall:∀w own,Wd we X B F w->Wd w (blks B0++own) (B0++[ag.held w own]) F0 w->Calls P f (vs++cap.toList).toArray w fun e w' => ∃z,e = .returned (G z)/\Wd w (blks B0++own) (B1 z++[ag.held w own]) (F1 z) w') (hd:Nat.blt d n=true) :
 Stp P n we X L B F ⟨some d,.call { callee:= .value c,args:=xs,argTypes:=ts},ty,pos,dV,g⟩ (fun z=>(d,G z)::L) (fun z=>B1 z++Br) (fun z=>F1 z++F):=by
 intro K Q' a w ha hw hK
 have hw2:=hw.Lm is hp ha'
 unfold Oper.wp
 rw [rP ha hargs hc eg,Oper.upon_enter]
 refine (hcall w (blks Br) hw (hw2.D6 hj)).mono fun e w' he=>?_
 obtain ⟨z,rfl,ht⟩:=he
 exact hK z _ _ (ha.put d _ hd) (hw2.after ht)
theorem R.wL {f:FuncId}{fn:Func}{c:Code}{vs:List Value}{w:World}{R:Ending->World->Prop}(L:Fm)(hf:P.funcs[f]? = some fn)(hb:fn.body=some c)(hn:fn.ntmps=n)
 (hle:Nat.ble vs.length n=true) (hL:UU 0 vs=L) (h0:Wd w X B F w) (h:Run P n w X (bodyPost P fn R) [.c c] L B F):Calls P f vs.toArray w R:=by
 have hle':vs.length<=n:=Nat.le_of_ble_eq_true hle
 refine calls_of_wp hf hb<|wp_mono (h _ w ⟨?_,rfl,fun i v hv=>?_⟩ h0) (fun e a w q=>by cases e <;> exact q)
 .simp [hn];omega
 rw [<- hL] at hv
 obtain ⟨h1,h2⟩:=zg vs 0 i v hv
 simp only [Nat.sub_zero] at h2
 have hi:i<vs.length:=(List.getElem?_eq_some_iff.1 h2).1
 show (vs.toArray++Array.replicate (fn.ntmps-vs.toArray.size) undef)[i]? = some v
 rw [Array.getElem?_append_left (by simpa using hi)]
 simpa using h2
section
variable {fn:Func} {β:Type} {B1 F1:β->List ag} {V:β->Value} {r1 r2 r3 r4:ResultVar} {v1 v2 v3 v4:Value}
theorem R.w0 (z:β)(is js:List Nat)(h:norm 200 k=[] ∨ ∃k',norm 200 k = .c .ret::k')(hr:fn.results = #[])(hp:bW B is=some (B1 z))(ha:eP is=true)(hj:bW F js=some (F1 z))(e:V z = .tuple #[]):Run P n we X (bodyPost P fn fun en w' => ∃z,en = .returned (V z)/\Wd we X (B1 z) (F1 z) w') k L B F:=by
 rcases h with h|⟨k',h⟩
 .exact R.aau h hr fun w hw=>⟨z,by rw [e],hw.Ns is js hp hj ha⟩
 exact R.aav h hr fun w hw=>⟨z,by rw [e],hw.Ns is js hp hj ha⟩
theorem R.w1 (z:β)(is js:List Nat)(h:norm 200 k = .c .ret::k')(hr:fn.results = #[r1])(h1:RV P n we X L B F r1 v1)(hp:bW B is=some (B1 z))(ha:eP is=true)(hj:bW F js=some (F1 z))(e:v1=V z):Run P n we X (bodyPost P fn fun en w' => ∃z,en = .returned (V z)/\Wd we X (B1 z) (F1 z) w') k L B F :=
 R.TM h hr h1 fun w hw=>⟨z,by rw [e],hw.Ns is js hp hj ha⟩
theorem R.w2 (z:β)(is js:List Nat)(h:norm 200 k = .c .ret::k')(hr:fn.results = #[r1,r2])(h1:RV P n we X L B F r1 v1)(h2:RV P n we X L B F r2 v2)(hp:bW B is=some (B1 z))(ha:eP is=true)(hj:bW F js=some (F1 z))(e : .tuple #[v1,v2]=V z):Run P n we X (bodyPost P fn fun en w' => ∃z,en = .returned (V z)/\Wd we X (B1 z) (F1 z) w') k L B F :=
 R.TN h hr h1 h2 fun w hw=>⟨z,by rw [e],hw.Ns is js hp hj ha⟩
theorem R.w3 (z:β)(is js:List Nat)(h:norm 200 k = .c .ret::k')(hr:fn.results = #[r1,r2,r3])(h1:RV P n we X L B F r1 v1)(h2:RV P n we X L B F r2 v2)(h3:RV P n we X L B F r3 v3)(hp:bW B is=some (B1 z))(ha:eP is=true)(hj:bW F js=some (F1 z))(e : .tuple #[v1,v2,v3]=V z):Run P n we X (bodyPost P fn fun en w' => ∃z,en = .returned (V z)/\Wd we X (B1 z) (F1 z) w') k L B F :=
 R.TP h hr h1 h2 h3 fun w hw=>⟨z,by rw [e],hw.Ns is js hp hj ha⟩
theorem R.w4 (z:β)(is js:List Nat)(h:norm 200 k = .c .ret::k')(hr:fn.results = #[r1,r2,r3,r4])(h1:RV P n we X L B F r1 v1)(h2:RV P n we X L B F r2 v2)(h3:RV P n we X L B F r3 v3)(h4:RV P n we X L B F r4 v4)(hp:bW B is=some (B1 z))(ha:eP is=true)(hj:bW F js=some (F1 z))(e : .tuple #[v1,v2,v3,v4]=V z):Run P n we X (bodyPost P fn fun en w' => ∃z,en = .returned (V z)/\Wd we X (B1 z) (F1 z) w') k L B F :=
 R.X9 h hr h1 h2 h3 h4 fun w hw=>⟨z,by rw [e],hw.Ns is js hp hj ha⟩
end
theorem Wd.zo {w W:World}{r r':ag}(hw:Wd we X B F w)(i j:Nat)(hi:B[i]? = some r)(hj:B[j]? = some r')(hij:i≠j)(hu:np (blks [r']) w W):r.ok W :=
 r.loc w W (fun k hk=>hu.block k (hw.own k (bK.2 ⟨r,List.mem_of_getElem? hi,hk⟩)).1 (fun hc=>jI hi hj hij hw.sep k hk (by grind [blks]))) (hw.b i hi)
theorem Wd.TR {w W:World}{r r':ag}(hw:Wd we X B F w)(i j:Nat)(hi:F[i]? = some r)(hj:B[j]? = some r')(hu:np (blks [r']) w W):r.ok W :=
 r.loc w W (fun k hk=>by
  have:=hw.nq k (bK.2 ⟨r,List.mem_of_getElem? hi,hk⟩)
  exact hu.block k this.1 (fun hc=>this.2 (bK.2 ⟨r',List.mem_of_getElem? hj,by grind [blks]⟩))) (hw.f i hi)
theorem Wd.yr {w:World}{K own:List Nat}(hw:Wd we (K++own) B F w)(i:Nat)(hi:B[i]? = some (ag.held we own)):np K we w :=
 ⟨hw.upd.os,hw.upd.tape,hw.upd.output,hw.upd.size,fun k hk hn=>by
  by_cases ho:k∈own
  .exact hw.b i hi k ho
  exact hw.upd.block k hk (fun h=>(List.mem_append.1 h).elim hn ho)⟩
theorem zp {v:Value}{l:List α}:∀k∈(ag.ls v l).blk,k∈eB v:=fun k hk=>by
 grind [ag.ls]
theorem Wd.aO {w:World}(hw:Wd we X B F w)(i:Nat)(B':List ag)(hB:B[i]? = some (ag.row e v l))(hB':B.eraseIdx i=B'):Wd we X B' (ag.ls v l::F) w:=by
 subst hB'
 have how:Own 0 e w v l:=hw.b i hB
 have hi:i<B.length:=(List.getElem?_eq_some_iff.1 hB).1
 have hsub:(B.eraseIdx i).Sublist B:=List.eraseIdx_sublist B i
 have hbs:(blks (B.eraseIdx i)).Sublist (blks B):=vm hsub
 have hmem:∀k∈eB v,k∈blks B:=fun k hk=>bK.2 ⟨_,List.mem_of_getElem? hB,hk⟩
 have hnot:∀k∈eB v,k∉blks (B.eraseIdx i):=fun k hk hb=>by
  obtain ⟨r,hr,hkr⟩:=bK.1 hb
  obtain ⟨j,hj⟩:=List.mem_iff_getElem?.1 hr
  rw [List.getElem?_eraseIdx] at hj
  split at hj
  .exact jI hB hj ae hw.sep k hk hkr
  exact jI hB hj ae hw.sep k hk hkr
 refine ⟨hw.upd,fun r hr=>hw.okB r (hsub.subset hr),fun r hr=>(List.mem_cons.1 hr).elim (fun e=>e▸how.sl) (hw.okF r),hbs.nodup hw.sep,fun k hk=>hw.own k (hbs.subset hk),fun k hk=>?_⟩
 rcases List.mem_append.1 hk with hk|hk
 .
  have hk':=zp k hk
  exact ⟨(hw.own k (hmem k hk')).1,hnot k hk'⟩
 exact ⟨(hw.nq k hk).1,fun h=>(hw.nq k hk).2 (hbs.subset h)⟩
theorem Wd.nQ {w:World}(hw:Wd we X B F w)(j:Nat)(r r':ag)(hF:F[j]? = some r)(hs:∀k∈r'.blk,k∈r.blk)(hr:r'.ok w):Wd we X B (r'::F) w :=
 hw.fact hr fun k hk=>hw.nq k (bK.2 ⟨r,List.mem_of_getElem? hF,hs k hk⟩)
theorem Rl (v:Value)(i:Nat):eB (jT v i)=eB v∨eB (jT v i)=[]:=by
 cases v <;> first|(right;rfl)|skip
 rename_i A n c
 cases A <;> (left;rfl)
theorem Ln (v:Value)(i q:Nat):eB (cz v i q)=eB v:=by
 cases v <;> first|rfl|skip
 rename_i A n c
 cases A with
 | none=>simp only [cz];split <;> rfl
 | some a =>
  grind [cz,eB,Addr.add]
theorem Wd.Iy {w:World}(hw:Wd we X B F w):Wd we X B (ag.ls (α:=α) (.slice none 0 0) []::F) w:=hw.fact (Sl.nil w) (by simp [ag.ls])
theorem TS {v:Value}{l:List α}{i:Nat}:∀k∈(ag.ls (jT v i) (l.take i)).blk,k∈(ag.ls v l).blk:=fun k hk=>by
 grind [ag.ls,zp,Rl]
theorem yK {v:Value}{l:List α}{i q:Nat}:∀k∈(ag.ls (cz v i q) (l.drop i)).blk,k∈(ag.ls v l).blk:=fun k hk=>by
 grind [ag.ls,zp,Ln]
theorem R.mp {B' F':List ag}(hm:∀w,Wd we X B F w->Wd we X B' F' w)(h:Run P n we X Q k L B' F'):Run P n we X Q k L B F:=fun a w ha hw=>h a w ha (hm w hw)
theorem Rg.mp {B' F':List ag}(hm:∀w,Wd we X B F w->Wd we X B' F' w)(h:Rg P n we X Q ops rest k L B' F'):Rg P n we X Q ops rest k L B F:=fun a w ha hw=>h a w ha (hm w hw)
theorem R.uz (hs:Sl we v l)(h:Run P n we [] Q k L B (ag.ls v l::F)):Run P n we [] Q k L B F:=R.pH (r:=ag.ls v l) hs (Yb hs) h
theorem q.py {m:Int}{i kk q:Nat}{kd:IntKind}(hs:∀w,Wd we X B F w->Sl w v l)(hx:ev L x=some (YtnmpibjlnninjaaGreatDoor.jT v q))(hy:ev L y=some (.int kd m))(ht:nL P xT=some (e,kk))(hm:m=(i:Int))(hi:i<=q)(hq:q<=lH v) :
 Qt P n we X L B F (.slice xT x (some y) none none) ty (YtnmpibjlnninjaaGreatDoor.cz (YtnmpibjlnninjaaGreatDoor.jT v q) i kk):=fun _ _ _ _ a w ha hw=>by
 obtain ⟨A,c,rfl,h1,h2,h3⟩:=hs w hw
 obtain ⟨hu,hz⟩:=fk (P:=P) w ht
 subst hm
 simp only [lH] at hq
 have hx':ev L x=some (.slice A q c):=hx
 simp only [execOp,ha.ev hx',Option.map_some,Option.map_none,ha.ev hy,Instr.sliceAt,Sem.run_bind,run_underlying hu,Result.andThen_ok,Instr.slice,Instr.sliceBounds,Instr.sliceBound,asIntOf,Sem.run_pure]
 rw [if_pos ⟨ae,ae⟩]
 simp [hz,YtnmpibjlnninjaaGreatDoor.cz,YtnmpibjlnninjaaGreatDoor.jT]
theorem s.Cx {lo hi:Nat}{z0:α}{z:Value}(i:Nat)(hB:B[i]? = some (ag.row e v l))(hx:ev L x=some (sl2 v lo hi (Enc.k α)))(ht:nL P t=some (e,Enc.k α))(hz:eJ P e=some z)(hzs:z.cells=(Enc.cells z0).toArray)(hlo:l.length<=lo)(hh:lo<=hi)(hhi:hi<=lH v) :
 Stp P n we X L B F ⟨none,.call { callee:= .builtin .clear,args:= #[x],argTypes:= #[t]},ty,pos,dV,g⟩ (fun _:Unit=>L) (fun _=>B) (fun _=>F) :=
 s.aaB (kk:=0) i hB hx ht az (fun z' h=>by
  grind [Enc.len,Enc.one]) hlo hh hhi
theorem s.D7 {o o' m:Nat}{A:TypeId}(i:Nat)(B':List ag)(hB:B[i]? = some (ag.row e v l))(ho:o<l.length)(hm:m=l.length+1)(ho':o'=o+1)(hroom:l.length+1<=lH v)(hx:ev L x=some (cz (jT v m) o' (Enc.k α)))(hy:ev L y=some (cz (jT v m) o (Enc.k α)))(ht:nL P t=some (e,Enc.k α))(hB':B.set i (ag.row e (jT v m) (l.take (o+1)++l.drop o))=B')(hd:Nat.blt d n=true) :
 Stp P n we X L B F ⟨some d,.call { callee:= .builtin .copy,args:= #[x,y],argTypes:= #[t,A]},ty,pos,dV,g⟩ (fun _:Unit=>(d,.int .i64 ((l.length-o:Nat):Int))::L) (fun _=>B') (fun _=>F):=by
 subst hm;subst ho'
 exact s.Yf i B' hB ho hroom hx hy ht hB' hd
theorem jf (v:Value)(i:Nat):lH (jT v i)=lH v:=by
 cases v <;> rfl
theorem Own.cap {base:Nat}{w:World}{v:Value}{l:List α}(h:Own base e w v l):l.length<=lH v:=by
 obtain ⟨A,c,rfl,h1,_⟩:=h.sl
 exact h1
theorem Wd.cap {w:World}(hw:Wd we X B F w)(i:Nat)(hB:B[i]? = some (ag.row e v l)):l.length<=lH v:=Own.cap (hw.b i hB)
theorem Wd.ck {w:World}(hw:Wd we X B F w)(i:Nat)(hB:B[i]? = some (ag.row e v l)):l.length<=9223372036854775807:=Sl.fS (Own.sl (hw.b i hB))
theorem Wd.aL {w:World}(hw:Wd we X B F w)(i:Nat)(hF:F[i]? = some (ag.ls v l)):l.length<=9223372036854775807:=Sl.fS (hw.cy i hF)
theorem Sl.one {w:World}{v:Value}{l:List α}(h:Sl w v l):v.oneCell'=true:=by
 obtain ⟨A,c,rfl,_⟩:=h;rfl
theorem Sl.cL {w:World}{v:Value}{l:List α}(h:Sl w v l):v.cells=[v].toArray:=by
 obtain ⟨A,c,rfl,_⟩:=h;rfl
theorem s.Yj {t:TypeId}{cs:List Value}(hx:ev L x=some v)(hv:∀w,Wd we X B F w->v.cells=cs.toArray)(hd:Nat.blt d n=true) :
 Stp P n we X L B F ⟨some d,.box t x,ty,pos,dV,g⟩ (fun b:Nat=>(d,.pointer (some ⟨b,0,none⟩))::L) (fun b=>ag.box b cs t::B) (fun _=>F):=by
 intro K Q' a w ha hw hK
 exact s.box hx (hv w hw) hd K Q' a w ha hw hK
theorem cd:∀u∈([]:List Value),u.oneCell'=true:=fun u hu=>by grind
theorem bD {u:Value}{us:List Value}(h:u.oneCell'=true)(hs:∀q∈us,q.oneCell'=true):∀q∈u::us,q.oneCell'=true:=fun q hq=>(List.mem_cons.1 hq).elim (fun e=>e▸h) (hs q)
theorem yt {α β γ δ:Type}[Enc α][Enc β][Enc γ][Enc δ]{w:World}{a b c d x y:Value}{la:List α}{lb:List β}{lc:List γ}{ld:List δ}(h1:Sl w a la)(h2:Sl w b lb)(h3:Sl w c lc)(h4:Sl w d ld)(hx:x.oneCell'=true)(hy:y.oneCell'=true):∀q∈[a,b,c,d,x,y],q.oneCell'=true :=
 bD (Sl.one h1) (bD (Sl.one h2) (bD (Sl.one h3) (bD (Sl.one h4) (bD hx (bD hy cd)))))
theorem R.jB (α β γ δ:Type)[Enc α][Enc β][Enc γ][Enc δ](h:Run P n we X Q k L B (ag.ls (α:=δ) (.slice none 0 0) []::ag.ls (α:=γ) (.slice none 0 0) []::ag.ls (α:=β) (.slice none 0 0) []::ag.ls (α:=α) (.slice none 0 0) []::F)):Run P n we X Q k L B F :=
 R.mp (fun _ hw=>hw.Iy (α:=α)) (R.mp (fun _ hw=>hw.Iy (α:=β)) (R.mp (fun _ hw=>hw.Iy (α:=γ)) (R.mp (fun _ hw=>hw.Iy (α:=δ)) h)))
theorem s.lq {b o:Nat}{cs us cs':List Value}{t:TypeId}{u:Value}(i:Nat)(B':List ag)(hB:B[i]? = some (ag.box b cs t))(hx:ev L x=some (.pointer (some ⟨b,o,none⟩)))(hy:ev L y=some u)(hu:∀w,Wd we X B F w->u.cells=us.toArray)
 (ht:(jU P xT=some us.length∨fJ P xT=true/\us.length=1)) (hone:∀w,Wd we X B F w -> ∀q∈us,q.oneCell'=true) (hcs:cs.take o++us++cs.drop (o+us.length)=cs') (hl:Nat.ble (o+us.length) cs.length=true) (hB':B.set i (ag.box b cs' t)=B') :
 Stp P n we X L B F ⟨none,.store xT x y,ty,pos,dV,g⟩ (fun _:Unit=>L) (fun _=>B') (fun _=>F):=by
 intro K Q' a w ha hw hK
 exact s.st i B' hB hx hy (hu w hw) ht (List.all_eq_true.2 (hone w hw)) hcs hl hB' K Q' a w ha hw hK
theorem s.stP {j o:Nat}{z z':α}{u:Value}{us:List Value}(i:Nat)(B':List ag)(hB:B[i]? = some (ag.row e v l))(hj:l[j]? = some z')(hx:ev L x=some (ep v j (Enc.k α) o))(hy:ev L y=some u)(hu:u.cells=us.toArray)(huz:Enc.cells z=(Enc.cells z').take o++us++(Enc.cells z').drop (o+us.length))(hol:Nat.ble (o+us.length) (Enc.k α)=true)(h1:∀q∈us,q.oneCell'=true)
 (ht:(jU P xT=some us.length∨fJ P xT=true/\us.length=1)) (hB':B.set i (ag.row e v (l.set j z))=B') :
 Stp P n we X L B F ⟨none,.store xT x y,ty,pos,dV,g⟩ (fun _:Unit=>L) (fun _=>B') (fun _=>F):=by
 intro K Q' a w ha hw hK
 have hjl:j<l.length:=(List.getElem?_eq_some_iff.1 hj).1
 have how:Own 0 e w v l:=hw.b i hB
 obtain ⟨gb,cap,cur,rfl,_,hgg,hnc,hcm,hcs,htk⟩:=how.parts ae
 have abU:o+us.length<=Enc.k α:=Nat.le_of_ble_eq_true hol
 have hjk:j*Enc.k α+Enc.k α<=l.length*Enc.k α:=by
  have:(j+1)*Enc.k α<=l.length*Enc.k α:=Nat.mul_le_mul_right _ hjl
  grind
 have hlc:l.length*Enc.k α<=cap*Enc.k α:=Nat.mul_le_mul_right _ hnc
 have hsz:(sizeOf xT).run P w = .ok us.length w:=by
  rcases ht with h|⟨h,h'⟩
  .exact (yI (P:=P) w h).2
  rw [h'];exact (yJ (P:=P) w h).2
 have hst:=run_storeCells_at P gb (j*Enc.k α+o) e us 0 cur w hgg ae h1
 have hrun:(execOp a.eval ⟨none,.store xT x y,ty,pos,dV,g⟩).run P w = .ok .skip (w.setRow gb (cur.toList.take (j*Enc.k α+o)++us++cur.toList.drop (j*Enc.k α+o+us.length)).toArray):=by
  simp only [execOp,ha.ev hx,ha.ev hy,ep,Instr.storeAt,Instr.sureAddr,storeVar,hu,Sem.run_bind,Sem.run_pure,Result.andThen_ok,hsz]
  simp_all
 unfold Oper.wp
 rw [hrun,Oper.upon_skip]
 have hz:(l.flatMap Enc.cells).drop (j*Enc.k α)=Enc.cells z'++(l.flatMap Enc.cells).drop (j*Enc.k α+Enc.k α):=by
  have e1:l.drop j=z'::l.drop (j+1):=by
   grind [List.drop_eq_getElem_cons,List.getElem?_eq_some_iff]
  rw [<- nz,e1,List.flatMap_cons,nz,Nat.add_mul,Nat.one_mul]
 have hzl:=Enc.len z'
 have hll:(l.set j z).length=l.length:=List.length_set
 have h3:(cur.toList.take (j*Enc.k α+o)).length=j*Enc.k α+o:=az
 have:=hw.uy (l':=l.set j z) (cs':=cur.toList.take (j*Enc.k α+o)++us++cur.toList.drop (j*Enc.k α+o+us.length)) hB hgg hcm hcs az (by
  have hfl:=eI l
  rw [hll,zm l j z hjl,vv _ _ _ _ ae az,htk,huz]
  have a1:(l.flatMap Enc.cells).take (j*Enc.k α+o)=(l.flatMap Enc.cells).take (j*Enc.k α)++(Enc.cells z').take o:=by
   rw [List.take_add,hz,List.take_append_of_le_length ae]
  have a2:(l.flatMap Enc.cells).drop (j*Enc.k α+o+us.length)=(Enc.cells z').drop (o+us.length)++(l.flatMap Enc.cells).drop (j*Enc.k α+Enc.k α):=by
   rw [Nat.add_assoc,<- List.drop_drop,hz,List.drop_append_of_le_length ae]
  grind) ae
 simp_all [Act.put]
end
section
variable {P:Program} {n:Nat} {we:World} {X:List Nat} {L:Fm} {B F B2 F2:List ag}
theorem s.pre {β:Type}{o:Oper}{L':β->Fm}{B' F':β->List ag}(hm:∀w,Wd we X B F w->Wd we X B2 F2 w)(h:Stp P n we X L B2 F2 o L' B' F'):Stp P n we X L B F o L' B' F' :=
 fun K Q' a w ha hw hK=>h K Q' a w ha (hm w hw) hK
end
end
section
open Go Go.RowKit
theorem zq {n r:Int}(h:n=r/\0<=r/\r<=18446744073709551615):IntKind.u64.wrap n=r:=by
 obtain ⟨rfl,h1,h2⟩:=h
 have:IntKind.u64.wrap n=n % 18446744073709551616:=rfl
 omega
theorem rU {n r:Int}(h:n=r/\0<=r/\r<=255):IntKind.u8.wrap n=r:=by
 obtain ⟨rfl,h1,h2⟩:=h
 have:IntKind.u8.wrap n=n % 256:=rfl
 omega
theorem rV {n:Int}:IntKind.u8.wrap n=n % 256:=rfl
theorem Lp {m e D:Int}(h:e=D)(h0:0<=D):m.fdiv e=m / D:=az
theorem Rm {m D:Nat}{e:Int}(h:e=((D:Nat):Int)):((m:Nat):Int).fdiv e=((m / D:Nat):Int):=by
 grind
section
variable {P:Program} {n:Nat} {we:World} {X:List Nat} {Q:Exit->Act->World->Prop} {k k':List It} {L:Fm} {B F:List ag} {ops rest:List Oper}
variable {dst:Option Nat} {d:Nat} {op:Op} {ty:TypeId} {pos:String} {dV:Array Edge} {g:Option (Nat×Bool)} {v:Value}
variable {x y z:Operand} {xT yT t e:TypeId} {kd Yd:IntKind} {α:Type} [Enc α] {l:List α}
theorem q.Lq {op:Op}{v v':Value}(h:v=v')(hq:Qt P n we X L B F op ty v):Qt P n we X L B F op ty v':=h▸hq
theorem q.gN {s:ByteArray}{m:Int}{i:Nat}{c:UInt8}(hx:ev L x=some (.string s))(hy:ev L y=some (.int kd m))(ht:P.underlying xT=some .string)(hm:m=(i:Int))(hi:s.data[i]? = some c) :
 Qt P n we X L B F (.index xT x y) ty (.int .u8 ((c.toNat:Nat):Int)):=fun _ _ _ _ a w ha hw=>by
 subst hm
 have hlt:i<s.size:=(Array.getElem?_eq_some_iff.1 hi).1
 have h2:s[i]=c:=(Array.getElem?_eq_some_iff.1 hi).2
 have:=run_index_string (P:=P) w xT s kd (i:Int) ht
 simp only [execOp,ha.ev hx,ha.ev hy]
 simp_all
theorem q.Fv {s:ByteArray}{m r:Int}{i j:Nat}(hx:ev L x=some (.string s))(hy:ev L y=some (.int kd m))(hz:ev L z=some (.int Yd r))(ht:P.underlying xT=some .string)(hm:m=(i:Int))(hr:r=(j:Int))(hij:i<=j)(hj:j<=s.size) :
 Qt P n we X L B F (.slice xT x (some y) (some z) none) ty (.string (s.extract i j)):=fun _ _ _ _ a w ha hw=>by
 subst hm;subst hr
 have e:(Instr.slice xT (.string s) (some (.int kd (i:Int))) (some (.int Yd (j:Int))) none).run P w = .ok (.string (s.extract i j)) w:=by
  simp_all [Instr.slice,Instr.sliceBounds,sliced,run_underlying,run_sliceBound]
 simp only [execOp,ha.ev hx,Option.map_some,Option.map_none,ha.ev hy,ha.ev hz,Sem.run_bind,run_sliceAt_string w xT _ _ _ _ ht,e,Result.andThen_ok,Sem.run_pure]
theorem q.Cy {s:ByteArray}{m:Int}{i:Nat}(hx:ev L x=some (.string s))(hy:ev L y=some (.int kd m))(ht:P.underlying xT=some .string)(hm:m=(i:Int))(hi:i<=s.size) :
 Qt P n we X L B F (.slice xT x (some y) none none) ty (.string (s.extract i s.size)):=fun _ _ _ _ a w ha hw=>by
 subst hm
 have e:=run_slice_string_l (P:=P) w xT s ht kd (i:Int) ae ae
 simp only [Int.toNat_natCast] at e
 simp only [execOp,ha.ev hx,Option.map_some,Option.map_none,ha.ev hy,Sem.run_bind,run_sliceAt_string w xT _ _ _ _ ht,e,Result.andThen_ok,Sem.run_pure]
theorem q.sTo {s:ByteArray}{m:Int}{i:Nat}(hx:ev L x=some (.string s))(hy:ev L y=some (.int kd m))(ht:P.underlying xT=some .string)(hm:m=(i:Int))(hi:i<=s.size) :
 Qt P n we X L B F (.slice xT x none (some y) none) ty (.string (s.extract 0 i)):=fun _ _ _ _ a w ha hw=>by
 subst hm
 have e:=run_slice_string_h (P:=P) w xT s ht kd (i:Int) ae ae
 simp only [Int.toNat_natCast] at e
 simp only [execOp,ha.ev hx,Option.map_some,Option.map_none,ha.ev hy,Sem.run_bind,run_sliceAt_string w xT _ _ _ _ ht,e,Result.andThen_ok,Sem.run_pure]
def hY (a b:ByteArray):Bool:=Op.bytesLess a.toList b.toList
theorem q.Rn {a b:ByteArray}{r:Bool}(hx:ev L x=some (.string a))(hy:ev L y=some (.string b))(h:hY a b=r):Qt P n we X L B F (.binOp .lss xT x y yT) ty (.bool r):=fun _ _ _ _ q w ha hw=>by
 subst h;simp only [execOp,ha.ev hx,ha.ev hy,binOp,Op.stringOp,eqGuard,hY];simp
theorem q.Lr {a b:ByteArray}{r:Bool}(hx:ev L x=some (.string a))(hy:ev L y=some (.string b))(h:(hY a b||decide (a=b))=r):Qt P n we X L B F (.binOp .leq xT x y yT) ty (.bool r):=fun _ _ _ _ q w ha hw=>by
 subst h;simp only [execOp,ha.ev hx,ha.ev hy,binOp,Op.stringOp,eqGuard,hY,pG];simp
theorem zr {P:Program}{t pT:TypeId}(h:P.underlying t=some (.pointer pT)):P.underlying t=some (.pointer (P.pointee t)):=by
 simp [Program.pointee,h]
theorem q.Yk {a:Option Addr}{pT:TypeId}(hx:ev L x=some (.pointer a))(hy:ev L y=some (.pointer none))(ht:P.underlying xT=some (.pointer pT)):Qt P n we X L B F (.binOp .eql xT x y yT) ty (.bool a.isNone):=fun _ _ _ _ q w ha hw=>by
 simp only [execOp,ha.ev hx,ha.ev hy,eqGuard_at_pointer,Sem.run_bind,Sem.run_pure,Result.andThen_ok,run_eql_pointer_nil w xT a (zr ht)]
theorem q.Yl {a:Option Addr}{pT:TypeId}(hx:ev L x=some (.pointer a))(hy:ev L y=some (.pointer none))(ht:P.underlying xT=some (.pointer pT)):Qt P n we X L B F (.binOp .neq xT x y yT) ty (.bool (!a.isNone)):=fun _ _ _ _ q w ha hw=>by
 simp only [execOp,ha.ev hx,ha.ev hy,eqGuard_at_pointer,Sem.run_bind,Sem.run_pure,Result.andThen_ok,run_neq_pointer_nil w xT a (zr ht)]
def rW (v:Value):Bool:=match v with | .slice A _ _=>A.isNone|_=>true
theorem Sl.rW {w:World}{v:Value}{l:List α}(h:Sl w v l)(hn:YtnmpibjlnninjaaGreatDoor.rW v=true):l=[]:=by
 obtain ⟨A,c,rfl,h1,h2,h3⟩:=h
 cases l with
 | nil=>rfl
 | cons x l =>
  obtain ⟨b,off,hA,_⟩:=h3 0 x rfl
  simp [YtnmpibjlnninjaaGreatDoor.rW,hA] at hn
theorem q.rj {c:Value}(hs:∀w,Wd we X B F w->Sl w v l)(hx:ev L x=some v)(hy:ev L (.const c)=some (.slice none 0 0))(ht:P.underlying xT=some (.slice e)):Qt P n we X L B F (.binOp .eql xT x (.const c) yT) ty (.bool (rW v)):=fun _ _ _ _ q w ha hw=>by
 obtain ⟨A,cc,rfl,h1,h2,h3⟩:=hs w hw
 have hc:c = .slice none 0 0:=by simpa [YtnmpibjlnninjaaGreatDoor.ev] using hy
 subst hc
 have he:(Op.equal xT (.slice A l.length cc) (.slice none 0 0)).run P w = .ok A.isNone w:=by
  show (Op.equalIn (9999+1) xT _ _).run P w=_
  unfold Op.equalIn
  cases A <;> simp [run_underlying ht]
 have hev:q.eval (.const (.slice none 0 0)) = .slice none 0 0:=rfl
 simp only [execOp,ha.ev hx,hev,eqGuard_at_slice,binOp,Sem.run_bind,Sem.run_pure,Result.andThen_ok,he,YtnmpibjlnninjaaGreatDoor.rW]
end
end
section
open Go Go.RowKit
structure jy where
  Kind:ByteArray
  S:ByteArray
  P:Place
  Q:Place
  A:Int
  B:Int
  N:Int
  K:Int
  ca:Option Addr
  cn:Nat
  cc:Nat
  Changes:List Change
abbrev jy.cv (x:jy):Value:= .slice x.ca x.cn x.cc
abbrev aaE (x:jy):List Value:=[.string x.Kind,.string x.S,.int .i64 x.P.aD,.int .i64 x.P.Slot,.int .i64 x.Q.aD,.int .i64 x.Q.Slot,.int .i64 x.A,.int .i64 x.B,.int .i64 x.N,.int .u64 x.K,x.cv]
abbrev jy.cs (x:jy):List Value:=[.string x.Kind,.string x.S,.int .i64 x.P.aD,.int .i64 x.P.Slot,.int .i64 x.Q.aD,.int .i64 x.Q.Slot,.int .i64 x.A,.int .i64 x.B,.int .i64 x.N,.int .u64 x.K,x.cv]
abbrev jy.val (x:jy):Value:= .agg #[.string x.Kind,.string x.S,.int .i64 x.P.aD,.int .i64 x.P.Slot,.int .i64 x.Q.aD,.int .i64 x.Q.Slot,.int .i64 x.A,.int .i64 x.B,.int .i64 x.N,.int .u64 x.K,x.cv]
instance:Enc jy:=⟨11,jy.cs,fun _=>rfl,fun x u hu=>by simp [jy.cs] at hu;rcases hu with rfl|rfl|rfl|rfl|rfl|rfl|rfl|rfl|rfl|rfl|rfl <;> rfl,by decide⟩
end
section
open Go.ChangeShapes Go.WideShapes Go.ChangeAt Go.RowKit Go.Deep
section
variable {H:Type} {enc:TypeId×Value->H} {w:World} {base:Nat} {spare:Nat->Bool} {held:Bool}
theorem FK:Tryz.prog.cellsOf 9=1:=ay
theorem U1 {m:Nat}{c:Value}{y:DataW H×List MemPlace}(h:DataW.trod enc Tryz.prog w base spare held m 9 [c]=some y):∃s,c = .string s/\s.size<=maxLen:=by
 obtain ⟨s,hs,_,hw⟩:=DataW.trod_string Tryz.underlying9 h
 injection hs with hs _
 exact ⟨s,hs,hw⟩
end
end
section
open Go Go.RowKit
section
variable {P:Program} {n:Nat} {we:World} {X:List Nat} {L:Fm} {B F:List ag} {x y z':Operand} {v:Value} {d:Nat} {ty:TypeId} {pos:String} {dV:Array Edge} {g:Option (Nat×Bool)} {t e:TypeId} {α:Type} [Enc α] {l:List α}
theorem s.Ym {m:Nat}{i0:TypeInfo}{kd:IntKind}{z0:α}{zv:Value}(ht:nL P t=some (e,Enc.k α))(hi:P.info? e=some i0)(hz:i0.zero=some zv)(hzs:zv.cells=(Enc.cells z0).toArray)(hb:i0.bytes<=1000)(hx:ev L x=some (.int kd (m:Int)))(hy:ev L y=some (.int kd (m:Int)))(hm:m*Enc.k α<=1000000)(hd:Nat.blt d n=true) :
 Stp P n we X L B F ⟨some d,.makeSlice t x y,ty,pos,dV,g⟩ (fun b:Nat=>(d,.slice (some ⟨b,0,none⟩) m m)::L) (fun b=>ag.row e (.slice (some ⟨b,0,none⟩) m m) (List.replicate m z0)::B) (fun _=>F):=by
 intro K Q' a w ha hw hK
 obtain ⟨hu,hsz⟩:=fk (P:=P) w ht
 have hsize:i0.size=Enc.k α:=by
  grind [nL]
 have hkp:=Enc.pos (α:=α)
 have hm1:m<=m*Enc.k α:=Nat.le_mul_of_pos_right m hkp
 have hml:m<=maxLen:=by grind [maxLen]
 have hbb:i0.bytes*m<=1000*1000000:=Nat.mul_le_mul hb ae
 obtain ⟨w',hr,how,hg⟩:=run_makeSlice_full (P:=P) w 0 t e i0 zv (Enc.k α) hu hi hz hsize kd kd m ae ae hml (Nat.zero_le _)
 have hrun:(execOp a.eval ⟨some d,.makeSlice t x y,ty,pos,dV,g⟩).run P w = .ok (.value (.slice (some ⟨w.heap.size,0,none⟩) m m)) w':=by
  simp [execOp,ha.ev hx,ha.ev hy,hr]
 unfold Oper.wp
 rw [hrun,Oper.upon_value]
 have hcells:(madeCells zv.cells (m*Enc.k α)).toList=(List.replicate m z0).flatMap Enc.cells:=by
  have h1:=px hzs m
  grind [Enc.k,madeCells,Builtin.zeroCells,List.size_toArray,Enc.len]
 rw [hcells] at how
 have hup:np [] w w':=⟨hg.os,hg.tape,hg.output,hg.size,fun k hk _=>hg.block k hk bA⟩
 have hlt:w.heap.size<w'.heap.size:=by
  rcases how.2 with ⟨h,_⟩ | ⟨gb,cap,cur,h,_,hgg,_⟩
  .grind
  grind
 refine hK _ _ _ (ha.put d _ hd) ((hw.grow hup).new (r:=ag.row e (.slice (some ⟨w.heap.size,0,none⟩) m m) (List.replicate m z0)) ?_ (by simp [ag.row,eB]) (fun k hk=>?_))
 .
  show Own 0 e w' _ _
  grind [Own,List.length_replicate]
 simp [ag.row,eB] at hk;subst hk
 exact ⟨hlt,hw.upd.size,fun h=>by have:=(hw.own _ h).1;omega,fun h=>by have:=(hw.nq _ h).1;omega⟩
theorem s.Iz {o m:Nat}{u dst:Value}{l2:List α}{A:TypeId}(i:Nat)(B':List ag)(hB:B[i]? = some (ag.row e v l))(hs:∀w,Wd we X B F w->Sl w u l2)(hx:ev L x=some dst)(hdst:dst=cz v o (Enc.k α)∨(dst=v/\o=0))(hy:ev L y=some u)(ht:nL P t=some (e,Enc.k α))
 (hm0:0<m) (hm1:m<=l2.length) (hm2:o+m<=l.length) (hm:m=l2.length∨o+m=l.length) (hB':B.set i (ag.row e v (l.take o++l2.take m++l.drop (o+m)))=B') (hd:Nat.blt d n=true) :
 Stp P n we X L B F ⟨some d,.call { callee:= .builtin .copy,args:= #[x,y],argTypes:= #[t,A]},ty,pos,dV,g⟩ (fun _:Unit=>(d,.int .i64 m)::L) (fun _=>B') (fun _=>F):=by
 intro K Q' ac w hac hw hK
 obtain ⟨hu,hsz⟩:=fk (P:=P) w ht
 have how:Own 0 e w v l:=hw.b i hB
 obtain ⟨A2,c2,rfl,h21,h22,h23⟩:=hs w hw
 have hk:=Enc.pos (α:=α)
 unfold Oper.wp
 obtain ⟨gb,cap,cur,rfl,_,hgg,hnc,hcm,hcs,htk⟩:=how.parts ae
 obtain ⟨x0,hx0⟩:∃y0,l2[0]? = some y0:=⟨_,List.getElem?_eq_getElem ae⟩
 obtain ⟨b2,off,rfl,hb2,_⟩:=h23 0 x0 hx0
 have hl3:(l2.take m).length=m:=az
 have hsrc:∀j u,((l2.take m).flatMap Enc.cells)[j]? = some u->w.cell? ((⟨b2,off,none⟩:Addr).add j)=some u:=fun j u hj=>by
  grind [nO,addr_add,Nat.add_assoc]
 have hfl:((l2.take m).flatMap Enc.cells).length=m*Enc.k α:=by rw [eI,hl3]
 have hld:=run_loadCells_list (P:=P) w ⟨b2,off,none⟩ ((l2.take m).flatMap Enc.cells) hsrc
 rw [hfl] at hld
 have hx':∃c3,ev L x=some (.slice (some ⟨gb,o*Enc.k α,none⟩) (l.length-o) c3):=by
  rcases hdst with rfl|⟨rfl,rfl⟩
  .
   have hne:cap≠o:=ae
   simp_all [cz,if_neg,addr_add]
  grind
 obtain ⟨c3,hx'⟩:=hx'
 have hle:l.length*Enc.k α<=cap*Enc.k α:=Nat.mul_le_mul_right _ hnc
 have hol:o*Enc.k α+m*Enc.k α<=l.length*Enc.k α:=by rw [<- Nat.add_mul];exact Nat.mul_le_mul_right _ hm2
 have hst:=run_storeCells_at P gb (o*Enc.k α) e ((l2.take m).flatMap Enc.cells) 0 cur w hgg ae (ml (l2.take m))
 have hrun:(execOp ac.eval ⟨some d,.call { callee:= .builtin .copy,args:= #[x,y],argTypes:= #[t,A]},ty,pos,dV,g⟩).run P w = .ok (.value (.int .i64 m)) (w.setRow gb (cur.toList.take (o*Enc.k α)++(l2.take m).flatMap Enc.cells++cur.toList.drop (o*Enc.k α+((l2.take m).flatMap Enc.cells).length)).toArray):=by
  have hmin:Nat.min l2.length (l.length-o)=m:=az
  simp only [Nat.add_zero] at hst
  simp [execOp,resolve,invoke,builtin,hac.ev hx',hac.ev hy,Builtin.copy_,run_underlying hu,Builtin.lenOf,Builtin.firstCells,hsz,hmin,goInt,hld,hst]
 rw [hrun,Oper.upon_value]
 have hll:(l.take o++l2.take m++l.drop (o+m)).length=l.length:=az
 have h3:(cur.toList.take (o*Enc.k α)).length=o*Enc.k α:=az
 have:=hw.uy (l':=l.take o++l2.take m++l.drop (o+m)) (cs':=cur.toList.take (o*Enc.k α)++(l2.take m).flatMap Enc.cells++cur.toList.drop (o*Enc.k α+((l2.take m).flatMap Enc.cells).length)) hB hgg hcm hcs az (by
  have e2:(o+m)*Enc.k α=o*Enc.k α+((l2.take m).flatMap Enc.cells).length:=az
  rw [hll,List.flatMap_append,List.flatMap_append,lO l o,nz,<- htk,e2]
  exact vv _ _ _ _ ae az) ae
 rw [hll] at this
 exact hK () _ _ (hac.put d _ hd) (hB'▸this)
end
theorem ofInt_u64 (a:Nat)(ha:a<18446744073709551616):(BitVec.ofInt 64 (a:Int)).toNat=a:=by
 grind
theorem u64_and1 {m r:Int}(h:r=m % 2/\0<=m/\m<=18446744073709551615):bits .and .u64 m 1=r:=by
 obtain ⟨rfl,h0,h1⟩:=h
 obtain ⟨a,rfl⟩:=Int.eq_ofNat_of_zero_le h0
 show IntKind.u64.wrap ((BitVec.ofInt 64 (a:Int) &&& BitVec.ofInt 64 ((1:Nat):Int)).toNat:Int)=_
 grind [BitVec.toNat_and,ofInt_u64,IntKind.wrap_u64]
theorem aaF {m e:Int}{j:Nat}(he:e=(j:Int))(hj:j<=64):m.fdiv (2 ^ (min e.toNat 64))=m / ((2 ^ j:Nat):Int):=by
 grind
theorem aaG {a b:Nat}{c:Int}(h:c=(b:Int)):((a:Nat):Int).tmod c=((a % b:Nat):Int):=by
 grind
section
variable {P:Program} {n:Nat} {we:World} {X:List Nat} {L:Fm} {B F:List ag} {ty xT e:TypeId} {x y:Operand}
end
def J2 (places:List (Nat×Nat)):List Value->List (Nat×List Value)->Option (List Value)
  | cells,[]=>some cells
  | cells,(i,v)::rest=>match places[i]? with
    | none=>none
    | some (off,size)=>bif Nat.beq v.length size&&Nat.ble (off+size) cells.length then J2 places (cells.take off++v++cells.drop (off+size)) rest else none
theorem FL (places:List (Nat×Nat)):∀ (parts:List (Nat×Value)) (cells:List Value),zi places cells parts=J2 places cells (parts.map fun p=>(p.1,p.2.cells.toList))
 | [],cells=>rfl
 | (i,v)::rest,cells=>by
  simp only [zi,List.map_cons,J2]
  cases places[i]? with
  | none=>rfl
  | some q =>
   obtain ⟨off,size⟩:=q
   simp only [FL places rest]
theorem Cz:∀ (is:List Nat) (vs:List Value),(is.zip vs).map (fun p=>(p.1,p.2.cells.toList))=is.zip (vs.map fun v=>v.cells.toList)
 | [],vs=>by simp
 | i::is,[]=>by simp
 | i::is,v::vs=>by simp [Cz is vs]
theorem D8:([]:List Value).map (fun v=>v.cells.toList)=[]:=rfl
theorem l8 {v:Value}{vs:List Value}{u:List Value}{us:List (List Value)}(h:v.cells.toList=u)(hs:vs.map (fun v=>v.cells.toList)=us):(v::vs).map (fun v=>v.cells.toList)=u::us:=by
 grind
theorem Sl.D9 {α:Type}[Enc α]{w:World}{v:Value}{l:List α}(h:Sl w v l):v.cells.toList=[v]:=by rw [h.cL]
section
variable {P:Program} {n:Nat} {we:World} {X:List Nat} {L:Fm} {B F:List ag} {ty:TypeId}
theorem q.Ea {t:TypeId}{parts:Array (Nat×Operand)}{places:List (Nat×Nat)}{zs vs cs:List Value}{us:List (List Value)}(ht:tB P t=some (places,zs))(hp:evs L (parts.toList.map (·.2))=some vs)
 (hv:∀w,Wd we X B F w->vs.map (fun v=>v.cells.toList)=us) (hf:J2 places zs ((parts.toList.map (·.1)).zip us)=some cs) :
 Qt P n we X L B F (.build t parts) ty (.agg cs.toArray):=fun q1 q2 q3 q4 a w ha hw =>
 q.build ht hp (by grind [FL,Cz]) q1 q2 q3 q4 a w ha hw
end
def Nw (Bl Fl:List ag):Prop:= ∀f∈Fl,∃r∈Bl,(∀w,r.ok w->f.ok w) /\ ∀k∈f.blk,k∈r.blk
theorem vx:Nw [] []:=fun f hf=>by grind
theorem nC {α:Type}[Enc α]{Bl Fl:List ag}{e:TypeId}{v:Value}{l:List α}(h:Nw Bl Fl):Nw (ag.row e v l::Bl) (ag.ls v l::Fl):=fun f hf=>by
 rcases List.mem_cons.1 hf with rfl|hf
 .exact ⟨_,List.mem_cons_self ..,fun w hw=>Own.sl hw,fun k hk=>zp k hk⟩
 obtain ⟨r,hr,h1,h2⟩:=h f hf
 grind
section
variable {we w w':World} {X:List Nat} {B0 Bl Br B1 F Fl:List ag}
theorem Wd.Yn (hw:Wd we X (B0++(Bl++Br)) F w)(hl:Nw Bl Fl):Wd we X (B0++Br) (Fl++F) w:=by
 have hs:=hw.sep
 rw [bz,bz] at hs
 obtain ⟨s1,s2,s3⟩:=List.nodup_append.1 hs
 obtain ⟨s4,s5,s6⟩:=List.nodup_append.1 s2
 have hsub:∀k∈blks (B0++Br),k∈blks (B0++(Bl++Br)):=fun k hk=>by
  grind [bz]
 refine ⟨hw.upd,fun r hr=>?_,fun r hr=>?_,?_,fun k hk=>hw.own k (hsub k hk),fun k hk=>?_⟩
 .
  rcases List.mem_append.1 hr with hr|hr
  .exact hw.okB r (List.mem_append.2 (.inl hr))
  exact hw.okB r (List.mem_append.2 (.inr (List.mem_append.2 (.inr hr))))
 .
  rcases List.mem_append.1 hr with hr|hr
  .
   obtain ⟨q,hq,h1,_⟩:=hl r hr
   exact h1 w (hw.okB q (List.mem_append.2 (.inr (List.mem_append.2 (.inl hq)))))
  exact hw.okF r hr
 .grind [bz,List.nodup_append,b]
 rw [bz] at hk
 rcases List.mem_append.1 hk with hk|hk
 .
  obtain ⟨f,hf,hk⟩:=bK.1 hk
  obtain ⟨q,hq,_,h2⟩:=hl f hf
  have hb:k∈blks Bl:=bK.2 ⟨q,hq,h2 k hk⟩
  refine ⟨(hw.own k (by grind [bz])).1,fun hc=>?_⟩
  grind [bz]
 exact ⟨(hw.nq k hk).1,fun hc=>(hw.nq k hk).2 (hsub k hc)⟩
theorem Wd.wider (hw:Wd we X (B0++(Bl++Br)) F w)(hp:Wd w (blks B0++blks Br) (B1++[ag.held w (blks Br)]) [] w'):Wd w (blks B0++blks (Bl++Br)) (B1++[ag.held w (blks (Bl++Br))]) [] w':=by
 have hs:=hw.sep
 rw [bz,bz] at hs
 obtain ⟨s1,s2,s3⟩:=List.nodup_append.1 hs
 obtain ⟨s4,s5,s6⟩:=List.nodup_append.1 s2
 have hbl:∀k∈blks Bl,k<w.heap.size/\k∉blks B0++blks Br:=fun k hk=>by
  refine ⟨(hw.own k (by grind [bz])).1,fun hc=>?_⟩
  grind
 have hps:=hp.sep
 rw [gA] at hps
 obtain ⟨p1,p2,p3⟩:=List.nodup_append.1 hps
 have hb1:∀k∈blks B1,k∉blks Bl:=fun k hk hc =>
  (hbl k hc).2 ((hp.own k (by grind [gA])).2 (hbl k hc).1)
 refine ⟨hp.upd.mono fun k hk _=>?_,fun r hr=>?_,fun r hr=>az,?_,fun k hk=>?_,fun k hk=>(by cases hk)⟩
 .grind [bz]
 .
  rcases List.mem_append.1 hr with hr|hr
  .exact hp.okB r (List.mem_append.2 (.inl hr))
  rw [List.mem_singleton.1 hr]
  intro k hk
  have hk:k∈blks (Bl++Br):=hk
  rw [bz] at hk
  rcases List.mem_append.1 hk with hk|hk
  .exact hp.upd.block k (hbl k hk).1 (hbl k hk).2
  exact hp.okB (ag.held w (blks Br)) (List.mem_append.2 (.inr (List.mem_singleton.2 rfl))) k hk
 .grind [gA,bz,List.nodup_append,b]
 rw [gA,bz] at hk
 rcases List.mem_append.1 hk with hk|hk
 .
  have h1:=hp.own k (by grind [gA])
  grind
 rcases List.mem_append.1 hk with hk2|hk2
 .exact ⟨Nat.lt_of_lt_of_le (hbl k hk2).1 hp.upd.size,fun _=>List.mem_append.2 (.inr (by grind [bz]))⟩
 exact ⟨(hp.own k (by grind [gA])).1,fun _=>List.mem_append.2 (.inr (by grind [bz]))⟩
end
section
variable {P:Program} {n:Nat} {we:World} {X:List Nat} {L:Fm} {B F:List ag} {d:Nat} {ty:TypeId} {pos:String} {dV:Array Edge} {g:Option (Nat×Bool)}
theorem s.Eb {β:Type}{f:FuncId}{c:Operand}{xs:Array Operand}{ts:Array TypeId}{vs:List Value}{cap:Array Value}{B0 Bl Br F0 Fl:List ag}(is js:List Nat)(G:β->Value)(B1:β->List ag)(hp:bW B is=some (B0++(Bl++Br)))(ha':eP is=true)(hl:Nw Bl Fl)(hj:bW (Fl++F) js=some F0)
 (eg:∀args w,(callFunc f args).run P w = .ok (.enter f args) w) (hargs:evs L xs.toList=some vs) (hc:ev L c=some (.func (.func f) #[] cap))
 (hcall:∀w own,Wd we X B F w->Wd w (blks B0++own) (B0++[ag.held w own]) F0 w->Calls P f (vs++cap.toList).toArray w fun e w' => ∃z,e = .returned (G z)/\Wd w (blks B0++own) (B1 z++[ag.held w own]) [] w') (hd:Nat.blt d n=true) :
 Stp P n we X L B F ⟨some d,.call { callee:= .value c,args:=xs,argTypes:=ts},ty,pos,dV,g⟩ (fun z=>(d,G z)::L) (fun z=>B1 z++(Bl++Br)) (fun _=>F):=by
 intro K Q' a w ha hw hK
 have hw2:=hw.Lm is hp ha'
 have hw3:=hw2.Yn hl
 unfold Oper.wp
 rw [rP ha hargs hc eg,Oper.upon_enter]
 refine (hcall w (blks Br) hw (hw3.D6 hj)).mono fun e w' he=>?_
 obtain ⟨z,rfl,ht⟩:=he
 exact hK z _ _ (ha.put d _ hd) (hw2.after (hw2.wider ht))
end
end
end Go.Proofs.YtnmpibjlnninjaaGreatDoor
