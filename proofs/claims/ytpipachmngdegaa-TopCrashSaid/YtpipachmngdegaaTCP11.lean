import Derived.Test.YtpipachmngdegaaTCP10
section
namespace Go.Proofs.Ytpipachmngdegaa
open Go Go.RowKit
set_option linter.unusedVariables false
set_option linter.unusedSimpArgs false
def ah.held (w0:World)(own:List Nat):ah:=⟨own,fun w => ∀k∈own,w.heap[k]? = w0.heap[k]?,fun w w' h ho k hk=>(h k hk).trans (ho k hk)⟩
theorem cK (B:List ah)(w:World)(own:List Nat):blks (B++[ah.held w own])=blks B++own:=by
  rw [aL];simp [blks,ah.held]
theorem pE {F F0:List ah}{js:List Nat}(h:cb F js=some F0):∀k∈blks F0,k∈blks F:=fun k hk=>by
  obtain ⟨r,hr,hk⟩:=aZ.1 hk
  exact aZ.2 ⟨r,gZ h r hr,hk⟩
section
variable {we w w':World} {X:List Nat} {B0 Br B1 F F0 F1:List ah}
theorem Wd.nJ (hw:Wd we X (B0++Br) F w){js:List Nat}(hj:cb F js=some F0):Wd w (blks B0++blks Br) (B0++[ah.held w (blks Br)]) F0 w:=by
  have hs:=hw.sep
  rw [aL] at hs
  refine ⟨iN.refl _ _,fun r hr=>?_,fun r hr=>hw.okF r (gZ hj r hr),by rw [cK];exact hs,fun k hk=>?_,fun k hk=>?_⟩
  ·
    rcases List.mem_append.1 hr with hr|hr
    · exact hw.okB r (List.mem_append.2 (.inl hr))
    · simp at hr;subst hr;exact fun k _=>rfl
  ·
    rw [cK] at hk
    exact ⟨(hw.own k (by rw [aL];exact hk)).1,fun _=>hk⟩
  ·
    rw [cK,← aL]
    exact hw.gI k (pE hj k hk)
theorem Wd.after (hw:Wd we X (B0++Br) F w)(hp:Wd w (blks B0++blks Br) (B1++[ah.held w (blks Br)]) F1 w'):Wd we X (B1++Br) (F1++F) w':=by
  have hout:∀k,k<w.heap.size→k∉blks (B0++Br)→w'.heap[k]? = w.heap[k]?:=fun k hk hn=>hp.upd.block k hk (by rw [← aL];exact hn)
  have xd:∀k∈blks Br,w'.heap[k]? = w.heap[k]?:=hp.okB (ah.held w (blks Br)) (List.mem_append.2 (.inr (List.mem_singleton.2 rfl)))
  have hsz:=hp.upd.size
  have hold:∀k∈blks B1,k<w.heap.size→k∈blks (B0++Br):=fun k hk hlt=>by
    rw [aL];exact (hp.own k (by rw [cK];exact List.mem_append.2 (.inl hk))).2 hlt
  refine ⟨⟨hp.upd.os.trans hw.upd.os,hp.upd.tape.trans hw.upd.tape,hp.upd.output.trans hw.upd.output,Nat.le_trans hw.upd.size hsz,fun k hk hx=>?_⟩,fun r hr=>?_,fun r hr=>?_,?_,fun k hk=>?_,fun k hk=>?_⟩
  ·
    have hk2:k<w.heap.size:=Nat.lt_of_lt_of_le hk hw.upd.size
    exact (hout k hk2 (fun hb=>hx ((hw.own k hb).2 hk))).trans (hw.upd.block k hk hx)
  ·
    rcases List.mem_append.1 hr with hr|hr
    · exact hp.okB r (List.mem_append.2 (.inl hr))
    · exact r.loc w w' (fun k hk=>xd k (aZ.2 ⟨r,hr,hk⟩)) (hw.okB r (List.mem_append.2 (.inr hr)))
  ·
    rcases List.mem_append.1 hr with hr|hr
    · exact hp.okF r hr
    ·
      refine r.loc w w' (fun k hk=>?_) (hw.okF r hr)
      have:=hw.gI k (aZ.2 ⟨r,hr,hk⟩)
      exact hout k this.1 this.2
  ·
    have:=hp.sep
    rw [cK] at this;rw [aL];exact this
  ·
    rw [aL] at hk
    have h1:=hp.own k (by rw [cK];exact hk)
    refine ⟨h1.1,fun hlt=>?_⟩
    rcases List.mem_append.1 hk with hk|hk
    · exact (hw.own k (hold k hk (Nat.lt_of_lt_of_le hlt hw.upd.size))).2 hlt
    · exact (hw.own k (by rw [aL];exact List.mem_append.2 (.inr hk))).2 hlt
  ·
    rw [aL] at hk
    rcases List.mem_append.1 hk with hk|hk
    ·
      have:=hp.gI k hk
      rw [cK] at this;rw [aL];exact this
    ·
      have:=hw.gI k hk
      refine ⟨Nat.lt_of_lt_of_le this.1 hsz,fun hb=>?_⟩
      rw [aL] at hb
      rcases List.mem_append.1 hb with hb|hb
      · exact this.2 (hold k hb this.1)
      · exact this.2 (by rw [aL];exact List.mem_append.2 (.inr hb))
end
section
variable {P:Program} {n:Nat} {we:World} {X:List Nat} {Q:Exit→Act→World→Prop} {k k':List It} {L:Fm} {B F:List ah} {ops rest:List Oper}
variable {dst:Option Nat} {d:Nat} {ty:TypeId} {pos:String} {cx:Array Edge} {g:Option (Nat×Bool)} {v:Value}
variable {x y:Operand} {xT yT t e:TypeId} {α:Type} [Enc α] {l:List α}
theorem s.bD {β:Type}{f:FuncId}{c:Operand}{xs:Array Operand}{ts:Array TypeId}{vs:List Value}{cap:Array Value}{B0 Br F0:List ah}(is js:List Nat)(G:β→Value)(B1 F1:β→List ah)(hp:cb B is=some (B0++Br))(ha':eL is=true)(hj:cb F js=some F0)
    (eg:∀args w,(callFunc f args).run P w = .ok (.enter f args) w) (hargs:evs L xs.toList=some vs) (hc:ev L c=some (.func (.func f) #[] cap))
    (hcall:∀w own,Wd we X B F w→Wd w (blks B0++own) (B0++[ah.held w own]) F0 w→Calls P f (vs++cap.toList).toArray w fun e w' => ∃z,e = .returned (G z)∧Wd w (blks B0++own) (B1 z++[ah.held w own]) (F1 z) w') (hd:Nat.blt d n=true) :
    Stp P n we X L B F ⟨some d,.call { callee:= .value c,args:=xs,argTypes:=ts },ty,pos,cx,g⟩ (fun z=>(d,G z)::L) (fun z=>B1 z++Br) (fun z=>F1 z++F):=by
  intro K Q' a w ha hw hK
  have hw2:=hw.vO is hp ha'
  unfold Oper.wp
  rw [jW ha hargs hc eg,Oper.upon_enter]
  refine (hcall w (blks Br) hw (hw2.nJ hj)).mono fun e w' he=>?_
  obtain ⟨z,rfl,ht⟩:=he
  exact hK z _ _ (ha.put d _ hd) (hw2.after ht)
theorem R.bW {f:FuncId}{fn:Func}{c:Code}{vs:List Value}{w:World}{R:Ending→World→Prop}(L:Fm)(hf:P.funcs[f]? = some fn)(hb:fn.body=some c)(hn:fn.ntmps=n)
    (hle:Nat.ble vs.length n=true) (hL:vJ 0 vs=L) (h0:Wd w X B F w) (h:Run P n w X (bodyPost P fn R) [.c c] L B F):Calls P f vs.toArray w R:=by
  have hle':vs.length≤n:=Nat.le_of_ble_eq_true hle
  refine calls_of_wp hf hb ?_
  refine wp_mono (h _ w ⟨?_,rfl,fun i v hv=>?_⟩ h0) (fun e a w q=>by cases e <;> exact q)
  · simp [hn];omega
  ·
    rw [← hL] at hv
    obtain ⟨h1,h2⟩:=lj vs 0 i v hv
    simp only [Nat.sub_zero] at h2
    have hi:i<vs.length:=(List.getElem?_eq_some_iff.1 h2).1
    show (vs.toArray++Array.replicate (fn.ntmps-vs.toArray.size) undef)[i]? = some v
    rw [Array.getElem?_append_left (by simpa using hi)]
    simpa using h2
section
variable {fn:Func} {β:Type} {B1 F1:β→List ah} {V:β→Value} {r1 r2 r3 r4:ResultVar} {v1 v2 v3 v4:Value}
theorem R.w0 (z:β)(is js:List Nat)(h:norm 200 k=[] ∨ ∃k',norm 200 k = .c .ret::k')(hr:fn.results = #[])(hp:cb B is=some (B1 z))(ha:eL is=true)(hj:cb F js=some (F1 z))(e:V z = .tuple #[]):Run P n we X (bodyPost P fn fun en w' => ∃z,en = .returned (V z)∧Wd we X (B1 z) (F1 z) w') k L B F:=by
  rcases h with h|⟨k',h⟩
  · exact R.yz h hr fun w hw=>⟨z,by rw [e],hw.aA is js hp hj ha⟩
  · exact R.yA h hr fun w hw=>⟨z,by rw [e],hw.aA is js hp hj ha⟩
theorem R.w1 (z:β)(is js:List Nat)(h:norm 200 k = .c .ret::k')(hr:fn.results = #[r1])(h1:RV P n we X L B F r1 v1)(hp:cb B is=some (B1 z))(ha:eL is=true)(hj:cb F js=some (F1 z))(e:v1=V z):Run P n we X (bodyPost P fn fun en w' => ∃z,en = .returned (V z)∧Wd we X (B1 z) (F1 z) w') k L B F :=
  R.w4 h hr h1 fun w hw=>⟨z,by rw [e],hw.aA is js hp hj ha⟩
theorem R.w2 (z:β)(is js:List Nat)(h:norm 200 k = .c .ret::k')(hr:fn.results = #[r1,r2])(h1:RV P n we X L B F r1 v1)(h2:RV P n we X L B F r2 v2)(hp:cb B is=some (B1 z))(ha:eL is=true)(hj:cb F js=some (F1 z))(e : .tuple #[v1,v2]=V z):Run P n we X (bodyPost P fn fun en w' => ∃z,en = .returned (V z)∧Wd we X (B1 z) (F1 z) w') k L B F :=
  R.vj h hr h1 h2 fun w hw=>⟨z,by rw [e],hw.aA is js hp hj ha⟩
theorem R.w3 (z:β)(is js:List Nat)(h:norm 200 k = .c .ret::k')(hr:fn.results = #[r1,r2,r3])(h1:RV P n we X L B F r1 v1)(h2:RV P n we X L B F r2 v2)(h3:RV P n we X L B F r3 v3)(hp:cb B is=some (B1 z))(ha:eL is=true)(hj:cb F js=some (F1 z))(e : .tuple #[v1,v2,v3]=V z):Run P n we X (bodyPost P fn fun en w' => ∃z,en = .returned (V z)∧Wd we X (B1 z) (F1 z) w') k L B F :=
  R.w5 h hr h1 h2 h3 fun w hw=>⟨z,by rw [e],hw.aA is js hp hj ha⟩
end
theorem sC {v:Value}{l:List α}:∀k∈(ah.ls v l).blk,k∈cB v:=fun k hk=>by
  unfold ah.ls at hk
  dsimp only at hk
  split at hk
  · cases hk
  · exact hk
theorem Wd.fR {w:World}(hw:Wd we X B F w)(i:Nat)(B':List ah)(hB:B[i]? = some (ah.row e v l))(hB':B.eraseIdx i=B'):Wd we X B' (ah.ls v l::F) w:=by
  subst hB'
  have how:Own 0 e w v l:=hw.b i hB
  have hi:i<B.length:=(List.getElem?_eq_some_iff.1 hB).1
  have hsub:(B.eraseIdx i).Sublist B:=List.eraseIdx_sublist B i
  have hbs:(blks (B.eraseIdx i)).Sublist (blks B):=jY hsub
  have hmem:∀k∈cB v,k∈blks B:=fun k hk=>aZ.2 ⟨_,List.mem_of_getElem? hB,hk⟩
  have hnot:∀k∈cB v,k∉blks (B.eraseIdx i):=fun k hk hb=>by
    obtain ⟨r,hr,hkr⟩:=aZ.1 hb
    obtain ⟨j,hj⟩:=List.mem_iff_getElem?.1 hr
    rw [List.getElem?_eraseIdx] at hj
    split at hj
    · exact eD hB hj (by omega) hw.sep k hk hkr
    · exact eD hB hj (by omega) hw.sep k hk hkr
  refine ⟨hw.upd,fun r hr=>hw.okB r (hsub.subset hr),fun r hr=>(List.mem_cons.1 hr).elim (fun e=>e▸how.sl) (hw.okF r),hbs.nodup hw.sep,fun k hk=>hw.own k (hbs.subset hk),fun k hk=>?_⟩
  rcases List.mem_append.1 hk with hk|hk
  ·
    have hk':=sC k hk
    exact ⟨(hw.own k (hmem k hk')).1,hnot k hk'⟩
  · exact ⟨(hw.gI k hk).1,fun h=>(hw.gI k hk).2 (hbs.subset h)⟩
theorem Wd.xe {w:World}(hw:Wd we X B F w)(j:Nat)(r r':ah)(hF:F[j]? = some r)(hs:∀k∈r'.blk,k∈r.blk)(hr:r'.ok w):Wd we X B (r'::F) w :=
  hw.fact hr fun k hk=>hw.gI k (aZ.2 ⟨r,List.mem_of_getElem? hF,hs k hk⟩)
theorem Wd.vQ {w:World}(hw:Wd we X B F w):Wd we X B (ah.ls (α:=α) (.slice none 0 0) []::F) w:=hw.fact (Sl.nil w) (by simp [ah.ls])
theorem R.mp {B' F':List ah}(hm:∀w,Wd we X B F w→Wd we X B' F' w)(h:Run P n we X Q k L B' F'):Run P n we X Q k L B F:=fun a w ha hw=>h a w ha (hm w hw)
theorem Rg.mp {B' F':List ah}(hm:∀w,Wd we X B F w→Wd we X B' F' w)(h:Rg P n we X Q ops rest k L B' F'):Rg P n we X Q ops rest k L B F:=fun a w ha hw=>h a w ha (hm w hw)
theorem R.iZ (hs:Sl we v l)(h:Run P n we [] Q k L B (ah.ls v l::F)):Run P n we [] Q k L B F:=R.lv (r:=ah.ls v l) hs (vk hs) h
theorem q.lz {m:Int}{i kk q:Nat}{kd:IntKind}(hs:∀w,Wd we X B F w→Sl w v l)(hx:ev L x=some (Ytpipachmngdegaa.iV v q))(hy:ev L y=some (.int kd m))(ht:jS P xT=some (e,kk))(hm:m=(i:Int))(hi:i≤q)(hq:q≤fP v) :
    Qt P n we X L B F (.slice xT x (some y) none none) ty (Ytpipachmngdegaa.cJ (Ytpipachmngdegaa.iV v q) i kk):=fun _ _ _ _ a w ha hw=>by
  obtain ⟨A,c,rfl,h1,h2,h3⟩:=hs w hw
  obtain ⟨hu,hz⟩:=cy (P:=P) w ht
  subst hm
  simp only [fP] at hq
  have hx':ev L x=some (.slice A q c):=hx
  simp only [execOp,ha.ev hx',Option.map_some,Option.map_none,ha.ev hy,Instr.sliceAt,Sem.run_bind,run_underlying hu,Result.andThen_ok,Instr.slice,Instr.sliceBounds,Instr.sliceBound,asIntOf,Sem.run_pure]
  rw [if_pos ⟨by omega,by omega⟩]
  simp [hz,Ytpipachmngdegaa.cJ,Ytpipachmngdegaa.iV]
theorem s.vm {lo hi:Nat}{z0:α}{z:Value}(i:Nat)(hB:B[i]? = some (ah.row e v l))(hx:ev L x=some (sl2 v lo hi (Enc.k α)))(ht:jS P t=some (e,Enc.k α))(hz:eE P e=some z)(hzs:z.cells=(Enc.cells z0).toArray)(hlo:l.length≤lo)(hh:lo≤hi)(hhi:hi≤fP v) :
    Stp P n we X L B F ⟨none,.call { callee:= .builtin .clear,args:= #[x],argTypes:= #[t] },ty,pos,cx,g⟩ (fun _:Unit=>L) (fun _=>B) (fun _=>F) :=
  s.yI (kk:=0) i hB hx ht (by rw [hz];rfl) (fun z' h=>by
    rw [hz] at h;injection h with h;subst h
    rw [hzs];exact ⟨by simpa using Enc.len z0,fun u hu=>Enc.one z0 u (by simpa using hu)⟩) hlo hh hhi
theorem s.sD {o o' m:Nat}{A:TypeId}(i:Nat)(B':List ah)(hB:B[i]? = some (ah.row e v l))(ho:o<l.length)(hm:m=l.length+1)(ho':o'=o+1)(hroom:l.length+1≤fP v)(hx:ev L x=some (cJ (iV v m) o' (Enc.k α)))(hy:ev L y=some (cJ (iV v m) o (Enc.k α)))(ht:jS P t=some (e,Enc.k α))(hB':B.set i (ah.row e (iV v m) (l.take (o+1)++l.drop o))=B')(hd:Nat.blt d n=true) :
    Stp P n we X L B F ⟨some d,.call { callee:= .builtin .copy,args:= #[x,y],argTypes:= #[t,A] },ty,pos,cx,g⟩ (fun _:Unit=>(d,.int .i64 ((l.length-o:Nat):Int))::L) (fun _=>B') (fun _=>F):=by
  subst hm;subst ho'
  exact s.xa i B' hB ho hroom hx hy ht hB' hd
theorem eN (v:Value)(i:Nat):fP (iV v i)=fP v:=by
  cases v <;> rfl
theorem Own.cap {base:Nat}{w:World}{v:Value}{l:List α}(h:Own base e w v l):l.length≤fP v:=by
  obtain ⟨A,c,rfl,h1,_⟩:=h.sl
  exact h1
theorem Wd.cap {w:World}(hw:Wd we X B F w)(i:Nat)(hB:B[i]? = some (ah.row e v l)):l.length≤fP v:=Own.cap (hw.b i hB)
theorem Wd.aU {w:World}(hw:Wd we X B F w)(i:Nat)(hB:B[i]? = some (ah.row e v l)):l.length≤9223372036854775807:=Sl.jZ (Own.sl (hw.b i hB))
theorem Wd.jD {w:World}(hw:Wd we X B F w)(i:Nat)(hF:F[i]? = some (ah.ls v l)):l.length≤9223372036854775807:=Sl.jZ (hw.bZ i hF)
theorem Sl.one {w:World}{v:Value}{l:List α}(h:Sl w v l):v.oneCell'=true:=by
  obtain ⟨A,c,rfl,_⟩:=h;rfl
theorem Sl.eu {w:World}{v:Value}{l:List α}(h:Sl w v l):v.cells=[v].toArray:=by
  obtain ⟨A,c,rfl,_⟩:=h;rfl
theorem s.xg {t:TypeId}{cs:List Value}(hx:ev L x=some v)(hv:∀w,Wd we X B F w→v.cells=cs.toArray)(hd:Nat.blt d n=true) :
    Stp P n we X L B F ⟨some d,.box t x,ty,pos,cx,g⟩ (fun b:Nat=>(d,.pointer (some ⟨b,0,none⟩))::L) (fun b=>ah.box b cs t::B) (fun _=>F):=by
  intro K Q' a w ha hw hK
  exact s.box hx (hv w hw) hd K Q' a w ha hw hK
theorem eh:∀u∈([]:List Value),u.oneCell'=true:=fun u hu=>by cases hu
theorem dA {u:Value}{us:List Value}(h:u.oneCell'=true)(hs:∀q∈us,q.oneCell'=true):∀q∈u::us,q.oneCell'=true:=fun q hq=>(List.mem_cons.1 hq).elim (fun e=>e▸h) (hs q)
theorem s.su {b o:Nat}{cs us cs':List Value}{t:TypeId}{u:Value}(i:Nat)(B':List ah)(hB:B[i]? = some (ah.box b cs t))(hx:ev L x=some (.pointer (some ⟨b,o,none⟩)))(hy:ev L y=some u)(hu:∀w,Wd we X B F w→u.cells=us.toArray)
    (ht:(kT P xT=some us.length∨gq P xT=true∧us.length=1)) (hone:∀w,Wd we X B F w → ∀q∈us,q.oneCell'=true) (hcs:cs.take o++us++cs.drop (o+us.length)=cs') (hl:Nat.ble (o+us.length) cs.length=true) (hB':B.set i (ah.box b cs' t)=B') :
    Stp P n we X L B F ⟨none,.store xT x y,ty,pos,cx,g⟩ (fun _:Unit=>L) (fun _=>B') (fun _=>F):=by
  intro K Q' a w ha hw hK
  exact s.st i B' hB hx hy (hu w hw) ht (List.all_eq_true.2 (hone w hw)) hcs hl hB' K Q' a w ha hw hK
end
section
variable {P:Program} {n:Nat} {we:World} {X:List Nat} {L:Fm} {B F B2 F2:List ah}
theorem s.pre {β:Type}{o:Oper}{L':β→Fm}{B' F':β→List ah}(hm:∀w,Wd we X B F w→Wd we X B2 F2 w)(h:Stp P n we X L B2 F2 o L' B' F'):Stp P n we X L B F o L' B' F' :=
  fun K Q' a w ha hw hK=>h K Q' a w ha (hm w hw) hK
theorem Wd.row0 {α:Type}[Enc α]{w:World}(hw:Wd we X B F w)(e:TypeId):Wd we X (ah.row e (.slice none 0 0) ([]:List α)::B) F w :=
  hw.new (r:=ah.row e (.slice none 0 0) ([]:List α)) (Own.nil 0 e w) (by simp [ah.row,cB]) (by simp [ah.row,cB])
end
end Go.Proofs.Ytpipachmngdegaa
end
