import Derived.Test.YtnmpibjlnninjaaGreatDoorKS10
import Derived.Shelf.Abstract
namespace Go.Proofs.YtnmpibjlnninjaaGreatDoor
set_option linter.unusedVariables false
set_option linter.unusedSimpArgs false
set_option maxRecDepth 100000
set_option maxHeartbeats 90000000
section
open Go Go.RowKit
def Dv (v:Value):Value:=match v with | .slice a n c => .slice a n c|_ => .slice none 0 0
theorem Nm (v:Value):(Dv v).oneCell'=true:=by unfold Dv;split <;> rfl
theorem Sl.Dv {α:Type}[Enc α]{w:World}{v:Value}{l:List α}(h:Sl w v l):YtnmpibjlnninjaaGreatDoor.Dv v=v:=by
 obtain ⟨A,c,rfl,_⟩:=h;rfl
structure kJ where
  v0:Value
  L:List Change
abbrev kJ.cv (x:kJ):Value:=Dv x.v0
instance:Enc kJ:=⟨1,fun x=>[x.cv],fun _=>rfl,fun x u hu=>by grind [List.mem_singleton,Nm],by decide⟩
abbrev kJ.val (x:kJ):Value:=x.cv
def aj.nJ (l:List kJ):aj:=⟨l.flatMap (fun x=>(aj.ls x.cv x.L).blk),fun w => ∀x∈l,Sl w x.cv x.L,fun w w' h hs x hx=>(aj.ls x.cv x.L).loc w w' (fun k hk=>h k (List.mem_flatMap.2 ⟨x,hx,hk⟩)) (hs x hx)⟩
def aj.sP (l:List kJ)(E:List (List Change)):aj:=⟨(aj.nJ l).blk,fun w=>(aj.nJ l).ok w/\l.map kJ.L=E,fun w w' h hs=>⟨(aj.nJ l).loc w w' h hs.1,hs.2⟩⟩
theorem QD {l:List kJ}{x:kJ}(hx:x∈l):∀k∈(aj.ls x.cv x.L).blk,k∈(aj.nJ l).blk:=fun k hk=>List.mem_flatMap.2 ⟨x,hx,hk⟩
section
variable {P:Program} {n:Nat} {we w:World} {X:List Nat} {B F:List aj} {l:List kJ} {x:kJ} {v:Value} {L:List Change} {Q:Exit->Act->World->Prop} {k:List It} {ops:List Oper} {rest:List (List Oper)}
theorem Wd.YU (i:Nat)(h:F[i]? = some (aj.nJ l))(hx:x∈l)(hw:Wd we X B F w):Sl w x.cv x.L:=hw.f i h x hx
theorem Wd.Wz (hw:Wd we X B F w):Wd we X B (aj.nJ []::F) w:=hw.fact (r:=aj.nJ []) (fun x hx=>by grind) (fun k hk=>by cases hk)
theorem Wd.QE (i j:Nat)(hi:F[i]? = some (aj.nJ l))(hj:F[j]? = some (aj.ls v L))(hw:Wd we X B F w):Wd we X B (aj.nJ (l++[⟨v,L⟩])::F) w:=by
 have h1:∀x∈l,Sl w x.cv x.L:=hw.f i hi
 have h2:Sl w v L:=hw.bz j hj
 refine hw.fact (r:=aj.nJ (l++[⟨v,L⟩])) (fun x hx=>?_) (fun k hk=>?_)
 .grind [Sl,Dv,List.mem_singleton]
 obtain ⟨x,hx,hk⟩:=List.mem_flatMap.1 hk
 rcases List.mem_append.1 hx with hx|hx
 .exact hw.mR k (bX.2 ⟨_,List.mem_of_getElem? hi,List.mem_flatMap.2 ⟨x,hx,hk⟩⟩)
 rw [List.mem_singleton.1 hx] at hk
 have hk':k∈(aj.ls v L).blk:=by
  have:(kJ.mk v L).cv=v:=h2.Dv
  grind
 exact hw.mR k (bX.2 ⟨_,List.mem_of_getElem? hj,hk'⟩)
theorem Wd.Dw (i:Nat)(hi:F[i]? = some (aj.nJ l))(hw:Wd we X B F w):Wd we X B (aj.sP l (l.map kJ.L)::F) w :=
 hw.fact (r:=aj.sP l (l.map kJ.L)) ⟨hw.f i hi,rfl⟩ (fun k hk=>hw.mR k (bX.2 ⟨_,List.mem_of_getElem? hi,hk⟩))
theorem Wd.TD (i:Nat)(hi:F[i]? = some (aj.nJ l))(hx:x∈l)(hw:Wd we X B F w):Wd we X B (aj.ls x.cv x.L::F) w :=
 hw.Wj i _ _ hi (QD hx) (hw.YU i hi hx)
theorem Wd.Nn {E:List (List Change)}(i:Nat)(F':List aj)(hi:F[i]? = some (aj.sP l E))(hF:aj.nJ l::F.eraseIdx i=F')(hw:Wd we X B F w):Wd we X B F' w/\l.map kJ.L=E:=by
 subst hF
 have h:=hw.f i hi
 refine ⟨?_,h.2⟩
 have h1:=hw.fact (r:=aj.nJ l) h.1 (fun k hk=>hw.mR k (bX.2 ⟨_,List.mem_of_getElem? hi,hk⟩))
 refine ⟨h1.upd,h1.okB,fun r hr=>?_,h1.sep,h1.own,fun k hk=>?_⟩
 .
  rcases List.mem_cons.1 hr with rfl|hr
  .exact h.1
  exact hw.okF r ((List.eraseIdx_sublist F i).subset hr)
 obtain ⟨r,hr,hk⟩:=bX.1 hk
 rcases List.mem_cons.1 hr with rfl|hr
 .exact hw.mR k (bX.2 ⟨_,List.mem_of_getElem? hi,hk⟩)
 exact hw.mR k (bX.2 ⟨r,(List.eraseIdx_sublist F i).subset hr,hk⟩)
theorem Rg.WA {L':Fm}{E:List (List Change)}{rs:List Oper}(i:Nat)(F':List aj)(hi:F[i]? = some (aj.sP l E))(hF:aj.nJ l::F.eraseIdx i=F')(h:l.map kJ.L=E->Rg P n we X Q ops rs k L' B F'):Rg P n we X Q ops rs k L' B F :=
 fun a w ha hw=>h (hw.Nn i F' hi hF).2 a w ha (hw.Nn i F' hi hF).1
end
section
variable {P:Program} {n:Nat} {we:World} {X:List Nat} {L:Fm} {B F:List aj} {d:Nat} {ty:TypeId} {pos:String} {eC:Array Edge} {g:Option (Nat×Bool)}
theorem s.bsV {α:Type}[Enc α]{m:Nat}{parts:Array (Nat×Operand)}{t e:TypeId}{l:List α}{vs:List Value}{z:Value}(ht:qv P t=some (e,Enc.k α))(hz:gA P e=some z)(hzs:z.cells.size=Enc.k α)(hm:l.length=m)(hsmall:Nat.blt (m*Enc.k α) 16777216=true)
 (hp:evs L (parts.toList.map (·.2))=some vs) (hi:parts.toList.map (·.1)=List.range' 0 m) (hv:∀w,Wd we X B F w->vs.map (fun v=>v.cells.toList)=l.map Enc.cells) (hd:Nat.blt d n=true) :
 Stp P n we X L B F ⟨some d,.buildSlice t m parts,ty,pos,eC,g⟩ (fun b:Nat=>(d,.slice (some ⟨b,0,none⟩) m m)::L) (fun b=>aj.row e (.slice (some ⟨b,0,none⟩) m m) l::B) (fun _=>F) :=
 fun K Q' a w ha hw hK=>s.bs ht hz hzs hm hsmall hp hi (hv w hw) hd K Q' a w ha hw hK
theorem K0 {w:World}{v:Value}{L:List Change}(h:Sl w v L) : [v].map (fun v=>v.cells.toList)=[(⟨v,L⟩:kJ)].map Enc.cells:=by
 show [v.cells.toList]=[[Dv v]]
 rw [h.Dv,h.Ds]
theorem q.WB {fn:FuncId}{fs cs:Array Operand}{bnd cap:List Value}(hb:evs L fs.toList=some bnd)(hc:evs L cs.toList=some cap):Qt P n we X L B F (.makeFunc (.func fn) fs cs) ty (.func (.func fn) bnd.toArray cap.toArray):=fun _ _ _ _ a w ha hw=>by
 have hm:cs.map a.eval=cap.toArray:=by rw [<- ha.evs hc,<- Array.toList_map]
 have hn:fs.map a.eval=bnd.toArray:=by rw [<- ha.evs hb,<- Array.toList_map]
 simp_all [execOp,Instr.makeFunc]
theorem q.min {kd:IntKind}{x y:Operand}{a b r:Int}{ts:Array TypeId}(hx:ev L x=some (.int kd a))(hy:ev L y=some (.int kd b))(hr:min a b=r):Qt P n we X L B F (.call { callee:= .builtin .min,args:= #[x,y],argTypes:=ts }) ty (.int kd r):=fun _ _ _ _ q w ha hw=>by
 have e:(if b<a then b else a)=r:=ae
 simp [execOp,resolve,invoke,builtin,ha.ev hx,ha.ev hy,Builtin.min_,Builtin.min2,e]
theorem VF {k:IntKind}{a b:Int}(h:a=b):Value.int k a = .int k b:=by rw [h]
structure AU where
  f:Fn
  b:Array Value
  c:Array Value
abbrev AU.cv (x:AU):Value:= .func x.f x.b x.c
instance:Enc AU:=⟨1,fun x=>[x.cv],fun _=>rfl,fun x u hu=>by rw [List.mem_singleton.1 hu];rfl,by decide⟩
theorem q.QF {u:Value}{x:AU}{xT:TypeId}{a:Operand}(hu:x.cv=u)(h:Qt P n we X L B F (.load xT a) ty x.cv):Qt P n we X L B F (.load xT a) ty u:=hu▸h
theorem K1 {f:FuncId}{c:Operand}{xs:Array Operand}{ts:Array TypeId}{vs:List Value}{bnd cap:Array Value}{a:Act}{w:World}{dst:Option Nat}(ha:Fr n L a)(hargs:evs L xs.toList=some vs)(hc:ev L c=some (.func (.func f) bnd cap))
 (eg:∀args w,(callFunc f args).run P w = .ok (.enter f args) w):(execOp a.eval ⟨dst,.call { callee:= .value c,args:=xs,argTypes:=ts },ty,pos,eC,g⟩).run P w = .ok (.enter f (bnd.toList++vs++cap.toList).toArray) w:=by
 have hm:xs.map a.eval=vs.toArray:=by
  rw [<- ha.evs hargs,<- Array.toList_map]
 simp [execOp,resolve,ha.ev hc,Deferred.ofValue,invoke,hm,eg]
theorem s.Np {β:Type}{f:FuncId}{c:Operand}{xs:Array Operand}{ts:Array TypeId}{vs:List Value}{bnd cap:Array Value}{B0 Br F0:List aj}(is js:List Nat)(G:β->Value)(B1 F1:β->List aj)(hp:dJ B is=some (B0++Br))(ha':hG is=true)(hj:dJ F js=some F0)
 (eg:∀args w,(callFunc f args).run P w = .ok (.enter f args) w) (hargs:evs L xs.toList=some vs) (hc:ev L c=some (.func (.func f) bnd cap))
 (hcall:∀w own,Wd we X B F w->Wd w (blks B0++own) (B0++[aj.held w own]) F0 w->Calls P f (bnd.toList++vs++cap.toList).toArray w fun e w' => ∃z,e = .returned (G z)/\Wd w (blks B0++own) (B1 z++[aj.held w own]) (F1 z) w') (hd:Nat.blt d n=true) :
 Stp P n we X L B F ⟨some d,.call { callee:= .value c,args:=xs,argTypes:=ts },ty,pos,eC,g⟩ (fun z=>(d,G z)::L) (fun z=>B1 z++Br) (fun z=>F1 z++F):=by
 intro K Q' a w ha hw hK
 have hw2:=hw.PY is hp ha'
 unfold Oper.wp
 rw [K1 ha hargs hc eg,Oper.upon_enter]
 refine (hcall w (blks Br) hw (hw2.CR hj)).mono fun e w' he=>?_
 obtain ⟨z,rfl,ht⟩:=he
 exact hK z _ _ (ha.put d _ hd) (hw2.after ht)
end
end
section
open Go Go.RowKit
structure Yr where
  C:List Change
structure WC where
  E:Int
def jl (s:ByteArray)(n:Int):Bool:=decide (s.extract 1 5=cz n)&&(decide (bO s 0=111)||decide (bO s 0=99))&&decide (dr s<=41)
def qt (s:ByteArray)(n:Int):Nat:=if jl s n=true then bO s 0 else 0
def kB (s:ByteArray)(n:Int):ByteArray:=if jl s n=true then sH s else ⟨#[]⟩
section
variable {s:ByteArray} {n k:Int}
theorem zr (h:¬ s.extract 1 5=cz n):jl s n=false:=by grind [jl]
theorem zt (h:¬ bO s 0=111)(h':¬ bO s 0=99):jl s n=false:=by grind [jl]
theorem oX (h:41<dr s):jl s n=false:=by grind [jl]
theorem lV (h:s.extract 1 5=cz n)(h':bO s 0=111∨bO s 0=99)(hl:dr s<=41):jl s n=true:=by
 grind [jl]
theorem ke (h:jl s n=false):qt s n=0/\kB s n=⟨#[]⟩:=by grind [qt,kB]
theorem kf (h:jl s n=true):qt s n=bO s 0/\kB s n=sH s:=by grind [qt,kB]
theorem zu (h:jl s n=true):s.extract 1 5=cz n/\(bO s 0=111∨bO s 0=99)/\dr s<=41:=by
 simp_all [jl,and_assoc]
theorem TE (h:jl s n=true)(hk:qt s n=99)(hx:kB s n=cz k):Cd s n k=true:=by
 grind [Cd,zu,kf]
theorem FP (h:jl s n=false):Cd s n k=false/\G9 s n=false:=by
 constructor
 .
  rw [Bool.eq_false_iff];intro hc
  simp_all [Cd,Bool.and_eq_true,decide_eq_true_eq,lV]
 rw [Bool.eq_false_iff];intro hc
 simp_all [G9,Bool.and_eq_true,decide_eq_true_eq,lV]
theorem FQ (h:jl s n=true)(hk:qt s n=99)(hx:¬ kB s n=cz k):Cd s n k=false/\G9 s n=false:=by
 grind [Cd,kf,Dl]
theorem TF (h:jl s n=true)(hk:¬ qt s n=99)(hp:(tA (kB s n)).2=0):Cd s n k=false/\G9 s n=true/\kB s n=sH s:=by
 grind [bO,G9,zu,kf,uM]
theorem FR (h:jl s n=true)(hk:¬ qt s n=99)(hp:¬ (tA (kB s n)).2=0):Cd s n k=false/\G9 s n=false:=by
 grind [G9,kf,uM]
theorem HZ (hs:s.size=48):(kB s n).size<=48:=by
 unfold kB sH;split
 .grind [ByteArray.size_extract]
 decide
end
def ra (d:cU)(gF:Int)(many:Nat):List ByteArray:=(List.range many).map fun (i:Nat)=>(cx d (gF+(i:Int))).1
theorem rh (d:cU)(gF:Int)(many:Nat):(ra d gF many).length=many:=by simp [ra]
theorem rZ {d:cU}{gF:Int}{many i:Nat}(h:i<many):(ra d gF many)[i]? = some ((cx d (gF+(i:Int))).1):=by
 simp [ra,h]
def lW (d:cU)(gF:Int)(many:Nat)(first:Int):List (List Change):=(scan (ra d gF many) first).1
def fT (d:cU)(gF:Int)(many:Nat)(first:Int):Nat:=(scan (ra d gF many) first).2
def lv (lg:Lg):cU->List Change->Nat->cU×Int
  | d,[],i=>(d,0)
  | d,x::r,i =>
    if (aC d (lg.From+lg.Next+(i:Int)) (eB 111 (lg.First+lg.Next+(i:Int)) (kM x).1)).2=0 then lv lg (aC d (lg.From+lg.Next+(i:Int)) (eB 111 (lg.First+lg.Next+(i:Int)) (kM x).1)).1 r (i+1)
    else aC d (lg.From+lg.Next+(i:Int)) (eB 111 (lg.First+lg.Next+(i:Int)) (kM x).1)
def dY (lg:Lg)(d:cU)(c:List Change):cU×Int :=
  if (lv lg d c 0).2=0 then (if lg.Next+(c.length:Int)+1<lg.Many then aC (lv lg d c 0).1 (lg.From+(lg.Next+(c.length:Int)+1)) ⟨#[]⟩ else ((lv lg d c 0).1,0)) else lv lg d c 0
def tF (lg:Lg)(d:cU)(c:List Change):cU×Int:=au (dY lg d c).1
def uO (lg:Lg)(d:cU)(c:List Change):cU×Int:=aC (tF lg d c).1 (lg.From+(lg.Next+(c.length:Int))) (eB 99 (lg.First+(lg.Next+(c.length:Int))) (cz (c.length:Int)))
def xx (lg:Lg)(d:cU)(c:List Change):cU×Int:=au (uO lg d c).1
def iF:List Change->Int
  | []=>0
  | x::r=>if gY x=0 then iF r else gY x
def lX (lg:Lg)(c:List Change):Int:=if 62<c.length then 2 else if lg.Many-lg.Next<(c.length:Int)+1 then 9 else iF c
def cW (lg:Lg)(d:cU)(c:List Change):Lg×cU×Int :=
  if ¬ lX lg c=0 then (lg,d,lX lg c)
  else if ¬ (dY lg d c).2=0 then (lg,dY lg d c)
  else if ¬ (tF lg d c).2=0 then (lg,tF lg d c)
  else if ¬ (uO lg d c).2=0 then (lg,uO lg d c)
  else if ¬ (xx lg d c).2=0 then (lg,xx lg d c)
  else (⟨lg.From,lg.Many,lg.First,lg.Next+(c.length:Int)+1⟩,(xx lg d c).1,0)
section
variable {lg:Lg} {d dm:cU} {c:List Change} {i n m:Nat} {x:Change} {Z:cU×Int}
theorem TG (h:lv lg dm (c.drop i) i=Z)(hx:c[i]? = some x)(hw:(aC dm (lg.From+lg.Next+(i:Int)) (eB 111 (lg.First+lg.Next+(i:Int)) (kM x).1)).2=0) :
 lv lg (aC dm (lg.From+lg.Next+(i:Int)) (eB 111 (lg.First+lg.Next+(i:Int)) (kM x).1)).1 (c.drop (i+1)) (i+1)=Z:=by
 simp_all [lv,drop_at,if_pos]
theorem Nq (h:lv lg dm (c.drop i) i=Z)(hx:c[i]? = some x)(hw:¬ (aC dm (lg.From+lg.Next+(i:Int)) (eB 111 (lg.First+lg.Next+(i:Int)) (kM x).1)).2=0) :
 Z=aC dm (lg.From+lg.Next+(i:Int)) (eB 111 (lg.First+lg.Next+(i:Int)) (kM x).1):=by
 simp_all [lv,drop_at,if_neg]
theorem JN (h:lv lg dm (c.drop i) i=Z)(hi:c.length<=i):Z=(dm,0):=by
 grind [lv,List.drop_of_length_le]
theorem K2 (h:Z=lv lg d c 0)(hz:¬ Z.2=0):dY lg d c=(Z.1,Z.2):=by
 simp_all [dY,if_neg]
theorem Nr (h:lv lg d c 0=(dm,0))(hl:lg.Next+(c.length:Int)+1<lg.Many):dY lg d c=((aC dm (lg.From+(lg.Next+(c.length:Int)+1)) ⟨#[]⟩).1,(aC dm (lg.From+(lg.Next+(c.length:Int)+1)) ⟨#[]⟩).2):=by
 unfold dY;grind
theorem K3 (h:lv lg d c 0=(dm,0))(hl:¬ lg.Next+(c.length:Int)+1<lg.Many):dY lg d c=(dm,0):=by
 unfold dY;grind
theorem zw (h:gy n m d)(hd:d.Down=false){i:Int}(h0:0<=i)(h1:i<(n:Int)):(cx d i).2=0/\(cx d i).1.size=48:=by
 have hn:=h.nl
 obtain ⟨x,hx⟩:∃x,d.Now[i.toNat]? = some x:=⟨_,List.getElem?_eq_getElem ae⟩
 rw [qY hd h0 hx]
 exact ⟨rfl,h.ns x (List.mem_of_getElem? hx)⟩
theorem Dx (h:gY x=0):(kM x).2=0/\(kM x).1.size<=41:=by
 obtain ⟨_,_,h3,h4⟩:=ig h
 exact ⟨by simp_all [kM,if_pos],by grind [lS]⟩
theorem JO:∀ (c:List Change) (d:cU) (i m:Nat),gy n m d->gy n (m+c.length) (lv lg d c i).1
 | [],d,i,m,h=>by unfold lv;simpa using h
 | x::r,d,i,m,h=>by
  unfold lv
  have h1:=h.write (lg.From+lg.Next+(i:Int)) (eB 111 (lg.First+lg.Next+(i:Int)) (kM x).1)
  split
  .
   have:=JO r _ (i+1) (m+1) h1
   rw [List.length_cons,show m+(r.length+1)=m+1+r.length by omega];exact this
  exact h1.up (by rw [List.length_cons];omega)
theorem Dy (h:gy n m d):gy n (m+c.length+1) (dY lg d c).1:=by
 have h1:=JO (lg:=lg) c d 0 m h
 unfold dY
 split
 .
  split
  .exact h1.write _ _
  exact h1.up ae
 exact h1.up ae
theorem JQ (h:gy n m d):gy n (m+c.length+1) (tF lg d c).1:=(Dy h).flush
theorem JR (h:gy n m d):gy n (m+c.length+2) (uO lg d c).1:=(JQ h).write _ _
theorem JU (h:gy n m d):gy n (m+c.length+2) (xx lg d c).1:=(JR h).flush
theorem xU (h:gy n m d):gy n (m+c.length+2) (cW lg d c).2.1:=by
 unfold cW
 (repeat' split)
 .exact h.up ae
 .exact (Dy h).up ae
 .exact (JQ h).up ae
 .exact JR h
 .exact JU h
 grind [JU]
theorem r5:∀ {c:List Change},iF c=0 -> ∀x∈c,gY x=0
 | [],_,x,hx=>by cases hx
 | y::r,h,x,hx=>by
  unfold iF at h
  split at h
  .
   rename_i h0
   rcases List.mem_cons.1 hx with rfl|hx
   .exact h0
   exact r5 h x hx
  exact absurd h af
theorem Ns {f:Int}(h:iF (c.drop i)=f)(hx:c[i]? = some x)(h0:gY x=0):iF (c.drop (i+1))=f:=by
 simp_all [iF,drop_at,if_pos]
theorem Dz {f:Int}(h:iF (c.drop i)=f)(hx:c[i]? = some x)(h0:¬ gY x=0):f=gY x:=by
 simp_all [iF,drop_at,if_neg]
theorem H0 {f:Int}(h:iF (c.drop i)=f)(hi:c.length<=i):f=0:=by
 grind [iF,List.drop_of_length_le]
theorem Nt (h:62<c.length):cW lg d c=(lg,d,2):=by
 simp_all [lX,cW,if_pos]
theorem Nu (h:¬ 62<c.length)(h':lg.Many-lg.Next<(c.length:Int)+1):cW lg d c=(lg,d,9):=by
 simp_all [lX,cW,if_neg,if_pos]
theorem K4 {f:Int}(h:¬ 62<c.length)(h':¬ lg.Many-lg.Next<(c.length:Int)+1)(hf:iF c=f)(h0:¬ f=0):cW lg d c=(lg,d,f):=by
 simp_all [lX,cW,if_neg,if_pos]
theorem JV (h:¬ 62<c.length)(h':¬ lg.Many-lg.Next<(c.length:Int)+1)(hf:iF c=0):lX lg c=0:=by
 simp_all [lX,if_neg]
theorem Sd (h:lX lg c=0)(ha:¬ (dY lg d c).2=0):cW lg d c=(lg,(dY lg d c).1,(dY lg d c).2):=by
 simp_all [cW,if_neg,if_pos]
theorem Se (h:lX lg c=0)(ha:(dY lg d c).2=0)(hb:¬ (tF lg d c).2=0):cW lg d c=(lg,(tF lg d c).1,(tF lg d c).2):=by
 simp_all [cW,if_neg,if_pos]
theorem Sf (h:lX lg c=0)(ha:(dY lg d c).2=0)(hb:(tF lg d c).2=0)(hc:¬ (uO lg d c).2=0):cW lg d c=(lg,(uO lg d c).1,(uO lg d c).2):=by
 simp_all [cW,if_neg,if_pos]
theorem Sg (h:lX lg c=0)(ha:(dY lg d c).2=0)(hb:(tF lg d c).2=0)(hc:(uO lg d c).2=0)(hd:¬ (xx lg d c).2=0):cW lg d c=(lg,(xx lg d c).1,(xx lg d c).2):=by
 simp_all [cW,if_neg,if_pos]
theorem H2 (h:lX lg c=0)(ha:(dY lg d c).2=0)(hb:(tF lg d c).2=0)(hc:(uO lg d c).2=0)(hd:(xx lg d c).2=0):cW lg d c=(⟨lg.From,lg.Many,lg.First,lg.Next+(c.length:Int)+1⟩,(xx lg d c).1,0):=by
 simp_all [cW,if_neg]
end
end
section
theorem H3 {α:Type}[DecidableEq α]:∀ (a b:List α),a.Nodup->(∀x∈a,x∈b)->a.length<=b.length
 | [],b,_,_=>Nat.zero_le _
 | x::a,b,hn,h=>by
  obtain ⟨h1,h2⟩:=List.nodup_cons.1 hn
  have hx:=h x (List.mem_cons_self ..)
  have:=H3 a (b.erase x) h2 (fun y hy=>(List.mem_erase_of_ne (fun e=>h1 aB)).2 (h y (List.mem_cons_of_mem _ hy)))
  grind
def kHp (p:Place):ByteArray:=kH++eo p.ay++eo p.Slot
def TH:List Place:=(List.range 24).map (fun i=>⟨((i / 6+1:Nat):Int),((i % 6:Nat):Int)⟩)
theorem Nv {p:Place}(h:bB p=0):p∈TH:=by
 have h1:=bY h
 refine List.mem_map.2 ⟨((p.ay.toNat-1)*6+p.Slot.toNat),List.mem_range.2 ae,?_⟩
 obtain ⟨a,b⟩:=p
 grind
def JW (H T:List Int):List ByteArray:=TH.map kHp++T.map (fun i=>kT++bN i)++H.map (fun i=>kW++bN i)++[kX]
theorem Nw {H T:List Int}(h1:H.length<=24)(h2:T.length<=10):(JW H T).length<=59:=by
 grind [JW,TH,List.length_append,List.length_map,List.length_range,List.length_cons,List.length_nil]
section
variable {r a b:av}
theorem Cg (h:Inv r){H T:List Int}(hH:∀x∈r.Held,x.ap∈H)(hT:∀t∈r.Things,t.ID∈T):∀c∈aY r,c.Key∈JW H T:=fun c hc=>by
 obtain ⟨q1,q2,q3,q4,q5⟩:=ic h
 unfold aY rowsOf at hc
 rcases List.mem_append.1 hc with hc|hc
 .
  rcases List.mem_append.1 hc with hc|hc
  .
   rcases List.mem_append.1 hc with hc|hc
   .
    obtain ⟨x,hx,rfl⟩:=List.mem_map.1 hc
    exact List.mem_append_left _ (List.mem_append_left _ (List.mem_append_left _ (List.mem_map.2 ⟨x.Place,Nv (q1.JG hx).1,rfl⟩)))
   obtain ⟨x,hx,rfl⟩:=List.mem_map.1 hc
   have hx2:=(BS _).2.2.1 x hx
   exact List.mem_append_left _ (List.mem_append_left _ (List.mem_append_right _ (List.mem_map.2 ⟨x.ID,hT x hx2,rfl⟩)))
  obtain ⟨x,hx,rfl⟩:=List.mem_map.1 hc
  have h1:=q1.once x hx
  have h2:cN (aP r).Notes x.ID=0:=ck
  obtain ⟨y,hy,e⟩:=List.countP_pos_iff.1 (show 0<cH (aP r).Held x.ID by omega)
  have e:y.ap=x.ID:=aB
  rw [q3] at hy
  exact List.mem_append_left _ (List.mem_append_right _ (List.mem_map.2 ⟨x.ID,e▸hH y hy,rfl⟩))
 rw [List.mem_singleton.1 hc]
 exact List.mem_append_right _ (List.mem_singleton.2 rfl)
theorem JX (ha:Inv a)(hb:Inv b){H T:List Int}(hH:H.length<=24)(hT:T.length<=10)(a1:∀x∈a.Held,x.ap∈H)(a2:∀t∈a.Things,t.ID∈T)(b1:∀x∈b.Held,x.ap∈H)(b2:∀t∈b.Things,t.ID∈T) :
 (bI (aY a) (aY b)).length<=59:=by
 have hr:=pN (eY ha) (eY hb)
 have hn:((bI (aY a) (aY b)).map Change.Key).Nodup:=by
  grind [pO]
 have:=H3 _ (JW H T) hn (fun k hk=>by
  obtain ⟨x,hx,rfl⟩:=List.mem_map.1 hk
  rcases (mem_merge (eY ha) (eY hb)).1 hx with ⟨c,hc,_,rfl⟩ | ⟨h,_⟩
  .exact Cg ha a1 a2 c hc
  grind [Cg])
 grind [List.length_map,Nat.le_trans,Nw]
def FT (a b:av):Prop:=(∀x∈a.Held,∃y∈b.Held,y.ap=x.ap)/\(∀t∈a.Things,∃s∈b.Things,s.ID=t.ID)
theorem FT.refl (a:av):FT a a:=⟨fun x hx=>⟨x,hx,rfl⟩,fun t ht=>⟨t,ht,rfl⟩⟩
theorem QG (ha:Inv a)(hb:Inv b)(h:FT a b∨FT b a):(bI (aY a) (aY b)).length<=59:=by
 rcases h with h|h
 .exact JX ha hb (H:=b.Held.map Held.ap) (T:=b.Things.map aA.ID) (by grind [List.length_map,qU]) (by rw [List.length_map];exact hb.je)
   (fun x hx=>by obtain ⟨y,hy,e⟩:=h.1 x hx;grind) (fun x hx=>by obtain ⟨y,hy,e⟩:=h.2 x hx;grind)
   (fun x hx=>List.mem_map.2 ⟨x,hx,rfl⟩) (fun x hx=>List.mem_map.2 ⟨x,hx,rfl⟩)
 exact JX ha hb (H:=a.Held.map Held.ap) (T:=a.Things.map aA.ID) (by grind [List.length_map,qU]) (by rw [List.length_map];exact ha.je)
  (fun x hx=>List.mem_map.2 ⟨x,hx,rfl⟩) (fun x hx=>List.mem_map.2 ⟨x,hx,rfl⟩)
  (fun x hx=>by obtain ⟨y,hy,e⟩:=h.1 x hx;grind) (fun x hx=>by obtain ⟨y,hy,e⟩:=h.2 x hx;grind)
theorem Ch {ws:List ap}{nw nt:Int}:FT (dt ⟨ws,r.Things,r.Held,r.Notes,nw,nt⟩) r:=by
 have h:=BS (⟨ws,r.Things,r.Held,r.Notes,nw,nt⟩:av)
 exact ⟨fun x hx=>⟨x,h.1 x hx,rfl⟩,fun t ht=>⟨t,h.2.2.1 t ht,rfl⟩⟩
theorem TI (h:Inv r){a:fL}(hm:(cp r a).2=0):FT r (cp r a).1∨FT (cp r a).1 r:=by
 have n1:=h.oT
 unfold cp at hm ⊢
 by_cases h1:a.Kind=(⟨#[109,97,107,101]⟩:ByteArray)
 .
  rw [if_pos h1] at hm ⊢
  obtain ⟨hk,hf,hl,ht,hw,he⟩:=yR hm
  obtain ⟨hp,ha⟩:=iM hf
  have hpl:=bY hp
  rw [he ae]
  exact .inl ⟨fun x hx=>⟨x,(lR h.good ha ae).2 (.inr hx),rfl⟩,fun t ht=>⟨t,List.mem_append_left _ ht,rfl⟩⟩
 rw [if_neg h1] at hm ⊢
 by_cases h2:a.Kind=(⟨#[103,105,118,101]⟩:ByteArray)
 .
  rw [if_pos h2] at hm ⊢
  obtain ⟨hg,hf,hr,hw,hd,he⟩:=yS hm
  obtain ⟨hp,ha⟩:=iM hf
  have hpl:=bY hp
  obtain ⟨_,hgm,_⟩:=h.get hg
  obtain ⟨Ju,hid,hth,_⟩:=h.derive hgm hw hd
  rw [he ae]
  exact .inl ⟨fun x hx=>⟨x,(lR h.good ha ae).2 (.inr hx),rfl⟩,fun t ht=>⟨t,ht,rfl⟩⟩
 rw [if_neg h2] at hm ⊢
 by_cases h3:a.Kind=(⟨#[109,111,118,101]⟩:ByteArray)
 .
  rw [if_pos h3] at hm ⊢
  obtain ⟨hg,hf,he⟩:=yU hm
  obtain ⟨hp,ha⟩:=iM hf
  obtain ⟨hpf,hgm,hat,h1,_⟩:=h.get hg
  rw [he]
  have hi:(aM r a.P).1.ID≠0:=ae
  have hg1:Good (eW r.Held a.P 0):=lQ h.good hpf
  have hne:¬ (⟨a.P.ay,a.A⟩:Place)=a.P:=fun e=>by grind
  have ha1:mG (eW r.Held a.P 0) ⟨a.P.ay,a.A⟩=0:=by rw [BO h.good hpf hne];omega
  refine .inr ⟨fun x hx=>?_,fun t ht=>⟨t,ht,rfl⟩⟩
  rcases (lR hg1 ha1 hi).1 hx with e|hx
  .exact ⟨⟨a.P,(aM r a.P).1.ID⟩,at_mem h.good hat.symm hi,by rw [e]⟩
  exact ⟨x,Fj h.good hat.symm hi hx,rfl⟩
 rw [if_neg h3] at hm ⊢
 by_cases h4:a.Kind=(⟨#[100,114,111,112]⟩:ByteArray)
 .
  rw [if_pos h4] at hm ⊢
  rw [(yV hm).2];grind [Ch]
 rw [if_neg h4] at hm ⊢
 by_cases h5:a.Kind=(⟨#[114,101,118,111,107,101]⟩:ByteArray)
 .
  rw [if_pos h5] at hm ⊢
  rw [(uA hm).2];grind [Ch]
 rw [if_neg h5] at hm ⊢
 by_cases h6:a.Kind=(⟨#[119,114,105,116,101]⟩:ByteArray)
 .
  rw [if_pos h6] at hm ⊢
  rw [(xa hm).2.2]
  refine .inr ⟨fun x hx=>⟨x,hx,rfl⟩,fun t ht=>?_⟩
  grind [mem_set,List.mem_of_getElem?]
 rw [if_neg h6] at hm ⊢
 by_cases h7:a.Kind=(⟨#[115,101,110,100]⟩:ByteArray)
 .
  rw [if_pos h7] at hm ⊢
  obtain ⟨_,_,_,hc⟩:=yW hm
  rcases hc with ⟨_,he⟩ | ⟨_,_,_,_,_,he⟩
  .rw [he];exact .inr ⟨fun x hx=>⟨x,hx,rfl⟩,fun t ht=>⟨t,ht,rfl⟩⟩
  rw [he];exact .inr ⟨fun x hx=>⟨x,hx,rfl⟩,fun t ht=>⟨t,ht,rfl⟩⟩
 rw [if_neg h7] at hm ⊢
 by_cases h8:a.Kind=(⟨#[116,97,107,101]⟩:ByteArray)
 .
  rw [if_pos h8] at hm ⊢
  obtain ⟨hy,i,n,hn,hp,hb,_,hc⟩:=yX hm
  rcases hc with ⟨h0,hf,_,he⟩ | ⟨h0,_,he⟩
  .
   obtain ⟨h5,ha⟩:=free_at hf
   dsimp only;rw [he]
   exact .inl ⟨fun x hx=>⟨x,(lR h.good ha ae).2 (.inr hx),rfl⟩,fun t ht=>⟨t,ht,rfl⟩⟩
  dsimp only;rw [he]
  exact .inl ⟨fun x hx=>⟨x,hx,rfl⟩,fun t ht=>⟨t,ht,rfl⟩⟩
 rw [if_neg h8];grind [FT.refl]
theorem TJ (h:Inv r){a:fL}(hm:(cp r a).2=0):(bI (aY r) (aY (cp r a).1)).length<=59:=QG h (h.do hm) (TI h hm)
theorem uP:∀ (l:List Change),(∀c∈l,gY c=0)->iF l=0
 | [],_=>rfl
 | x::l,h=>by
  simp_all [iF,if_pos,List.mem_cons_self,uP,List.mem_cons_of_mem]
theorem KW.ok {c:Change}(h:KW c):gY c=0:=MY (fun e=>by have:=h.k0;rw [e] at this;exact absurd this aD) (fun e=>by rw [h.g] at e;cases e) h.k8 h.v
theorem KW.gone {c:Change}(h:KW c):gY (sO c.Key)=0:=MY (fun e=>by have:=h.k0;have e:c.Key=⟨#[]⟩:=e;rw [e] at this;exact absurd this aD) (fun _=>rfl) h.k8 (by show (0:Nat)<=24;decide)
theorem TK (ha:Inv a)(hb:Inv b):iF (bI (aY a) (aY b))=0:=uP _ fun x hx=>by
 rcases (mem_merge (eY ha) (eY hb)).1 hx with ⟨c,hc,_,rfl⟩ | ⟨h,_⟩
 .exact (oo ha c hc).gone
 exact (oo hb x h).ok
theorem DC (ha:Inv a)(hb:Inv b):cm (aY a) (bI (aY a) (aY b))=aY b:=qX (eY ha) (eY hb) (fun c hc=>(oo hb c hc).g)
theorem zx (h:Inv r):aY (aP r)=aY r:=by
 grind [aY,ic]
end
end
section
open Go Go.RowKit
class Y {α:Type}(a:α)(b:outParam α):Prop where
  h:a=b
end
section
open Go Go.RowKit
theorem mixed:Tryz.prog.follows .mixedOrders=true:=ai
theorem bg:gD Tryz.prog 3=true:=ai
theorem kC:gA Tryz.prog 3=some (.int .i64 0):=ai
theorem zy:gD Tryz.prog 4=true:=ai
theorem eE:gA Tryz.prog 5=some (.int .u8 0):=ai
theorem dC:gD Tryz.prog 9=true:=ai
theorem JY:gA Tryz.prog 9=some (.string ⟨#[]⟩):=ai
theorem H4:qv Tryz.prog 22=some (36,11):=ai
theorem mB:gD Tryz.prog 25=true:=ai
theorem lG:ko Tryz.prog 32=some 2:=ai
theorem Si:tB Tryz.prog 32=some ([(0,1),(1,1)],[.int .i64 0,.int .i64 0]):=ai
theorem K5:cI Tryz.prog 32 0=some 0:=ai
theorem K6:cI Tryz.prog 32 1=some 1:=ai
theorem rj:gA Tryz.prog 32=some (.agg #[.int .i64 0,.int .i64 0]):=ai
theorem bj:qv Tryz.prog 34=some (115,3):=ai
theorem jv:gD Tryz.prog 34=true:=ai
theorem Nx:gA Tryz.prog 34=some (.slice none 0 0):=ai
theorem uQ:ko Tryz.prog 36=some 11:=ai
theorem WE:tB Tryz.prog 36=some ([(0,1),(1,1),(2,2),(4,2),(6,1),(7,1),(8,1),(9,1),(10,1)],[.string ⟨#[]⟩,.string ⟨#[]⟩,.int .i64 0,.int .i64 0,.int .i64 0,.int .i64 0,.int .i64 0,.int .i64 0,.int .i64 0,.int .u64 0,.slice none 0 0]):=ai
theorem Ci:cI Tryz.prog 36 0=some 0:=ai
theorem Cj:cI Tryz.prog 36 1=some 1:=ai
theorem K7:cI Tryz.prog 36 2=some 2:=ai
theorem K8:cI Tryz.prog 36 3=some 4:=ai
theorem K9:cI Tryz.prog 36 4=some 6:=ai
theorem La:cI Tryz.prog 36 5=some 7:=ai
theorem Lb:cI Tryz.prog 36 8=some 10:=ai
theorem Ny:gA Tryz.prog 36=some (.agg #[.string ⟨#[]⟩,.string ⟨#[]⟩,.int .i64 0,.int .i64 0,.int .i64 0,.int .i64 0,.int .i64 0,.int .i64 0,.int .i64 0,.int .u64 0,.slice none 0 0]):=ai
theorem lH:gD Tryz.prog 38=true:=ai
theorem Nz:gA Tryz.prog 38=some (.nilIface):=ai
theorem xV:gD Tryz.prog 39=true:=ai
theorem NA:gA Tryz.prog 39=some (.nilFunc):=ai
theorem WG:tB Tryz.prog 41=some ([(0,1),(1,1),(2,1)],[.slice none 0 0,.int .i64 0,.int .i64 0]):=ai
theorem vN:cI Tryz.prog 41 0=some 0:=ai
theorem kg:cI Tryz.prog 41 1=some 1:=ai
theorem vO:cI Tryz.prog 41 2=some 2:=ai
theorem DF:gD Tryz.prog 42=true:=ai
theorem cR:qv Tryz.prog 43=some (126,5):=ai
theorem eF:gD Tryz.prog 43=true:=ai
theorem eZ:qv Tryz.prog 44=some (103,3):=ai
theorem gC:gD Tryz.prog 44=true:=ai
theorem bJ:qv Tryz.prog 45=some (124,3):=ai
theorem eG:gD Tryz.prog 45=true:=ai
theorem dI:qv Tryz.prog 46=some (91,4):=ai
theorem cQ:gD Tryz.prog 46=true:=ai
theorem ak:ko Tryz.prog 48=some 6:=ai
theorem Sj:tB Tryz.prog 48=some ([(0,1),(1,1),(2,1),(3,1),(4,1),(5,1)],[.slice none 0 0,.slice none 0 0,.slice none 0 0,.slice none 0 0,.int .i64 0,.int .i64 0]):=ai
theorem vP:cI Tryz.prog 48 0=some 0:=ai
theorem NC:V5 Tryz.prog 48 1=some (1,none):=ai
theorem vQ:cI Tryz.prog 48 1=some 1:=ai
theorem vR:cI Tryz.prog 48 2=some 2:=ai
theorem vS:cI Tryz.prog 48 3=some 3:=ai
theorem Lc:cI Tryz.prog 48 4=some 4:=ai
theorem Ld:cI Tryz.prog 48 5=some 5:=ai
theorem cw:gA Tryz.prog 48=some (.agg #[.slice none 0 0,.slice none 0 0,.slice none 0 0,.slice none 0 0,.int .i64 0,.int .i64 0]):=ai
theorem WH:tB Tryz.prog 50=some ([(0,1),(1,6)],[.pointer none,.slice none 0 0,.slice none 0 0,.slice none 0 0,.slice none 0 0,.int .i64 0,.int .i64 0]):=ai
theorem vT:cI Tryz.prog 50 0=some 0:=ai
theorem iQ:cI Tryz.prog 50 1=some 1:=ai
theorem jm:qv Tryz.prog 61=some (9,1):=ai
theorem i6:gD Tryz.prog 61=true:=ai
theorem i7:gD Tryz.prog 76=true:=ai
theorem WI:tB Tryz.prog 78=some ([(0,1),(1,6)],[.pointer none,.slice none 0 0,.slice none 0 0,.slice none 0 0,.slice none 0 0,.int .i64 0,.int .i64 0]):=ai
theorem Ck:cI Tryz.prog 78 0=some 0:=ai
theorem oY:cI Tryz.prog 78 1=some 1:=ai
theorem cj:ko Tryz.prog 91=some 4:=ai
theorem WJ:tB Tryz.prog 91=some ([(0,1),(1,1),(2,1),(3,1)],[.int .i64 0,.string ⟨#[]⟩,.int .i64 0,.int .i64 0]):=ai
theorem vU:cI Tryz.prog 91 0=some 0:=ai
theorem r6:cI Tryz.prog 91 3=some 3:=ai
theorem dO:gA Tryz.prog 91=some (.agg #[.int .i64 0,.string ⟨#[]⟩,.int .i64 0,.int .i64 0]):=ai
theorem DG:Tryz.prog.concrete 95=true:=ai
theorem fU:ko Tryz.prog 103=some 3:=ai
theorem TM:tB Tryz.prog 103=some ([(0,1),(1,1),(2,1)],[.int .i64 0,.int .i64 0,.string ⟨#[]⟩]):=ai
theorem pS:cI Tryz.prog 103 0=some 0:=ai
theorem tG:cI Tryz.prog 103 1=some 1:=ai
theorem tH:cI Tryz.prog 103 2=some 2:=ai
theorem fP:gA Tryz.prog 103=some (.agg #[.int .i64 0,.int .i64 0,.string ⟨#[]⟩]):=ai
theorem dD:qv Tryz.prog 110=some (3,1):=ai
theorem rk:gD Tryz.prog 110=true:=ai
theorem Cl:gA Tryz.prog 110=some (.slice none 0 0):=ai
theorem bK:ko Tryz.prog 115=some 3:=ai
theorem TN:tB Tryz.prog 115=some ([(0,1),(1,1),(2,1)],[.string ⟨#[]⟩,.string ⟨#[]⟩,.bool false]):=ai
theorem bZ:cI Tryz.prog 115 0=some 0:=ai
theorem zA:cI Tryz.prog 115 1=some 1:=ai
theorem zB:cI Tryz.prog 115 2=some 2:=ai
theorem bR:gA Tryz.prog 115=some (.agg #[.string ⟨#[]⟩,.string ⟨#[]⟩,.bool false]):=ai
theorem r8:qv Tryz.prog 118=some (196,2):=ai
theorem gL:gD Tryz.prog 118=true:=ai
theorem TP:tB Tryz.prog 120=some ([(0,1),(1,1),(2,1),(3,1),(4,1)],[.slice none 0 0,.slice none 0 0,.slice none 0 0,.int .i64 0,.bool false]):=ai
theorem H5:cI Tryz.prog 120 0=some 0:=ai
theorem H6:cI Tryz.prog 120 1=some 1:=ai
theorem H7:cI Tryz.prog 120 2=some 2:=ai
theorem H8:cI Tryz.prog 120 3=some 3:=ai
theorem H9:cI Tryz.prog 120 4=some 4:=ai
theorem du:ko Tryz.prog 124=some 3:=ai
theorem TQ:tB Tryz.prog 124=some ([(0,2),(2,1)],[.int .i64 0,.int .i64 0,.int .i64 0]):=ai
theorem m6:cI Tryz.prog 124 0=some 0:=ai
theorem lw:cI Tryz.prog 124 1=some 2:=ai
theorem cK:gA Tryz.prog 124=some (.agg #[.int .i64 0,.int .i64 0,.int .i64 0]):=ai
theorem aH:ko Tryz.prog 126=some 5:=ai
theorem TR:tB Tryz.prog 126=some ([(0,1),(1,1),(2,1),(3,1),(4,1)],[.int .i64 0,.int .i64 0,.int .i64 0,.int .i64 0,.int .i64 0]):=ai
theorem gV:cI Tryz.prog 126 0=some 0:=ai
theorem zC:cI Tryz.prog 126 1=some 1:=ai
theorem Ia:cI Tryz.prog 126 2=some 2:=ai
theorem Ib:cI Tryz.prog 126 3=some 3:=ai
theorem m7:cI Tryz.prog 126 4=some 4:=ai
theorem br:gA Tryz.prog 126=some (.agg #[.int .i64 0,.int .i64 0,.int .i64 0,.int .i64 0,.int .i64 0]):=ai
theorem bA:ko Tryz.prog 129=some 4:=ai
theorem Ic:tB Tryz.prog 129=some ([(0,1),(1,1),(2,1),(3,1)],[.int .i64 0,.int .i64 0,.int .i64 0,.int .i64 0]):=ai
theorem tI:cI Tryz.prog 129 0=some 0:=ai
theorem tJ:cI Tryz.prog 129 1=some 1:=ai
theorem Ie:cI Tryz.prog 129 2=some 2:=ai
theorem zD:cI Tryz.prog 129 3=some 3:=ai
theorem jw:gA Tryz.prog 129=some (.agg #[.int .i64 0,.int .i64 0,.int .i64 0,.int .i64 0]):=ai
theorem m8:gD Tryz.prog 130=true:=ai
theorem TS:tB Tryz.prog 132=some ([(0,1),(1,4),(5,1),(6,1)],[.pointer none,.int .i64 0,.int .i64 0,.int .i64 0,.int .i64 0,.pointer none,.slice none 0 0]):=ai
theorem jY:cI Tryz.prog 132 0=some 0:=ai
theorem pU:cI Tryz.prog 132 1=some 1:=ai
theorem lx:cI Tryz.prog 132 2=some 5:=ai
theorem m9:cI Tryz.prog 132 3=some 6:=ai
theorem bf:qv Tryz.prog 137=some (5,1):=ai
theorem oZ:gD Tryz.prog 137=true:=ai
theorem JZ:qv Tryz.prog 140=some (34,1):=ai
theorem FU:gD Tryz.prog 187=true:=ai
theorem Ig:cI Tryz.prog 189 0=some 0:=ai
theorem Ih:cI Tryz.prog 189 1=some 1:=ai
theorem Le:gA Tryz.prog 189=some (.agg #[.pointer none,.slice none 0 0]):=ai
theorem TT:tB Tryz.prog 193=some ([(0,1),(1,1),(2,1),(3,1),(4,1)],[.pointer none,.int .i64 0,.int .i64 0,.int .i64 0,.int .i64 0]):=ai
theorem Ii:cI Tryz.prog 193 0=some 0:=ai
theorem Ij:cI Tryz.prog 193 1=some 1:=ai
theorem Ik:cI Tryz.prog 193 2=some 2:=ai
theorem Il:cI Tryz.prog 193 3=some 3:=ai
theorem Im:cI Tryz.prog 193 4=some 4:=ai
theorem TU:tB Tryz.prog 196=some ([(0,1),(1,1)],[.int .i64 0,.string ⟨#[]⟩]):=ai
theorem mN:gA Tryz.prog 196=some (.agg #[.int .i64 0,.string ⟨#[]⟩]):=ai
theorem uR:qv Tryz.prog 242=some (39,1):=ai
theorem uS:EM Tryz.prog 262=true:=ai
theorem d9:sY Tryz.prog 34 3=some (115,40):=ai
theorem DI:((Tryz.prog.info? 115).map (·.size)).isSome=true:=ai
theorem g9:sY Tryz.prog 43 5=some (126,40):=ai
theorem DJ:((Tryz.prog.info? 126).map (·.size)).isSome=true:=ai
theorem lI:sY Tryz.prog 44 3=some (103,32):=ai
theorem QH:((Tryz.prog.info? 103).map (·.size)).isSome=true:=ai
theorem eH:sY Tryz.prog 45 3=some (124,24):=ai
theorem xW:((Tryz.prog.info? 124).map (·.size)).isSome=true:=ai
theorem ea:sY Tryz.prog 46 4=some (91,40):=ai
theorem r9:((Tryz.prog.info? 91).map (·.size)).isSome=true:=ai
theorem QI:sY Tryz.prog 61 1=some (9,16):=ai
theorem J0:((Tryz.prog.info? 9).map (·.size)).isSome=true:=ai
theorem lY:sY Tryz.prog 110 1=some (3,8):=ai
theorem o0:sY Tryz.prog 118 2=some (196,24):=ai
theorem ND:sY Tryz.prog 140 1=some (34,24):=ai
abbrev dw(f:FuncId):Prop:=∀args w,(callFunc f args).run Tryz.prog w = .ok (.enter f args) w
theorem YV:dw 5:=enters_of Tryz.func5 ai rfl
theorem WK:dw 6:=enters_of Tryz.func6 ai rfl
theorem WL:dw 7:=enters_of Tryz.func7 ai rfl
theorem YW:dw 8:=enters_of Tryz.func8 ai rfl
theorem YX:dw 9:=enters_of Tryz.func9 ai rfl
theorem NF:dw 10:=enters_of Tryz.func10 ai rfl
theorem WM:dw 11:=enters_of Tryz.func11 ai rfl
theorem Sk:dw 12:=enters_of Tryz.func12 ai rfl
theorem WN:dw 13:=enters_of Tryz.func13 ai rfl
theorem WO:dw 14:=enters_of Tryz.func14 ai rfl
theorem Sm:dw 15:=enters_of Tryz.func15 ai rfl
theorem NG:dw 16:=enters_of Tryz.func16 ai rfl
theorem J1:dw 17:=enters_of Tryz.func17 ai rfl
theorem Sn:dw 22:=enters_of Tryz.func22 ai rfl
theorem WQ:dw 23:=enters_of Tryz.func23 ai rfl
theorem WR:dw 24:=enters_of Tryz.func24 ai rfl
theorem WS:dw 25:=enters_of Tryz.func25 ai rfl
theorem Sp:dw 26:=enters_of Tryz.func26 ai rfl
theorem NH:dw 27:=enters_of Tryz.func27 ai rfl
theorem Sq:dw 28:=enters_of Tryz.func28 ai rfl
theorem Sr:dw 29:=enters_of Tryz.func29 ai rfl
theorem WT:dw 30:=enters_of Tryz.func30 ai rfl
theorem WU:dw 31:=enters_of Tryz.func31 ai rfl
theorem Ss:dw 32:=enters_of Tryz.func32 ai rfl
theorem WV:dw 33:=enters_of Tryz.func33 ai rfl
theorem WW:dw 34:=enters_of Tryz.func34 ai rfl
theorem WX:dw 35:=enters_of Tryz.func35 ai rfl
theorem WY:dw 36:=enters_of Tryz.func36 ai rfl
theorem WZ:dw 37:=enters_of Tryz.func37 ai rfl
theorem W2:dw 38:=enters_of Tryz.func38 ai rfl
theorem W3:dw 39:=enters_of Tryz.func39 ai rfl
theorem W4:dw 40:=enters_of Tryz.func40 ai rfl
theorem W5:dw 41:=enters_of Tryz.func41 ai rfl
theorem W6:dw 42:=enters_of Tryz.func42 ai rfl
theorem W7:dw 43:=enters_of Tryz.func43 ai rfl
theorem W8:dw 44:=enters_of Tryz.func44 ai rfl
theorem Sv:dw 45:=enters_of Tryz.func45 ai rfl
theorem J2:dw 46:=enters_of Tryz.func46 ai rfl
theorem Sw:dw 47:=enters_of Tryz.func47 ai rfl
theorem Cm:dw 55:=enters_of Tryz.func55 ai rfl
theorem W9:dw 58:=enters_of Tryz.func58 ai rfl
theorem NI:dw 59:=enters_of Tryz.func59 ai rfl
theorem Xa:dw 60:=enters_of Tryz.func60 ai rfl
theorem Xb:dw 61:=enters_of Tryz.func61 ai rfl
theorem Sx:dw 62:=enters_of Tryz.func62 ai rfl
theorem NJ:dw 63:=enters_of Tryz.func63 ai rfl
theorem Xc:dw 64:=enters_of Tryz.func64 ai rfl
theorem Xd:dw 65:=enters_of Tryz.func65 ai rfl
theorem Xe:dw 66:=enters_of Tryz.func66 ai rfl
theorem sQ:dw 67:=enters_of Tryz.func67 ai rfl
theorem Xf:dw 68:=enters_of Tryz.func68 ai rfl
theorem Sy:dw 69:=enters_of Tryz.func69 ai rfl
theorem Xg:dw 70:=enters_of Tryz.func70 ai rfl
theorem xc:dw 71:=enters_of Tryz.func71 ai rfl
theorem Cn:dw 72:=enters_of Tryz.func72 ai rfl
theorem SA:dw 73:=enters_of Tryz.func73 ai rfl
theorem SB:dw 74:=enters_of Tryz.func74 ai rfl
theorem xd:dw 75:=enters_of Tryz.func75 ai rfl
theorem SC:dw 76:=enters_of Tryz.func76 ai rfl
theorem NK:dw 77:=enters_of Tryz.func77 ai rfl
theorem Xh:dw 78:=enters_of Tryz.func78 ai rfl
theorem Xi:dw 79:=enters_of Tryz.func79 ai rfl
theorem NL:dw 80:=enters_of Tryz.func80 ai rfl
theorem J3:dw 81:=enters_of Tryz.func81 ai rfl
theorem Xj:dw 82:=enters_of Tryz.func82 ai rfl
theorem SD:dw 83:=enters_of Tryz.func83 ai rfl
theorem J4:dw 84:=enters_of Tryz.func84 ai rfl
theorem NM:dw 85:=enters_of Tryz.func85 ai rfl
theorem J5:dw 86:=enters_of Tryz.func86 ai rfl
theorem FV:dw 87:=enters_of Tryz.func87 ai rfl
theorem zE:dw 88:=enters_of Tryz.func88 ai rfl
theorem Co:dw 89:=enters_of Tryz.func89 ai rfl
theorem NN:dw 90:=enters_of Tryz.func90 ai rfl
theorem FW:dw 91:=enters_of Tryz.func91 ai rfl
theorem Xk:dw 92:=enters_of Tryz.func92 ai rfl
theorem xe:dw 93:=enters_of Tryz.func93 ai rfl
theorem NP:dw 94:=enters_of Tryz.func94 ai rfl
theorem Xl:dw 95:=enters_of Tryz.func95 ai rfl
theorem Xm:dw 96:=enters_of Tryz.func96 ai rfl
theorem Xn:dw 97:=enters_of Tryz.func97 ai rfl
theorem Xo:dw 98:=enters_of Tryz.func98 ai rfl
theorem Xp:dw 99:=enters_of Tryz.func99 ai rfl
theorem TV:dw 100:=enters_of Tryz.func100 ai rfl
theorem TW:dw 101:=enters_of Tryz.func101 ai rfl
theorem TX:dw 102:=enters_of Tryz.func102 ai rfl
theorem TY:dw 103:=enters_of Tryz.func103 ai rfl
theorem T0:dw 104:=enters_of Tryz.func104 ai rfl
theorem zF:dw 105:=enters_of Tryz.func105 ai rfl
theorem zG:dw 106:=enters_of Tryz.func106 ai rfl
theorem Io:dw 107:=enters_of Tryz.func107 ai rfl
theorem pV:dw 108:=enters_of Tryz.func108 ai rfl
theorem T1:dw 119:=enters_of Tryz.func119 ai rfl
theorem vV:dw 120:=enters_of Tryz.func120 ai rfl
theorem Ip:dw 121:=enters_of Tryz.func121 ai rfl
theorem NQ:dw 122:=enters_of Tryz.func122 ai rfl
theorem T2:dw 123:=enters_of Tryz.func123 ai rfl
theorem Iq:dw 124:=enters_of Tryz.func124 ai rfl
theorem l9:dw 125:=enters_of Tryz.func125 ai rfl
theorem T3:dw 126:=enters_of Tryz.func126 ai rfl
theorem T4:dw 127:=enters_of Tryz.func127 ai rfl
theorem T5:dw 128:=enters_of Tryz.func128 ai rfl
theorem NR:dw 129:=enters_of Tryz.func129 ai rfl
theorem DK:dw 130:=enters_of Tryz.func130 ai rfl
theorem T6:dw 131:=enters_of Tryz.func131 ai rfl
theorem fR:dw 132:=enters_of Tryz.func132 ai rfl
theorem T7:dw 133:=enters_of Tryz.func133 ai rfl
theorem kD:dw 134:=enters_of Tryz.func134 ai rfl
theorem zH:dw 135:=enters_of Tryz.func135 ai rfl
theorem T8:dw 136:=enters_of Tryz.func136 ai rfl
theorem NS:dw 137:=enters_of Tryz.func137 ai rfl
theorem T9:dw 138:=enters_of Tryz.func138 ai rfl
theorem Ua:dw 139:=enters_of Tryz.func139 ai rfl
theorem zI:dw 140:=enters_of Tryz.func140 ai rfl
theorem DL:dw 141:=enters_of Tryz.func141 ai rfl
theorem Ub:dw 142:=enters_of Tryz.func142 ai rfl
theorem ma:dw 143:=enters_of Tryz.func143 ai rfl
theorem rl:dw 144:=enters_of Tryz.func144 ai rfl
theorem NT:dw 145:=enters_of Tryz.func145 ai rfl
theorem NU:dw 146:=enters_of Tryz.func146 ai rfl
theorem pW:dw 147:=enters_of Tryz.func147 ai rfl
theorem Uc:dw 148:=enters_of Tryz.func148 ai rfl
theorem NV:dw 149:=enters_of Tryz.func149 ai rfl
theorem DN:dw 150:=enters_of Tryz.func150 ai rfl
theorem DR:dw 151:=enters_of Tryz.func151 ai rfl
theorem DT:dw 152:=enters_of Tryz.func152 ai rfl
theorem Ud:dw 153:=enters_of Tryz.func153 ai rfl
theorem DU:dw 155:=enters_of Tryz.func155 ai rfl
theorem zJ:dw 156:=enters_of Tryz.func156 ai rfl
theorem vW:dw 157:=enters_of Tryz.func157 ai rfl
theorem rm:dw 158:=enters_of Tryz.func158 ai rfl
theorem zK:dw 159:=enters_of Tryz.func159 ai rfl
theorem vX:dw 160:=enters_of Tryz.func160 ai rfl
theorem Ir:dw 161:=enters_of Tryz.func161 ai rfl
theorem Iu:dw 162:=enters_of Tryz.func162 ai rfl
theorem Ue:dw 163:=enters_of Tryz.func163 ai rfl
theorem Uf:dw 164:=enters_of Tryz.func164 ai rfl
theorem Ug:dw 165:=enters_of Tryz.func165 ai rfl
theorem Iv:dw 166:=enters_of Tryz.func166 ai rfl
theorem NW:dw 167:=enters_of Tryz.func167 ai rfl
theorem NY:dw 168:=enters_of Tryz.func168 ai rfl
theorem Uh:dw 169:=enters_of Tryz.func169 ai rfl
theorem NZ:dw 170:=enters_of Tryz.func170 ai rfl
theorem Ui:dw 187:=enters_of Tryz.func187 ai rfl
theorem Uj:dw 188:=enters_of Tryz.func188 ai rfl
theorem Uk:dw 189:=enters_of Tryz.func189 ai rfl
theorem N0:dw 190:=enters_of Tryz.func190 ai rfl
theorem Ul:dw 192:=enters_of Tryz.func192 ai rfl
theorem N1:dw 193:=enters_of Tryz.func193 ai rfl
theorem N2:dw 197:=enters_of Tryz.func197 ai rfl
theorem Um:dw 198:=enters_of Tryz.func198 ai rfl
theorem Iw:dw 199:=enters_of Tryz.func199 ai rfl
theorem Un:dw 200:=enters_of Tryz.func200 ai rfl
theorem Uo:dw 201:=enters_of Tryz.func201 ai rfl
theorem Up:dw 202:=enters_of Tryz.func202 ai rfl
theorem Ur:dw 203:=enters_of Tryz.func203 ai rfl
theorem DV:dw 206:=enters_of Tryz.func206 ai rfl
theorem N3:dw 207:=enters_of Tryz.func207 ai rfl
theorem DW:dw 208:=enters_of Tryz.func208 ai rfl
theorem Us:dw 209:=enters_of Tryz.func209 ai rfl
theorem Ut:dw 210:=enters_of Tryz.func210 ai rfl
theorem Uu:dw 211:=enters_of Tryz.func211 ai rfl
theorem Uv:dw 212:=enters_of Tryz.func212 ai rfl
theorem Uw:dw 213:=enters_of Tryz.func213 ai rfl
theorem Ux:dw 214:=enters_of Tryz.func214 ai rfl
theorem DX:dw 215:=enters_of Tryz.func215 ai rfl
theorem N4:dw 216:=enters_of Tryz.func216 ai rfl
theorem Uy:dw 229:=enters_of Tryz.func229 ai rfl
theorem UA:dw 250:=enters_of Tryz.func250 ai rfl
theorem UB:dw 251:=enters_of Tryz.func251 ai rfl
theorem UC:dw 252:=enters_of Tryz.func252 ai rfl
theorem N5:dw 255:=enters_of Tryz.func255 ai rfl
theorem UD:dw 287:=enters_of Tryz.func287 ai rfl
theorem N6:dw 288:=enters_of Tryz.func288 ai rfl
theorem N7:dw 306:=enters_of Tryz.func306 ai rfl
instance:Y (gD Tryz.prog 3) (true):=⟨bg⟩
instance:Y (gD Tryz.prog 4) (true):=⟨zy⟩
instance:Y (gD Tryz.prog 9) (true):=⟨dC⟩
instance:Y (gD Tryz.prog 25) (true):=⟨mB⟩
instance:Y (ko Tryz.prog 32) (some 2):=⟨lG⟩
instance:Y (tB Tryz.prog 32) (some ([(0,1),(1,1)],[.int .i64 0,.int .i64 0])):=⟨Si⟩
instance:Y (cI Tryz.prog 32 0) (some 0):=⟨K5⟩
instance:Y (cI Tryz.prog 32 1) (some 1):=⟨K6⟩
instance:Y (gD Tryz.prog 34) (true):=⟨jv⟩
instance:Y (cI Tryz.prog 36 0) (some 0):=⟨Ci⟩
instance:Y (cI Tryz.prog 36 1) (some 1):=⟨Cj⟩
instance:Y (cI Tryz.prog 36 2) (some 2):=⟨K7⟩
instance:Y (cI Tryz.prog 36 3) (some 4):=⟨K8⟩
instance:Y (cI Tryz.prog 36 4) (some 6):=⟨K9⟩
instance:Y (cI Tryz.prog 36 5) (some 7):=⟨La⟩
instance:Y (gD Tryz.prog 43) (true):=⟨eF⟩
instance:Y (gD Tryz.prog 44) (true):=⟨gC⟩
instance:Y (gD Tryz.prog 45) (true):=⟨eG⟩
instance:Y (gD Tryz.prog 46) (true):=⟨cQ⟩
instance:Y (ko Tryz.prog 48) (some 6):=⟨ak⟩
instance:Y (tB Tryz.prog 48) (some ([(0,1),(1,1),(2,1),(3,1),(4,1),(5,1)],[.slice none 0 0,.slice none 0 0,.slice none 0 0,.slice none 0 0,.int .i64 0,.int .i64 0])):=⟨Sj⟩
instance:Y (cI Tryz.prog 48 0) (some 0):=⟨vP⟩
instance:Y (cI Tryz.prog 48 1) (some 1):=⟨vQ⟩
instance:Y (cI Tryz.prog 48 2) (some 2):=⟨vR⟩
instance:Y (cI Tryz.prog 48 3) (some 3):=⟨vS⟩
instance:Y (cI Tryz.prog 48 4) (some 4):=⟨Lc⟩
instance:Y (cI Tryz.prog 48 5) (some 5):=⟨Ld⟩
instance:Y (gD Tryz.prog 61) (true):=⟨i6⟩
instance:Y (ko Tryz.prog 91) (some 4):=⟨cj⟩
instance:Y (tB Tryz.prog 91) (some ([(0,1),(1,1),(2,1),(3,1)],[.int .i64 0,.string ⟨#[]⟩,.int .i64 0,.int .i64 0])):=⟨WJ⟩
instance:Y (cI Tryz.prog 91 0) (some 0):=⟨vU⟩
instance:Y (cI Tryz.prog 91 3) (some 3):=⟨r6⟩
instance:Y (Tryz.prog.concrete 95) (true):=⟨DG⟩
instance:Y (ko Tryz.prog 103) (some 3):=⟨fU⟩
instance:Y (tB Tryz.prog 103) (some ([(0,1),(1,1),(2,1)],[.int .i64 0,.int .i64 0,.string ⟨#[]⟩])):=⟨TM⟩
instance:Y (cI Tryz.prog 103 0) (some 0):=⟨pS⟩
instance:Y (cI Tryz.prog 103 1) (some 1):=⟨tG⟩
instance:Y (cI Tryz.prog 103 2) (some 2):=⟨tH⟩
instance:Y (gD Tryz.prog 110) (true):=⟨rk⟩
instance:Y (ko Tryz.prog 115) (some 3):=⟨bK⟩
instance:Y (tB Tryz.prog 115) (some ([(0,1),(1,1),(2,1)],[.string ⟨#[]⟩,.string ⟨#[]⟩,.bool false])):=⟨TN⟩
instance:Y (cI Tryz.prog 115 0) (some 0):=⟨bZ⟩
instance:Y (cI Tryz.prog 115 1) (some 1):=⟨zA⟩
instance:Y (cI Tryz.prog 115 2) (some 2):=⟨zB⟩
instance:Y (cI Tryz.prog 120 0) (some 0):=⟨H5⟩
instance:Y (cI Tryz.prog 120 1) (some 1):=⟨H6⟩
instance:Y (cI Tryz.prog 120 2) (some 2):=⟨H7⟩
instance:Y (cI Tryz.prog 120 3) (some 3):=⟨H8⟩
instance:Y (cI Tryz.prog 120 4) (some 4):=⟨H9⟩
instance:Y (ko Tryz.prog 124) (some 3):=⟨du⟩
instance:Y (tB Tryz.prog 124) (some ([(0,2),(2,1)],[.int .i64 0,.int .i64 0,.int .i64 0])):=⟨TQ⟩
instance:Y (cI Tryz.prog 124 0) (some 0):=⟨m6⟩
instance:Y (cI Tryz.prog 124 1) (some 2):=⟨lw⟩
instance:Y (ko Tryz.prog 126) (some 5):=⟨aH⟩
instance:Y (tB Tryz.prog 126) (some ([(0,1),(1,1),(2,1),(3,1),(4,1)],[.int .i64 0,.int .i64 0,.int .i64 0,.int .i64 0,.int .i64 0])):=⟨TR⟩
instance:Y (cI Tryz.prog 126 0) (some 0):=⟨gV⟩
instance:Y (cI Tryz.prog 126 1) (some 1):=⟨zC⟩
instance:Y (cI Tryz.prog 126 2) (some 2):=⟨Ia⟩
instance:Y (cI Tryz.prog 126 3) (some 3):=⟨Ib⟩
instance:Y (cI Tryz.prog 126 4) (some 4):=⟨m7⟩
instance:Y (ko Tryz.prog 129) (some 4):=⟨bA⟩
instance:Y (tB Tryz.prog 129) (some ([(0,1),(1,1),(2,1),(3,1)],[.int .i64 0,.int .i64 0,.int .i64 0,.int .i64 0])):=⟨Ic⟩
instance:Y (cI Tryz.prog 129 0) (some 0):=⟨tI⟩
instance:Y (cI Tryz.prog 129 1) (some 1):=⟨tJ⟩
instance:Y (cI Tryz.prog 129 2) (some 2):=⟨Ie⟩
instance:Y (cI Tryz.prog 129 3) (some 3):=⟨zD⟩
instance:Y (gD Tryz.prog 130) (true):=⟨m8⟩
instance:Y (tB Tryz.prog 132) (some ([(0,1),(1,4),(5,1),(6,1)],[.pointer none,.int .i64 0,.int .i64 0,.int .i64 0,.int .i64 0,.pointer none,.slice none 0 0])):=⟨TS⟩
instance:Y (cI Tryz.prog 132 1) (some 1):=⟨pU⟩
instance:Y (cI Tryz.prog 132 2) (some 5):=⟨lx⟩
instance:Y (cI Tryz.prog 132 3) (some 6):=⟨m9⟩
instance:Y (gD Tryz.prog 137) (true):=⟨oZ⟩
instance:Y (gD Tryz.prog 187) (true):=⟨FU⟩
instance:Y (cI Tryz.prog 189 0) (some 0):=⟨Ig⟩
instance:Y (cI Tryz.prog 189 1) (some 1):=⟨Ih⟩
instance:Y (tB Tryz.prog 193) (some ([(0,1),(1,1),(2,1),(3,1),(4,1)],[.pointer none,.int .i64 0,.int .i64 0,.int .i64 0,.int .i64 0])):=⟨TT⟩
instance:Y (cI Tryz.prog 193 0) (some 0):=⟨Ii⟩
instance:Y (cI Tryz.prog 193 1) (some 1):=⟨Ij⟩
instance:Y (cI Tryz.prog 193 2) (some 2):=⟨Ik⟩
instance:Y (cI Tryz.prog 193 3) (some 3):=⟨Il⟩
instance:Y (cI Tryz.prog 193 4) (some 4):=⟨Im⟩
instance:Y (tB Tryz.prog 196) (some ([(0,1),(1,1)],[.int .i64 0,.string ⟨#[]⟩])):=⟨TU⟩
instance:Y (Tryz.prog.underlying 9) (some (.string)):=⟨Tryz.underlying9⟩
instance:Y (Tryz.prog.underlying 22) (some (.slice 36)):=⟨Tryz.underlying22⟩
instance:Y (Tryz.prog.underlying 34) (some (.slice 115)):=⟨Tryz.underlying34⟩
instance:Y (Tryz.prog.underlying 38) (some (Go.TypeDesc.interface #[("Error",139)])):=⟨Tryz.underlying38⟩
instance:Y (Tryz.prog.underlying 43) (some (.slice 126)):=⟨Tryz.underlying43⟩
instance:Y (Tryz.prog.underlying 44) (some (.slice 103)):=⟨Tryz.underlying44⟩
instance:Y (Tryz.prog.underlying 45) (some (.slice 124)):=⟨Tryz.underlying45⟩
instance:Y (Tryz.prog.underlying 46) (some (.slice 91)):=⟨Tryz.underlying46⟩
instance:Y (Tryz.prog.underlying 61) (some (.slice 9)):=⟨Tryz.underlying61⟩
instance:Y (Tryz.prog.underlying 110) (some (.slice 3)):=⟨Tryz.underlying110⟩
instance:Y (Tryz.prog.underlying 140) (some (.slice 34)):=⟨Tryz.underlying140⟩
instance:Y (Tryz.prog.underlying 187) (some (.pointer 189)):=⟨Tryz.underlying187⟩
end
end Go.Proofs.YtnmpibjlnninjaaGreatDoor
