import Derived.Test.YtnmpibjlnninjaaGreatDoorKS12
import Derived.Laws.StructEq
namespace Go.Proofs.YtnmpibjlnninjaaGreatDoor
set_option linter.unusedVariables false
set_option linter.unusedSimpArgs false
set_option maxRecDepth 100000
set_option maxHeartbeats 90000000
section
open Go Go.RowKit
theorem Uq.ZT {p:Prop}(h:p:=by first|exact (rfl:_=[_,_])|exact (rfl:_=[_,_,_])|exact (rfl:_=[_,_,_,_])|exact (rfl:_=[_,_,_,_,_])|exact (rfl:_=[_,_,_,_,_,_])):p:=h
class HB (B:List aj)(b:Nat)(cs:outParam (List Value))(t:outParam TypeId):Prop where
  h:aj.box b cs t∈B
instance HB.s {B:List aj}{b:Nat}{cs:List Value}{t:TypeId}{r:aj}[h:HB B b cs t]:HB (r::B) b cs t:=⟨.tail _ h.h⟩
instance HB.z {B:List aj}{b:Nat}{cs:List Value}{t:TypeId}:HB (aj.box b cs t::B) b cs t:=⟨.head _⟩
class HS (B F:List aj)(v:Value)(α:outParam Type)(i:outParam (Enc α))(l:outParam (List α)):Prop where
  h:(∃e,aj.row e v l∈B)∨aj.ls v l∈F
section
variable {B F:List aj} {v:Value} {α:Type} [i:Enc α] {l:List α} {r:aj} {e:TypeId}
instance HS.fs [h:HS [] F v α i l]:HS [] (r::F) v α i l:=⟨h.h.imp (fun ⟨_,h⟩=>by cases h) (.tail _)⟩
instance HS.f:HS [] (aj.ls v l::F) v α i l:=⟨.inr (.head _)⟩
instance HS.bs [h:HS B F v α i l]:HS (r::B) F v α i l:=⟨h.h.imp (fun ⟨e,h⟩=>⟨e,.tail _ h⟩) id⟩
instance HS.b:HS (aj.row e v l::B) F v α i l:=⟨.inl ⟨e,.head _⟩⟩
theorem HS.sl [h:HS B F v α i l]{we:World}{X:List Nat}(w:World)(hw:Wd we X B F w):Sl w v l :=
 h.h.elim (fun ⟨_,h⟩=>Own.sl (hw.okB _ h)) (fun h=>hw.okF _ h)
end
section
variable {P:Program} {n:Nat} {we:World} {X:List Nat} {Q:Exit->Act->World->Prop} {k k':List It} {L:Fm} {B F:List aj} {ops rest:List Oper}
variable {dst:Option Nat} {d:Nat} {op:Op} {ty:TypeId} {pos:String} {eC:Array Edge} {g:Option (Nat×Bool)} {v:Value}
variable {x y:Operand} {xT yT e t:TypeId} {kd:IntKind} {b o m i j:Nat} {cs ds:List Value} {u:Value}
theorem R.yy (hg:gd ops L g=some true)(hq:Qt P n we X L B F op ty v)(hd:Nat.blt d n=true)(h:Rg P n we X Q ops rest k ((d,v)::L) B F):Rg P n we X Q ops (⟨some d,op,ty,pos,eC,g⟩::rest) k L B F:=by
 intro a w ha hw
 refine wpList_step fun K hK=>?_
 rw [if_pos (ez (o:=⟨some d,op,ty,pos,eC,g⟩) ha hg)]
 unfold Oper.wp
 rw [hq _ _ _ _ a w ha hw,Oper.upon_value]
 exact hK _ _ (h _ w (ha.put d v hd) hw)
theorem R.sk (hg:gd ops L g=some false)(hd:Nat.blt d n=true)(h:Rg P n we X Q ops rest k ((d,undef)::L) B F):Rg P n we X Q ops (⟨some d,op,ty,pos,eC,g⟩::rest) k L B F:=by
 intro a w ha hw
 refine wpList_step fun K hK=>?_
 rw [if_neg (by rw [ez (o:=⟨some d,op,ty,pos,eC,g⟩) ha hg];simp)]
 exact hK _ _ (h _ w (ha.put d undef hd) hw)
theorem Q.yy (hg:gd ops L g=some true)(hq:Qt P n we X L B F op ty v)(hd:Nat.blt d n=true)(h:Rq P n we X Q ops rest k ((d,v)::L) B F):Rq P n we X Q ops (⟨some d,op,ty,pos,eC,g⟩::rest) k L B F:=by
 intro a ha
 refine wpQuiet_step fun K hK=>?_
 rw [if_pos (ez (o:=⟨some d,op,ty,pos,eC,g⟩) ha hg)]
 exact ⟨v,fun w hw=>by unfold Oper.quietAt;rw [hq _ _ _ _ a w ha hw];exact ⟨rfl,rfl⟩,hK _ (h _ (ha.put d v hd))⟩
theorem Q.sk (hg:gd ops L g=some false)(hd:Nat.blt d n=true)(h:Rq P n we X Q ops rest k ((d,undef)::L) B F):Rq P n we X Q ops (⟨some d,op,ty,pos,eC,g⟩::rest) k L B F:=by
 intro a ha
 refine wpQuiet_step fun K hK=>?_
 rw [if_neg (by rw [ez (o:=⟨some d,op,ty,pos,eC,g⟩) ha hg];simp)]
 exact hK _ (h _ (ha.put d undef hd))
def Dm (is:List Nat)(B1 F1:List aj)(P:Program)(n:Nat)(we:World)(X:List Nat)(Q:Exit->Act->World->Prop)(ops:List Oper)(fuel:Nat)(ls:Array Bool)(k:List It)(L:Fm)(B F:List aj):Prop :=
  (∀w,Wd we X B F w->Wd we X B1 F1 w)->Dg (Wd we X B1 F1) P n we X Q ops fuel ls k L B F
variable {is bs fs:List Nat} {B1 F1:List aj} {fuel:Nat} {ls:Array Bool}
theorem D.l (is bs fs:List Nat)(hS:(dJ B bs,dJ F fs,hG bs)=(some B1,some F1,true))(h:Dm is B1 F1 P n we X Q ops fuel ls k L B F):Dg (Wd we X B1 F1) P n we X Q ops fuel ls k L B F :=
 h fun _=>Wd.pk bs fs hS
theorem Dm.nil (h:Dg (Wd we X B1 F1) P n we X Q ops fuel ls k L B F):Dm [] B1 F1 P n we X Q ops fuel ls k L B F:=fun _=>h
theorem Dm.yy (hi:ops[i]? = some ⟨some d,op,ty,pos,eC,g⟩)(hg:gd ops L g=some true)(hq:Qt P n we X L B1 F1 op ty v)(hd:Nat.blt d n=true)(h:Dm is B1 F1 P n we X Q ops fuel (ls.setIfInBounds i true) k ((d,v)::L) B F)(hfr:(Region.noSelect ops.toArray&&Region.free .any ops.toArray ls i&&(Region.ready .any ops.toArray ls).contains i)=true:=by kernel_rfl):Dm (i::is) B1 F1 P n we X Q ops (fuel+1) ls k L B F :=
 fun hS=>D.q hi hS hg hq hd (h hS) hfr
theorem Dm.sk (hi:ops[i]? = some ⟨some d,op,ty,pos,eC,g⟩)(hg:gd ops L g=some false)(hd:Nat.blt d n=true)(h:Dm is B1 F1 P n we X Q ops fuel (ls.setIfInBounds i true) k ((d,undef)::L) B F)(hfr:(Region.noSelect ops.toArray&&Region.free .any ops.toArray ls i&&(Region.ready .any ops.toArray ls).contains i)=true:=by kernel_rfl):Dm (i::is) B1 F1 P n we X Q ops (fuel+1) ls k L B F :=
 fun hS=>D.skip hi hS hg hd (h hS) hfr
theorem Lh {B:List aj}{b:Nat}{cs:List Value}{t:TypeId}(i:Nat)(h:B[i]? = some (aj.box b cs t)):HB B b cs t:=⟨List.mem_of_getElem? h⟩
theorem hsI {B F:List aj}{v:Value}{α:Type}{i:Enc α}{l:List α}{e:TypeId}(j:Nat)(h:B[j]? = some (aj.row e v l)):HS B F v α i l:=⟨.inl ⟨e,List.mem_of_getElem? h⟩⟩
theorem hsJ {B F:List aj}{v:Value}{α:Type}{i:Enc α}{l:List α}(j:Nat)(h:F[j]? = some (aj.ls v l)):HS B F v α i l:=⟨.inr (List.mem_of_getElem? h)⟩
theorem Y3 {p:Prop}(h:p:=by first|exact inferInstance|exact Lh 0 rfl|exact Lh 1 rfl|exact Lh 2 rfl|exact Lh 3 rfl|exact Lh 4 rfl|exact Lh 5 rfl|exact Lh 6 rfl|exact Lh 7 rfl|exact Lh 8 rfl|exact Lh 9 rfl|exact Lh 10 rfl|exact Lh 11 rfl|exact Lh 12 rfl):p:=h
theorem HSx {p:Prop}(h:p:=by first|exact inferInstance|exact hsI 0 rfl|exact hsI 1 rfl|exact hsI 2 rfl|exact hsI 3 rfl|exact hsI 4 rfl|exact hsI 5 rfl|exact hsI 6 rfl|exact hsI 7 rfl|exact hsJ 0 rfl|exact hsJ 1 rfl|exact hsJ 2 rfl|exact hsJ 3 rfl|exact hsJ 4 rfl|exact hsJ 5 rfl):p:=h
theorem Dm.yz (hi:ops[i]? = some ⟨some d,op,ty,pos,eC,g⟩)(hg:gd ops L g=some true)(hq:Qt P n we X L B1 F1 op ty v)(hd:Nat.blt d n=true)(hfr:(Region.noSelect ops.toArray&&Region.free .any ops.toArray ls i&&(Region.ready .any ops.toArray ls).contains i)=true)(h:Dm is B1 F1 P n we X Q ops fuel (ls.setIfInBounds i true) k ((d,v)::L) B F):Dm (i::is) B1 F1 P n we X Q ops (fuel+1) ls k L B F:=Dm.yy hi hg hq hd h hfr
theorem Dm.sz (hi:ops[i]? = some ⟨some d,op,ty,pos,eC,g⟩)(hg:gd ops L g=some false)(hd:Nat.blt d n=true)(hfr:(Region.noSelect ops.toArray&&Region.free .any ops.toArray ls i&&(Region.ready .any ops.toArray ls).contains i)=true)(h:Dm is B1 F1 P n we X Q ops fuel (ls.setIfInBounds i true) k ((d,undef)::L) B F):Dm (i::is) B1 F1 P n we X Q ops (fuel+1) ls k L B F:=Dm.sk hi hg hd h hfr
theorem Qt.raw (h:Qt P n we X L B F op ty v):∀dst pos eC g a w,Fr n L a->Wd we X B F w->(execOp a.eval ⟨dst,op,ty,pos,eC,g⟩).run P w = .ok (.value v) w:=h
theorem HB.at {w:World}[h:HB B b cs t](hw:Wd we X B F w)(j:Nat)(u:Value)(hu:cs[j]? = some u):w.cell? ⟨b,j,none⟩=some u:=by
 have h:=sX (hw.okB _ h.h) j u hu
 rwa [Nat.zero_add] at h
theorem Uq.ld (hx:ev L x=some (.pointer (some ⟨b,o,none⟩)))(hb:HB B b cs t)(ht:gD P xT=true)(hu:cs[o]? = some u):Qt P n we X L B F (.load xT x) ty u:=fun _ _ _ _ a w ha hw=>by
 simp [execOp,ha.ev hx,lM (P:=P) w ht (HB.at hw o u hu)]
theorem Uq.EJ (hx:ev L x=some (.pointer (some ⟨b,o,none⟩)))(hb:HB B b cs t)(ht:ko P xT=some m)(h0:(o==0&&m==cs.length)=true):Qt P n we X L B F (.load xT x) ty (.agg cs.toArray):=fun _ _ _ _ a w ha hw=>by
 obtain ⟨h1,h2⟩:o=0/\m=cs.length:=by simpa using h0
 subst h1;subst h2
 have h:At w b 0 cs:=fun j u hu=>HB.at hw (0+j) u (by simpa using hu)
 simp [execOp,ha.ev hx,j6 (P:=P) w ht h]
theorem Uq.Mc (hx:ev L x=some (.pointer (some ⟨b,o,none⟩)))(hb:HB B b cs t)(ht:ko P xT=some m)(hd:(cs.drop o).take m=ds)(hm:ds.length=m):Qt P n we X L B F (.load xT x) ty (.agg ds.toArray):=fun _ _ _ _ a w ha hw=>by
 have h:At w b o ds:=fun j u hu=>HB.at hw (o+j) u (by
  rw [<- hd,List.getElem?_take] at hu
  split at hu
  .simpa [List.getElem?_drop] using hu
  cases hu)
 subst hm
 simp [execOp,ha.ev hx,j6 (P:=P) w ht h]
theorem Uq.len {α:Type}{i:Enc α}{l:List α}(hx:ev L x=some v)(hs:HS B F v α i l)(ht:P.underlying xT=some (.slice e)):Qt P n we X L B F (.call { callee:= .builtin .len,args:= #[x],argTypes:= #[xT] }) ty (.int .i64 l.length):=q.len' (fun _=>HS.sl _) hx ht
theorem Uq.Y4 {α:Type}{i:Enc α}{l:List α}(hx:ev L x=some v)(hs:Sl we v l)(ht:P.underlying xT=some (.slice e)):Qt P n we [] L B F (.call { callee:= .builtin .len,args:= #[x],argTypes:= #[xT] }) ty (.int .i64 l.length):=q.len' (fun _=>Wd.old hs) hx ht
theorem Uq.ext {vs:List Value}(hx:ev L x=some (.tuple vs.toArray))(hv:vs[i]? = some v):Qt P n we X L B F (.extract x i) ty v:=q.ext hx (by simpa using hv)
theorem Uq.Y5 {a:Addr}{pT:TypeId}(hx:ev L x=some (.pointer (some a)))(hy:ev L y=some (.pointer none))(ht:P.underlying xT=some (.pointer pT)):Qt P n we X L B F (.binOp .eql xT x y yT) ty (.bool false):=q.P3 hx hy ht
theorem Uq.Y6 {pT:TypeId}(hx:ev L x=some (.pointer none))(hy:ev L y=some (.pointer none))(ht:P.underlying xT=some (.pointer pT)):Qt P n we X L B F (.binOp .eql xT x y yT) ty (.bool true):=q.P3 hx hy ht
theorem Uq.Y7 {a:Addr}{pT:TypeId}(hx:ev L x=some (.pointer (some a)))(hy:ev L y=some (.pointer none))(ht:P.underlying xT=some (.pointer pT)):Qt P n we X L B F (.binOp .neq xT x y yT) ty (.bool true):=q.P4 hx hy ht
theorem Uq.Y8 {pT:TypeId}(hx:ev L x=some (.pointer none))(hy:ev L y=some (.pointer none))(ht:P.underlying xT=some (.pointer pT)):Qt P n we X L B F (.binOp .neq xT x y yT) ty (.bool false):=q.P4 hx hy ht
theorem Uq.Y9 (hx:ev L x=some v)(h:v = .bool true):Qt P n we X L B F (.unOp .not xT x) ty (.bool false):=q.not (h▸hx)
theorem Uq.Za (hx:ev L x=some v)(h:v = .bool false):Qt P n we X L B F (.unOp .not xT x) ty (.bool true):=q.not (h▸hx)
theorem Uq.Mg {c:Operand}{v':Value}(hc:ev L c=some v')(h:v' = .bool true)(hx:ev L x=some v):Qt P n we X L B F (.pick c x y) ty v:=q.Mg (h▸hc) hx
theorem Uq.Mh {c:Operand}{v':Value}(hc:ev L c=some v')(h:v' = .bool false)(hx:ev L y=some v):Qt P n we X L B F (.pick c x y) ty v:=q.Mh (h▸hc) hx
theorem R.cT {c:Operand}{x y:Code}(h:norm 200 k = .c (.cond c x y)::k')(hc:ev L c=some v)(h':v = .bool true)(hr:Run P n we X Q (.c x::k') L B F):Run P n we X Q k L B F:=R.nV h (h'▸hc) hr
theorem R.cF {c:Operand}{x y:Code}(h:norm 200 k = .c (.cond c x y)::k')(hc:ev L c=some v)(h':v = .bool false)(hr:Run P n we X Q (.c y::k') L B F):Run P n we X Q k L B F:=R.mg h (h'▸hc) hr
end
theorem bnT:Value.bool (!true) = .bool false:=rfl
theorem bnF:Value.bool (!false) = .bool true:=rfl
theorem SE {p:Prop}(h:p:=by with_reducible first|exact rfl|exact bnT|exact bnF):p:=h
theorem QQ {p:Prop}(h:p:=by first
 | (apply q.mv;exact rfl)
 | (apply q.as;exact rfl)
 | (apply q.jA;exact rfl;exact Y.h;exact rfl)
 | (apply Uq.ld;exact rfl;exact Y3;exact Y.h;exact rfl)
 | (apply Uq.ext;exact rfl;exact rfl)
 | (apply Uq.Mg;exact rfl;exact SE;exact rfl)
 | (apply Uq.Mh;exact rfl;exact SE;exact rfl)
 | (apply Uq.len;exact rfl;exact HSx;exact Y.h)
 | (apply q.V0;exact rfl;exact Y.h)
 | (apply Uq.Y4;exact rfl;assumption;exact Y.h)
 | (apply q.len;exact rfl;exact Y.h)
 | (apply q.qD;exact rfl;exact rfl;exact Y.h;omega)
 | (apply q.wQ;exact rfl;exact rfl;exact Y.h;omega)
 | (apply q.yo;exact rfl;exact rfl;exact Y.h;omega)
 | (apply q.yp;exact rfl;exact rfl;exact Y.h;omega)
 | (apply q.Ks;exact rfl;exact rfl;assumption)
 | (apply q.Hg;exact rfl;exact rfl;assumption)
 | (apply q.Ks;exact rfl;exact rfl;omega)
 | (apply q.Hg;exact rfl;exact rfl;omega)
 | (apply q.Te;exact rfl;exact rfl;assumption)
 | (apply q.VX;exact rfl;exact rfl;assumption)
 | (apply q.Te;exact rfl;exact rfl;omega)
 | (apply q.VX;exact rfl;exact rfl;omega)
 | (apply q.VY;exact rfl;exact rfl;assumption)
 | (apply q.VZ;exact rfl;exact rfl;assumption)
 | (apply q.VY;exact rfl;exact rfl;omega)
 | (apply q.VZ;exact rfl;exact rfl;omega)
 | (apply q.sV;exact rfl;exact rfl;assumption)
 | (apply q.sW;exact rfl;exact rfl;assumption)
 | (apply q.sV;exact rfl;exact rfl;omega)
 | (apply q.sW;exact rfl;exact rfl;omega)
 | (apply q.VR;exact rfl;exact rfl;assumption)
 | (apply q.VT;exact rfl;exact rfl;assumption)
 | (apply q.VR;exact rfl;exact rfl;omega)
 | (apply q.VT;exact rfl;exact rfl;omega)
 | (apply q.VU;exact rfl;exact rfl;assumption)
 | (apply q.VW;exact rfl;exact rfl;assumption)
 | (apply q.VU;exact rfl;exact rfl;omega)
 | (apply q.VW;exact rfl;exact rfl;omega)
 | (apply Uq.EJ;exact rfl;exact Y3;exact Y.h;exact rfl)
 | (apply Uq.Mc;exact rfl;exact Y3;exact Y.h;exact Uq.ZT;exact rfl)
 | (apply Uq.Y5;exact rfl;exact rfl;exact Y.h)
 | (apply Uq.Y6;exact rfl;exact rfl;exact Y.h)
 | (apply Uq.Y7;exact rfl;exact rfl;exact Y.h)
 | (apply Uq.Y8;exact rfl;exact rfl;exact Y.h)
 | (apply Uq.Y9;exact rfl;exact SE)
 | (apply Uq.Za;exact rfl;exact SE)
 | (apply q.Bw;exact rfl;exact rfl;exact Y.h)
 | (apply q.EL;exact rfl;exact rfl;exact Y.h)
 | (apply q.RP;exact rfl;exact rfl;exact Y.h)
 | (apply q.RQ;exact rfl;exact rfl;exact Y.h)
 | (apply q.field;exact rfl;exact Y.h;exact rfl)
 | (apply q.Tg;exact rfl;exact Y.h;exact Uq.ZT)
 | (apply q.build;exact Y.h;exact rfl;exact rfl)
 | (apply q.iface;exact rfl;exact Y.h)
 | (apply q.fD;exact rfl)):p:=h
structure Uz (S:Prop):Prop where
  un:S
theorem U {G S:Prop}(k:S)(h:Uz S->G:=by
 intro h
 (repeat first
  | (apply R.yy;exact rfl;exact QQ;exact rfl)
  | apply R.nil
  | (apply R.reg;exact rfl)
  | (apply R.cT;exact rfl;exact rfl;exact SE)
  | (apply R.cF;exact rfl;exact rfl;exact SE)
  | (apply R.sk;exact rfl;exact rfl)
  | (apply Dm.yz;exact rfl;exact rfl;exact QQ;exact rfl;kernel_rfl)
  | apply Dm.nil
  | (apply Dm.sz;exact rfl;exact rfl;exact rfl;kernel_rfl)
  | (apply Q.yy;exact rfl;exact QQ;exact rfl)
  | apply Q.nil
  | (apply Q.sk;exact rfl;exact rfl))
 exact h.un):G:=h ⟨k⟩
theorem V {G S:Prop}(k:S)(h:Uz S->G:=by
 intro h
 (repeat first
  | (apply R.yy;exact rfl;exact QQ;exact rfl)
  | apply R.nil
  | (apply R.cT;exact rfl;exact rfl;exact SE)
  | (apply R.cF;exact rfl;exact rfl;exact SE)
  | (apply R.sk;exact rfl;exact rfl)
  | (apply Dm.yz;exact rfl;exact rfl;exact QQ;exact rfl;kernel_rfl)
  | apply Dm.nil
  | (apply Dm.sz;exact rfl;exact rfl;exact rfl;kernel_rfl)
  | (apply Q.yy;exact rfl;exact QQ;exact rfl)
  | apply Q.nil
  | (apply Q.sk;exact rfl;exact rfl))
 exact h.un):G:=h ⟨k⟩
end
section
open Go Go.RowKit
set_option linter.unusedSectionVars false
theorem Cp {P:Program}{op:BinOp}{t:TypeId}(h:P.eqGuardType P.depth t=false)(a b:Operand)(xs ys:Array Value)(w:World):(eqGuard op t a b (.agg xs) (.agg ys)).run P w = .ok () w:=by
 have hp:(program:Sem Program).run P w = .ok P w:=rfl
 simp_all [eqGuard]
theorem vZ {P:Program}{t:TypeId}{β:Type}[DecidableEq β]{cs:β->List Value}(hg:P.eqGuardType P.depth t=false)(he:∀x y w,(Op.equal t (.agg (cs x).toArray) (.agg (cs y).toArray)).run P w = .ok (decide (x=y)) w):Ml P t (fun x => .agg (cs x).toArray):=by
 refine ⟨fun x y w a b=>⟨Cp hg a b _ _ w,Cp hg a b _ _ w⟩,fun x y w=>⟨?_,?_⟩⟩
 .grind [binOp,Sem.run_bind,Result.andThen_ok,Sem.run_pure]
 grind [binOp,Sem.run_bind,Result.andThen_ok,Sem.run_pure]
theorem wh:Ml Tryz.prog 126 ap.val:=by
 have hS:Tryz.prog.underlying 126=some (.struct (Tryz.prog.fieldsOf 126)):=ai
 have hp:Tryz.prog.stoodInHeld 126=false:=ai
 refine vZ (cs:=ap.cs) ai fun x y w=>?_
 have u3:=Tryz.underlying3;have a3:=Tryz.isAgg3;have z3:=Tryz.sizeOf3
 obtain ⟨x1,x2,x3,x4,x5⟩:=x;obtain ⟨y1,y2,y3,y4,y5⟩:=y
 rw [Op.equal,Op.maxDepth,show (10000:Nat)=9999+1 from rfl,run_equalIn_agg w 9999 126 _ _ hS hp]
 simp only [Program.fieldsOf,Tryz.underlying126]
 go_simp
 by_cases h1:x1=y1 <;> by_cases h2:x2=y2 <;> by_cases h3:x3=y3 <;> by_cases h4:x4=y4 <;> by_cases h5:x5=y5 <;> simp [h1,h2,h3,h4,h5]
theorem jE:Ml Tryz.prog 32 Place.val:=by
 have hS:Tryz.prog.underlying 32=some (.struct (Tryz.prog.fieldsOf 32)):=ai
 have hp:Tryz.prog.stoodInHeld 32=false:=ai
 refine vZ (cs:=fun x:Place=>[.int .i64 x.ay,.int .i64 x.Slot]) ai fun x y w=>?_
 have u3:=Tryz.underlying3;have a3:=Tryz.isAgg3;have z3:=Tryz.sizeOf3
 obtain ⟨x1,x2⟩:=x;obtain ⟨y1,y2⟩:=y
 rw [Op.equal,Op.maxDepth,show (10000:Nat)=9999+1 from rfl,run_equalIn_agg w 9999 32 _ _ hS hp]
 simp only [Program.fieldsOf,Tryz.underlying32]
 go_simp
 by_cases h1:x1=y1 <;> by_cases h2:x2=y2 <;> simp [h1,h2]
theorem Oa (d:Nat)(x y:Place)(w:World):(Op.equalIn (d+1+1) 32 (.agg #[.int .i64 x.ay,.int .i64 x.Slot]) (.agg #[.int .i64 y.ay,.int .i64 y.Slot])).run Tryz.prog w = .ok (decide (x=y)) w:=by
 have hS:Tryz.prog.underlying 32=some (.struct (Tryz.prog.fieldsOf 32)):=ck
 have hp:Tryz.prog.stoodInHeld 32=false:=bW
 have u3:=Tryz.underlying3;have a3:=Tryz.isAgg3;have z3:=Tryz.sizeOf3
 obtain ⟨x1,x2⟩:=x;obtain ⟨y1,y2⟩:=y
 rw [run_equalIn_agg w (d+1) 32 _ _ hS hp]
 simp only [Program.fieldsOf,Tryz.underlying32]
 go_simp
 grind
theorem Ob:Ml Tryz.prog 124 Held.val:=by
 have hS:Tryz.prog.underlying 124=some (.struct (Tryz.prog.fieldsOf 124)):=ai
 have hp:Tryz.prog.stoodInHeld 124=false:=ai
 refine vZ (cs:=Held.cs) ai fun x y w=>?_
 have u3:=Tryz.underlying3;have a3:=Tryz.isAgg3;have z3:=Tryz.sizeOf3;have a4:=Tryz.isAgg32;have z4:=Tryz.sizeOf32
 obtain ⟨⟨x1,x2⟩,x3⟩:=x;obtain ⟨⟨y1,y2⟩,y3⟩:=y
 rw [Op.equal,Op.maxDepth,show (10000:Nat)=9999+1 from rfl,run_equalIn_agg w 9999 124 _ _ hS hp]
 have hpl:=fun w=>Oa 9997 ⟨x1,x2⟩ ⟨y1,y2⟩ w
 simp only [Nat.reduceAdd] at hpl
 simp only [Program.fieldsOf,Tryz.underlying124]
 go_simp
 by_cases h1:x1=y1 <;> by_cases h2:x2=y2 <;> by_cases h3:x3=y3 <;> simp [h1,h2,h3]
theorem D3:Ml Tryz.prog 115 Change.val:=by
 have hS:Tryz.prog.underlying 115=some (.struct (Tryz.prog.fieldsOf 115)):=ai
 have hp:Tryz.prog.stoodInHeld 115=false:=ai
 refine vZ (cs:=Change.cs) ai fun x y w=>?_
 have u3:=Tryz.underlying9;have a3:=Tryz.isAgg9;have z3:=Tryz.sizeOf9;have u4:=Tryz.underlying4;have a4:=Tryz.isAgg4;have z4:=Tryz.sizeOf4
 obtain ⟨x1,x2,x3⟩:=x;obtain ⟨y1,y2,y3⟩:=y
 rw [Op.equal,Op.maxDepth,show (10000:Nat)=9999+1 from rfl,run_equalIn_agg w 9999 115 _ _ hS hp]
 simp only [Program.fieldsOf,Tryz.underlying115]
 go_simp
 have tl:∀a b:ByteArray,a.toList=b.toList↔a=b:=fun a b=>by have:=lN a b;rw [Bool.eq_iff_iff] at this;simpa using this
 by_cases h1:x1=y1 <;> by_cases h2:x2=y2 <;> by_cases h3:x3=y3 <;> simp [h1,h2,h3,tl]
section
variable {α:Type} [DecidableEq α] {a b:List α}
theorem zM (h:¬ a.length=b.length):false=decide (a=b):=(decide_eq_false (fun e=>h (by rw [e]))).symm
theorem zN {k:Nat}{x y:α}(hx:a[k]? = some x)(hy:b[k]? = some y)(h:¬ x=y):false=decide (a=b):=(decide_eq_false (fun e=>h aB)).symm
theorem ru {k:Nat}(hl:a.length=b.length)(hk:¬ k<a.length)(h:∀j,j<k->a[j]? = b[j]?):true=decide (a=b):=by
 refine (decide_eq_true (List.ext_getElem? fun j=>?_)).symm
 grind
theorem o5 {k:Nat}{x y:α}(h:∀j,j<k->a[j]? = b[j]?)(hx:a[k]? = some x)(hy:b[k]? = some y)(e:x=y):∀j,j<k+1->a[j]? = b[j]?:=by
 grind
end
end
section
open Go Go.RowKit
attribute [local irreducible] Run Rg Rq Qt Qa Stp Dg Do Dm cD
theorem sR (uT:Value)(a:List ap)(vg:Value)(b:List ap)(w:World)(F5:Sl w uT a)(F6:Sl w vg b):Calls Tryz.prog 45 #[uT,vg] w fun e w'=>e = .returned (.bool (decide (a=b)))/\Ext w w':=by
 have Oc:=F5.eV
 have ZU:=F6.eV
 refine R.enter [] [(0,uT),(1,vg)] Tryz.func45 O O O O<|U ?_
 by_cases h1:a.length=b.length
 .
  refine U ?_
  refine R.loop (fun k:Nat=>[(0,uT),(1,vg),(5,iV (k:Int))]) (fun k:Nat=>[]) (fun k:Nat=>[]) (fun k:Nat=>k<=a.length /\ ∀j,j<k->a[j]? = b[j]?) (fun k:Nat=>a.length-k) 0 O (by exact ⟨ae,fun j hj=>absurd hj (Nat.not_lt_zero _)⟩) (sF O) (eI [] [] O) ?_
  rintro k ⟨hk,HA⟩
  refine U ?_
  by_cases h2:k<a.length
  .
   refine U ?_
   obtain ⟨x1,hx1⟩:=gE a k
   obtain ⟨x2,hx2⟩:=gE b k
   by_cases h3:x1=x2
   .
    refine R.dA O mixed ai<|U ?_
    refine Q.q (q.idx (i:=k) (fun _=>Wd.old F5) O O cR O hx1) O<|Q.q (q.dj (ds:=fY x1) (fun _=>Wd.old F5) hx1 O aH O) O<|U ?_
    refine Q.q (q.idx (i:=k) (fun _=>Wd.old F6) O O cR O hx2) O<|Q.q (q.dj (ds:=fY x2) (fun _=>Wd.old F6) hx2 O aH O) O<|Q.q (q.kQ (x:=x1) (y:=x2) wh O O h3) O<|U ?_
    refine R.q (q.aL (r:=((k+1:Nat):Int)) O O) O<|U ?_
    refine R.back (k+1) O (by (exact ⟨ae,o5 HA hx1 hx2 af⟩)) ae (sF O) (eI [] [] O)
   refine R.dA O mixed ai<|U ?_
   refine Q.q (q.idx (i:=k) (fun _=>Wd.old F5) O O cR O hx1) O<|Q.q (q.dj (ds:=fY x1) (fun _=>Wd.old F5) hx1 O aH O) O<|U ?_
   refine Q.q (q.idx (i:=k) (fun _=>Wd.old F6) O O cR O hx2) O<|Q.q (q.dj (ds:=fY x2) (fun _=>Wd.old F6) hx2 O aH O) O<|Q.q (q.kR (x:=x1) (y:=x2) wh O O h3) O<|U ?_
   exact R.rv O Tryz.results45 O (rB (by (exact zN hx1 hx2 af)))
  refine U ?_
  exact R.rv O Tryz.results45 O (rB (by (exact ru af af HA)))
 refine U ?_
 exact R.rv O Tryz.results45 O (rB (by (exact zM af)))
theorem mC (uT:Value)(a:List Held)(vg:Value)(b:List Held)(w:World)(F5:Sl w uT a)(F6:Sl w vg b):Calls Tryz.prog 46 #[uT,vg] w fun e w'=>e = .returned (.bool (decide (a=b)))/\Ext w w':=by
 have Oc:=F5.eV
 have ZU:=F6.eV
 refine R.enter [] [(0,uT),(1,vg)] Tryz.func46 O O O O<|U ?_
 by_cases h1:a.length=b.length
 .
  refine U ?_
  refine R.loop (fun k:Nat=>[(0,uT),(1,vg),(5,iV (k:Int))]) (fun k:Nat=>[]) (fun k:Nat=>[]) (fun k:Nat=>k<=a.length /\ ∀j,j<k->a[j]? = b[j]?) (fun k:Nat=>a.length-k) 0 O (by exact ⟨ae,fun j hj=>absurd hj (Nat.not_lt_zero _)⟩) (sF O) (eI [] [] O) ?_
  rintro k ⟨hk,HA⟩
  refine U ?_
  by_cases h2:k<a.length
  .
   refine U ?_
   obtain ⟨x1,hx1⟩:=gE a k
   obtain ⟨x2,hx2⟩:=gE b k
   by_cases h3:x1=x2
   .
    refine R.dA O mixed ai<|U ?_
    refine Q.q (q.idx (i:=k) (fun _=>Wd.old F5) O O bJ O hx1) O<|Q.q (q.dj (ds:=fZ x1) (fun _=>Wd.old F5) hx1 O du O) O<|U ?_
    refine Q.q (q.idx (i:=k) (fun _=>Wd.old F6) O O bJ O hx2) O<|Q.q (q.dj (ds:=fZ x2) (fun _=>Wd.old F6) hx2 O du O) O<|Q.q (q.kQ (x:=x1) (y:=x2) Ob O O h3) O<|U ?_
    refine R.q (q.aL (r:=((k+1:Nat):Int)) O O) O<|U ?_
    refine R.back (k+1) O (by (exact ⟨ae,o5 HA hx1 hx2 af⟩)) ae (sF O) (eI [] [] O)
   refine R.dA O mixed ai<|U ?_
   refine Q.q (q.idx (i:=k) (fun _=>Wd.old F5) O O bJ O hx1) O<|Q.q (q.dj (ds:=fZ x1) (fun _=>Wd.old F5) hx1 O du O) O<|U ?_
   refine Q.q (q.idx (i:=k) (fun _=>Wd.old F6) O O bJ O hx2) O<|Q.q (q.dj (ds:=fZ x2) (fun _=>Wd.old F6) hx2 O du O) O<|Q.q (q.kR (x:=x1) (y:=x2) Ob O O h3) O<|U ?_
   exact R.rv O Tryz.results46 O (rB (by (exact zN hx1 hx2 af)))
  refine U ?_
  exact R.rv O Tryz.results46 O (rB (by (exact ru af af HA)))
 refine U ?_
 exact R.rv O Tryz.results46 O (rB (by (exact zM af)))
end
section
open Go Go.RowKit
attribute [local irreducible] Run Rg Rq Qt Qa Stp Dg Do Dm cD
theorem xy (bL:Value)(l:List ByteArray)(w:World)(own:List Nat)(H:HN w own [] [aj.ls bL l])(hl:l.length<=1000000):RC Tryz.prog 60 #[bL] H (fun z:Value=>z) (fun z=>[aj.row 9 z l]) (fun _=>[]):=by
 have AP:=H.bD 0 rfl
 refine R.bE [(0,bL)] Tryz.func60 O O O O H<|U ?_
 rcases Bool.eq_false_or_eq_true (qK bL) with h1|h1
 .
  refine R.q (q.Kv (congrArg Value.bool h1) (q.qm (cb 0 O) O O Tryz.underlying61)) O<|U ?_
  refine R.row0 (α:=ByteArray) 9 ?_
  have hz:l=[]:=by (exact Sl.qK (H.bz 0 rfl) af)
  rw [hz]
  exact R.w1 (nS) [0,1] [] O Tryz.results60 (RV.tmp O) O O O O
 refine R.q (q.Kv (congrArg Value.bool h1) (q.qm (cb 0 O) O O Tryz.underlying61)) O<|U ?_
 refine R.s O (s.bs (l:=([]:List ByteArray)) jm JY O O O O O O O) fun b1=>U ?_
 refine R.s O (s.app 0 _ O O O (cb 0 O) QI az az (fun _=>rfl) O) fun v1=>U ?_
 have hz:l=(([])++l):=by (rfl)
 rw [hz]
 exact R.w1 v1 [0,1] [] O Tryz.results60 (RV.tmp O) O O O O
theorem zO (sx:ByteArray)(w:World)(hs:sx.size<=48):Calls Tryz.prog 59 #[.string sx] w fun e w'=>e = .returned (.string (full sx))/\Ext w w':=by
 refine R.enter [] [(0,.string sx)] Tryz.func59 O O O O<|U ?_
 refine R.q (q.kL (r:=((48-sx.size:Nat):Int)) O O) O<|R.s O (s.YJ (m:=(48-sx.size)) bf O O O O O ae O) fun b1=>?_
 refine R.q (q.jR (bH 0 O) O bf Tryz.underlying5 Tryz.underlying9) O<|R.q (q.cat O O (by rw [dW (List.replicate _ _),List.length_replicate];omega)) O<|U ?_
 exact R.rv O Tryz.results59 O (rS ck)
theorem F7 (n:Nat)(w:World)(hn:n<=1000000):Calls Tryz.prog 119 #[.int .u64 ((1:Nat):Int),.int .u64 (n:Int)] w fun e w'=>e = .returned (.tuple #[.int .u64 0,.int .u64 (n:Int)])/\Ext w w' :=
 (Tryz.bits_Mul 1 n aD ae w).mono fun e w' ⟨h1,h2⟩=>⟨by
  rw [h1,Nat.one_mul,Nat.div_eq_of_lt ae,Nat.mod_eq_of_lt ae];rfl,by rw [h2];exact Ext.refl _⟩
theorem F8 (a n:Nat)(w:World)(hn:a=1/\n<=1000000):Calls Tryz.prog 119 #[.int .u64 (a:Int),.int .u64 (n:Int)] w fun e w'=>e = .returned (.tuple #[.int .u64 0,.int .u64 (n:Int)])/\Ext w w':=by
 obtain ⟨rfl,hn⟩:=hn;exact F7 n w hn
theorem F9 {α:Type}{l x:List α}{a:α}{n k:Nat}(hx:x=List.replicate k a++l)(m:Nat)(hm:m<=k)(hl:k+m<=x.length):x.take k++(x.take k).take m++x.drop (k+m)=List.replicate (k+m) a++l.drop m:=by
 subst hx
 have h1:(List.replicate k a).length=k:=List.length_replicate
 rw [List.take_left' h1,List.take_replicate,Nat.min_eq_left hm,List.drop_append,h1,List.drop_of_length_le (by rw [h1];omega),List.nil_append,show k+m-k=m by omega,<- List.replicate_append_replicate]
theorem Ga (bL:Value)(l:List ByteArray)(n:Nat)(w:World)(own:List Nat)(H:HN w own [] [aj.ls bL l])(hl:l.length=1)(hn:1<=n/\n<=1000):RC Tryz.prog 58 #[bL,iV (n:Int)] H (fun z:Value=>z) (fun z=>[aj.row 9 z ((List.replicate n (l.headD ⟨#[]⟩)):List ByteArray)]) (fun _=>[]):=by
 have AP:=H.bD 0 rfl
 refine R.bE [(0,bL),(1,iV (n:Int))] Tryz.func58 O O O O H<|U ?_
 refine R.q (q.nG (r:=((l.length:Nat):Int)) O (by rw [Tryz.underlying3];rfl) Tryz.underlying183 (CU ae)) O<|U ?_
 refine R.q (q.nG (r:=((n:Nat):Int)) O (by rw [Tryz.underlying3];rfl) Tryz.underlying183 (CU ae)) O<|R.c (q.call T1 O O (fun w hw=>(F8 l.length n w ae))) O<|U ?_
 refine R.q (q.nG (r:=((n:Nat):Int)) O (by rw [Tryz.underlying183];rfl) Tryz.underlying3 (wr ae)) O<|R.s O (s.Wx (m:=n) (z0:=(⟨#[]⟩:ByteArray)) jm O O O aD O O (by simp [Enc.k];omega) O) fun b1=>U ?_
 refine R.s O (s.HY (o:=0) (m:=1) 0 _ O (cb 0 O) O (.inr ⟨rfl,rfl⟩) O jm ae ae az ae O O) fun _=>U ?_
 refine R.loop (fun g_:Nat×Value×(List ByteArray)=>[(7,g_.2.1),(8,iV (g_.1:Int))]) (fun g_=>[aj.row 9 g_.2.1 g_.2.2,aj.held w own]) (fun g_=>[aj.ls bL l]) (fun g_=>1<=g_.1/\g_.1<=n/\g_.2.2=List.replicate g_.1 (l.headD ⟨#[]⟩)++List.replicate (n-g_.1) (⟨#[]⟩:ByteArray)) (fun g_=>n-g_.1) (1,.slice (some ⟨b1,0,none⟩) n n,((List.replicate n (⟨#[]⟩:ByteArray)).take 0++l.take 1++(List.replicate n (⟨#[]⟩:ByteArray)).drop (0+1))) O (by refine ⟨ae,ae,?_⟩;match l,hl with | [a],_=>simp) (sF O) (eI [0,1] [0] O) ?_
 rintro ⟨k,u,rs⟩ ⟨hk0,hk,HR⟩
 dsimp only at *
 have hrl:rs.length=n:=by rw [HR];simp;omega
 refine U ?_
 by_cases h1:k<rs.length
 .
  refine U ?_
  refine R.eA (fuel:=10) [1] O O mixed O<|D.l [0,1,2,4,5] [1] [0] O<|U ?_
  refine D.two (i:=3) (j:=6) O O ?_ ?_
  .
   refine Do.s (s.c (Qt.a (q.dL (i:=k) (bH 0 O) O O jm O ae)) O) (fun _=>(aN [1] [0] O)) O fun _=>?_
   refine D.one (i:=6) O<|Do.s (s.c (Qt.a (q.ku (i:=k) (bH 0 O) O O Tryz.underlying61 J0 O ae)) O) (fun _=>(aN [1] [0] O)) O fun _=>?_
   refine D.one (i:=7) O<|Do.s (s.HY (o:=k) (m:=(min k (n-k))) 0 _ O (fun w hw=>Sl.to (hw.row 0 O) ae) O (.inl O) O jm ae az ae az O O) (fun _=>(aN [1] [0] O)) O fun _=>?_
   refine D.l [8,9] [1] [0] O<|Dm.yy O O (q.aL (r:=((k+(min k (n-k)):Nat):Int)) O O) O<|U ?_
   refine D.done<|R.back (k+min k (n-k),u,(rs.take k++(rs.take k).take (min k (n-k))++rs.drop (k+(min k (n-k))))) O (by (refine ⟨ae,ae,?_⟩;rw [F9 (n:=n) HR (min k (n-k)) ae ae,List.drop_replicate,show n-k-min k (n-k)=n-(k+min k (n-k)) by omega])) aO (sF O) (aN [0,1] [0] O)
  refine Do.s (s.c (Qt.a (q.ku (i:=k) (bH 0 O) O O Tryz.underlying61 J0 O ae)) O) (fun _=>(aN [1] [0] O)) O fun _=>?_
  refine D.one (i:=3) O<|Do.s (s.c (Qt.a (q.dL (i:=k) (bH 0 O) O O jm O ae)) O) (fun _=>(aN [1] [0] O)) O fun _=>?_
  refine D.one (i:=7) O<|Do.s (s.HY (o:=k) (m:=(min k (n-k))) 0 _ O (fun w hw=>Sl.to (hw.row 0 O) ae) O (.inl O) O jm ae az ae az O O) (fun _=>(aN [1] [0] O)) O fun _=>?_
  refine D.l [8,9] [1] [0] O<|Dm.yy O O (q.aL (r:=((k+(min k (n-k)):Nat):Int)) O O) O<|U ?_
  refine D.done<|R.back (k+min k (n-k),u,(rs.take k++(rs.take k).take (min k (n-k))++rs.drop (k+(min k (n-k))))) O (by (refine ⟨ae,ae,?_⟩;rw [F9 (n:=n) HR (min k (n-k)) ae ae,List.drop_replicate,show n-k-min k (n-k)=n-(k+min k (n-k)) by omega])) aO (sF O) (aN [0,1] [0] O)
 refine U ?_
 have hz:List.replicate n (l.headD ⟨#[]⟩)=rs:=by (rw [HR,show k=n by omega];simp)
 rw [hz]
 exact R.w1 u [0,1] [] O Tryz.results58 (RV.tmp O) O O O O
theorem Od (n:Int)(w:World)(own:List Nat)(H:HN w own [] [])(hn:1<=n/\n<=200):RC Tryz.prog 23 #[iV n] H (fun z:Nat×Value×Value×Value => .tuple #[.pointer (some ⟨z.1,0,none⟩),.nilIface]) (fun z=>[aj.box z.1 [z.2.1,z.2.2.1,z.2.2.2,iV (dNew (Int.toNat n)).Fuse,.bool (dNew (Int.toNat n)).Down] 120,aj.row 9 z.2.1 (dNew (Int.toNat n)).Kept,aj.row 9 z.2.2.1 (dNew (Int.toNat n)).Now,aj.row 196 z.2.2.2 (dNew (Int.toNat n)).Wait]) (fun _=>[]):=by
 obtain ⟨nN,hnN⟩:∃m:Nat,n=(m:Int):=⟨n.toNat,ae⟩;subst hnN
 refine R.bE [(0,iV (nN:Int))] Tryz.func23 O O O O H<|U ?_
 refine R.c (q.call NI O O (fun w hw=>(zO (⟨#[]⟩) w aD))) O ?_
 refine R.s O (s.bs (l:=([full (⟨#[]⟩)]:List ByteArray)) jm JY O O O O O O O) fun b1=>U ?_
 refine R.s O (s.Du (Bl:=[aj.row 9 (.slice (some ⟨b1,0,none⟩) 1 1) ([full (⟨#[]⟩)]:List ByteArray)]) (Fl:=[aj.ls (.slice (some ⟨b1,0,none⟩) 1 1) ([full (⟨#[]⟩)]:List ByteArray)]) [0,1] [0] (fun jZ:Value=>jZ) (fun jZ:Value=>[aj.row 9 jZ ((List.replicate nN (([full (⟨#[]⟩)]).headD ⟨#[]⟩)):List ByteArray)]) O O (mM uN) O W9 O O (fun w own hw H=>Ga (.slice (some ⟨b1,0,none⟩) 1 1) ([full (⟨#[]⟩)]) nN w own H ck ae) O) fun z1=>U ?_
 refine R.s O (s.Du (Bl:=[aj.row 9 z1 (List.replicate nN (([full (⟨#[]⟩)]).headD ⟨#[]⟩):List ByteArray)]) (Fl:=[aj.ls z1 (List.replicate nN (([full (⟨#[]⟩)]).headD ⟨#[]⟩):List ByteArray)]) [0,1,2] [0] (fun jZ:Value=>jZ) (fun jZ:Value=>[aj.row 9 jZ ((List.replicate nN (([full (⟨#[]⟩)]).headD ⟨#[]⟩)):List ByteArray)]) O O (mM uN) O Xa O O (fun w own hw H=>xy z1 (List.replicate nN (([full (⟨#[]⟩)]).headD ⟨#[]⟩)) w own H az) O) fun z2=>?_
 refine R.q (q.Dt TP O (fun w hw=>(lF (Sl.Ds (hw.row 1 O)) (lF (Sl.Ds (hw.row 0 O)) (lF O Dr)))) O) O<|R.s O (s.box O O O) fun b2=>U ?_
 refine R.row0 (α:=Turn) 196 ?_
 have hz:dNew (Int.toNat ((nN:Nat):Int))=(⟨List.replicate nN (([full (⟨#[]⟩)]).headD ⟨#[]⟩),List.replicate nN (([full (⟨#[]⟩)]).headD ⟨#[]⟩),[],-1,false⟩:cU):=by (rfl)
 rw [hz]
 exact R.w2 (b2,z1,z2,(nS)) [1,3,2,0,5] [] O Tryz.results23 (RV.tmp O) (RV.tmp O) O O O (cq O O)
theorem gM (aI:Nat)(aE aG aF:Value)(dk:cU)(w:World)(zP:(aj.box aI [aE,aG,aF,iV dk.Fuse,.bool dk.Down] 120).ok w)(j0:Sl w aE (dk.Kept:List ByteArray))(ly:Sl w aG (dk.Now:List ByteArray))(j1:Sl w aF (dk.Wait:List Turn)):Calls Tryz.prog 75 #[.pointer (some ⟨aI,0,none⟩)] w fun e w'=>e = .returned (iV (dk.Now.length:Int))/\Ext w w':=by
 refine R.enter [] [(0,.pointer (some ⟨aI,0,none⟩))] Tryz.func75 O O O O<|R.qH j0<|R.qH ly<|R.qH j1<|R.oN (r:=aj.box aI [aE,aG,aF,iV dk.Fuse,.bool dk.Down] 120) zP (jQ zP)<|U ?_
 refine R.q (q.AL 0 O O i6 O) O<|U ?_
 exact R.rv O Tryz.results75 O (rI ck)
theorem Cq (aI:Nat)(aE aG aF:Value)(dk:cU)(w:World)(zP:(aj.box aI [aE,aG,aF,iV dk.Fuse,.bool dk.Down] 120).ok w)(j0:Sl w aE (dk.Kept:List ByteArray))(ly:Sl w aG (dk.Now:List ByteArray))(j1:Sl w aF (dk.Wait:List Turn)):Calls Tryz.prog 76 #[.pointer (some ⟨aI,0,none⟩)] w fun e w'=>e = .returned (.bool dk.Down)/\Ext w w':=by
 refine R.enter [] [(0,.pointer (some ⟨aI,0,none⟩))] Tryz.func76 O O O O<|R.qH j0<|R.qH ly<|R.qH j1<|R.oN (r:=aj.box aI [aE,aG,aF,iV dk.Fuse,.bool dk.Down] 120) zP (jQ zP)<|U ?_
 refine R.q (q.AL 0 O O zy O) O<|U ?_
 exact R.rv O Tryz.results76 O (rB ck)
theorem wj (aI:Nat)(aE aG aF:Value)(dk:cU)(i:Int)(w:World)(zP:(aj.box aI [aE,aG,aF,iV dk.Fuse,.bool dk.Down] 120).ok w)(j0:Sl w aE (dk.Kept:List ByteArray))(ly:Sl w aG (dk.Now:List ByteArray))(j1:Sl w aF (dk.Wait:List Turn)):Calls Tryz.prog 77 #[.pointer (some ⟨aI,0,none⟩),iV i] w fun e w'=>e = .returned (.tuple #[.string (cx dk i).1,cD (cx dk i).2])/\Ext w w':=by
 refine R.enter [] [(0,.pointer (some ⟨aI,0,none⟩)),(1,iV i)] Tryz.func77 O O O O<|R.qH j0<|R.qH ly<|R.qH j1<|R.oN (r:=aj.box aI [aE,aG,aF,iV dk.Fuse,.bool dk.Down] 120) zP (jQ zP)<|U ?_
 refine R.q (q.AL 0 O O zy O) O<|U ?_
 refine R.cond O O (fun h1=>?_) (fun h1=>?_)
 .
  refine U ?_
  exact R.Jg O Tryz.results77 O O (rS (by (rw [zk af];done))) (dU aD (by (rw [zk af];done)))
 refine U ?_
 by_cases h2:i<0
 .
  refine U ?_
  exact R.Jg O Tryz.results77 O O (rS (by (rw [rY af ae];done))) (dU aD (by (rw [rY af ae];done)))
 refine U ?_
 refine R.qg O (q.AL 0 O O i6 O) O<|U ?_
 by_cases h3:i<(dk.Now.length:Int)
 .
  refine U ?_
  refine R.q (q.AL 0 O O i6 O) O<|U ?_
  obtain ⟨x1,hx1⟩:=gE dk.Now i.toNat
  refine R.q (q.idx (i:=i.toNat) (cb 2 O) O O jm ae hx1) O<|R.q (q.gh (cb 2 O) hx1 O dC O) O<|U ?_
  exact R.Jg O Tryz.results77 O O (rS (by (rw [qY af ae hx1];done))) (iT (by (rw [qY af ae hx1];done)))
 refine U ?_
 exact R.Jg O Tryz.results77 O O (rS (by (rw [rY af ae];done))) (dU aD (by (rw [rY af ae];done)))
theorem Cr (aI:Nat)(aE aG aF:Value)(dk:cU)(w:World)(own:List Nat)(H:HN w own [aj.box aI [aE,aG,aF,iV dk.Fuse,.bool dk.Down] 120,aj.row 9 aE dk.Kept,aj.row 9 aG dk.Now,aj.row 196 aF dk.Wait] [])(hf : -1<=dk.Fuse/\dk.Fuse<=9223372036854775807):RC Tryz.prog 129 #[.pointer (some ⟨aI,0,none⟩)] H (fun _:Value×Value×Value=>cD (bP dk).2) (fun z=>[aj.box aI [z.1,z.2.1,z.2.2,iV (bP dk).1.Fuse,.bool (bP dk).1.Down] 120,aj.row 9 z.1 (bP dk).1.Kept,aj.row 9 z.2.1 (bP dk).1.Now,aj.row 196 z.2.2 (bP dk).1.Wait]) (fun _=>[]):=by
 have fc:=H.cap 1 rfl;have fe:=H.dr 1 rfl
 have fV:=H.cap 2 rfl;have fW:=H.dr 2 rfl
 have ff:=H.cap 3 rfl;have fh:=H.dr 3 rfl
 refine R.bE [(0,.pointer (some ⟨aI,0,none⟩))] Tryz.func129 O O O O H<|U ?_
 refine R.q (q.not O) O<|U ?_
 rcases Bool.eq_false_or_eq_true dk.Down with h1|h1
 .
  rw [h1]
  refine U ?_
  have hz:bP dk=((⟨dk.Kept,dk.Now,dk.Wait,dk.Fuse,true⟩:cU),10):=by (exact zj af)
  rw [hz]
  exact R.w1 (aE,aG,aF) da [] O Tryz.results129 (RV.tmp O) O O O (dU aD O)
 rw [h1]
 refine U ?_
 by_cases h2:dk.Fuse=0
 .
  refine U ?_
  refine R.s O (s.st 0 _ O O O O (.inr ⟨zy,rfl⟩) O O O O) fun _=>U ?_
  refine R.s O (s.st 0 _ O O O O (.inr ⟨bg,rfl⟩) O O O O) fun _=>U ?_
  have hz:bP dk=((⟨dk.Kept,dk.Now,dk.Wait,-1,true⟩:cU),10):=by (exact tE af af)
  rw [hz]
  exact R.w1 (aE,aG,aF) da [] O Tryz.results129 (RV.tmp O) O O O (dU aD O)
 refine U ?_
 refine R.q (q.kL (r:=dk.Fuse-1) O O) O<|R.q (q.max (r:=max (dk.Fuse-1) (-1)) O O O) O<|U ?_
 refine R.s O (s.st 0 _ O O O O (.inr ⟨bg,rfl⟩) O O O O) fun _=>U ?_
 have hz:bP dk=((⟨dk.Kept,dk.Now,dk.Wait,max (dk.Fuse-1) (-1),false⟩:cU),0):=by (exact uK af af)
 rw [hz]
 exact R.w1 (aE,aG,aF) da [] O Tryz.results129 (RV.tmp O) O O O (iT O)
theorem jo (aI:Nat)(aE aG aF:Value)(dk:cU)(i:Int)(sx:ByteArray)(w:World)(own:List Nat)(H:HN w own [aj.box aI [aE,aG,aF,iV dk.Fuse,.bool dk.Down] 120,aj.row 9 aE dk.Kept,aj.row 9 aG dk.Now,aj.row 196 aF dk.Wait] [])(hd:dk.Kept.length=dk.Now.length/\dk.Now.length<=100000/\dk.Wait.length<=100000 /\ -1<=dk.Fuse/\dk.Fuse<=9223372036854775807):RC Tryz.prog 71 #[.pointer (some ⟨aI,0,none⟩),iV i,.string sx] H (fun _:Value×Value×Value=>cD (aC dk i sx).2) (fun z=>[aj.box aI [z.1,z.2.1,z.2.2,iV (aC dk i sx).1.Fuse,.bool (aC dk i sx).1.Down] 120,aj.row 9 z.1 (aC dk i sx).1.Kept,aj.row 9 z.2.1 (aC dk i sx).1.Now,aj.row 196 z.2.2 (aC dk i sx).1.Wait]) (fun _=>[]):=by
 have fc:=H.cap 1 rfl;have fe:=H.dr 1 rfl
 have fV:=H.cap 2 rfl;have fW:=H.dr 2 rfl
 have ff:=H.cap 3 rfl;have fh:=H.dr 3 rfl
 have hsl:=oq dk;have hs1:=congrArg List.length hsl.1;have hs2:=congrArg List.length hsl.2.1;have hs3:=congrArg List.length hsl.2.2
 refine R.bE [(0,.pointer (some ⟨aI,0,none⟩)),(1,iV i),(2,.string sx)] Tryz.func71 O O O O H<|U ?_
 by_cases h1:i<0
 .
  refine U ?_
  have hz:aC dk i sx=(dk,1):=by (exact m5 ae)
  rw [hz]
  exact R.w1 (aE,aG,aF) da [] O Tryz.results71 (RV.tmp O) O O O (dU aD O)
 refine U ?_
 by_cases h2:i<(dk.Now.length:Int)
 .
  refine U ?_
  by_cases h3:48<sx.size
  .
   refine U ?_
   have hz:aC dk i sx=(dk,1):=by (exact m5 ae)
   rw [hz]
   exact R.w1 (aE,aG,aF) da [] O Tryz.results71 (RV.tmp O) O O O (dU aD O)
  refine U ?_
  refine R.s O (s.aT da [] _ _ _ O O O NR O O (fun w own hw H=>Cr aI aE aG aF dk w own H ae) O) ?_
  rintro ⟨z1,z2,z3⟩
  dsimp only
  refine U ?_
  by_cases h4:(bP dk).2=0
  .
   refine U ?_
   obtain ⟨x1,hx1⟩:∃z,((bP dk).1.Now)[i.toNat]? = some z:=⟨_,List.getElem?_eq_getElem ae⟩
   refine R.eA (fuel:=9) [1,3,4] O O mixed O<|D.l [0,1,2,4,5] [1,3,4] [] O<|U ?_
   refine D.two (i:=3) (j:=6) O O ?_ ?_
   .
    refine Do.s (s.c (Qt.a (q.ld 0 O O i6 O)) O) (fun _=>(aN [1,3,4] [] O)) O fun _=>?_
    refine D.one (i:=6) O<|Do.s (s.c (q.call NI O O (fun w hw=>(zO sx w ae))) O) (fun _=>(aN [1,3,4] [] O)) O fun _=>?_
    refine D.one (i:=7) O<|Do.s (s.c (Qt.a (q.idx (i:=i.toNat) (bH 2 O) O O jm ae hx1)) O) (fun _=>(aN [1,3,4] [] O)) O fun _=>?_
    refine D.one (i:=8) O<|Do.s (s.Vx (z:=full sx) 2 _ O hx1 O O O O (.inr ⟨dC,rfl⟩) O) (fun _=>(aN [1,3,4] [] O)) O fun _=>?_
    refine D.done ?_
    obtain ⟨x2,hx2⟩:∃z,((bP dk).1.Now.set i.toNat (full sx))[i.toNat]? = some z:=⟨_,List.getElem?_eq_getElem az⟩
    refine R.eA (fuel:=19) [1,2,4] O O mixed O<|D.l [0,1,2,3,5,6,7,8,10] [1,2,4] [] O<|U ?_
    refine D.two (i:=4) (j:=9) O O ?_ ?_
    .
     refine Do.s (s.c (Qt.a (q.ld 0 O O gL O)) O) (fun _=>(aN [1,2,4] [] O)) O fun _=>?_
     refine D.one (i:=9) O<|Do.s (s.c (Qt.a (q.ld 0 O O i6 O)) O) (fun _=>(aN [1,2,4] [] O)) O fun _=>?_
     refine D.l [11,12,13] [1,2,4] [] O<|Dm.yy O O (q.idx (i:=i.toNat) (bH 1 O) O O jm ae hx2) O<|Dm.yy O O (q.gh (bH 1 O) hx2 O dC O) O<|U ?_
     refine D.one (i:=14) O<|Do.s (s.bs (l:=([(⟨i,x2⟩:Turn)]:List Turn)) r8 mN O O O O O O O) (fun _=>(aN [2,3,5] [] O)) O fun b1=>?_
     refine D.one (i:=15) O<|Do.s (s.app 4 _ O O O (bH 0 O) o0 az az (fun _=>rfl) O) (fun _=>(aN [2,3,5] [] O)) O fun v1=>?_
     refine D.l [16,17] [2,3,5] [] O<|U ?_
     refine D.one (i:=18) O<|Do.s (s.dE 1 _ O O O (fun w hw=>Sl.bF (hw.row 4 O)) (.inr ⟨gL,rfl⟩) (fun w hw=>(aJ (Sl.one (hw.row 4 O)) bq)) O O O) (fun _=>(aN [2,3,5] [] O)) O fun _=>?_
     refine D.done<|U ?_
     have hz:aC dk i sx=((⟨((bP dk).1).Kept,(bP dk).1.Now.set i.toNat (full sx),(bP dk).1.Wait++([(⟨i,x2⟩:Turn)]),(bP dk).1.Fuse,(bP dk).1.Down⟩:cU),(bP dk).2):=by (rw [iO ae ae ae af];simp_all;done)
     rw [hz]
     exact R.w1 (z1,z2,v1) wN [] O Tryz.results71 (RV.tmp O) O O O O
    refine Do.s (s.c (Qt.a (q.ld 0 O O i6 O)) O) (fun _=>(aN [1,2,4] [] O)) O fun _=>?_
    refine D.l [11,12,13] [1,2,4] [] O<|Dm.yy O O (q.idx (i:=i.toNat) (bH 1 O) O O jm ae hx2) O<|Dm.yy O O (q.gh (bH 1 O) hx2 O dC O) O<|U ?_
    refine D.two (i:=4) (j:=14) O O ?_ ?_
    .
     refine Do.s (s.c (Qt.a (q.ld 0 O O gL O)) O) (fun _=>(aN [1,2,4] [] O)) O fun _=>?_
     refine D.one (i:=14) O<|Do.s (s.bs (l:=([(⟨i,x2⟩:Turn)]:List Turn)) r8 mN O O O O O O O) (fun _=>(aN [2,3,5] [] O)) O fun b2=>?_
     refine D.one (i:=15) O<|Do.s (s.app 4 _ O O O (bH 0 O) o0 az az (fun _=>rfl) O) (fun _=>(aN [2,3,5] [] O)) O fun v2=>?_
     refine D.l [16,17] [2,3,5] [] O<|U ?_
     refine D.one (i:=18) O<|Do.s (s.dE 1 _ O O O (fun w hw=>Sl.bF (hw.row 4 O)) (.inr ⟨gL,rfl⟩) (fun w hw=>(aJ (Sl.one (hw.row 4 O)) bq)) O O O) (fun _=>(aN [2,3,5] [] O)) O fun _=>?_
     refine D.done<|U ?_
     have hz:aC dk i sx=((⟨((bP dk).1).Kept,(bP dk).1.Now.set i.toNat (full sx),(bP dk).1.Wait++([(⟨i,x2⟩:Turn)]),(bP dk).1.Fuse,(bP dk).1.Down⟩:cU),(bP dk).2):=by (rw [iO ae ae ae af];simp_all;done)
     rw [hz]
     exact R.w1 (z1,z2,v2) wN [] O Tryz.results71 (RV.tmp O) O O O O
    refine Do.s (s.bs (l:=([(⟨i,x2⟩:Turn)]:List Turn)) r8 mN O O O O O O O) (fun _=>(aN [2,3,5] [] O)) O fun b3=>?_
    refine D.one (i:=4) O<|Do.s (s.c (Qt.a (q.ld 1 O O gL O)) O) (fun _=>(aN [2,3,5] [] O)) O fun _=>?_
    refine D.one (i:=15) O<|Do.s (s.app 4 _ O O O (bH 0 O) o0 az az (fun _=>rfl) O) (fun _=>(aN [2,3,5] [] O)) O fun v3=>?_
    refine D.l [16,17] [2,3,5] [] O<|U ?_
    refine D.one (i:=18) O<|Do.s (s.dE 1 _ O O O (fun w hw=>Sl.bF (hw.row 4 O)) (.inr ⟨gL,rfl⟩) (fun w hw=>(aJ (Sl.one (hw.row 4 O)) bq)) O O O) (fun _=>(aN [2,3,5] [] O)) O fun _=>?_
    refine D.done<|U ?_
    have hz:aC dk i sx=((⟨((bP dk).1).Kept,(bP dk).1.Now.set i.toNat (full sx),(bP dk).1.Wait++([(⟨i,x2⟩:Turn)]),(bP dk).1.Fuse,(bP dk).1.Down⟩:cU),(bP dk).2):=by (rw [iO ae ae ae af];simp_all;done)
    rw [hz]
    exact R.w1 (z1,z2,v3) wN [] O Tryz.results71 (RV.tmp O) O O O O
   refine Do.s (s.c (q.call NI O O (fun w hw=>(zO sx w ae))) O) (fun _=>(aN [1,3,4] [] O)) O fun _=>?_
   refine D.one (i:=3) O<|Do.s (s.c (Qt.a (q.ld 0 O O i6 O)) O) (fun _=>(aN [1,3,4] [] O)) O fun _=>?_
   refine D.one (i:=7) O<|Do.s (s.c (Qt.a (q.idx (i:=i.toNat) (bH 2 O) O O jm ae hx1)) O) (fun _=>(aN [1,3,4] [] O)) O fun _=>?_
   refine D.one (i:=8) O<|Do.s (s.Vx (z:=full sx) 2 _ O hx1 O O O O (.inr ⟨dC,rfl⟩) O) (fun _=>(aN [1,3,4] [] O)) O fun _=>?_
   refine D.done ?_
   obtain ⟨x3,hx3⟩:∃z,((bP dk).1.Now.set i.toNat (full sx))[i.toNat]? = some z:=⟨_,List.getElem?_eq_getElem az⟩
   refine R.eA (fuel:=19) [1,2,4] O O mixed O<|D.l [0,1,2,3,5,6,7,8,10] [1,2,4] [] O<|U ?_
   refine D.two (i:=4) (j:=9) O O ?_ ?_
   .
    refine Do.s (s.c (Qt.a (q.ld 0 O O gL O)) O) (fun _=>(aN [1,2,4] [] O)) O fun _=>?_
    refine D.one (i:=9) O<|Do.s (s.c (Qt.a (q.ld 0 O O i6 O)) O) (fun _=>(aN [1,2,4] [] O)) O fun _=>?_
    refine D.l [11,12,13] [1,2,4] [] O<|Dm.yy O O (q.idx (i:=i.toNat) (bH 1 O) O O jm ae hx3) O<|Dm.yy O O (q.gh (bH 1 O) hx3 O dC O) O<|U ?_
    refine D.one (i:=14) O<|Do.s (s.bs (l:=([(⟨i,x3⟩:Turn)]:List Turn)) r8 mN O O O O O O O) (fun _=>(aN [2,3,5] [] O)) O fun b4=>?_
    refine D.one (i:=15) O<|Do.s (s.app 4 _ O O O (bH 0 O) o0 az az (fun _=>rfl) O) (fun _=>(aN [2,3,5] [] O)) O fun v4=>?_
    refine D.l [16,17] [2,3,5] [] O<|U ?_
    refine D.one (i:=18) O<|Do.s (s.dE 1 _ O O O (fun w hw=>Sl.bF (hw.row 4 O)) (.inr ⟨gL,rfl⟩) (fun w hw=>(aJ (Sl.one (hw.row 4 O)) bq)) O O O) (fun _=>(aN [2,3,5] [] O)) O fun _=>?_
    refine D.done<|U ?_
    have hz:aC dk i sx=((⟨((bP dk).1).Kept,(bP dk).1.Now.set i.toNat (full sx),(bP dk).1.Wait++([(⟨i,x3⟩:Turn)]),(bP dk).1.Fuse,(bP dk).1.Down⟩:cU),(bP dk).2):=by (rw [iO ae ae ae af];simp_all;done)
    rw [hz]
    exact R.w1 (z1,z2,v4) wN [] O Tryz.results71 (RV.tmp O) O O O O
   refine Do.s (s.c (Qt.a (q.ld 0 O O i6 O)) O) (fun _=>(aN [1,2,4] [] O)) O fun _=>?_
   refine D.l [11,12,13] [1,2,4] [] O<|Dm.yy O O (q.idx (i:=i.toNat) (bH 1 O) O O jm ae hx3) O<|Dm.yy O O (q.gh (bH 1 O) hx3 O dC O) O<|U ?_
   refine D.two (i:=4) (j:=14) O O ?_ ?_
   .
    refine Do.s (s.c (Qt.a (q.ld 0 O O gL O)) O) (fun _=>(aN [1,2,4] [] O)) O fun _=>?_
    refine D.one (i:=14) O<|Do.s (s.bs (l:=([(⟨i,x3⟩:Turn)]:List Turn)) r8 mN O O O O O O O) (fun _=>(aN [2,3,5] [] O)) O fun b5=>?_
    refine D.one (i:=15) O<|Do.s (s.app 4 _ O O O (bH 0 O) o0 az az (fun _=>rfl) O) (fun _=>(aN [2,3,5] [] O)) O fun v5=>?_
    refine D.l [16,17] [2,3,5] [] O<|U ?_
    refine D.one (i:=18) O<|Do.s (s.dE 1 _ O O O (fun w hw=>Sl.bF (hw.row 4 O)) (.inr ⟨gL,rfl⟩) (fun w hw=>(aJ (Sl.one (hw.row 4 O)) bq)) O O O) (fun _=>(aN [2,3,5] [] O)) O fun _=>?_
    refine D.done<|U ?_
    have hz:aC dk i sx=((⟨((bP dk).1).Kept,(bP dk).1.Now.set i.toNat (full sx),(bP dk).1.Wait++([(⟨i,x3⟩:Turn)]),(bP dk).1.Fuse,(bP dk).1.Down⟩:cU),(bP dk).2):=by (rw [iO ae ae ae af];simp_all;done)
    rw [hz]
    exact R.w1 (z1,z2,v5) wN [] O Tryz.results71 (RV.tmp O) O O O O
   refine Do.s (s.bs (l:=([(⟨i,x3⟩:Turn)]:List Turn)) r8 mN O O O O O O O) (fun _=>(aN [2,3,5] [] O)) O fun b6=>?_
   refine D.one (i:=4) O<|Do.s (s.c (Qt.a (q.ld 1 O O gL O)) O) (fun _=>(aN [2,3,5] [] O)) O fun _=>?_
   refine D.one (i:=15) O<|Do.s (s.app 4 _ O O O (bH 0 O) o0 az az (fun _=>rfl) O) (fun _=>(aN [2,3,5] [] O)) O fun v6=>?_
   refine D.l [16,17] [2,3,5] [] O<|U ?_
   refine D.one (i:=18) O<|Do.s (s.dE 1 _ O O O (fun w hw=>Sl.bF (hw.row 4 O)) (.inr ⟨gL,rfl⟩) (fun w hw=>(aJ (Sl.one (hw.row 4 O)) bq)) O O O) (fun _=>(aN [2,3,5] [] O)) O fun _=>?_
   refine D.done<|U ?_
   have hz:aC dk i sx=((⟨((bP dk).1).Kept,(bP dk).1.Now.set i.toNat (full sx),(bP dk).1.Wait++([(⟨i,x3⟩:Turn)]),(bP dk).1.Fuse,(bP dk).1.Down⟩:cU),(bP dk).2):=by (rw [iO ae ae ae af];simp_all;done)
   rw [hz]
   exact R.w1 (z1,z2,v6) wN [] O Tryz.results71 (RV.tmp O) O O O O
  refine U ?_
  have hz:aC dk i sx=(((bP dk).1),(bP dk).2):=by (exact zn ae ae ae af)
  rw [hz]
  exact R.w1 (z1,z2,z3) da [] O Tryz.results71 (RV.tmp O) O O O O
 refine U ?_
 have hz:aC dk i sx=(dk,1):=by (exact m5 ae)
 rw [hz]
 exact R.w1 (aE,aG,aF) da [] O Tryz.results71 (RV.tmp O) O O O (dU aD O)
theorem lz (aI:Nat)(aE aG aF:Value)(dk:cU)(w:World)(own:List Nat)(H:HN w own [aj.box aI [aE,aG,aF,iV dk.Fuse,.bool dk.Down] 120,aj.row 9 aE dk.Kept,aj.row 9 aG dk.Now,aj.row 196 aF dk.Wait] [])(hd:dk.Kept.length=dk.Now.length/\dk.Now.length<=100000/\dk.Wait.length<=100000 /\ -1<=dk.Fuse/\dk.Fuse<=9223372036854775807):RC Tryz.prog 72 #[.pointer (some ⟨aI,0,none⟩)] H (fun _:Value×Value×Value=>cD (au dk).2) (fun z=>[aj.box aI [z.1,z.2.1,z.2.2,iV (au dk).1.Fuse,.bool (au dk).1.Down] 120,aj.row 9 z.1 (au dk).1.Kept,aj.row 9 z.2.1 (au dk).1.Now,aj.row 196 z.2.2 (au dk).1.Wait]) (fun _=>[]):=by
 have fc:=H.cap 1 rfl;have fe:=H.dr 1 rfl
 have fV:=H.cap 2 rfl;have fW:=H.dr 2 rfl
 have ff:=H.cap 3 rfl;have fh:=H.dr 3 rfl
 have hsl:=oq dk;have hs1:=congrArg List.length hsl.1;have hs2:=congrArg List.length hsl.2.1;have hs3:=congrArg List.length hsl.2.2
 refine R.bE [(0,.pointer (some ⟨aI,0,none⟩))] Tryz.func72 O O O O H<|U ?_
 refine R.s O (s.aT da [] _ _ _ O O O NR O O (fun w own hw H=>Cr aI aE aG aF dk w own H ae) O) ?_
 rintro ⟨z1,z2,z3⟩
 dsimp only
 refine U ?_
 by_cases h1:(bP dk).2=0
 .
  refine U ?_
  refine R.eA (fuel:=9) [2,3,4] O O mixed O<|D.l [0,1,2,4,5,6] [2,3,4] [] O<|U ?_
  refine D.two (i:=3) (j:=7) O O ?_ ?_
  .
   refine Do.s (s.c (Qt.a (q.ld 0 O O i6 O)) O) (fun _=>(aN [2,3,4] [] O)) O fun _=>?_
   refine D.one (i:=7) O<|Do.s (s.c (Qt.a (q.ld 0 O O i6 O)) O) (fun _=>(aN [2,3,4] [] O)) O fun _=>?_
   refine D.one (i:=8) O<|Do.s (s.copy 1 _ O (bH 2 O) O O O jm ae O O) (fun _=>(aN [2,3,4] [] O)) O fun _=>?_
   refine D.done<|U ?_
   refine R.s O (s.st 0 _ O O O O (.inr ⟨gL,rfl⟩) O O O O) fun _=>U ?_
   refine R.row0 (α:=Turn) 196 ?_
   have hz:au dk=((⟨((bP dk).1).Now,(bP dk).1.Now,[],(bP dk).1.Fuse,(bP dk).1.Down⟩:cU),(bP dk).2):=by (unfold au;(rw [if_pos af];simp_all))
   rw [hz]
   exact R.w1 (z1,z2,(nS)) [1,2,3,0,5] [] O Tryz.results72 (RV.tmp O) O O O O
  refine Do.s (s.c (Qt.a (q.ld 0 O O i6 O)) O) (fun _=>(aN [2,3,4] [] O)) O fun _=>?_
  refine D.one (i:=3) O<|Do.s (s.c (Qt.a (q.ld 0 O O i6 O)) O) (fun _=>(aN [2,3,4] [] O)) O fun _=>?_
  refine D.one (i:=8) O<|Do.s (s.copy 1 _ O (bH 2 O) O O O jm ae O O) (fun _=>(aN [2,3,4] [] O)) O fun _=>?_
  refine D.done<|U ?_
  refine R.s O (s.st 0 _ O O O O (.inr ⟨gL,rfl⟩) O O O O) fun _=>U ?_
  refine R.row0 (α:=Turn) 196 ?_
  have hz:au dk=((⟨((bP dk).1).Now,(bP dk).1.Now,[],(bP dk).1.Fuse,(bP dk).1.Down⟩:cU),(bP dk).2):=by (unfold au;(rw [if_pos af];simp_all))
  rw [hz]
  exact R.w1 (z1,z2,(nS)) [1,2,3,0,5] [] O Tryz.results72 (RV.tmp O) O O O O
 refine U ?_
 have hz:au dk=(((bP dk).1),(bP dk).2):=by (unfold au;(rw [if_neg af];done))
 rw [hz]
 exact R.w1 (z1,z2,z3) da [] O Tryz.results72 (RV.tmp O) O O O O
end
end Go.Proofs.YtnmpibjlnninjaaGreatDoor
