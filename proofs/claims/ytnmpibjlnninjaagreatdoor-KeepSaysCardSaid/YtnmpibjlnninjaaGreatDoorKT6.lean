import Derived.Test.YtnmpibjlnninjaaGreatDoorKT5
namespace Go.Proofs.YtnmpibjlnninjaaGreatDoor
set_option linter.unusedVariables false
set_option linter.unusedSimpArgs false
set_option maxRecDepth 100000
set_option maxHeartbeats 90000000
open Go Go.RowKit
theorem Uq.KT {p:Prop}(h:p:=by first|exact (rfl:_=[_])|exact (rfl:_=[_,_])|exact (rfl:_=[_,_,_])|exact (rfl:_=[_,_,_,_])|exact (rfl:_=[_,_,_,_,_])|exact (rfl:_=[_,_,_,_,_,_])|exact (rfl:_=[_,_,_,_,_,_,_])|exact (rfl:_=[_,_,_,_,_,_,_,_,_,_,_])):p:=h
class HB (B:List ah)(b:Nat)(cs:outParam (List Value))(t:outParam TypeId):Prop where
  h:ah.box b cs t∈B
instance HB.s {B:List ah}{b:Nat}{cs:List Value}{t:TypeId}{r:ah}[h:HB B b cs t]:HB (r::B) b cs t:=⟨.tail _ h.h⟩
instance HB.z {B:List ah}{b:Nat}{cs:List Value}{t:TypeId}:HB (ah.box b cs t::B) b cs t:=⟨.head _⟩
class HX (B:List ah)(b:Nat)(cs:outParam (List Value))(t:outParam TypeId)(K:outParam (ah->List ah)):Prop where
  h:∃i,B[i]? = some (ah.box b cs t) /\ ∀r,B.set i r=K r
instance HX.s {B:List ah}{b:Nat}{cs:List Value}{t:TypeId}{K:ah->List ah}{q:ah}[h:HX B b cs t K]:HX (q::B) b cs t (fun r=>q::K r) :=
  ⟨h.h.elim fun i h=>⟨i+1,by simpa using h.1,fun r=>by simp [h.2]⟩⟩
instance HX.z {B:List ah}{b:Nat}{cs:List Value}{t:TypeId}:HX (ah.box b cs t::B) b cs t (fun r=>r::B):=⟨0,rfl,fun _=>rfl⟩
theorem I2 {B:List ah}{b:Nat}{cs:List Value}{t:TypeId}(i:Nat)(h:B[i]? = some (ah.box b cs t)):HX B b cs t (fun r=>B.set i r):=⟨i,h,fun _=>rfl⟩
theorem Ti {p:Prop}(h:p:=by first|exact inferInstance|exact I2 0 rfl|exact I2 1 rfl|exact I2 2 rfl|exact I2 3 rfl|exact I2 4 rfl|exact I2 5 rfl|exact I2 6 rfl|exact I2 7 rfl|exact I2 8 rfl|exact I2 9 rfl|exact I2 10 rfl|exact I2 11 rfl|exact I2 12 rfl):p:=h
class HS (B F:List ah)(v:Value)(α:outParam Type)(i:outParam (Enc α))(l:outParam (List α)):Prop where
  h:(∃e,ah.row e v l∈B)∨ah.ls v l∈F
section
variable {B F:List ah} {v:Value} {α:Type} [i:Enc α] {l:List α} {r:ah} {e:TypeId}
instance HS.fs [h:HS [] F v α i l]:HS [] (r::F) v α i l:=⟨h.h.imp (fun ⟨_,h⟩=>by cases h) (.tail _)⟩
instance HS.f:HS [] (ah.ls v l::F) v α i l:=⟨.inr (.head _)⟩
instance HS.bs [h:HS B F v α i l]:HS (r::B) F v α i l:=⟨h.h.imp (fun ⟨e,h⟩=>⟨e,.tail _ h⟩) id⟩
instance HS.b:HS (ah.row e v l::B) F v α i l:=⟨.inl ⟨e,.head _⟩⟩
theorem HS.sl [h:HS B F v α i l]{we:World}{X:List Nat}(w:World)(hw:Wd we X B F w):Sl w v l :=
 h.h.elim (fun ⟨_,h⟩=>Own.sl (hw.okB _ h)) (fun h=>hw.okF _ h)
end
section
variable {P:Program} {n:Nat} {we:World} {X:List Nat} {Q:Exit->Act->World->Prop} {k k':List It} {L:Fm} {B F:List ah} {ops rest:List Oper}
variable {dst:Option Nat} {d:Nat} {op:Op} {ty:TypeId} {pos:String} {dr:Array Edge} {g:Option (Nat×Bool)} {v:Value}
variable {x y:Operand} {xT yT e t:TypeId} {kd:IntKind} {b o m i j:Nat} {cs ds:List Value} {u:Value}
theorem R.yy (hg:gd ops L g=some true)(hq:Qt P n we X L B F op ty v)(hd:Nat.blt d n=true)(h:Rg P n we X Q ops rest k ((d,v)::L) B F):Rg P n we X Q ops (⟨some d,op,ty,pos,dr,g⟩::rest) k L B F:=by
 intro a w ha hw
 refine wpList_step fun K hK=>?_
 rw [if_pos (dR (o:=⟨some d,op,ty,pos,dr,g⟩) ha hg)]
 unfold Oper.wp
 rw [hq _ _ _ _ a w ha hw,Oper.upon_value]
 exact hK _ _ (h _ w (ha.put d v hd) hw)
theorem R.kc {f:FuncId}{c:Operand}{xs:Array Operand}{ts:Array TypeId}{vs:List Value}{cap:Array Value}[eg:dI P f](hc:ev L c=some (.func (.func f) #[] cap))(hargs:evs L xs.toList=some vs)
 (hcall:∀w,Wd we X B F w->Calls P f (vs++cap.toList).toArray w fun e w'=>e = .returned u/\Ext w w') (h:Rg P n we X Q ops rest k ((d,u)::L) B F) (hg:gd ops L g=some true:=by exact rfl) (hd:Nat.blt d n=true:=by exact rfl) :
 Rg P n we X Q ops (⟨some d,.call { callee:= .value c,args:=xs,argTypes:=ts},ty,pos,dr,g⟩::rest) k L B F:=R.s hg (s.c (q.call eg.h hargs hc hcall) hd) fun _=>h
theorem R.sk (hg:gd ops L g=some false)(hd:Nat.blt d n=true)(h:Rg P n we X Q ops rest k ((d,undef)::L) B F):Rg P n we X Q ops (⟨some d,op,ty,pos,dr,g⟩::rest) k L B F:=by
 intro a w ha hw
 refine wpList_step fun K hK=>?_
 rw [if_neg (by rw [dR (o:=⟨some d,op,ty,pos,dr,g⟩) ha hg];simp)]
 exact hK _ _ (h _ w (ha.put d undef hd) hw)
theorem Q.yy (hg:gd ops L g=some true)(hq:Qt P n we X L B F op ty v)(hd:Nat.blt d n=true)(h:Rq P n we X Q ops rest k ((d,v)::L) B F):Rq P n we X Q ops (⟨some d,op,ty,pos,dr,g⟩::rest) k L B F:=by
 intro a ha
 refine wpQuiet_step fun K hK=>?_
 rw [if_pos (dR (o:=⟨some d,op,ty,pos,dr,g⟩) ha hg)]
 exact ⟨v,fun w hw=>by unfold Oper.quietAt;rw [hq _ _ _ _ a w ha hw];exact ⟨rfl,rfl⟩,hK _ (h _ (ha.put d v hd))⟩
theorem Q.sk (hg:gd ops L g=some false)(hd:Nat.blt d n=true)(h:Rq P n we X Q ops rest k ((d,undef)::L) B F):Rq P n we X Q ops (⟨some d,op,ty,pos,dr,g⟩::rest) k L B F:=by
 intro a ha
 refine wpQuiet_step fun K hK=>?_
 rw [if_neg (by rw [dR (o:=⟨some d,op,ty,pos,dr,g⟩) ha hg];simp)]
 exact hK _ (h _ (ha.put d undef hd))
def Dm (is:List Nat)(B1 F1:List ah)(P:Program)(n:Nat)(we:World)(X:List Nat)(Q:Exit->Act->World->Prop)(ops:List Oper)(fuel:Nat)(ls:Array Bool)(k:List It)(L:Fm)(B F:List ah):Prop :=
  (∀w,Wd we X B F w->Wd we X B1 F1 w)->Dg (Wd we X B1 F1) P n we X Q ops fuel ls k L B F
variable {is bs fs:List Nat} {B1 F1:List ah} {fuel:Nat} {ls:Array Bool}
theorem D.l (is bs fs:List Nat)(hS:(bP B bs,bP F fs,d9 bs)=(some B1,some F1,true))(h:Dm is B1 F1 P n we X Q ops fuel ls k L B F):Dg (Wd we X B1 F1) P n we X Q ops fuel ls k L B F :=
 h fun _=>Wd.pk bs fs hS
theorem Dm.nil (h:Dg (Wd we X B1 F1) P n we X Q ops fuel ls k L B F):Dm [] B1 F1 P n we X Q ops fuel ls k L B F:=fun _=>h
theorem Dm.yy (hi:ops[i]? = some ⟨some d,op,ty,pos,dr,g⟩)(hg:gd ops L g=some true)(hq:Qt P n we X L B1 F1 op ty v)(hd:Nat.blt d n=true)(h:Dm is B1 F1 P n we X Q ops fuel (ls.setIfInBounds i true) k ((d,v)::L) B F)(hfr:(Region.noSelect ops.toArray&&Region.free .any ops.toArray ls i&&(Region.ready .any ops.toArray ls).contains i)=true:=by kernel_rfl):Dm (i::is) B1 F1 P n we X Q ops (fuel+1) ls k L B F :=
 fun hS=>D.q hi hS hg hq hd (h hS) hfr
theorem Dm.sk (hi:ops[i]? = some ⟨some d,op,ty,pos,dr,g⟩)(hg:gd ops L g=some false)(hd:Nat.blt d n=true)(h:Dm is B1 F1 P n we X Q ops fuel (ls.setIfInBounds i true) k ((d,undef)::L) B F)(hfr:(Region.noSelect ops.toArray&&Region.free .any ops.toArray ls i&&(Region.ready .any ops.toArray ls).contains i)=true:=by kernel_rfl):Dm (i::is) B1 F1 P n we X Q ops (fuel+1) ls k L B F :=
 fun hS=>D.skip hi hS hg hd (h hS) hfr
theorem I3 {B:List ah}{b:Nat}{cs:List Value}{t:TypeId}(i:Nat)(h:B[i]? = some (ah.box b cs t)):HB B b cs t:=⟨List.mem_of_getElem? h⟩
theorem hsI {B F:List ah}{v:Value}{α:Type}{i:Enc α}{l:List α}{e:TypeId}(j:Nat)(h:B[j]? = some (ah.row e v l)):HS B F v α i l:=⟨.inl ⟨e,List.mem_of_getElem? h⟩⟩
theorem hsJ {B F:List ah}{v:Value}{α:Type}{i:Enc α}{l:List α}(j:Nat)(h:F[j]? = some (ah.ls v l)):HS B F v α i l:=⟨.inr (List.mem_of_getElem? h)⟩
theorem Ud {p:Prop}(h:p:=by first|exact inferInstance|exact I3 0 rfl|exact I3 1 rfl|exact I3 2 rfl|exact I3 3 rfl|exact I3 4 rfl|exact I3 5 rfl|exact I3 6 rfl|exact I3 7 rfl|exact I3 8 rfl|exact I3 9 rfl|exact I3 10 rfl|exact I3 11 rfl|exact I3 12 rfl):p:=h
theorem YG {p:Prop}(h:p:=by first|exact inferInstance|exact hsI 0 rfl|exact hsI 1 rfl|exact hsI 2 rfl|exact hsI 3 rfl|exact hsI 4 rfl|exact hsI 5 rfl|exact hsI 6 rfl|exact hsI 7 rfl|exact hsJ 0 rfl|exact hsJ 1 rfl|exact hsJ 2 rfl|exact hsJ 3 rfl|exact hsJ 4 rfl|exact hsJ 5 rfl|exact hsJ 6 rfl|exact hsJ 7 rfl|exact hsJ 8 rfl|exact hsJ 9 rfl|exact hsJ 10 rfl|exact hsJ 11 rfl|exact hsJ 12 rfl|exact hsJ 13 rfl):p:=h
theorem Dm.yz (hi:ops[i]? = some ⟨some d,op,ty,pos,dr,g⟩)(hg:gd ops L g=some true)(hq:Qt P n we X L B1 F1 op ty v)(hd:Nat.blt d n=true)(hfr:(Region.noSelect ops.toArray&&Region.free .any ops.toArray ls i&&(Region.ready .any ops.toArray ls).contains i)=true)(h:Dm is B1 F1 P n we X Q ops fuel (ls.setIfInBounds i true) k ((d,v)::L) B F):Dm (i::is) B1 F1 P n we X Q ops (fuel+1) ls k L B F:=Dm.yy hi hg hq hd h hfr
theorem Dm.sz (hi:ops[i]? = some ⟨some d,op,ty,pos,dr,g⟩)(hg:gd ops L g=some false)(hd:Nat.blt d n=true)(hfr:(Region.noSelect ops.toArray&&Region.free .any ops.toArray ls i&&(Region.ready .any ops.toArray ls).contains i)=true)(h:Dm is B1 F1 P n we X Q ops fuel (ls.setIfInBounds i true) k ((d,undef)::L) B F):Dm (i::is) B1 F1 P n we X Q ops (fuel+1) ls k L B F:=Dm.sk hi hg hd h hfr
theorem Qt.raw (h:Qt P n we X L B F op ty v):∀dst pos dr g a w,Fr n L a->Wd we X B F w->(execOp a.eval ⟨dst,op,ty,pos,dr,g⟩).run P w = .ok (.value v) w:=h
theorem Kp {p:Prop}(h:p:=by first|exact fun _=>HS.sl _|exact fun _=>Wd.row 0 rfl|exact fun _=>Wd.row 1 rfl|exact fun _=>Wd.row 2 rfl|exact fun _=>Wd.row 3 rfl|exact fun _=>Wd.row 4 rfl|exact fun _=>Wd.row 5 rfl|exact fun _=>Wd.row 6 rfl|exact fun _=>Wd.row 7 rfl|exact fun _=>Wd.cq 0 rfl|exact fun _=>Wd.cq 1 rfl|exact fun _=>Wd.cq 2 rfl|exact fun _=>Wd.cq 3 rfl|exact fun _=>Wd.cq 4 rfl|exact fun _=>Wd.cq 5 rfl|exact fun _=>Wd.cq 6 rfl|exact fun _=>Wd.cq 7 rfl|exact fun _=>Wd.cq 8 rfl|exact fun _=>Wd.cq 9 rfl|exact fun _=>Wd.cq 10 rfl|exact fun _=>Wd.cq 11 rfl|exact fun _=>Wd.cq 12 rfl|exact fun _=>Wd.old (by assumption)):p:=h
theorem HB.at {w:World}[h:HB B b cs t](hw:Wd we X B F w)(j:Nat)(u:Value)(hu:cs[j]? = some u):w.cell? ⟨b,j,none⟩=some u:=by
 have h:=ud (hw.okB _ h.h) j u hu
 rwa [Nat.zero_add] at h
theorem Uq.ld (hx:ev L x=some (.pointer (some ⟨b,o,none⟩)))(hb:HB B b cs t)(ht:eX P xT=true)(hu:cs[o]? = some u):Qt P n we X L B F (.load xT x) ty u:=fun _ _ _ _ a w ha hw=>by
 simp [execOp,ha.ev hx,kM (P:=P) w ht (HB.at hw o u hu)]
theorem Uq.TP (hx:ev L x=some (.pointer (some ⟨b,o,none⟩)))(hb:HB B b cs t)(ht:iP P xT=some m)(h0:(o==0&&m==cs.length)=true):Qt P n we X L B F (.load xT x) ty (.agg cs.toArray):=fun _ _ _ _ a w ha hw=>by
 obtain ⟨h1,h2⟩:o=0/\m=cs.length:=by simpa using h0
 subst h1;subst h2
 have h:At w b 0 cs:=fun j u hu=>HB.at hw (0+j) u (by simpa using hu)
 simp [execOp,ha.ev hx,kL (P:=P) w ht h]
theorem Uq.YH (hx:ev L x=some (.pointer (some ⟨b,o,none⟩)))(hb:HB B b cs t)(ht:iP P xT=some m)(hd:(cs.drop o).take m=ds)(hm:ds.length=m):Qt P n we X L B F (.load xT x) ty (.agg ds.toArray):=fun _ _ _ _ a w ha hw=>by
 have h:At w b o ds:=fun j u hu=>HB.at hw (o+j) u (by
  rw [<- hd,List.getElem?_take] at hu
  split at hu
  .simpa [List.getElem?_drop] using hu
  cases hu)
 subst hm
 simp [execOp,ha.ev hx,kL (P:=P) w ht h]
theorem Uq.len {α:Type}{i:Enc α}{l:List α}(hx:ev L x=some v)(hs:HS B F v α i l)(ht:P.underlying xT=some (.slice e)):Qt P n we X L B F (.call { callee:= .builtin .len,args:= #[x],argTypes:= #[xT]}) ty (.int .i64 l.length):=q.len' (fun _=>HS.sl _) hx ht
theorem Uq.WL {α:Type}{i:Enc α}{l:List α}(hx:ev L x=some v)(hs:Sl we v l)(ht:P.underlying xT=some (.slice e)):Qt P n we [] L B F (.call { callee:= .builtin .len,args:= #[x],argTypes:= #[xT]}) ty (.int .i64 l.length):=q.len' (fun _=>Wd.old hs) hx ht
theorem Uq.ext {vs:List Value}(hx:ev L x=some (.tuple vs.toArray))(hv:vs[i]? = some v):Qt P n we X L B F (.extract x i) ty v:=q.ext hx (by simpa using hv)
theorem Uq.WM {a:Addr}{pT:TypeId}(hx:ev L x=some (.pointer (some a)))(hy:ev L y=some (.pointer none))(ht:P.underlying xT=some (.pointer pT)):Qt P n we X L B F (.binOp .eql xT x y yT) ty (.bool false):=q.T8 hx hy ht
theorem Uq.WN {pT:TypeId}(hx:ev L x=some (.pointer none))(hy:ev L y=some (.pointer none))(ht:P.underlying xT=some (.pointer pT)):Qt P n we X L B F (.binOp .eql xT x y yT) ty (.bool true):=q.T8 hx hy ht
theorem Uq.WO {a:Addr}{pT:TypeId}(hx:ev L x=some (.pointer (some a)))(hy:ev L y=some (.pointer none))(ht:P.underlying xT=some (.pointer pT)):Qt P n we X L B F (.binOp .neq xT x y yT) ty (.bool true):=q.T9 hx hy ht
theorem Uq.WQ {pT:TypeId}(hx:ev L x=some (.pointer none))(hy:ev L y=some (.pointer none))(ht:P.underlying xT=some (.pointer pT)):Qt P n we X L B F (.binOp .neq xT x y yT) ty (.bool false):=q.T9 hx hy ht
section
variable {α:Type} {ι:Enc α} {l:List α} {z:α} {kk off:Nat} {mm ll:Int}
theorem Uq.idx (hx:ev L x=some v)(hs:∀w,Wd we X B F w->Sl w v l)(hy:ev L y=some (.int kd mm))(hm:mm=(j:Int))(hi:l[j]? = some z)(ht:lV P xT=some (e,kk))(hk:kk=Enc.k α):Qt P n we X L B F (.indexAddr xT x y) ty (ep v j (Enc.k α) 0):=q.idx hs hx hy (hk▸ht) hm hi
theorem Uq.Kz {f:Nat}(hx:ev L x=some (ep v i kk j))(hs:∀w,Wd we X B F w->Sl w v l)(hi:l[i]? = some z)(ht:dq P xT f=some off):Qt P n we X L B F (.fieldAddr xT x f) ty (ep v i kk (j+off)):=q.Kz hs hi hx ht rfl
theorem Uq.NJ (hx:ev L x=some (ep v i kk j))(hs:∀w,Wd we X B F w->Sl w v l)(hi:l[i]? = some z)(ht:eX P xT=true)(hk:kk=Enc.k α)(hu:(Enc.cells z)[j]? = some u):Qt P n we X L B F (.load xT x) ty u:=q.NJ hs hi (hk▸hx) ht hu
theorem Uq.KA (hx:ev L x=some (ep v i kk j))(hs:∀w,Wd we X B F w->Sl w v l)(hi:l[i]? = some z)(ht:iP P xT=some m)(hk:kk=Enc.k α)(hd:((Enc.cells z).drop j).take m=ds)(hm:ds.length=m):Qt P n we X L B F (.load xT x) ty (.agg ds.toArray):=by
 subst hm;exact q.KA hs hi (hk▸hx) ht hd
theorem Uq.addN {a c:Nat}(hx:ev L x=some (.int .i64 (a:Int)))(hy:ev L y=some (.int .i64 (c:Int)))(h:a+c<=9223372036854775807):Qt P n we X L B F (.binOp .add xT x y yT) ty (.int .i64 ((a+c:Nat):Int)):=q.add hx hy (wr ae)
theorem Uq.cw {a c:Nat}(hx:ev L x=some (.int .i64 (a:Int)))(hy:ev L y=some (.int .i64 (@OfNat.ofNat Int c instOfNat)))(h:a+(@OfNat.ofNat Nat c (instOfNatNat c))<=9223372036854775807):Qt P n we X L B F (.binOp .add xT x y yT) ty (.int .i64 ((a+(@OfNat.ofNat Nat c (instOfNatNat c)):Nat):Int)):=Uq.addN hx hy h
theorem Uq.jH {a c:Nat}(hx:ev L x=some (.int .i64 (@OfNat.ofNat Int c instOfNat)))(hy:ev L y=some (.int .i64 (a:Int)))(h:(@OfNat.ofNat Nat c (instOfNatNat c))+a<=9223372036854775807):Qt P n we X L B F (.binOp .add xT x y yT) ty (.int .i64 (((@OfNat.ofNat Nat c (instOfNatNat c))+a:Nat):Int)):=Uq.addN hx hy h
theorem Uq.WR (hx:ev L x=some (.int .i64 mm))(hy:ev L y=some (.int .i64 ll))(h : -9223372036854775808<=mm+ll/\mm+ll<=9223372036854775807):Qt P n we X L B F (.binOp .add xT x y yT) ty (.int .i64 (mm+ll)):=q.add hx hy (wr ⟨rfl,h⟩)
end
theorem Us.st {us cs':List Value}{K:ah->List ah}(hg:gd ops L g=some true)(hx:ev L x=some (.pointer (some ⟨b,o,none⟩)))(hb:HX B b cs t K)(hy:ev L y=some u)(hu:u.cells=us.toArray)(ht:eX P xT=true/\us.length=1∨iP P xT=some us.length)(hone:us.all (·.oneCell')=true)(hl:Nat.ble (o+us.length) cs.length=true)(hcs:cs.take o++us++cs.drop (o+us.length)=cs')
 (h:Rg P n we X Q ops rest k L (K (ah.box b cs' t)) F):Rg P n we X Q ops (⟨none,.store xT x y,ty,pos,dr,g⟩::rest) k L B F:=by
 obtain ⟨i,h1,h2⟩:=hb.h
 exact R.s hg (s.st i _ h1 hx hy hu ht.symm hone hcs hl (h2 _)) fun _=>h
theorem YI {α:Type}{ι:Enc α}{l:List α}{w:World}(hw:Wd we X B F w)(h:∀w,Wd we X B F w->Sl w v l:=by exact Kp):Sl w v l:=h w hw
theorem OX {p:Prop}(h:p:=by intro w hw;(repeat first|exact bV|refine br rfl ?_|refine br (Sl.one (YI hw)) ?_)):p:=h
theorem Us.XX {α:Type}{ι:Enc α}{l:List α}{cs':List Value}{K:ah->List ah}(hg:gd ops L g=some true)(hx:ev L x=some (.pointer (some ⟨b,o,none⟩)))(hb:HX B b cs t K)(hy:ev L y=some v)(hs:∀w,Wd we X B F w->Sl w v l)(ht:eX P xT=true)(hl:Nat.ble (o+1) cs.length=true)(hcs:cs.take o++[v]++cs.drop (o+1)=cs')
 (h:Rg P n we X Q ops rest k L (K (ah.box b cs' t)) F):Rg P n we X Q ops (⟨none,.store xT x y,ty,pos,dr,g⟩::rest) k L B F:=by
 obtain ⟨i,h1,h2⟩:=hb.h
 exact R.s hg (s.lr i _ h1 hx hy (fun w hw=>Sl.cL (hs w hw)) (.inr ⟨ht,rfl⟩) (fun w hw=>br (Sl.one (hs w hw)) bV) hcs hl (h2 _)) fun _=>h
theorem Us.XY {us cs':List Value}{K:ah->List ah}(hg:gd ops L g=some true)(hx:ev L x=some (.pointer (some ⟨b,o,none⟩)))(hb:HX B b cs t K)(hy:ev L y=some (.agg us.toArray))(ht:iP P xT=some m)(hm:m=us.length)(hone:∀w,Wd we X B F w -> ∀q∈us,q.oneCell'=true)(hl:Nat.ble (o+us.length) cs.length=true)(hcs:cs.take o++us++cs.drop (o+us.length)=cs')
 (h:Rg P n we X Q ops rest k L (K (ah.box b cs' t)) F):Rg P n we X Q ops (⟨none,.store xT x y,ty,pos,dr,g⟩::rest) k L B F:=by
 obtain ⟨i,h1,h2⟩:=hb.h
 exact R.s hg (s.lr i _ h1 hx hy (fun _ _=>rfl) (.inl (hm▸ht)) hone hcs hl (h2 _)) fun _=>h
theorem RV.cS {p:Nat}{t':TypeId}(h:lk L p=some (.pointer (some ⟨b,0,none⟩)))(hb:HB B b cs t')(ht:iP P t=some m)(hm:m=cs.length):RV P n we X L B F (.cell p t) (.agg cs.toArray):=by
 obtain ⟨i,hi⟩:=List.mem_iff_getElem?.1 hb.h
 exact RV.cell i hi h (hm▸ht)
theorem RV.c1 {p:Nat}{t':TypeId}(h:lk L p=some (.pointer (some ⟨b,o,none⟩)))(hb:HB B b cs t')(ht:eX P t=true)(hu:cs[o]? = some u):RV P n we X L B F (.cell p t) u:=by
 obtain ⟨i,hi⟩:=List.mem_iff_getElem?.1 hb.h
 exact RV.cell1 i hi h ht hu
theorem ND {p:Prop}(h:p:=by first|exact RV.tmp rfl|(apply RV.cS;exact rfl;exact Ud;exact Y.h;exact rfl)|(apply RV.c1;exact rfl;exact Ud;exact Y.h;exact rfl)):p:=h
theorem Uq.WS (hx:ev L x=some v)(h:v = .bool true):Qt P n we X L B F (.unOp .not xT x) ty (.bool false):=q.not (h▸hx)
theorem Uq.WT (hx:ev L x=some v)(h:v = .bool false):Qt P n we X L B F (.unOp .not xT x) ty (.bool true):=q.not (h▸hx)
theorem Uq.Kw {c:Operand}{v':Value}(hc:ev L c=some v')(h:v' = .bool true)(hx:ev L x=some v):Qt P n we X L B F (.pick c x y) ty v:=q.Kw (h▸hc) hx
theorem Uq.Kx {c:Operand}{v':Value}(hc:ev L c=some v')(h:v' = .bool false)(hx:ev L y=some v):Qt P n we X L B F (.pick c x y) ty v:=q.Kx (h▸hc) hx
theorem R.cT {c:Operand}{x y:Code}(h:norm 200 k = .c (.cond c x y)::k')(hc:ev L c=some v)(h':v = .bool true)(hr:Run P n we X Q (.c x::k') L B F):Run P n we X Q k L B F:=R.nC h (h'▸hc) hr
theorem R.cF {c:Operand}{x y:Code}(h:norm 200 k = .c (.cond c x y)::k')(hc:ev L c=some v)(h':v = .bool false)(hr:Run P n we X Q (.c y::k') L B F):Run P n we X Q k L B F:=R.pK h (h'▸hc) hr
end
theorem YJ:Value.bool (!true) = .bool false:=rfl
theorem YK:Value.bool (!false) = .bool true:=rfl
theorem P4 {p:Prop}(h:p:=by with_reducible first|exact rfl|exact YJ|exact YK):p:=h
theorem QQ {p:Prop}(h:p:=by first
 | (apply q.mv;exact rfl)
 | (apply q.as;exact rfl)
 | (apply q.vp;exact rfl;exact Y.h;exact rfl)
 | (apply Uq.ld;exact rfl;exact Ud;exact Y.h;exact rfl)
 | (apply Uq.ext;exact rfl;exact rfl)
 | (apply Uq.Kw;exact rfl;exact P4;exact rfl)
 | (apply Uq.Kx;exact rfl;exact P4;exact rfl)
 | (apply Uq.len;exact rfl;exact YG;exact Y.h)
 | (apply q.TN;exact rfl;exact Y.h)
 | (apply Uq.WL;exact rfl;assumption;exact Y.h)
 | (apply q.len;exact rfl;exact Y.h)
 | (apply q.Hc;exact rfl;exact rfl;exact Y.h;omega)
 | (apply q.Dl;exact rfl;exact rfl;exact Y.h;omega)
 | (apply q.KE;exact rfl;exact rfl;exact Y.h;omega)
 | (apply q.He;exact rfl;exact rfl;exact Y.h;omega)
 | (apply q.Q6;exact rfl;exact rfl;assumption)
 | (apply q.NI;exact rfl;exact rfl;assumption)
 | (apply q.Q6;exact rfl;exact rfl;omega)
 | (apply q.NI;exact rfl;exact rfl;omega)
 | (apply q.TI;exact rfl;exact rfl;assumption)
 | (apply q.TJ;exact rfl;exact rfl;assumption)
 | (apply q.TI;exact rfl;exact rfl;omega)
 | (apply q.TJ;exact rfl;exact rfl;omega)
 | (apply q.TK;exact rfl;exact rfl;assumption)
 | (apply q.TM;exact rfl;exact rfl;assumption)
 | (apply q.TK;exact rfl;exact rfl;omega)
 | (apply q.TM;exact rfl;exact rfl;omega)
 | (apply q.TE;exact rfl;exact rfl;assumption)
 | (apply q.TF;exact rfl;exact rfl;assumption)
 | (apply q.TE;exact rfl;exact rfl;omega)
 | (apply q.TF;exact rfl;exact rfl;omega)
 | (apply q.TB;exact rfl;exact rfl;assumption)
 | (apply q.TD;exact rfl;exact rfl;assumption)
 | (apply q.TB;exact rfl;exact rfl;omega)
 | (apply q.TD;exact rfl;exact rfl;omega)
 | (apply q.TG;exact rfl;exact rfl;assumption)
 | (apply q.TH;exact rfl;exact rfl;assumption)
 | (apply q.TG;exact rfl;exact rfl;omega)
 | (apply q.TH;exact rfl;exact rfl;omega)
 | (apply Uq.idx;exact rfl;exact Kp;exact rfl;exact rfl;assumption;exact Y.h;exact rfl)
 | (apply Uq.NJ;exact rfl;exact Kp;assumption;exact Y.h;exact rfl;exact rfl)
 | (apply Uq.KA;exact rfl;exact Kp;assumption;exact Y.h;exact rfl;exact Uq.KT;exact rfl)
 | (apply Uq.Kz;exact rfl;exact Kp;assumption;exact Y.h)
 | (apply Uq.cw;exact rfl;exact rfl;omega)
 | (apply Uq.jH;exact rfl;exact rfl;omega)
 | (apply Uq.addN;exact rfl;exact rfl;omega)
 | (apply Uq.WR;exact rfl;exact rfl;omega)
 | (apply Uq.TP;exact rfl;exact Ud;exact Y.h;exact rfl)
 | (apply Uq.YH;exact rfl;exact Ud;exact Y.h;exact Uq.KT;exact rfl)
 | (apply Uq.WM;exact rfl;exact rfl;exact Y.h)
 | (apply Uq.WN;exact rfl;exact rfl;exact Y.h)
 | (apply Uq.WO;exact rfl;exact rfl;exact Y.h)
 | (apply Uq.WQ;exact rfl;exact rfl;exact Y.h)
 | (apply Uq.WS;exact rfl;exact P4)
 | (apply Uq.WT;exact rfl;exact P4)
 | (apply q.KC;exact rfl;exact rfl;exact Y.h)
 | (apply q.KD;exact rfl;exact rfl;exact Y.h)
 | (apply q.PX;exact rfl;exact rfl;exact Y.h)
 | (apply q.PY;exact rfl;exact rfl;exact Y.h)
 | (apply q.field;exact rfl;exact Y.h;exact rfl)
 | (apply q.Q8;exact rfl;exact Y.h;exact Uq.KT)
 | (apply q.build;exact Y.h;exact rfl;exact rfl)
 | (apply q.iface;exact rfl;exact Y.h)
 | (apply q.ui;exact rfl)):p:=h
structure Uz (S:Prop):Prop where
  un:S
theorem U {G S:Prop}(k:S)(h:Uz S->G:=by
 intro h
 (repeat first
  | (apply R.yy;exact rfl;exact QQ;exact rfl)
  | apply R.nil
  | (apply R.reg;exact rfl)
  | (apply R.cT;exact rfl;exact rfl;exact P4)
  | (apply R.cF;exact rfl;exact rfl;exact P4)
  | (apply R.sk;exact rfl;exact rfl)
  | (apply Us.st;exact rfl;exact rfl;exact Ti;exact rfl;exact rfl;(first|exact .inl ⟨Y.h,rfl⟩ | exact .inr Y.h);exact rfl;exact rfl;exact Uq.KT)
  | (apply Us.XX;exact rfl;exact rfl;exact Ti;exact rfl;exact Kp;exact Y.h;exact rfl;exact Uq.KT)
  | (apply Us.XY;exact rfl;exact rfl;exact Ti;exact rfl;exact Y.h;exact rfl;exact OX;exact rfl;exact Uq.KT)
  | (apply Dm.yz;exact rfl;exact rfl;exact QQ;exact rfl;kernel_rfl)
  | apply Dm.nil
  | (apply Dm.sz;exact rfl;exact rfl;exact rfl;kernel_rfl)
  | (apply Q.yy;exact rfl;exact QQ;exact rfl)
  | apply Q.nil
  | (apply Q.sk;exact rfl;exact rfl))
 exact h.un):G:=h ⟨k⟩
theorem V {G S:Prop}(k:S)(h:Uz S->G:=by
 intro h
 (repeat first
  | (apply R.yy;exact rfl;exact QQ;exact rfl)
  | apply R.nil
  | (apply R.cT;exact rfl;exact rfl;exact P4)
  | (apply R.cF;exact rfl;exact rfl;exact P4)
  | (apply R.sk;exact rfl;exact rfl)
  | (apply Us.st;exact rfl;exact rfl;exact Ti;exact rfl;exact rfl;(first|exact .inl ⟨Y.h,rfl⟩ | exact .inr Y.h);exact rfl;exact rfl;exact Uq.KT)
  | (apply Us.XX;exact rfl;exact rfl;exact Ti;exact rfl;exact Kp;exact Y.h;exact rfl;exact Uq.KT)
  | (apply Us.XY;exact rfl;exact rfl;exact Ti;exact rfl;exact Y.h;exact rfl;exact OX;exact rfl;exact Uq.KT)
  | (apply Dm.yz;exact rfl;exact rfl;exact QQ;exact rfl;kernel_rfl)
  | apply Dm.nil
  | (apply Dm.sz;exact rfl;exact rfl;exact rfl;kernel_rfl)
  | (apply Q.yy;exact rfl;exact QQ;exact rfl)
  | apply Q.nil
  | (apply Q.sk;exact rfl;exact rfl))
 exact h.un):G:=h ⟨k⟩
theorem R.nb {G:Prop}{S:Nat->Prop}(k:∀b,S b)(h:(∀b,Uz (S b))->G:=by
 intro h
 first
  | (refine R.s rfl (s.alloc Y.h rfl rfl) fun b=>?_;exact U (h b).un)
  | (refine R.s rfl (s.box rfl rfl rfl) fun b=>?_;exact U (h b).un)):G:=h fun b=>⟨k b⟩
theorem Ue {P:Program}{t e:TypeId}{α:Type}{ι:Enc α}{kk bytes:Nat}{l:Option (TypeId×Nat)}(hs:lV P t=some (e,kk))(hk:kk=Enc.k α)(h:mI P t kk=some (e,bytes)):mI P t (Enc.k α)=some (e,bytes):=hk▸h
theorem R.ap {G:Prop}{S:Value->Prop}(k:∀b,S b)(h:(∀b,Uz (S b))->G:=by
 intro h
 first
  | (refine R.s rfl (s.app 0 _ rfl rfl rfl Kp (Ue (l:=none) Y.h rfl Y.h) (by first|omega|(simp;done)|(simp;omega)) (by first|omega|(simp;done)|(simp;omega)) (fun _=>rfl) rfl) fun b=>?_;exact U (h b).un)
  | (refine R.s rfl (s.app 1 _ rfl rfl rfl Kp (Ue (l:=none) Y.h rfl Y.h) (by first|omega|(simp;done)|(simp;omega)) (by first|omega|(simp;done)|(simp;omega)) (fun _=>rfl) rfl) fun b=>?_;exact U (h b).un)
  | (refine R.s rfl (s.app 2 _ rfl rfl rfl Kp (Ue (l:=none) Y.h rfl Y.h) (by first|omega|(simp;done)|(simp;omega)) (by first|omega|(simp;done)|(simp;omega)) (fun _=>rfl) rfl) fun b=>?_;exact U (h b).un)
  | (refine R.s rfl (s.app 3 _ rfl rfl rfl Kp (Ue (l:=none) Y.h rfl Y.h) (by first|omega|(simp;done)|(simp;omega)) (by first|omega|(simp;done)|(simp;omega)) (fun _=>rfl) rfl) fun b=>?_;exact U (h b).un)
  | (refine R.s rfl (s.app 4 _ rfl rfl rfl Kp (Ue (l:=none) Y.h rfl Y.h) (by first|omega|(simp;done)|(simp;omega)) (by first|omega|(simp;done)|(simp;omega)) (fun _=>rfl) rfl) fun b=>?_;exact U (h b).un)):G:=h fun b=>⟨k b⟩
theorem C {G S S':Prop}(p:Prop)(k1:p->S)(k2:¬ p->S')(h1:p->Uz S->G:=by intro _ h;exact U h.un)(h2:¬ p->Uz S'->G:=by intro _ h;exact U h.un):G:=by
 by_cases hp:p
 .exact h1 hp ⟨k1 hp⟩
 exact h2 hp ⟨k2 hp⟩
theorem iE {p:Prop}(h:p:=by
 (repeat first
  | rewrite [if_pos (by first|assumption|omega)] | rewrite [if_neg (by first|assumption|omega)]
  | rewrite [if_pos (by simp_all;done)] | rewrite [if_neg (by simp_all;done)])
 rfl):p:=h
section
variable {P:Program} {n:Nat} {we:World} {X:List Nat} {k k':List It} {L:Fm} {B F:List ah} {fn:Func} {β:Type} {B1 F1:β->List ah} {V:β->Value} {r1 r2 r3 r4:ResultVar} {v1 v2 v3 v4 W:Value}
theorem eV {p:Prop}(h:p:=by first|exact rfl|exact uh rfl|exact pD (by decide) rfl):p:=h
theorem R.x0 (z:β)(is js:List Nat)(hr:fn.results = #[]:=by exact rfl)(h:norm 200 k=[] ∨ ∃k',norm 200 k = .c .ret::k':=by first|exact .inl rfl|exact .inr ⟨_,rfl⟩)(hp:bP B is=some (B1 z):=by exact rfl)(ha:d9 is=true:=by exact rfl)(hj:bP F js=some (F1 z):=by exact rfl)(e:V z = .tuple #[]:=by exact rfl):Run P n we X (bodyPost P fn fun en w' => ∃z,en = .returned (V z)/\Wd we X (B1 z) (F1 z) w') k L B F:=R.w0 z is js h hr hp ha hj e
theorem R.x1 (z:β)(is js:List Nat)(hr:fn.results = #[r1]:=by exact rfl)(h:norm 200 k = .c .ret::k':=by exact rfl)(h1:RV P n we X L B F r1 v1:=by exact ND)(hp:bP B is=some (B1 z):=by exact rfl)(ha:d9 is=true:=by exact rfl)(hj:bP F js=some (F1 z):=by exact rfl)(e:v1=V z:=by exact eV):Run P n we X (bodyPost P fn fun en w' => ∃z,en = .returned (V z)/\Wd we X (B1 z) (F1 z) w') k L B F:=R.w1 z is js h hr h1 hp ha hj e
theorem R.x2 (z:β)(is js:List Nat)(hr:fn.results = #[r1,r2]:=by exact rfl)(h:norm 200 k = .c .ret::k':=by exact rfl)(h1:RV P n we X L B F r1 v1:=by exact ND)(h2:RV P n we X L B F r2 v2:=by exact ND)(hp:bP B is=some (B1 z):=by exact rfl)(ha:d9 is=true:=by exact rfl)(hj:bP F js=some (F1 z):=by exact rfl)(e : .tuple #[v1,v2]=V z:=by first|exact rfl|exact TR eV eV):Run P n we X (bodyPost P fn fun en w' => ∃z,en = .returned (V z)/\Wd we X (B1 z) (F1 z) w') k L B F:=R.w2 z is js h hr h1 h2 hp ha hj e
theorem R.x3 (z:β)(is js:List Nat)(hr:fn.results = #[r1,r2,r3]:=by exact rfl)(h:norm 200 k = .c .ret::k':=by exact rfl)(h1:RV P n we X L B F r1 v1:=by exact ND)(h2:RV P n we X L B F r2 v2:=by exact ND)(h3:RV P n we X L B F r3 v3:=by exact ND)(hp:bP B is=some (B1 z):=by exact rfl)(ha:d9 is=true:=by exact rfl)(hj:bP F js=some (F1 z):=by exact rfl)(e : .tuple #[v1,v2,v3]=V z:=by first|exact rfl|exact Wv eV eV eV):Run P n we X (bodyPost P fn fun en w' => ∃z,en = .returned (V z)/\Wd we X (B1 z) (F1 z) w') k L B F:=R.w3 z is js h hr h1 h2 h3 hp ha hj e
theorem R.x4 (z:β)(is js:List Nat)(hr:fn.results = #[r1,r2,r3,r4]:=by exact rfl)(h:norm 200 k = .c .ret::k':=by exact rfl)(h1:RV P n we X L B F r1 v1:=by exact ND)(h2:RV P n we X L B F r2 v2:=by exact ND)(h3:RV P n we X L B F r3 v3:=by exact ND)(h4:RV P n we X L B F r4 v4:=by exact ND)(hp:bP B is=some (B1 z):=by exact rfl)(ha:d9 is=true:=by exact rfl)(hj:bP F js=some (F1 z):=by exact rfl)(e : .tuple #[v1,v2,v3,v4]=V z:=by first|exact rfl|exact Ww eV eV eV eV):Run P n we X (bodyPost P fn fun en w' => ∃z,en = .returned (V z)/\Wd we X (B1 z) (F1 z) w') k L B F:=R.w4 z is js h hr h1 h2 h3 h4 hp ha hj e
end
theorem Do.p {P:Program}{n:Nat}{we:World}{X:List Nat}{Q:Exit->Act->World->Prop}{ops:List Oper}{i fuel:Nat}{o:Oper}{ls:Array Bool}{k:List It}{L:Fm}{B F:List ah}{β:Type}{L':β->Fm}{B' F':β->List ah}{B1 F1:List ah}(bs fs:List Nat)(hs:Stp P n we X L B F o L' B' F')(h:∀z,Dg (Wd we X B1 F1) P n we X Q ops fuel (ls.setIfInBounds i true) k (L' z) (B' z) (F' z))(hS:∀z,(bP (B' z) bs,bP (F' z) fs,d9 bs)=(some B1,some F1,true):=by exact fun _=>rfl)(hg:gd ops L o.guard=some true:=by exact rfl):Do (Wd we X B1 F1) P n we X Q ops i o fuel ls k L B F:=Do.s hs (fun z w hw=>Wd.pk bs fs (hS z) hw) hg h
theorem D.p {P:Program}{n:Nat}{we:World}{X:List Nat}{Q:Exit->Act->World->Prop}{ops:List Oper}{fuel:Nat}{o:Oper}{ls:Array Bool}{k:List It}{L:Fm}{B F:List ah}{β:Type}{L':β->Fm}{B' F':β->List ah}{B1 F1:List ah}(i:Nat)(hi:ops[i]? = some o)(bs fs:List Nat)(hs:Stp P n we X L B F o L' B' F')(h:∀z,Dg (Wd we X B1 F1) P n we X Q ops fuel (ls.setIfInBounds i true) k (L' z) (B' z) (F' z))(hS:∀z,(bP (B' z) bs,bP (F' z) fs,d9 bs)=(some B1,some F1,true):=by exact fun _=>rfl)(hg:gd ops L o.guard=some true:=by exact rfl)(h0:Region.ready .any ops.toArray ls=[i]:=by kernel_rfl):Dg (Wd we X B1 F1) P n we X Q ops (fuel+1) ls k L B F:=D.one hi (Do.p bs fs hs h hS hg) h0
theorem D.k {P:Program}{n d:Nat}{op:Op}{ty:TypeId}{pos:String}{dr:Array Edge}{v:Value}{g:Option (Nat×Bool)}{we:World}{X:List Nat}{Q:Exit->Act->World->Prop}{ops:List Oper}{fuel:Nat}{ls:Array Bool}{k:List It}{L:Fm}{B F B1 F1:List ah}(i:Nat)(hi:ops[i]? = some ⟨some d,op,ty,pos,dr,g⟩)(bs fs:List Nat)(hq:Qt P n we X L B F op ty v)(h:Dg (Wd we X B1 F1) P n we X Q ops fuel (ls.setIfInBounds i true) k ((d,v)::L) B F)(hd:Nat.blt d n=true:=by exact rfl)(hS:(bP B bs,bP F fs,d9 bs)=(some B1,some F1,true):=by exact rfl)(hg:gd ops L g=some true:=by exact rfl)(h0:Region.ready .any ops.toArray ls=[i]:=by kernel_rfl):Dg (Wd we X B1 F1) P n we X Q ops (fuel+1) ls k L B F:=D.p i hi bs fs (s.c (Qt.a hq) hd) (fun _=>h) (fun _=>hS) hg h0
theorem Do.k {P:Program}{n d:Nat}{op:Op}{ty:TypeId}{pos:String}{dr:Array Edge}{v:Value}{g:Option (Nat×Bool)}{we:World}{X:List Nat}{Q:Exit->Act->World->Prop}{ops:List Oper}{i fuel:Nat}{ls:Array Bool}{k:List It}{L:Fm}{B F B1 F1:List ah}(bs fs:List Nat)(hq:Qt P n we X L B F op ty v)(h:Dg (Wd we X B1 F1) P n we X Q ops fuel (ls.setIfInBounds i true) k ((d,v)::L) B F)(hd:Nat.blt d n=true:=by exact rfl)(hS:(bP B bs,bP F fs,d9 bs)=(some B1,some F1,true):=by exact rfl)(hg:gd ops L g=some true:=by exact rfl):Do (Wd we X B1 F1) P n we X Q ops i ⟨some d,op,ty,pos,dr,g⟩ fuel ls k L B F:=Do.p bs fs (s.c (Qt.a hq) hd) (fun _=>h) (fun _=>hS) hg
theorem R.rt {G S:Prop}(k:S)(h:Uz S->G:=by
 intro h
 apply R.rv;exact rfl;exact rfl;exact rfl
 first|exact rI h.un|exact rB h.un|exact rS h.un|exact rE h.un|exact uh h.un|exact pD (by decide) h.un):G:=h ⟨k⟩
theorem R.eN {A G S:Prop}(H:A)(k:S)(h:A->Uz S->G:=by
 intro H h
 (first|refine R.uk _ Y.h rfl rfl rfl Uq.KT H ?_|refine R.uk _ Y.h rfl rfl rfl rfl H ?_)
 exact U h.un):G:=h H ⟨k⟩
theorem R.eV {G S:Prop}(k:S)(h:Uz S->G:=by
 intro h
 (first|refine R.enter [] _ Y.h rfl rfl rfl Uq.KT ?_|refine R.enter [] _ Y.h rfl rfl rfl rfl ?_)
 exact U h.un):G:=h ⟨k⟩
end Go.Proofs.YtnmpibjlnninjaaGreatDoor
