import Derived.Test.YtpipachmngdegaaTCP37
import Derived.Test.YtpipachmngdegaaTCP14
import Derived.Lib.ConvBytes
section
namespace Go.Proofs.Ytpipachmngdegaa
open Go Go.RowKit
set_option linter.unusedVariables false
set_option linter.unusedSimpArgs false
section
variable {α:Type} [Enc α] {w:World} {v:Value} {l:List α}
theorem Sl.qp (h:Sl w v l){i j q:Nat}(hij:i≤j)(hj:j≤q)(hq:q≤l.length):Sl w (Ytpipachmngdegaa.qp v i j q (Enc.k α)) ((l.drop i).take (j-i)):=by
  obtain ⟨A,c,rfl,h1,h2,h3⟩:=h
  have hl:((l.drop i).take (j-i)).length=j-i:=by rw [List.length_take,List.length_drop];omega
  refine ⟨if q=i then A else A.map (·.add (i*Enc.k α)),q-i,by simp only [Ytpipachmngdegaa.qp,hl],by omega,by omega,fun m x hx=>?_⟩
  have hm:m<j-i:=by
    have:=(List.getElem?_eq_some_iff.1 hx).1
    omega
  rw [List.getElem?_take_of_lt hm,List.getElem?_drop] at hx
  obtain ⟨b,off,rfl,hb,hc⟩:=h3 (i+m) x hx
  rw [if_neg (by omega)]
  refine ⟨b,off+i*Enc.k α,by simp [Addr.add],hb,fun n u hu=>?_⟩
  have:=hc n u hu
  rwa [show off+(i+m)*Enc.k α+n=off+i*Enc.k α+m*Enc.k α+n by rw [Nat.add_mul];omega] at this
end
section
variable {P:Program} {n:Nat} {we:World} {X:List Nat} {L:Fm} {B F:List ah} {x:Operand} {xT yT ty e:TypeId} {d:Nat} {pos:String} {cx:Array Edge} {g:Option (Nat×Bool)}
theorem s.zW {s:ByteArray}(hx:ev L x=some (.string s))(h1:P.underlying xT=some .string)(h2:P.underlying yT=some (.slice e))(h3:P.underlying e=some (.int .u8))(hlen:s.size≤1000000)(hd:Nat.blt d n=true) :
    Stp P n we X L B F ⟨some d,.convert xT yT x,ty,pos,cx,g⟩ (fun z:Value=>(d,z)::L) (fun _=>B) (fun z=>ah.ls z (s.data.toList:List UInt8)::F):=by
  intro K Q' a w ha hw hK
  have h:=Lib.run_convert_string_bytes (P:=P) w xT yT e s h1 h2 h3
  unfold Oper.wp
  have hrun:(execOp a.eval ⟨some d,.convert xT yT x,ty,pos,cx,g⟩).run P w = .ok (.value (.slice (some ⟨w.heap.size,0,none⟩) s.size (grownCap w s.size 0 e))) (Lib.bytesWorld w e s):=by
    simp [execOp,ha.ev hx,h]
  rw [hrun,Oper.upon_value]
  have hsz:=Lib.bytesWorld_size w e s
  have hl:s.data.toList.length=s.size:=by rw [Array.length_toList];rfl
  have hup:iN [] w (Lib.bytesWorld w e s):=⟨rfl,rfl,rfl,by omega,fun k hk _=>Lib.bytesWorld_at_old w e s k hk⟩
  have hw2:=hw.grow hup
  refine hK _ _ _ (ha.put d _ hd) (hw2.fact (r:=ah.ls _ (s.data.toList:List UInt8)) ?_ fun k hk=>?_)
  ·
    refine ⟨some ⟨w.heap.size,0,none⟩,grownCap w s.size 0 e,by rw [hl],by rw [hl];exact grownCap_ge w s.size 0 e,grownCap_le_maxLen w s.size 0 e (by unfold maxLen;omega),fun i b hb=>?_⟩
    have hi:i<s.size:=by have:=(List.getElem?_eq_some_iff.1 hb).1;omega
    refine ⟨w.heap.size,0,rfl,by omega,fun j u hu=>?_⟩
    have hu' : [Value.int .u8 (b.toNat:Int)][j]? = some u:=hu
    have hj:j=0:=by have:=(List.getElem?_eq_some_iff.1 hu').1;simpa using this
    subst hj
    have hu2:Value.int .u8 (b.toNat:Int)=u:=by simpa using hu'
    have hc:=Lib.bytesWorld_cell w e s i hi
    rw [show 0+i*Enc.k UInt8+0=i by show 0+i*1+0=i;omega,hc,← hu2,List.getD_eq_getElem?_getD,hb];rfl
  ·
    have hkk:k=w.heap.size:=by
      simp only [ah.ls] at hk
      split at hk
      · cases hk
      · simpa [cB] using hk
    subst hkk
    exact ⟨by omega,fun hb=>by have:=(hw.own _ hb).1;omega⟩
theorem iH (m:Int):(bF m).cells=[bF m].toArray:=by unfold bF;split <;> rfl
theorem kf (m:Int):([bF m].all fun x=>x.oneCell')=true:=by unfold bF;split <;> rfl
theorem Fr.yield {a:Act}{ps:Array Tmp}{t:Tmp}{xv:Value}{T:Array Value}(ha:Fr n L a)(hT:T=a.tmps)(hp:ps = #[t])(hd:Nat.blt t n=true) :
    Fr n ((t,xv)::L) { tmps:=(ps.zip #[xv]).foldl (fun tmps (t,a)=>tmps.setIfInBounds t a) T,defers:=[] }:=by
  have h:=ha.put t xv hd
  have e:a.put (some t) xv = { tmps:=(ps.zip #[xv]).foldl (fun tmps (t,a)=>tmps.setIfInBounds t a) T,defers:=[] }:=by
    subst hp;subst hT
    have:=ha.defers
    cases a;simp only at this;subst this
    have e2:(#[t].zip #[xv]) = #[(t,xv)]:=by simp
    rw [e2];simp [Act.put]
  exact e▸h
end
end Go.Proofs.Ytpipachmngdegaa
end
