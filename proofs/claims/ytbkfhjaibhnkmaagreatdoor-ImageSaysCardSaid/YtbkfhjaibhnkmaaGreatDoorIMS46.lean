import Derived.Test.YtbkfhjaibhnkmaaGreatDoorIMS37
import Derived.Test.YtbkfhjaibhnkmaaGreatDoorIMS39
namespace Go.Proofs.YtbkfhjaibhnkmaaGreatDoor
set_option linter.unusedVariables false
set_option linter.unusedSimpArgs false
structure Ie (c:Change):Prop where
  k0:0<c.Key.size
  k8:c.Key.size≤8
  v:c.Val.size≤24
  g:c.Gone=false
theorem F8 {r:ar}(h:Inv r):∀c∈rowsOf r,Ie c:=by
 have a1:=h.ki;have a2:=h.lC;have a3:=h.kv;have a4:=h.ky
 intro c hc
 unfold rowsOf at hc
 rcases List.mem_append.1 hc with hc|hc
 ·
  rcases List.mem_append.1 hc with hc|hc
  ·
   rcases List.mem_append.1 hc with hc|hc
   ·
    obtain ⟨x,hx,rfl⟩:=List.mem_map.1 hc
    have k:=h.CX hx;have k1:=k.2.1;have k2:=k.2.2
    have e:(hrow x).Key.size=3:=by rw [← gi,hkey k.1];rfl
    have e2:(hrow x).Val.size=4:=dh (by omega) (by omega)
    exact ⟨by omega,by omega,by omega,rfl⟩
   ·
    obtain ⟨x,hx,rfl⟩:=List.mem_map.1 hc
    have k:=h.ET hx;have k1:=k.i0;have k2:=k.i9;have k3:=k.kd;have k4:=k.ds
    have e:(gV x).Key.size=5:=by rw [← gi,tkey k1 k2];rfl
    have e2:(gV x).Val.size=4+x.Data.size:=by show (aW x.Kind++x.Data).size=_;rw [eF,dh (by omega) (by omega)]
    exact ⟨by omega,by omega,by omega,rfl⟩
  ·
   obtain ⟨x,hx,rfl⟩:=List.mem_map.1 hc
   have k:=h.tree.mem hx
   have i1:=k.id1;have i9:=k.Dl;have t1:=k.EH;have t9:=k.Fu;have b0:=k.Fv;have b9:=k.Fw;have f0:=k.EI;have fl:=k.EJ;have q0:=k.Bm;have q7:=k.Bn
   have e:(jo x).Key.size=5:=by rw [← gi,B5 (by omega) (by omega)];rfl
   have e2:(jo x).Val.size=16:=by
    show (aW x.ao++aW x.Rights++aW x.aI++aW x.From).size=_
    simp only [eF]
    rw [dh (by omega) (by omega),dh (by omega) (by omega),dh (by omega) (by omega),dh (by omega) (by omega)]
   exact ⟨by omega,by omega,by omega,rfl⟩
 ·
  rw [List.mem_singleton.1 hc]
  have e2:(vZ r).Val.size=8:=by
   show (aW r.ae++aW r.af).size=_
   rw [eF,dh (by omega) (by omega),dh (by omega) (by omega)]
  exact ⟨(by decide:0<kX.size),(by decide:kX.size≤8),by omega,rfl⟩
theorem Ef {r:ar}(h:Inv r):∀c∈aU r,Ie c:=F8 (iM h).1
theorem sq {r:ar}(h:Inv r):∀c∈aU r,c.Key.size≤1000∧c.Val.size≤1000:=fun c hc=>by
 have k:=Ef h c hc;have:=k.k8;have:=k.v;omega
end Go.Proofs.YtbkfhjaibhnkmaaGreatDoor
