import Derived.Test.YtbkfhjaibhnkmaaGreatDoorTRP36
import Derived.Test.YtbkfhjaibhnkmaaGreatDoorTRP44
section
namespace Go.Proofs.YtbkfhjaibhnkmaaGreatDoor
set_option linter.unusedVariables false
set_option linter.unusedSimpArgs false
end Go.Proofs.YtbkfhjaibhnkmaaGreatDoor
end
section
namespace Go.Proofs.YtbkfhjaibhnkmaaGreatDoor
set_option linter.unusedVariables false
set_option linter.unusedSimpArgs false
structure Bb (c:Change):Prop where
  k0:0<c.Key.size
  k8:c.Key.size≤8
  v:c.Val.size≤24
  g:c.Gone=false
theorem zm {r:au}(h:Inv r):∀c∈rowsOf r,Bb c:=by
  have a1:=h.jk;have a2:=h.j4;have a3:=h.jo;have a4:=h.jq
  intro c hc
  unfold rowsOf at hc
  rcases List.mem_append.1 hc with hc|hc
  ·
    rcases List.mem_append.1 hc with hc|hc
    ·
      rcases List.mem_append.1 hc with hc|hc
      ·
        obtain ⟨x,hx,rfl⟩:=List.mem_map.1 hc
        have k:=h.xo hx;have k1:=k.2.1;have k2:=k.2.2
        have e:(hrow x).Key.size=3:=by rw [← fQ,hkey k.1];rfl
        have e2:(hrow x).Val.size=4:=bM (by omega) (by omega)
        exact ⟨by omega,by omega,by omega,rfl⟩
      ·
        obtain ⟨x,hx,rfl⟩:=List.mem_map.1 hc
        have k:=h.yd hx;have k1:=k.i0;have k2:=k.i9;have k3:=k.kd;have k4:=k.ds
        have e:(gx x).Key.size=5:=by rw [← fQ,tkey k1 k2];rfl
        have e2:(gx x).Val.size=4+x.Data.size:=by show (aZ x.Kind++x.Data).size=_;rw [dr,bM (by omega) (by omega)]
        exact ⟨by omega,by omega,by omega,rfl⟩
    ·
      obtain ⟨x,hx,rfl⟩:=List.mem_map.1 hc
      have k:=h.tree.mem hx
      have i1:=k.id1;have i9:=k.xU;have t1:=k.yH;have t9:=k.yI;have b0:=k.yJ;have b9:=k.yK;have f0:=k.zu;have fl:=k.yL;have q0:=k.uX;have q7:=k.uY
      have e:(iH x).Key.size=5:=by rw [← fQ,vJ (by omega) (by omega)];rfl
      have e2:(iH x).Val.size=16:=by
        show (aZ x.ai++aZ x.Rights++aZ x.ar++aZ x.From).size=_
        simp only [dr]
        rw [bM (by omega) (by omega),bM (by omega) (by omega),bM (by omega) (by omega),bM (by omega) (by omega)]
      exact ⟨by omega,by omega,by omega,rfl⟩
  ·
    rw [List.mem_singleton.1 hc]
    have e2:(rN r).Val.size=8:=by
      show (aZ r.ae++aZ r.af).size=_
      rw [dr,bM (by omega) (by omega),bM (by omega) (by omega)]
    exact ⟨(by decide:0<kX.size),(by decide:kX.size≤8),by omega,rfl⟩
theorem xq {r:au}(h:Inv r):∀c∈bP r,Bb c:=zm (iG h).1
theorem rX {r:au}(h:Inv r):∀c∈bP r,c.Key.size≤1000∧c.Val.size≤1000:=fun c hc=>by
  have k:=xq h c hc;have:=k.k8;have:=k.v;omega
end Go.Proofs.YtbkfhjaibhnkmaaGreatDoor
end
