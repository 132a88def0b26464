import Derived.Test.YtbkfhjaibhnkmaaGreatDoorTSD35
import Derived.Test.YtbkfhjaibhnkmaaGreatDoorTSD43
section
namespace Go.Proofs.YtbkfhjaibhnkmaaGreatDoor
set_option linter.unusedVariables false
set_option linter.unusedSimpArgs false
end Go.Proofs.YtbkfhjaibhnkmaaGreatDoor
end
section
namespace Go.Proofs.YtbkfhjaibhnkmaaGreatDoor
set_option linter.unusedVariables false
set_option linter.unusedSimpArgs false
structure CW (c:Change):Prop where
  k0:0<c.Key.size
  k8:c.Key.size≤8
  v:c.Val.size≤24
  g:c.Gone=false
theorem AV {r:ap}(h:Inv r):∀c∈rowsOf r,CW c:=by
 have a1:=h.jV;have a2:=h.kP;have a3:=h.jY;have a4:=h.jZ
 intro c hc
 unfold rowsOf at hc
 rcases List.mem_append.1 hc with hc|hc
 ·
  rcases List.mem_append.1 hc with hc|hc
  ·
   rcases List.mem_append.1 hc with hc|hc
   ·
    obtain ⟨x,hx,rfl⟩:=List.mem_map.1 hc
    have k:=h.CQ hx;have k1:=k.2.1;have k2:=k.2.2
    have e:(hrow x).Key.size=3:=by rw [← iy,hkey k.1];rfl
    have e2:(hrow x).Val.size=4:=gh (by omega) (by omega)
    exact ⟨by omega,by omega,by omega,rfl⟩
   ·
    obtain ⟨x,hx,rfl⟩:=List.mem_map.1 hc
    have k:=h.Bf hx;have k1:=k.i0;have k2:=k.i9;have k3:=k.kd;have k4:=k.ds
    have e:(kQ x).Key.size=5:=by rw [← iy,tkey k1 k2];rfl
    have e2:(kQ x).Val.size=4+x.Data.size:=by show (bf x.Kind++x.Data).size=_;rw [oV,gh (by omega) (by omega)]
    exact ⟨by omega,by omega,by omega,rfl⟩
  ·
   obtain ⟨x,hx,rfl⟩:=List.mem_map.1 hc
   have k:=h.tree.mem hx
   have i1:=k.id1;have i9:=k.Ah;have t1:=k.Ai;have t9:=k.A9;have b0:=k.Ba;have b9:=k.Bb;have f0:=k.Ct;have fl:=k.Bc;have q0:=k.xD;have q7:=k.xE
   have e:(me x).Key.size=5:=by rw [← iy,yJ (by omega) (by omega)];rfl
   have e2:(me x).Val.size=16:=by
    show (bf x.ah++bf x.Rights++bf x.aG++bf x.From).size=_
    simp only [oV]
    rw [gh (by omega) (by omega),gh (by omega) (by omega),gh (by omega) (by omega),gh (by omega) (by omega)]
   exact ⟨by omega,by omega,by omega,rfl⟩
 ·
  rw [List.mem_singleton.1 hc]
  have e2:(CL r).Val.size=8:=by
   show (bf r.ae++bf r.af).size=_
   rw [oV,gh (by omega) (by omega),gh (by omega) (by omega)]
  exact ⟨(by decide:0<kX.size),(by decide:kX.size≤8),by omega,rfl⟩
theorem yP {r:ap}(h:Inv r):∀c∈bk r,CW c:=AV (ji h).1
theorem tA {r:ap}(h:Inv r):gR (bk r):=vp (ji h).1
theorem vA {r:ap}:0<(bk r).length:=by unfold bk rowsOf;simp only [List.length_append,List.length_map,List.length_cons,List.length_nil];omega
theorem tC {r:ap}(h:Inv r):∀c∈bk r,c.Key.size≤1000∧c.Val.size≤1000:=fun c hc=>by
 have k:=yP h c hc;have:=k.k8;have:=k.v;omega
theorem xA {rows:List Change}(h:gR rows){c y:Change}(hy:y∈aP rows [c]):y∈rows∨y=c:=by
 rw [← rV [c] h] at hy
 rcases (yH h (c:=c)).1 hy with ⟨h1,_⟩ | ⟨_,h1⟩
 ·exact .inl h1
 ·exact .inr h1
end Go.Proofs.YtbkfhjaibhnkmaaGreatDoor
end
