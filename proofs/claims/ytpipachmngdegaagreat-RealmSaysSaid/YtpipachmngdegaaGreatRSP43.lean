import Derived.Test.YtpipachmngdegaaGreatRSP42
section
namespace Go.Proofs.YtpipachmngdegaaGreat
set_option linter.unusedVariables false
section
variable {r:ay}
end
end Go.Proofs.YtpipachmngdegaaGreat
end
section
namespace Go.Proofs.YtpipachmngdegaaGreat
set_option linter.unusedVariables false
section
variable {r:ay}
theorem vR {l:List Held}{x y:Held}(hx:x∈l)(hy:y∈l)(e:x.ao=y.ao)(h:cH l x.ao≤1):x=y:=by
  obtain ⟨A,B,rfl⟩:=List.append_of_mem hx
  unfold cH at h
  rw [List.countP_append,List.countP_cons,if_pos (by simp)] at h
  have key:∀ (C:List Held),y∈C→0<C.countP (fun h=>h.ao==x.ao):=fun C hC=>List.countP_pos_iff.2 ⟨y,hC,by simp [e]⟩
  rcases List.mem_append.1 hy with hy|hy
  · have:=key A hy;omega
  ·
    rcases List.mem_cons.1 hy with hy|hy
    · exact hy.symm
    · have:=key B hy;omega
theorem Inv.one (h:Inv r){x y:Held}(hx:x∈r.Held)(hy:y∈r.Held)(e:x.ao=y.ao):x=y:=by
  obtain ⟨w,hw,e2⟩:=h.eB x hx
  have:=h.once w hw
  exact vR hx hy e (by rw [← e2];omega)
end
end Go.Proofs.YtpipachmngdegaaGreat
end
