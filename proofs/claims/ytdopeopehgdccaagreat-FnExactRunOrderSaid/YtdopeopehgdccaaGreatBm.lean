import Derived.Test.YtdopeopehgdccaaGreatBe
namespace Go.Proofs.YtdopeopehgdccaaGreat
open Go.RowKit
instance PtIn.app {b : Nat} {T : TypeId} {cs : List Value} {A H : List HP} [h : PtIn b T cs H] : PtIn b T cs (A ++ H) := ⟨List.mem_append.2 (.inr h.out)⟩
instance PtIn.app2 {b : Nat} {T : TypeId} {cs : List Value} {A H : List HP} [h : PtIn b T cs H] : PtIn b T cs (List.append A H) := ⟨List.mem_append.2 (.inr h.out)⟩
end Go.Proofs.YtdopeopehgdccaaGreat
