/- Plain: the bounds of a rule that is read. No program in sight. -/
import Derived.Test.YtmogfmnamhhbnaaDoorGp
import Derived.Test.YtmogfmnamhhbnaaDoorBc
namespace Go.Proofs.YtmogfmnamhhbnaaDoor
theorem parse_bd {s : List Int} {t : Str} : I64 (parseR s t).1.1 ∧ I64 (parseR s t).1.2.1 ∧ totS cE_I (parseR s t).1.2.2 ≤ 3 := by
  unfold parseR
  split
  · rename_i h
    have h1 := relS_bd (s := wd t 0)
    have h2 := relS_bd (s := wd t 2)
    refine ⟨?_, ?_, ?_⟩
    · show I64 (relS (wd t 0)); unfold I64; omega
    · show I64 (relS (wd t 2)); unfold I64; omega
    · have h3 : (rS t).2.2.length ≤ 3 := rule_len h.2.1
      rw [totS_I]; exact h3
  · refine ⟨?_, ?_, ?_⟩
    · show I64 0; unfold I64; omega
    · show I64 0; unfold I64; omega
    · show totS cE_I [] ≤ 3; rw [totS_I]; simp
end Go.Proofs.YtmogfmnamhhbnaaDoor
