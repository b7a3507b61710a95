/- Plain: what the library's reading of a number leaves. -/
import Derived.Test.YtmogfmnamhhbnaaDoorGl
import Derived.Test.YtmogfmnamhhbnaaDoorGp
namespace Go.Proofs.YtmogfmnamhhbnaaDoor
section
variable {s : Str}
theorem okA_p1 (h : (!okA s) = true) : pI s = none := okA_no (by simpa using h)
theorem okA_p2 (h : (!okA s) = false) (h1 : inR (atV s) (-999999999) 999999999 = false) : pI s = none := by
  refine pI_ok (okA_yes (by simpa using h)) fun x => ?_
  simp only [inR, decide_eq_false_iff_not] at h1
  exact h1 ⟨x.1, x.2.1⟩
theorem okA_p3 (h : (!okA s) = false) (h1 : textI (atV s) ≠ s) : pI s = none := pI_ok (okA_yes (by simpa using h)) fun x => h1 x.2.2
theorem okA_p4 (h : (!okA s) = false) (h1 : inR (atV s) (-999999999) 999999999 = true) (h2 : ¬ textI (atV s) ≠ s) : pI s = some (atV s) := by
  simp only [inR, decide_eq_true_eq] at h1
  exact (pI_lib (okA_yes (by simpa using h))).1 ⟨h1.1, h1.2, Decidable.not_not.1 h2⟩
end
end Go.Proofs.YtmogfmnamhhbnaaDoor
