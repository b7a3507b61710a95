import Derived.Test.YtbedienpleiamaaGreatBe
import Derived.Test.YtbedienpleiamaaGreatEa
namespace Go.Proofs.YtbedienpleiamaaGreat
open Go.RowKit
set_option linter.unusedVariables false
set_option linter.unusedSimpArgs false
def b1T (D0 : List Rul) (F : List Fct) : List Fct → List Value → List Value
 | [], _ => []
 | f :: M, cs => [.int .i64 (a9U D0 F f), .int .i64 0, .slice none 0 0] ++ (cs.take 2 ++ b1T D0 F M (cs.drop 2))
section
variable {n : Nat} {w0 w : World} {L0 Lp : List Nat} {fr : Fr} {H R pre rest : List HP} {G : Act → World → Prop} {a : Option Addr} {m c i : Nat} {cs oc mc : List Value} {xs M F : List Fct} {xs0 : List Lin} {D0 : List Rul}
theorem a5q {a : Option Addr} {m c : Nat} {xs : List Int} {w : World} {L : List Nat} (h : (ow eIs [.slice a m c] xs).holds w L) : m = xs.length ∧ (∀ x ∈ xs, I64 x) ∧ ∃ L1, (row tI 1 a m c (ints xs)).holds w L1 ∧ ∀ b ∈ L1, b ∈ L := by
 obtain ⟨ccs, L1, L2, rfl, g1, _, g3, g4⟩ := V5 h
 obtain ⟨rfl, h1, _⟩ := B4.ints.1 g3
 exact ⟨g1, h1, L1, g4, fun b hb => by simp [hb]⟩
theorem b0M {a : Option Addr} {m c : Nat} {xs : List Int} (j : Nat) (hm : ow eIs [.slice a m c] xs ∈ H) (hj : j < xs.length) (h : I64 xs[j] → Ent n w0 L0 fr H G) : Ent n w0 L0 fr H G := fun ac w h1 h2 => by
 obtain ⟨L, hL⟩ := h2.mem hm
 exact h ((a5q hL).2.1 _ (List.getElem_mem hj)) ac w h1 h2
theorem a9J {a : Option Addr} {m c g j : Nat} {xs : List Int} (ha : a = some ⟨g, 0, none⟩) (hm : Go.Proofs.YtbedienpleiamaaGreat.ow eIs [.slice a m c] xs ∈ H) (hj : j < xs.length) : Has w0 L0 H g (0 + j * 1) [.int .i64 xs[j]] := fun w h => by
 obtain ⟨L', hL⟩ := h.mem hm
 obtain ⟨g1, _, L1, g4, _⟩ := a5q hL
 obtain ⟨_, g5⟩ := g4
 rcases g5 with ⟨_, h0, _⟩ | ⟨g', cur, h2, h3, h4, h5, h6, h7, _⟩
 ·omega
 rw [ha] at h2; cases h2
 intro i v hi
 have hi0 : i = 0 ∧ v = .int .i64 xs[j] := by
  rcases i with _ | i
  ·simp at hi; exact ⟨rfl, hi.symm⟩
  ·simp at hi
 obtain ⟨rfl, rfl⟩ := hi0
 have h8 : (ints xs)[j]? = some (.int .i64 xs[j]) := by simp [Go.Proofs.YtbedienpleiamaaGreat.ints, hj]
 rw [← h7, List.getElem?_take] at h8
 split at h8
 ·simpa [World.cell?, h3] using h8
 ·cases h8
end
end Go.Proofs.YtbedienpleiamaaGreat
