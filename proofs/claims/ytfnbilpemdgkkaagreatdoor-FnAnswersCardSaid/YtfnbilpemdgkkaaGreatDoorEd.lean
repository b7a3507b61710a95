import Derived.Test.YtfnbilpemdgkkaaGreatDoorBe
import Derived.Test.YtfnbilpemdgkkaaGreatDoorEa
namespace Go.Proofs.YtfnbilpemdgkkaaGreatDoor
open Go.RowKit
set_option linter.unusedVariables false
set_option linter.unusedSimpArgs false
def a1C (w5 : List Rul) (F : List Fct) : List Fct → List Value → List Value
 | [], _ => []
 | f :: M, cs => [.int .i64 (a1J w5 F f), .int .i64 0, .slice none 0 0] ++ (cs.take 2 ++ a1C w5 F M (cs.drop 2))
theorem a3U {w5 : List Rul} {F : List Fct} (hr : w5.length ≤ 4) {w : World} : ∀ {M : List Fct} {cs : List Value} {L : List Nat}, w3 F2 w cs M L true → w3 a6x w (a1C w5 F M cs) (M.map (lnR w5 F)) L true
 | [], _, _, h => ⟨rfl, h.2⟩
 | f :: M, _, _, ⟨c1, c2, L1, L2, h1, h2, h3, h4⟩ => by
  have hl : c1.length = 2 := F2.len h3
  have e1 : (c1 ++ c2).take 2 = c1 := by rw [← hl, List.take_left]
  have e2 : (c1 ++ c2).drop 2 = c2 := by rw [← hl, List.drop_left]
  subst h1; subst h2
  refine ⟨[.int .i64 (a1J w5 F f), .int .i64 0, .slice none 0 0] ++ c1, a1C w5 F M c2, L1, L2, by rw [a1C, e1, e2, List.append_assoc], rfl, ?_, a3U hr h4⟩
  exact ⟨[.int .i64 (a1J w5 F f)], [.int .i64 0, .slice none 0 0] ++ c1, [], L1, rfl, rfl, ⟨rfl, a7h hr, rfl⟩,
   [.int .i64 0, .slice none 0 0], c1, [], L1, rfl, rfl, ⟨[.int .i64 0], [.slice none 0 0], [], [], rfl, rfl, ⟨rfl, (show I64 0 from by unfold I64; omega), rfl⟩, (Own.nil (E := Enc.int) (e := tI) (a := none)) w [] rfl⟩, h3⟩
section
variable {n : Nat} {w0 w : World} {L0 Lp : List Nat} {fr : Fr} {H R pre rest : List HP} {G : Act → World → Prop} {a : Option Addr} {m c i : Nat} {cs oc mc : List Value} {xs M F : List Fct} {xs0 : List Lin} {w5 : List Rul}
theorem b1i (hr : w5.length ≤ 4) (hi : M.length ≤ i) (hm : m = xs0.length + M.length) (hl : m ≤ maxLen) (h : Ent n w0 L0 fr (ow a7n [.slice a m c] (xs0 ++ M.map (lnR w5 F)) :: R) G) :
  Ent n w0 L0 fr (row tLine 5 a m c (oc ++ a1C w5 F (M.take i) mc) :: els a6x oc xs0 :: els F2 mc M :: R) G := fun ac w h1 h2 => by
 rw [List.take_of_length_le hi] at h2
 obtain ⟨L, ⟨L1, Lq, rfl, g4, L2, Lq2, rfl, g2, L3, LR, rfl, g3, hR⟩, hn, hst⟩ := h2
 have e1 : L1 ++ (L2 ++ (L3 ++ LR)) = (L1 ++ (L2 ++ L3)) ++ LR := by simp
 rw [e1] at hn hst
 exact h ac w h1 ⟨(L1 ++ (L2 ++ L3)) ++ LR, ⟨L1 ++ (L2 ++ L3), LR, rfl, ⟨a, m, c, oc ++ a1C w5 F M mc, L1, L2 ++ L3, rfl, by simp [hm], hl, rfl, g2.app (a3U hr g3), g4⟩, hR⟩, hn, hst⟩
theorem a3Z {a : Option Addr} {m c : Nat} {xs : List Int} {w : World} {L : List Nat} (h : (ow eIs [.slice a m c] xs).holds w L) : m = xs.length ∧ (∀ x ∈ xs, I64 x) ∧ ∃ L1, (row tI 1 a m c (ints xs)).holds w L1 ∧ ∀ b ∈ L1, b ∈ L := by
 obtain ⟨ccs, L1, L2, rfl, g1, _, g3, g4⟩ := P7 h
 obtain ⟨rfl, h1, _⟩ := w3.ints.1 g3
 exact ⟨g1, h1, L1, g4, fun b hb => by simp [hb]⟩
theorem a9u {a : Option Addr} {m c : Nat} {xs : List Int} (j : Nat) (hm : ow eIs [.slice a m c] xs ∈ H) (hj : j < xs.length) (h : I64 xs[j] → Ent n w0 L0 fr H G) : Ent n w0 L0 fr H G := fun ac w h1 h2 => by
 obtain ⟨L, hL⟩ := h2.mem hm
 exact h ((a3Z hL).2.1 _ (List.getElem_mem hj)) ac w h1 h2
theorem a8q {a : Option Addr} {m c g j : Nat} {xs : List Int} (ha : a = some ⟨g, 0, none⟩) (hm : Go.Proofs.YtfnbilpemdgkkaaGreatDoor.ow eIs [.slice a m c] xs ∈ H) (hj : j < xs.length) : Has w0 L0 H g (0 + j * 1) [.int .i64 xs[j]] := fun w h => by
 obtain ⟨L', hL⟩ := h.mem hm
 obtain ⟨g1, _, L1, g4, _⟩ := a3Z hL
 obtain ⟨_, g5⟩ := g4
 rcases g5 with ⟨_, h0, _⟩ | ⟨g', cur, h2, h3, h4, h5, h6, h7, _⟩
 ·omega
 rw [ha] at h2; cases h2
 intro i v hi
 have hi0 : i = 0 ∧ v = .int .i64 xs[j] := by
  rcases i with _ | i
  ·simp at hi; exact ⟨rfl, hi.symm⟩
  ·simp at hi
 obtain ⟨rfl, rfl⟩ := hi0
 have h8 : (ints xs)[j]? = some (.int .i64 xs[j]) := by simp [Go.Proofs.YtfnbilpemdgkkaaGreatDoor.ints, hj]
 rw [← h7, List.getElem?_take] at h8
 split at h8
 ·simpa [World.cell?, h3] using h8
 ·cases h8
end
end Go.Proofs.YtfnbilpemdgkkaaGreatDoor
