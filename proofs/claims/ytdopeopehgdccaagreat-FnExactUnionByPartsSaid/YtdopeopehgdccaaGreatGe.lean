import Derived.Test.YtdopeopehgdccaaGreatGc
import Derived.Test.YtdopeopehgdccaaGreatEs
section
namespace Go.Proofs.YtdopeopehgdccaaGreat
set_option linter.unusedVariables false
set_option linter.unusedSimpArgs false
def c2m (x : List (List Int) × List (Int × List Int) × List (Int × List Int) × Int) : Nat := u5 M7 x.1 + u5 X5 x.2.1 + u5 G9 x.2.2.1 + 1
def c2i (x : List (List Int) × List (Int × List Int) × List (Int × List Int) × Int) (k : Int) : List (List Int) × List (Int × List Int) × List (Int × List Int) × Int := (mkL M7 a2N x.1 (k), mkL X5 a4k x.2.1 (k + (u5 M7 x.1 : Nat)), mkL G9 a0A x.2.2.1 (k + (u5 M7 x.1 : Nat) + (u5 X5 x.2.1 : Nat)), (k + (u5 M7 x.1 : Nat) + (u5 X5 x.2.1 : Nat) + (u5 G9 x.2.2.1 : Nat)))
section
variable {s : List Int} {T : Acs → List Fct} {l : List Mth} {q : List Int × List AT2} {d8 : List AT2} {d6 : List Stp} {d7 : List Fct} {c : Int} {g k : Nat} {x : Stp} {σ : RS} {p : Acs → Prop}
end
end Go.Proofs.YtdopeopehgdccaaGreat
end
section
namespace Go.Proofs.YtdopeopehgdccaaGreat
set_option linter.unusedVariables false
set_option linter.unusedSimpArgs false
def c1A (s : List Int) (l : List MT5) (q : List Int × List AT2) (d7 : List Fct) : Bool := (S8 s l q && a3g (H9 s l q, H7 s l q) q) && F1 s d7
def c2M (s : List Int) (l : List MT5) (q : List Int × List AT2) (d7 : List Fct) : List (List Int) := cond (c1A s l q d7) (S9 l (q.1, G3 l q.2) d7) []
section
variable {s : List Int} {l : List MT5} {q : List Int × List AT2} {d7 : List Fct}
theorem b0U (h : S8 s l q = true) : E2 s l = true ∧ D2 s q = true ∧ D2 s (q.1, G3 l q.2) = true ∧ (grF (exF l) (G3 l q.2)).1.length = (G3 l q.2).length := by
 simp only [S8, Bool.and_eq_true] at h
 exact ⟨h.1.1, h.1.2, h.2, b7E⟩
theorem b4P (h : S8 s l q = true) : M5 s l (q.1, G3 l q.2) (grF (exF l) (G3 l q.2)).1 = true := by
 obtain ⟨h1, h2, h3, h4⟩ := b0U h
 exact b9F (q := (q.1, G3 l q.2)) h1 h3 h4
theorem b9m (h : S8 s l q = true) (hf : F1 s d7 = true) : (N0 s (C1 l) (H9 s l q, H7 s l q) (Q7 s (C1 l) (H9 s l q, H7 s l q)) d7 0).1 = S9 l (q.1, G3 l q.2) d7 := by
 obtain ⟨h1, h2, h3, h4⟩ := b0U h
 rw [H9, H7, h]
 exact b9g (q := (q.1, G3 l q.2)) h1 h3 h4 hf
theorem b8V (h : S8 s l q = true) (hf : F1 s d7 = true) : ∃ T, TOk s (fun a => R7 s l a = true) T ∧ S9 l (q.1, G3 l q.2) d7 = U1 q.1 (n8 T l (G3 l q.2) (grF (exF l) (G3 l q.2)).1).1 := ⟨_, b6M hf, rfl⟩
theorem b1i (h : S8 s l q = true) (hf : F1 s d7 = true) : u5 M7 (S9 l (q.1, G3 l q.2) d7) ≤ 1000000 ∧ (S9 l (q.1, G3 l q.2) d7).length ≤ 331776 ∧ ∀ t ∈ S9 l (q.1, G3 l q.2) d7, t.length ≤ 3 := by
 obtain ⟨T, hT, e⟩ := b8V h hf
 rw [e]
 have ho := b4P h
 have h1 := a7o ho hT (Nat.le_refl _)
 rw [List.take_length] at h1
 have h3 := F7 (b0U h).2.1
 have a1 := b1k (h := q.1) (l := (n8 T l (G3 l q.2) (grF (exF l) (G3 l q.2)).1).1)
 have a2 := b3m (h := q.1) (l := (n8 T l (G3 l q.2) (grF (exF l) (G3 l q.2)).1).1)
 have a4 : (n8 T l (G3 l q.2) (grF (exF l) (G3 l q.2)).1).1.length ≤ 331776 := h1.len
 have a3 := b0e (n := 331776) (fun t ht => Nat.le_trans (a2 t ht) h3.2.1) (by omega)
 exact ⟨by omega, by omega, fun t ht => Nat.le_trans (a2 t ht) h3.2.1⟩
end
end Go.Proofs.YtdopeopehgdccaaGreat
end
section
namespace Go.Proofs.YtdopeopehgdccaaGreat
set_option linter.unusedVariables false
def fuB (s : List Int) (l : List MT5) (M : List QT) (q : QT) : Bool := !D2 s (q.1, G3 l q.2) || !a0Y s M (q.1, G3 l q.2)
def c2F (s : List Int) (l : List MT5) (u : List QT) : Bool := E2 s l && (J4 s u && !(o8 s u).any (fuB s l (o8 s u)))
section
variable {s : List Int} {l : List MT5} {u M : List QT} {q : QT} {g : Nat}
theorem b4x (h : J4 s u = true) : ∀ q ∈ u, D2 s q = true := by
 simp only [J4, Bool.and_eq_true, Bool.not_eq_true', List.any_eq_false] at h
 intro q hq
 have := h.2 q hq
 simp only [a2P, Bool.or_eq_true, Bool.not_eq_true', not_or] at this
 simpa using this.1
theorem b9J (h : J4 s u = true) : ∀ q ∈ o8 s u, D2 s q = true := fun q hq => b4x h q (b5n hq)
end
end Go.Proofs.YtdopeopehgdccaaGreat
end
section
namespace Go.Proofs.YtdopeopehgdccaaGreat
set_option linter.unusedVariables false
set_option linter.unusedSimpArgs false
def ubS (s : List Int) (l : List MT5) (d7 : List Fct) (out : List (List Int)) (q : QT) : List (List Int) := cond (S8 s l q) ((S9 l (q.1, G3 l q.2) d7).foldl H8 out) out
def ubB (s : List Int) (l : List MT5) (u : List QT) (d7 : List Fct) : Bool := E2 s l && (J4 s u && F1 s d7)
def ubF (s : List Int) (l : List MT5) (u : List QT) (d7 : List Fct) : List (List Int) := cond (ubB s l u d7) ((o8 s u).foldl (ubS s l d7) []) []
section
variable {s : List Int} {l : List MT5} {u Q : List QT} {q : QT} {d7 : List Fct} {out : List (List Int)} {g h : Nat}
theorem c0n (h : E2 s l = false) : [] = ubF s l u d7 := by rw [ubF, ubB, h]; rfl
theorem c0s (h : J4 s u = false) : [] = ubF s l u d7 := by rw [ubF, ubB, h, Bool.false_and, Bool.and_false]; rfl
theorem c0b (h : F1 s d7 = false) : [] = ubF s l u d7 := by rw [ubF, ubB, h, Bool.and_false, Bool.and_false]; rfl
theorem b5O (h1 : E2 s l = true) (h2 : J4 s u = true) (h3 : F1 s d7 = true) : ubB s l u d7 = true := by rw [ubB, h1, h2, h3]; rfl
theorem b6S (h : ubB s l u d7 = true) : E2 s l = true ∧ J4 s u = true ∧ F1 s d7 = true := by simpa [ubB] using h
theorem b6s (h : ubB s l u d7 = true) (hg : ¬ g < (o8 s u).length) : ((o8 s u).take g).foldl (ubS s l d7) [] = ubF s l u d7 := by rw [ubF, h, List.take_of_length_le (by omega)]; rfl
theorem a7X (hp : g = 0 ∨ ubB s l u d7 = true) (h : ubB s l u d7 = false) : ((o8 s u).take g).foldl (ubS s l d7) [] = ubF s l u d7 := by
 rcases hp with rfl | hp
 ·rw [ubF, h]; rfl
 ·rw [hp] at h; cases h
theorem c0d (hp : g = 0 ∨ ubB s l u d7 = true) (hg : ¬ g < (o8 s u).length) : ((o8 s u).take g).foldl (ubS s l d7) [] = ubF s l u d7 := by
 cases h : ubB s l u d7 with
 | true => exact b6s h hg
 | false => exact a7X hp h
theorem b5H (hg : g < Q.length) (h : S8 s l Q[g] = true) : (S9 l (Q[g].1, G3 l Q[g].2) d7).foldl H8 ((Q.take g).foldl (ubS s l d7) out) = (Q.take (g + 1)).foldl (ubS s l d7) out := by
 rw [a1v hg, ubS, h]; rfl
theorem b6H (hg : g < Q.length) (h : S8 s l Q[g] = true) {k : Nat} (hk : ¬ k < (S9 l (Q[g].1, G3 l Q[g].2) d7).length) : ((S9 l (Q[g].1, G3 l Q[g].2) d7).take k).foldl H8 ((Q.take g).foldl (ubS s l d7) out) = (Q.take (g + 1)).foldl (ubS s l d7) out := by
 rw [List.take_of_length_le (show (S9 l (Q[g].1, G3 l Q[g].2) d7).length ≤ k by omega)]; exact b5H hg h
theorem b2K (hg : g < Q.length) (h : S8 s l Q[g] = false) : (Q.take g).foldl (ubS s l d7) out = (Q.take (g + 1)).foldl (ubS s l d7) out := by
 rw [a1v hg, ubS, h]; rfl
theorem b6O (hm : E2 s l = true) (hq : D2 s q = true) : D2 s (q.1, G3 l q.2) = S8 s l q := by rw [S8, hm, hq]; rfl
theorem b1l (hf : F1 s d7 = true) : ∀ {Q : List QT} {out : List (List Int)}, (Q.foldl (ubS s l d7) out).length ≤ out.length + 331776 * Q.length ∧ ((∀ t ∈ out, t.length ≤ 3) → ∀ t ∈ Q.foldl (ubS s l d7) out, t.length ≤ 3)
 | [], out => by simp
 | q :: Q, out => by
  have ih := b1l hf (Q := Q) (out := ubS s l d7 out q)
  have h1 : (ubS s l d7 out q).length ≤ out.length + 331776 ∧ ((∀ t ∈ out, t.length ≤ 3) → ∀ t ∈ ubS s l d7 out q, t.length ≤ 3) := by
   unfold ubS
   cases hp : S8 s l q with
   | false => exact ⟨by simp, fun h => h⟩
   | true =>
    obtain ⟨_, r2, r3⟩ := b1i hp hf
    have h2 := a5h (n := 3) (m := S9 l (q.1, G3 l q.2) d7) (out := out)
    exact ⟨Nat.le_trans h2.1 (by omega), fun h => h2.2 h r3⟩
  rw [List.foldl_cons, List.length_cons]
  exact ⟨by omega, fun h => ih.2 (h1.2 h)⟩
theorem b5i (hb : ubB s l u d7 = true) {m : List (List Int)} (hm : m.length ≤ 331776) (he : ∀ t ∈ m, t.length ≤ 3) : ((m.take h).foldl H8 (((o8 s u).take g).foldl (ubS s l d7) [])).length ≤ 2000000 ∧ ∀ t ∈ (m.take h).foldl H8 (((o8 s u).take g).foldl (ubS s l d7) []), t.length ≤ 1048576 := by
 obtain ⟨h1, h2, h3⟩ := b6S hb
 have a1 := b1l h3 (l := l) (Q := (o8 s u).take g) (out := [])
 have a2 := a5h (n := 3) (m := m.take h) (out := ((o8 s u).take g).foldl (ubS s l d7) [])
 have a3 := List.length_take_le' g (o8 s u)
 have a4 := a8d (s := s) (u := u)
 have a5 := (b1Q h2).1
 have a6 := List.length_take_le' h m
 have a7 := Nat.mul_le_mul_left 331776 (Nat.le_trans a3 (Nat.le_trans a4 a5))
 simp only [List.length_nil] at a1
 exact ⟨by omega, fun t ht => Nat.le_trans (a2.2 (a1.2 (by simp)) (fun t ht => he t (List.mem_of_mem_take ht)) t ht) (by decide)⟩
theorem b9n : u5 M7 (ubF s l u d7) ≤ 3000000 := by
 unfold ubF
 cases hb : ubB s l u d7
 ·simp [u5]
 ·obtain ⟨h1, h2, h3⟩ := b6S hb
  have a1 := b1l h3 (l := l) (Q := o8 s u) (out := [])
  have a4 := a8d (s := s) (u := u)
  have a5 := (b1Q h2).1
  have a7 := Nat.mul_le_mul_left 331776 (Nat.le_trans a4 a5)
  simp only [List.length_nil] at a1
  have a8 := b0e (n := 995328) (a1.2 (by simp)) (by omega)
  show u5 M7 ((o8 s u).foldl (ubS s l d7) []) ≤ 3000000
  omega
end
end Go.Proofs.YtdopeopehgdccaaGreat
end
