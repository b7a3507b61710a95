import Derived.Test.YtdopeopehgdccaaGreatBu
import Derived.Test.YtdopeopehgdccaaGreatGa
section
namespace Go.Proofs.YtdopeopehgdccaaGreat
set_option linter.unusedVariables false
def U1 (m : Int × (Option Addr × Nat × Nat) × Int × Int × Int) : Int × (Option Addr × Nat × Nat) × Int × Int × Int := cond (decide (m.2.2.1 ≠ 0)) (-1, m.2) m
def exB (l : List (Int × (Option Addr × Nat × Nat) × Int × Int × Int)) : List (Int × (Option Addr × Nat × Nat) × Int × Int × Int) := l.map U1
section
variable {l : List (Int × (Option Addr × Nat × Nat) × Int × Int × Int)} {xs : List MT5} {g : Nat} {w : World} {L : List Nat}
theorem b7C : ((l.take g).map U1 ++ l.drop g).length = l.length := by rw [List.length_append, List.length_map, ← List.length_append, List.take_append_drop]
theorem b8N (h : g < l.length) : ((l.take g).map U1 ++ l.drop g)[g]? = some l[g] := by
 rw [List.getElem?_append_right (by simp; omega)]
 simp [Nat.min_eq_left (Nat.le_of_lt h), h]
theorem b5E (h : g < l.length) {x : Int × (Option Addr × Nat × Nat) × Int × Int × Int} (hx : x = U1 l[g]) : ((l.take g).map U1 ++ l.drop g).set g x = (l.take (g + 1)).map U1 ++ l.drop (g + 1) := by
 have h1 : ((l.take g).map U1).length = g := by simp; omega
 rw [List.set_append, if_neg (by omega), h1, Nat.sub_self, List.drop_eq_getElem_cons h, List.set_cons_zero, List.take_succ_eq_append_getElem h, List.map_append, List.append_assoc, hx]; rfl
theorem b7I (h : g < l.length) (hx : l[g].2.2.1 ≠ 0) : ((l.take g).map U1 ++ l.drop g).set g (-1, l[g].2.1, l[g].2.2.1, l[g].2.2.2.1, l[g].2.2.2.2) = (l.take (g + 1)).map U1 ++ l.drop (g + 1) := b5E h (by unfold U1; rw [decide_eq_true hx]; rfl)
theorem b7T (h : g < l.length) (hx : ¬ l[g].2.2.1 ≠ 0) : ((l.take g).map U1 ++ l.drop g).set g l[g] = (l.take (g + 1)).map U1 ++ l.drop (g + 1) := b5E h (by unfold U1; rw [decide_eq_false hx]; rfl)
theorem b4l (h : g < l.length) {x : Int × (Option Addr × Nat × Nat) × Int × Int × Int} (hx : x = U1 l[g]) : (l.take g).map U1 ++ [x] = (l.take (g + 1)).map U1 := by
 rw [List.take_succ_eq_append_getElem h, List.map_append, hx]; rfl
theorem b3c (h : g < l.length) (hx : l[g].2.2.1 ≠ 0) : (l.take g).map U1 ++ [(-1, l[g].2.1, l[g].2.2.1, l[g].2.2.2.1, l[g].2.2.2.2)] = (l.take (g + 1)).map U1 := b4l h (by unfold U1; rw [decide_eq_true hx]; rfl)
theorem b3l (h : g < l.length) (hx : ¬ l[g].2.2.1 ≠ 0) : (l.take g).map U1 ++ [l[g]] = (l.take (g + 1)).map U1 := b4l h (by unfold U1; rw [decide_eq_false hx]; rfl)
theorem b8R (h : ¬ g < l.length) : (l.take g).map U1 = exB l := by rw [List.take_of_length_le (by omega)]; rfl
theorem b7r (h : ¬ g < l.length) : (l.take g).map U1 ++ l.drop g = exB l := by
 rw [List.take_of_length_le (by omega), List.drop_eq_nil_of_le (by omega), List.append_nil]; rfl
theorem b6V (h : Bor w L W1 a1Z l xs) : Bor w L W1 a1Z (exB l) (exF xs) := by
 refine h.map fun y x hx => ?_
 have hp := b2v hx
 obtain ⟨h1, h2, h3, h4, h5⟩ := hp
 unfold U1 exM
 rw [h3]
 cases decide (x.2.2.1 ≠ 0)
 ·exact hx
 ·simp only [cond_true]
  obtain ⟨a0, c0, e, i0, r1, i2, i3, i4⟩ := J5 hx
  rw [show a1Z (-1, y.2) = [.int .i64 (-1 : Int), .slice y.2.1.1 y.2.1.2.1 y.2.1.2.2, .int .i64 x.2.2.1, .int .i64 x.2.2.2.1, .int .i64 x.2.2.2.2] from by rw [← h3, ← h4, ← h5]; rfl]
  exact a8s (x := (-1, x.2)) (by unfold I64; omega) h2 i2 i3 i4
end
end Go.Proofs.YtdopeopehgdccaaGreat
end
section
namespace Go.Proofs.YtdopeopehgdccaaGreat
set_option linter.unusedVariables false
set_option linter.unusedSimpArgs false
def a1v (l : List MT5) : List MT5 := l.filter fun m => decide (m.2.2.1 = 0)
def rk (l : List MT5) (i : Int) : Int := if i < 0 then i else ((a1v (l.take i.toNat)).length : Int)
def rkS (l : List MT5) (x : Stp) : Stp := (x.1, rk l x.2)
section
variable {s : List Int} {l L M : List MT5} {f5 al : List AT2} {ds : List Bool} {a : AT2} {b b' : List Int} {i n g k : Nat} {S R : List Stp} {d8 : List Fct} {m : MT5} {q : List Int × List AT2}
theorem b2P (h : 0 ≤ F1 l a b) : ∃ i, ∃ hi : i < l.length, F1 l a b = (i : Int) ∧ (∀ x ∈ l.take i, N5 x a b = false) ∧ N5 l[i] a b = true := by
 unfold F1 H0 at h ⊢
 by_cases hc : l.any (fun m => N5 m a b) = true
 ·rw [if_pos hc]
  obtain ⟨x, hx, hp⟩ := List.any_eq_true.1 hc
  have hi := List.findIdx_lt_length_of_exists (p := fun m => N5 m a b) ⟨x, hx, hp⟩
  refine ⟨_, hi, rfl, fun y hy => ?_, List.findIdx_getElem (w := hi)⟩
  obtain ⟨j, hj, rfl⟩ := List.mem_take_iff_getElem.1 hy
  simpa using List.not_of_lt_findIdx (show j < l.findIdx (fun m => N5 m a b) by omega)
 ·rw [if_neg hc] at h; omega
theorem b0r (h : 0 ≤ a.1) : N5 (exM m) a b = (decide (m.2.2.1 = 0) && N5 m a b) := by
 unfold exM
 by_cases hl : m.2.2.1 = 0
 ·simp [hl]
 ·have h2 : ¬ (-1 : Int) = a.1 := by omega
  simp [hl, N5, h2]
theorem b4E (h : i < l.length) (h0 : l[i].2.2.1 = 0) : a1v l = a1v (l.take i) ++ l[i] :: a1v (l.drop (i + 1)) := by
 have e : l = l.take i ++ l[i] :: l.drop (i + 1) := by rw [← List.drop_eq_getElem_cons h, List.take_append_drop]
 unfold a1v
 conv => lhs; rw [e]
 rw [List.filter_append, List.filter_cons_of_pos (by simpa using h0)]
theorem b8A : rk l (i : Int) = ((a1v (l.take i)).length : Int) := by rw [rk, if_neg (by omega), Int.toNat_natCast]
theorem b2H (h : ¬ 0 ≤ F1 l a b) : F1 l a b = -1 := by unfold F1 at h ⊢; have := a0O (p := fun m => N5 m a b) (s := l); omega
theorem a7i (ha : 0 ≤ a.1) : F1 (a1v l) a b = rk l (F1 (exF l) a b) ∧ (0 ≤ F1 (exF l) a b → (F1 (exF l) a b).toNat < l.length ∧ (atM l (F1 (exF l) a b)).2.2.1 = 0 ∧ atM (a1v l) (rk l (F1 (exF l) a b)) = atM l (F1 (exF l) a b) ∧ N5 (atM l (F1 (exF l) a b)) a b = true) := by
 by_cases h0 : 0 ≤ F1 (exF l) a b
 ·obtain ⟨i, hi, e, hn, hy⟩ := b2P h0
  have hi' : i < l.length := by simpa [exF] using hi
  have ey : N5 (exM l[i]) a b = true := by simpa [exF] using hy
  rw [b0r ha, Bool.and_eq_true, decide_eq_true_eq] at ey
  have hs := b4E hi' ey.1
  have hk : (a1v (l.take i)).length < (a1v l).length := by rw [hs, List.length_append, List.length_cons]; omega
  have hg : (a1v l)[(a1v (l.take i)).length]'hk = l[i] := by
   have : (a1v l)[(a1v (l.take i)).length]? = some l[i] := by rw [hs]; simp
   exact (List.getElem?_eq_some_iff.1 this).2
  have e2 : F1 (a1v l) a b = ((a1v (l.take i)).length : Int) := by
   refine (P0 (p := fun m => N5 m a b) hk (fun x hx => ?_) (by rw [hg]; exact ey.2)).symm
   rw [hs, List.take_left] at hx
   obtain ⟨hx1, hx2⟩ := List.mem_filter.1 hx
   have h9 := hn (exM x) (by unfold exF; rw [← List.map_take]; exact List.mem_map_of_mem hx1)
   rw [b0r ha, hx2, Bool.true_and] at h9
   exact h9
  rw [e, e2, b8A]
  have ea : atM l (i : Int) = l[i] := by rw [atM, Int.toNat_natCast]; exact J3 hi'
  refine ⟨rfl, fun _ => ⟨by rw [Int.toNat_natCast]; exact hi', by rw [ea]; exact ey.1, ?_, by rw [ea]; exact ey.2⟩⟩
  rw [ea, atM, Int.toNat_natCast, J3 hk, hg]
 ·have h1 := b2H h0
  refine ⟨?_, fun h => absurd h h0⟩
  rw [h1, show rk l (-1) = -1 from rfl]
  refine b2H fun h2 => h0 ?_
  obtain ⟨i, hi, e, hn, hy⟩ := b2P h2
  have hm := List.mem_filter.1 (List.getElem_mem hi)
  have h3 : (exF l).any (fun m => N5 m a b) = true := List.any_eq_true.2 ⟨exM (a1v l)[i], List.mem_map_of_mem hm.1, by rw [b0r ha, hm.2, Bool.true_and]; exact hy⟩
  have h4 := a0Q (p := fun m => N5 m a b) (s := exF l)
  rw [h3] at h4; exact of_decide_eq_true h4
theorem b6D : (grI l f5 n).2.2 = stB f5 (grI l f5 n).1 := by
 induction n with
 | zero => rfl
 | succ n ih =>
  cases hx : (gNx l f5 (grI l f5 n)).2.2
  ·rw [a3h hx]; exact ih
  ·rw [a2i hx]
   show _ ++ _ = stB f5 (_ ++ [_])
   unfold stB
   rw [List.foldl_append]
   show _ = stB f5 (grI l f5 n).1 ++ _
   rw [← ih]; rfl
theorem b4b : ∀ {g : Nat}, g ≤ S.length → V1 l f5 (S ++ R) g = V1 l f5 S g
 | 0, _ => rfl
 | g + 1, h => by rw [V1, V1, b4b (by omega), List.take_append_of_le_length (by omega), J3 (by rw [List.length_append]; omega), J3 (by omega), List.getElem_append_left]
theorem b8O (hM : ∀ a ∈ f5, ∀ b, 0 ≤ F1 L a b → (F1 L a b).toNat < M.length ∧ N5 (atM M (F1 L a b)) a b = true) : V1 M f5 (grI L f5 n).1 (grI L f5 n).1.length = true := by
 induction n with
 | zero => rfl
 | succ n ih =>
  cases hx : (gNx L f5 (grI L f5 n)).2.2
  ·rw [a3h hx]; exact ih
  ·rw [a2i hx]
   obtain ⟨k, h1, h2, h3, a, h4, h5, h6⟩ := a4E (show (G3 L (grI L f5 n).2.2 f5 (grI L f5 n).2.1 0).2.2 = true from hx)
   have e1 : (gNx L f5 (grI L f5 n)).1 = (k : Int) := by unfold gNx; rw [h1]; simp
   have e3 : (gNx L f5 (grI L f5 n)).2.1 = F1 L a (grI L f5 n).2.2 := h5
   have ea : atA f5 (k : Int) = a := by unfold atA; rw [Int.toNat_natCast, List.getD, h4]; rfl
   obtain ⟨hm1, hm2⟩ := hM a (List.mem_of_getElem? h4) _ h6
   rw [e1, e3]
   show V1 M f5 _ ((grI L f5 n).1 ++ [_]).length = true
   rw [List.length_append, List.length_singleton, V1, b4b (Nat.le_refl _), ih, Bool.true_and, List.take_left, J3 (by simp), List.getElem_append_right (Nat.le_refl _)]
   have d1 := (b3V (l := L) (f5 := f5) (n := n)).1 k
   simp only [List.getD, h3, Option.getD_some] at d1
   simp only [Nat.sub_self, List.getElem_singleton, a0o, Bool.and_eq_true]
   refine ⟨?_, ?_, ?_, ?_⟩
   ·unfold inR; exact decide_eq_true (by omega)
   ·unfold stU; rw [← d1]; rfl
   ·unfold inR; exact decide_eq_true (by omega)
   ·rw [ea, ← b6D]; exact hm2
def c1A (l : List (Int × (Option Addr × Nat × Nat) × Int × Int × Int)) : List (Int × (Option Addr × Nat × Nat) × Int × Int × Int) := l.filter fun m => decide (m.2.2.1 = 0)
theorem b0W (h : I4 s q = true) : ∀ a ∈ q.2, 0 ≤ a.1 := fun a ha => by
 simp only [I4, Bool.and_eq_true] at h
 cases e : J0 s a with
 | true =>
  simp only [J0, N6, Bool.and_eq_true] at e
  exact (W2 e.1.2).1
 | false =>
  have h2 : (q.2.any fun a => !J0 s a) = true := List.any_eq_true.2 ⟨a, ha, by simp [e]⟩
  rw [h2] at h; simp at h
theorem b8D {S : List Stp} (hm : G9 s M = true) (hq : I4 s q = true) (hl : S.length = q.2.length) (ho : V1 M q.2 S S.length = true) : O1 s M q S = true := by
 rw [O1, hm, hq, ho, decide_eq_true (by omega)]; rfl
theorem b8V (hm : G9 s l = true) (hq : I4 s q = true) (hl : (grF (exF l) q.2).1.length = q.2.length) : O1 s l q (grF (exF l) q.2).1 = true :=
 b8D hm hq hl (b8O fun a ha b h => let h2 := (a7i (l := l) (b := b) (b0W hq a ha)).2 h; ⟨h2.1, h2.2.2.2⟩)
theorem b7o : ∀ x ∈ (grI L f5 n).1, ∃ a b, a ∈ f5 ∧ x.2 = F1 L a b ∧ 0 ≤ F1 L a b := by
 induction n with
 | zero => intro x hx; simp [grI] at hx
 | succ n ih =>
  intro x hx
  cases hn : (gNx L f5 (grI L f5 n)).2.2
  ·rw [a3h hn] at hx; exact ih x hx
  ·rw [a2i hn] at hx
   rcases List.mem_append.1 hx with hx | hx
   ·exact ih x hx
   ·obtain ⟨k, h1, h2, h3, a, h4, h5, h6⟩ := a4E (show (G3 L (grI L f5 n).2.2 f5 (grI L f5 n).2.1 0).2.2 = true from hn)
    simp only [List.mem_singleton] at hx; subst hx
    exact ⟨a, _, List.mem_of_getElem? h4, h5, h6⟩
def c1B (l : List MT5) (p : List Int × List AT2) (d8 : List Fct) : List (List Int) := S0 p.1 (n8 (fun a => l2 l d8 a) l p.2 (grF (exF l) p.2).1).1
def c1J (s : List Int) (l : List MT5) (q : List Int × List AT2) : List Stp := cond ((G9 s l && I4 s q) && decide (q.2.length ≤ (grF l q.2).1.length)) (grF l q.2).1 []
def c1C (s : List Int) (l : List MT5) (q : List Int × List AT2) : Bool := (G9 s l && I4 s q) && decide (q.2.length ≤ (grF l q.2).1.length)
end
end Go.Proofs.YtdopeopehgdccaaGreat
end
