import Derived.Test.YtdopeopehgdccaaGreatBu
import Derived.Test.YtdopeopehgdccaaGreatEp
namespace Go.Proofs.YtdopeopehgdccaaGreat
set_option linter.unusedVariables false
def M3 (m : Int × (Option Addr × Nat × Nat) × Int × Int × Int) : Int × (Option Addr × Nat × Nat) × Int × Int × Int := cond (decide (m.2.2.1 ≠ 0)) (-1, m.2) m
def exB (l : List (Int × (Option Addr × Nat × Nat) × Int × Int × Int)) : List (Int × (Option Addr × Nat × Nat) × Int × Int × Int) := l.map M3
section
variable {l : List (Int × (Option Addr × Nat × Nat) × Int × Int × Int)} {xs : List MT5} {g : Nat} {w : World} {L : List Nat}
theorem b4A : ((l.take g).map M3 ++ l.drop g).length = l.length := by rw [List.length_append, List.length_map, ← List.length_append, List.take_append_drop]
theorem b5b (h : g < l.length) : ((l.take g).map M3 ++ l.drop g)[g]? = some l[g] := by
  rw [List.getElem?_append_right (by simp; omega)]
  simp [Nat.min_eq_left (Nat.le_of_lt h), h]
theorem b2N (h : g < l.length) {x : Int × (Option Addr × Nat × Nat) × Int × Int × Int} (hx : x = M3 l[g]) : ((l.take g).map M3 ++ l.drop g).set g x = (l.take (g + 1)).map M3 ++ l.drop (g + 1) := by
  have h1 : ((l.take g).map M3).length = g := by simp; omega
  rw [List.set_append, if_neg (by omega), h1, Nat.sub_self, List.drop_eq_getElem_cons h, List.set_cons_zero, List.take_succ_eq_append_getElem h, List.map_append, List.append_assoc, hx]; rfl
theorem b4e (h : g < l.length) (hx : l[g].2.2.1 ≠ 0) : ((l.take g).map M3 ++ l.drop g).set g (-1, l[g].2.1, l[g].2.2.1, l[g].2.2.2.1, l[g].2.2.2.2) = (l.take (g + 1)).map M3 ++ l.drop (g + 1) := b2N h (by unfold M3; rw [decide_eq_true hx]; rfl)
theorem b3Z (h : g < l.length) (hx : ¬ l[g].2.2.1 ≠ 0) : ((l.take g).map M3 ++ l.drop g).set g l[g] = (l.take (g + 1)).map M3 ++ l.drop (g + 1) := b2N h (by unfold M3; rw [decide_eq_false hx]; rfl)
theorem b1y (h : g < l.length) {x : Int × (Option Addr × Nat × Nat) × Int × Int × Int} (hx : x = M3 l[g]) : (l.take g).map M3 ++ [x] = (l.take (g + 1)).map M3 := by
  rw [List.take_succ_eq_append_getElem h, List.map_append, hx]; rfl
theorem b0E (h : g < l.length) (hx : l[g].2.2.1 ≠ 0) : (l.take g).map M3 ++ [(-1, l[g].2.1, l[g].2.2.1, l[g].2.2.2.1, l[g].2.2.2.2)] = (l.take (g + 1)).map M3 := b1y h (by unfold M3; rw [decide_eq_true hx]; rfl)
theorem b0h (h : g < l.length) (hx : ¬ l[g].2.2.1 ≠ 0) : (l.take g).map M3 ++ [l[g]] = (l.take (g + 1)).map M3 := b1y h (by unfold M3; rw [decide_eq_false hx]; rfl)
theorem b5l (h : ¬ g < l.length) : (l.take g).map M3 = exB l := by rw [List.take_of_length_le (by omega)]; rfl
theorem b4c (h : ¬ g < l.length) : (l.take g).map M3 ++ l.drop g = exB l := by
  rw [List.take_of_length_le (by omega), List.drop_eq_nil_of_le (by omega), List.append_nil]; rfl
theorem b1M (h : Bor w L M4 V7 l xs) : Bor w L M4 V7 (exB l) (exF xs) := by
  refine h.map fun y x hx => ?_
  have hp := a5a hx
  obtain ⟨h1, h2, h3, h4, h5⟩ := hp
  unfold M3 exM
  rw [h3]
  cases decide (x.2.2.1 ≠ 0)
  · exact hx
  · simp only [cond_true]
    obtain ⟨a0, c0, e, i0, r1, i2, i3, i4⟩ := Ro.pMethod hx
    rw [show V7 (-1, y.2) = [.int .i64 (-1 : Int), .slice y.2.1.1 y.2.1.2.1 y.2.1.2.2, .int .i64 x.2.2.1, .int .i64 x.2.2.2.1, .int .i64 x.2.2.2.2] from by rw [← h3, ← h4, ← h5]; rfl]
    exact Ro.mkMethod (x := (-1, x.2)) (by unfold I64; omega) h2 i2 i3 i4
end
end Go.Proofs.YtdopeopehgdccaaGreat
