/- Plain definitions: the rules that a mask names. No program in sight. -/
import Derived.Test.YtnagfcajnbkdoaaDe
namespace Go.Proofs.Ytnagfcajnbkdoaa
set_option linter.unusedVariables false
def pick {α : Type} (p : Nat → Bool) : List α → Nat → List α
  | [], _ => []
  | x :: xs, i => if p i then x :: pick p xs (i + 1) else pick p xs (i + 1)
theorem pick_app {α : Type} {p : Nat → Bool} : ∀ {xs ys : List α} {i : Nat}, pick p (xs ++ ys) i = pick p xs i ++ pick p ys (i + xs.length)
  | [], ys, i => by simp [pick]
  | x :: xs, ys, i => by
    simp only [List.cons_append, pick, pick_app (xs := xs), List.length_cons, show i + 1 + xs.length = i + (xs.length + 1) by omega]
    split <;> rfl
theorem pick_step {α : Type} {p : Nat → Bool} {l : List α} {g : Nat} (h : g < l.length) (hp : p g = true) : pick p (l.take g) 0 ++ [l[g]] = pick p (l.take (g + 1)) 0 := by
  rw [List.take_succ_eq_append_getElem h, pick_app]
  simp [pick, hp, Nat.min_eq_left (Nat.le_of_lt h)]
theorem pick_skip {α : Type} {p : Nat → Bool} {l : List α} {g : Nat} (h : g < l.length) (hp : p g = false) : pick p (l.take g) 0 = pick p (l.take (g + 1)) 0 := by
  rw [List.take_succ_eq_append_getElem h, pick_app]
  simp [pick, hp, Nat.min_eq_left (Nat.le_of_lt h)]
theorem pick_le {α : Type} {p : Nat → Bool} : ∀ {l : List α} {i : Nat}, (pick p l i).length ≤ l.length
  | [], _ => by simp [pick]
  | x :: xs, i => by
    have := pick_le (p := p) (l := xs) (i := i + 1)
    simp only [pick]; split <;> simp <;> omega
theorem pick_tot {α : Type} {c : α → Nat} {p : Nat → Bool} : ∀ {l : List α} {i : Nat}, totS c (pick p l i) ≤ totS c l
  | [], _ => by simp [pick, totS]
  | x :: xs, i => by
    have := pick_tot (c := c) (p := p) (l := xs) (i := i + 1)
    simp only [pick]; split <;> simp [totS] at * <;> omega
theorem pick_no {α : Type} {p : Nat → Bool} : ∀ {l : List α} {i : Nat}, (∀ j, p j = false) → pick p l i = []
  | [], _, _ => rfl
  | x :: xs, i, h => by simp [pick, h, pick_no h]
def bitOf (mask : Int) (i : Nat) : Bool := decide (0 < mask) && decide (andI (mask / 2 ^ i) 1 = 1)
theorem bitOf_nonneg {mask : Int} {i : Nat} (h : 0 ≤ mask) : bitOf mask i = decide (andI (mask / 2 ^ i) 1 = 1) := by
  unfold bitOf
  rcases Int.lt_or_eq_of_le h with h | h
  · simp [h]
  · subst h; simp [andI]; decide
theorem bitOf_neg {mask : Int} {i : Nat} (h : ¬ 0 < mask) : bitOf mask i = false := by simp [bitOf, h]
def chosen (l : List (Int × Int × List Int)) (mask : Int) : List (Int × Int × List Int) := pick (bitOf mask) (l.take 20) 0
theorem chosen_tot {c : (Int × Int × List Int) → Nat} {l : List (Int × Int × List Int)} {mask : Int} : totS c (chosen l mask) ≤ totS c l :=
  Nat.le_trans pick_tot totS_le
theorem chosen_take {l : List (Int × Int × List Int)} {mask : Int} {g : Nat} (h : l.length ≤ g ∨ 20 ≤ g) (h2 : g ≤ 20) (h3 : g ≤ l.length) : pick (bitOf mask) (l.take g) 0 = chosen l mask := by
  unfold chosen
  rcases h with h | h
  · rw [List.take_of_length_le h, List.take_of_length_le (by omega)]
  · rw [show g = 20 by omega]
theorem chosen_none {l : List (Int × Int × List Int)} {mask : Int} (h : ¬ 0 < mask) {g : Nat} : pick (bitOf mask) (l.take g) 0 = chosen l mask := by
  rw [chosen, pick_no fun j => bitOf_neg h, pick_no fun j => bitOf_neg h]
/-- append([]T{}, t...) with a t that is only read: a list of its own, and nothing else turns -/
theorem N.pushR0 {P : Program} {Q : Exit → Act → World → Prop} {n : Nat} {w0 : World} {L0 : List Nat} {fr : Fr} {H : List HP} {d : Nat} {ty : TypeId} {pos : String} {af : Array Edge} {g : Option (Nat × Bool)} {α : Type} {E : Enc α} {T e e2 : TypeId} {agg : Bool} {k m2 : Nat} {z : List Value} {by' : Nat} {x y : Operand} {ad a2 : Option Addr} {c2 : Nat} {ys : List α} (hE : Plain E) (hT : P.underlying T = some (.slice e)) (ht : TyOk P e agg k z by') (hk : k = E.k)
    (hx : ev fr x = some (.slice ad 0 0)) (hy : ev fr y = some (.slice a2 m2 c2)) (hr : Ro w0 L0 (Enc.sl e2 E) [.slice a2 m2 c2] ys) (h63 : m2 ≤ 9223372036854775807) (hbytes : m2 * by' ≤ 140737488355328) (hd : d < n) :
    Nop P Q n w0 L0 fr H ⟨some d, .call ⟨.builtin .append, #[x, y], #[T, T]⟩, ty, pos, af, g⟩ true (κ := Option Addr × Nat) (fun p => (d, .slice p.1 m2 p.2) :: fr) (fun p => ow (Enc.sl e E) [.slice p.1 m2 p.2] ys :: H) (fun _ => True) := fun K hK a w ha hw => by
  subst hk
  obtain ⟨ccs, ⟨Lc, h1⟩, h2, h3⟩ := hr.src
  have hsrc : (m2 = 0 ∧ ccs = []) ∨ ∃ b o, a2 = some ⟨b, o, none⟩ ∧ CellsAt w b o ccs := by
    rcases h3 H with h | ⟨b, o, k1, k2⟩
    · exact .inl h
    · exact .inr ⟨b, o, k1, k2 w hw⟩
  have hy1 : Elems E w ccs ys [] true := (hE.elems h1).stable (by simp)
  have hm2 := hr.slen.1
  obtain ⟨a', c', w', L1', r1, r2, r3, r4, -⟩ := run_append_any (P := P) (ty := ty) (c2 := c2) hT ht E.pos (show (row e E.k ad 0 0 []).holds w [] from ⟨by simp, .inl ⟨rfl, rfl, rfl⟩⟩) hsrc (by rw [hy1.len, hm2]) hy1.one (by rw [Nat.zero_add]; exact h63) (by rw [Nat.zero_add]; exact hbytes)
  obtain ⟨L, hs, hn, hst⟩ := id hw
  obtain ⟨d1, d2, d3⟩ := grow_core (xs := ([] : List α)) (m := 0) rfl hm2 (by rw [Nat.zero_add]; exact h63) ⟨rfl, rfl⟩ hy1 (by simp) r2 r3 r4
  obtain ⟨k1, k2, k3⟩ := Step.call (Lp := []) (Lr := L) (by simpa using hst) (by simpa using hn) hs.inh (by simpa using d3) d2
  have hrun : (execOp a.eval ⟨some d, .call ⟨.builtin .append, #[x, y], #[T, T]⟩, ty, pos, af, g⟩).run P w = .ok (.value (.slice a' (0 + m2) c')) w' := by
    simp only [execOp, resolve, ha.ev hx, ha.ev hy, List.map_toArray, List.map_cons, List.map_nil, Sem.run_bind, Sem.run_pure, Result.andThen_ok, invoke, builtin, r1]
  simp only [Nat.zero_add, List.nil_append] at d1 hrun
  rw [Oper.wp, hrun]
  exact hK (a', c') trivial w _ _ (ha.put hd _) ⟨_, ⟨_, L, rfl, d1, hs.stable k3⟩, k2, k1⟩ (fun _ => r4.below)
theorem Y.shrN {P : Program} {n : Nat} {fr : Fr} {x y : Operand} {T U : TypeId} {a : Int} {b : Nat} (hx : ev fr x = some (.int .i64 a)) (hy : ev fr y = some (.int .i64 (b : Int))) (h1 : b ≤ 64) : Yp P n fr (.binOp .shr T x y U) (.int .i64 (a / 2 ^ b)) := by
  have := Y.shr (P := P) (n := n) (T := T) (U := U) hx hy (by omega) (by omega)
  simpa using this
theorem chosen_min {l : List (Int × Int × List Int)} {mask : Int} {g : Nat} (h : (l.take (min 20 l.length)).length ≤ g) : pick (bitOf mask) ((l.take (min 20 l.length)).take g) 0 = chosen l mask := by
  rw [List.take_of_length_le h, chosen]
  rcases Nat.le_total 20 l.length with h1 | h1
  · rw [Nat.min_eq_left h1]
  · rw [Nat.min_eq_right h1, List.take_of_length_le (Nat.le_refl _), List.take_of_length_le h1]
theorem take_take_min {α : Type} {l : List α} {g : Nat} (h : g ≤ min 20 l.length) : (l.take (min 20 l.length)).take g = l.take g := by rw [List.take_take, Nat.min_eq_left h]
end Go.Proofs.Ytnagfcajnbkdoaa
