import Derived.Test.YtfnbilpemdgkkaaGreatDoorGf
import Derived.Test.YtfnbilpemdgkkaaGreatDoorGi
namespace Go.Proofs.YtfnbilpemdgkkaaGreatDoor
set_option linter.unusedVariables false
set_option linter.unusedSimpArgs false
section
variable {s : List Int} {c6 : List Rul} {f f0 x y to : Fct} {r : Rul} {a6 m X : List Fct} {i j k n : Nat} {w : List Int} {t : Str} {z : Way} {Z : List Way}
theorem a4r : ∀ {m X : List Fct} {y : Fct}, y ∈ X → y ∈ m.foldl s7 X
 | [], _, _, h => h
 | f :: m, X, y, h => a4r (m := m) (W3 h)
theorem a7i : ∀ {m X : List Fct} {y : Fct}, y ∈ m → y ∈ m.foldl s7 X
 | f :: m, X, y, h => by
  rcases List.mem_cons.1 h with rfl | h
  ·refine a4r (m := m) ?_
   cases e : w5 X y with
   | true => rw [W1 e]; exact I2.1 e
   | false => exact a1c e
  ·exact a7i (m := m) h
theorem a7S : ∀ {m X : List Fct} {y : Fct}, y ∈ m.foldl s7 X → y ∈ X ∨ y ∈ m
 | [], _, _, h => .inl h
 | f :: m, X, y, h => by
  rcases a7S (m := m) h with h | h
  ·rcases P6 h with h | rfl
   ·exact .inl h
   ·exact .inr (by simp)
  ·exact .inr (List.mem_cons_of_mem _ h)
theorem b2J : X.length ≤ (s7 X f).length := by
 cases e : w5 X f with
 | true => rw [W1 e]; exact Nat.le_refl _
 | false => rw [a0w e]; simp only [List.length_append, List.length_cons, List.length_take, List.length_drop]; omega
theorem b2m (e : w5 X f = false) : X.length < (s7 X f).length := by
 rw [a0w e]; simp only [List.length_append, List.length_cons, List.length_take, List.length_drop]; omega
theorem a4N : ∀ {m X : List Fct}, X.length ≤ (m.foldl s7 X).length
 | [], _ => Nat.le_refl _
 | f :: m, X => Nat.le_trans b2J (a4N (m := m))
theorem a8F : ∀ {n : Nat}, x ∈ l0 c6 a6 k → x ∈ l0 c6 a6 (k + n)
 | 0, h => h
 | n + 1, h => a4r (a8F (n := n) h)
theorem b1O : ∀ {n : Nat}, (l0 c6 a6 k).length ≤ (l0 c6 a6 (k + n)).length
 | 0 => Nat.le_refl _
 | n + 1 => Nat.le_trans (b1O (n := n)) (a4N (m := s6 c6 (l0 c6 a6 (k + n))) (X := l0 c6 a6 (k + n)))
theorem b0N : (a6.all fun x => w5 (I4 c6 a6) x) = true := by
 rw [List.all_eq_true]
 intro x hx
 have h := a8F (c6 := c6) (a6 := a6) (k := 0) (n := 6001) hx
 rw [Nat.zero_add] at h
 exact I2.2 h
theorem b2S : ((s6 c6 a6).all fun x => w5 (I4 c6 a6) x) = true := by
 rw [List.all_eq_true]
 intro x hx
 have h := a8F (c6 := c6) (a6 := a6) (k := 1) (n := 6000) (x := x) (a7i (X := a6) hx)
 exact I2.2 h
theorem b3v (hr : o4 s c6 = true) (hf : r7 s a6 = true) : decide ((s6 c6 a6).length = 0) = decide (((I4 c6 a6).length : Int) = (a6.length : Int)) := by
 apply decide_eq_decide.2
 constructor
 ·intro h
  have := a1T (l := c6) (a6 := a6) (n := 0) (by decide) (List.length_eq_zero_iff.1 h)
  rw [← this]; rfl
 ·intro h
  cases e : s6 c6 a6 with
  | nil => rfl
  | cons y m =>
   exfalso
   have h1 := (a2L hr (G9 hf).2 y (by rw [e]; simp)).2
   have h2 : a6.length < (l0 c6 a6 1).length := by
    show a6.length < ((s6 c6 a6).foldl s7 a6).length
    rw [e, List.foldl_cons]
    exact Nat.lt_of_lt_of_le (b2m h1) a4N
   have h3 := b1O (c6 := c6) (a6 := a6) (k := 1) (n := 6000)
   have h4 : (l0 c6 a6 (1 + 6000)).length = (I4 c6 a6).length := rfl
   omega
def Q0 (s : List Int) (c6 : List Rul) : Fct → List Int → Fct → Prop
 | f, [], x => f = x
 | f, v :: w, x => 0 ≤ v ∧ v.toNat < c6.length ∧ G4 s (c6.getD v.toNat (0, 0, [])) f = true ∧ Q0 s c6 (a0z (c6.getD v.toNat (0, 0, [])) f) w x
theorem a3X : ∀ {w : List Int} {f : Fct}, Q0 s c6 f w x → k < c6.length → G4 s (c6.getD k (0, 0, [])) x = true → Q0 s c6 f (w ++ [(k : Int)]) (a0z (c6.getD k (0, 0, [])) x)
 | [], f, h, hk, hi => by
  have e : f = x := h
  subst e
  exact ⟨by omega, by simpa using hk, by simpa using hi, by simp [Q0]⟩
 | v :: w, f, h, hk, hi => ⟨h.1, h.2.1, h.2.2.1, a3X (w := w) h.2.2.2 hk hi⟩
def a4Q (s : List Int) (c6 : List Rul) (f0 : Fct) (Z : List Way) : Prop := ∀ z ∈ Z, Q0 s c6 f0 z.2 z.1
theorem a9y (hr : o4 s c6 = true) (h : WInv s Z) (hl : a4Q s c6 f0 Z) (hz : Z[i]? = some z) (hk : k < c6.length) : a4Q s c6 f0 (wy1 c6 z Z k) := by
 have hm := List.mem_of_getElem? hz
 unfold wy1
 cases hc : wyC (c6.getD k (0, 0, [])) z Z with
 | false => exact hl
 | true =>
  simp only [wyC, Bool.and_eq_true, decide_eq_true_eq, Bool.not_eq_true'] at hc
  intro y hy
  rcases List.mem_append.1 hy with hy | hy
  ·exact hl y hy
  ·simp only [List.mem_singleton] at hy; subst hy
   refine a3X (hl z hm) hk ?_
   rw [a2C (by rw [E3 hk]; exact (F2 hr).2.2 _ (List.getElem_mem hk)) (h.ok z hm)]
   exact decide_eq_true hc.1
theorem a5e (hr : o4 s c6 = true) (h : WInv s Z) (hl : a4Q s c6 f0 Z) (hz : Z[i]? = some z) : ∀ {k : Nat}, k ≤ c6.length → a4Q s c6 f0 (wyK c6 z Z k)
 | 0, _ => hl
 | k + 1, hk => a9y hr (a1v hr h hz (k := k) (by omega)) (a5e hr h hl hz (k := k) (by omega)) (a0q hz) (by omega)
theorem a5p (hr : o4 s c6 = true) (h : u6 s f0 = true) : ∀ {i : Nat}, a4Q s c6 f0 (wyI c6 f0 i)
 | 0 => fun z hz => by simp only [wyI, List.mem_singleton] at hz; subst hz; exact rfl
 | i + 1 => by
  have ih := a5p hr h (i := i)
  cases hx : (wyI c6 f0 i)[i]? with
  | none => rw [wyI, hx]; exact ih
  | some x => rw [a0E hx]; exact a5e hr (a0p hr h) ih hx (Nat.le_refl _)
theorem a6I : ∀ {k : Nat}, j < k → z.1.1 = (c6.getD j (0, 0, [])).1 → a1i (wyK c6 z Z k) (a0z (c6.getD j (0, 0, [])) z.1) = true
 | 0, h, _ => absurd h (by omega)
 | k + 1, h, e => by
  have step : ∀ {g : Fct}, a1i (wyK c6 z Z k) g = true → a1i (wyK c6 z Z (k + 1)) g = true := fun {g} hg => by
   obtain ⟨Y, hY⟩ := a7G (c6 := c6) (x := z) (X := wyK c6 z Z k) (k := k)
   rw [wyK, hY, a1i, List.map_append, I2]
   exact List.mem_append_left _ (I2.1 hg)
  rcases Nat.lt_or_ge j k with hj | hj
  ·exact step (a6I (k := k) hj e)
  ·have : j = k := by omega
   subst this
   cases hc : a1i (wyK c6 z Z j) (a0z (c6.getD j (0, 0, [])) z.1) with
   | true => exact step hc
   | false =>
    rw [wyK, wy1, wyC, decide_eq_true e, hc]
    show a1i (_ ++ [_]) _ = true
    rw [a1i, List.map_append, I2]; simp
theorem b1a (hr : o4 s c6 = true) (h : u6 s f0 = true) (hz : z ∈ wyW c6 f0) (hk : k < c6.length) (e : z.1.1 = (c6.getD k (0, 0, [])).1) : ∃ y ∈ wyW c6 f0, y.1 = a0z (c6.getD k (0, 0, [])) z.1 := by
 obtain ⟨j, hj⟩ := List.getElem?_of_mem hz
 have hl := (a0p hr h (i := 6000)).len
 have hj1 : j < (wyI c6 f0 6000).length := (List.getElem?_eq_some_iff.1 hj).1
 have hj2 : j < (wyI c6 f0 j).length := Classical.byContradiction fun hn => by
  have := a3x hn (m := 6000 - j)
  rw [show j + (6000 - j) = 6000 from by omega] at this
  rw [this] at hj1; exact hn hj1
 obtain ⟨Y, hY⟩ := a0t (c6 := c6) (f0 := f0) (n := j) (m := 6000 - j)
 rw [show j + (6000 - j) = 6000 from by omega] at hY
 have hz2 : (wyI c6 f0 j)[j]? = some z := by
  have h9 : (wyI c6 f0 6000)[j]? = some z := hj
  rw [hY, List.getElem?_append_left hj2] at h9; exact h9
 have hf := a6I (c6 := c6) (Z := wyI c6 f0 j) (j := k) (k := c6.length) hk e
 rw [← a0E hz2] at hf
 obtain ⟨V, hV⟩ := a0t (c6 := c6) (f0 := f0) (n := j + 1) (m := 6000 - (j + 1))
 rw [show j + 1 + (6000 - (j + 1)) = 6000 from by omega] at hV
 obtain ⟨y, hy, ey⟩ := List.mem_map.1 (I2.1 hf)
 exact ⟨y, by rw [wyW, hV]; exact List.mem_append_left _ hy, ey⟩
theorem a9l (hr : o4 s c6 = true) (hf : ∀ f ∈ a6, u6 s f = true) : ∀ {n : Nat}, ∀ x ∈ l0 c6 a6 n, ∃ f ∈ a6, ∃ y ∈ wyW c6 f, y.1 = x
 | 0, x, hx => ⟨x, hx, (x, []), by
   obtain ⟨Y, hY⟩ := a0t (c6 := c6) (f0 := x) (n := 0) (m := 6000)
   rw [Nat.zero_add] at hY
   rw [wyW, hY]; simp [wyI], rfl⟩
 | n + 1, x, hx => by
  have ih := a9l hr hf (n := n)
  rcases a7S hx with hx | hx
  ·exact ih x hx
  ·refine a6m (P := fun x => ∃ f ∈ a6, ∃ y ∈ wyW c6 f, y.1 = x) (fun r hr1 g hg e _ => ?_) x hx
   obtain ⟨f, h1, y, h2, h3⟩ := ih g hg
   obtain ⟨k, hk, e2⟩ := List.getElem_of_mem hr1
   have e3 : c6.getD k (0, 0, []) = r := by rw [E3 hk, e2]
   obtain ⟨v, h4, h5⟩ := b1a hr (hf f h1) h2 hk (by rw [h3, e3]; exact e)
   exact ⟨f, h1, v, h4, by rw [h5, e3, h3]; rfl⟩
theorem b1x {W : List Way} {p : Way → Bool} (hb : W.any p = true) : ∃ y, W.find? p = some y ∧ y ∈ W ∧ p y = true := by
 obtain ⟨z, h1, h2⟩ := List.any_eq_true.1 hb
 cases e : W.find? p with
 | none => exact absurd h2 (by simpa using List.find?_eq_none.1 e z h1)
 | some y => exact ⟨y, rfl, List.mem_of_find?_eq_some e, List.find?_some e⟩
theorem b2r (hr : o4 s c6 = true) (h : u6 s f0 = true) (hb : wyB c6 f0 to = true) : Q0 s c6 f0 (wyR c6 f0 to) to := by
 have h4 : a4Q s c6 f0 (wyW c6 f0) := a5p hr h
 unfold wyB at hb
 unfold wyR
 generalize wyW c6 f0 = W at hb h4 ⊢
 obtain ⟨y, e, h1, h2⟩ := b1x hb
 have h3 : y.1 = to := M7.1 (by simpa [wyP] using h2)
 have h5 := h4 y h1
 rw [h3] at h5
 rw [e]; exact h5
attribute [local irreducible] wyW wyB wyR
theorem a7z : ∀ {n : Nat}, n ≤ a6.length → (dvI c6 a6 to n = [] ∧ ∀ (j : Nat) (hj : j < n), wyB c6 (a6.getD j (0, [])) to = false) ∨ ∃ j, j < n ∧ wyB c6 (a6.getD j (0, [])) to = true ∧ dvI c6 a6 to n = (j : Int) :: wyR c6 (a6.getD j (0, [])) to
 | 0, _ => .inl ⟨rfl, fun j hj => absurd hj (by omega)⟩
 | n + 1, hn => by
  have ih := a7z (n := n) (by omega)
  rw [dvI, dv1]
  cases hc : dvC c6 to (a6.getD n (0, [])) (dvI c6 a6 to n) with
  | true =>
   rw [dvC, Bool.and_eq_true] at hc
   exact .inr ⟨n, by omega, hc.1, rfl⟩
  | false =>
   rw [cond_false]
   rcases ih with ⟨h1, h2⟩ | ⟨j, h1, h2, h3⟩
   ·left
    refine ⟨h1, fun j hj => ?_⟩
    rcases Nat.lt_or_ge j n with h | h
    ·exact h2 j h
    ·have : j = n := by omega
     subst this
     rw [dvC, h1] at hc
     simpa using hc
   ·exact .inr ⟨j, by omega, h2, h3⟩
theorem b3z (hr : o4 s c6 = true) (hf : r7 s a6 = true) (hx : to ∈ I4 c6 a6) : ∃ j, ∃ hj : j < a6.length, ∃ w, dvF s c6 a6 to = (j : Int) :: w ∧ Q0 s c6 a6[j] w to := by
 have ha := (G9 hf).2
 rw [dvF, hr, hf]
 show ∃ j, ∃ hj : j < a6.length, ∃ w, dvI c6 a6 to a6.length = (j : Int) :: w ∧ _
 obtain ⟨g, h1, y, h2, h3⟩ := a9l hr ha to hx
 obtain ⟨k, hk, e⟩ := List.getElem_of_mem h1
 have hb : wyB c6 (a6.getD k (0, [])) to = true := by
  rw [E3 hk, e]
  unfold wyB
  generalize wyW c6 g = W at h2 ⊢
  exact List.any_eq_true.2 ⟨y, h2, by rw [wyP, h3]; exact decide_eq_true (M7.2 rfl)⟩
 rcases a7z (c6 := c6) (a6 := a6) (to := to) (n := a6.length) (Nat.le_refl _) with ⟨_, h⟩ | ⟨j, hj, h4, h5⟩
 ·have := h k hk; rw [hb] at this; cases this
 ·refine ⟨j, hj, _, h5, ?_⟩
  rw [E3 hj] at h4
  have h6 := b2r (f0 := a6[j]) (to := to) hr (ha _ (List.getElem_mem hj)) h4
  rw [E3 hj]; exact h6
theorem b4o (hr : o4 s c6 = true) (hf : r7 s a6 = true) (hx : to ∈ r9 s c6 a6) : 0 < (dvF s c6 a6 to).length ∧ ∀ h0 : 0 < (dvF s c6 a6 to).length, 0 ≤ (dvF s c6 a6 to)[0] ∧ ∃ hj : (dvF s c6 a6 to)[0].toNat < a6.length, Q0 s c6 a6[(dvF s c6 a6 to)[0].toNat] ((dvF s c6 a6 to).drop 1) to := by
 rw [r9, hr, hf] at hx
 obtain ⟨j, hj, w, e, hl⟩ := b3z hr hf hx
 generalize dvF s c6 a6 to = D at e
 subst e
 refine ⟨by simp, fun h0 => ⟨by simp, by simpa using hj, by simpa using hl⟩⟩
theorem b1w {D : List Int} (hr : o4 s c6 = true) (h : Q0 s c6 f (D.drop k) x) (hk : k < D.length) : 0 ≤ D[k] ∧ ∃ hj : D[k].toNat < c6.length, G4 s c6[D[k].toNat] f = true ∧ I64 (C5 s c6[D[k].toNat] f) ∧ Q0 s c6 (C5 s c6[D[k].toNat] f, D5 s c6[D[k].toNat] f) (D.drop (k + 1)) x := by
 rw [List.drop_eq_getElem_cons hk] at h
 obtain ⟨h1, h2, h3, h4⟩ := h
 rw [E3 h2] at h3 h4
 refine ⟨h1, h2, h3, ?_, ?_⟩
 ·have ho := (F2 hr).2.2 _ (List.getElem_mem h2)
  simp only [t7, Bool.and_eq_true, D7, B8, inR, decide_eq_true_eq] at ho
  rw [C5, h3]
  show I64 (c6[D[k].toNat].2.1)
  unfold I64; omega
 ·rw [C5, D5, h3]; exact h4
theorem a9b {D : List Int} (h : Q0 s c6 f (D.drop k) x) (hk : ¬ k < D.length) : f = x := by
 rw [List.drop_eq_nil_of_le (by omega)] at h; exact h
theorem clR (hr : o4 s c6 = true) (hf : r7 s a6 = true) : r9 s c6 a6 = I4 c6 a6 ∧ C1 s c6 a6 = s6 c6 a6 := by
 rw [r9, C1, hr, hf]; exact ⟨rfl, rfl⟩
theorem a8x : (r9 s c6 a6).length ≤ 6024 := by
 unfold r9
 split
 ·rename_i h
  rw [Bool.and_eq_true] at h
  exact (a5c h.1 h.2).1
 ·exact Nat.zero_le _
theorem a9J (hr : o4 s c6 = true) (hf : r7 s a6 = true) : (a6.all fun x => w5 (r9 s c6 a6) x) = true := by rw [(clR hr hf).1]; exact b0N
theorem b1u (hr : o4 s c6 = true) (hf : r7 s a6 = true) : ((C1 s c6 a6).all fun x => w5 (r9 s c6 a6) x) = true := by rw [(clR hr hf).1, (clR hr hf).2]; exact b2S
theorem b2G (hr : o4 s c6 = true) (hf : r7 s a6 = true) : ((o4 s c6 && r7 s a6) && decide ((s6 c6 a6).length = 0)) = decide (((r9 s c6 a6).length : Int) = (a6.length : Int)) := by
 rw [(clR hr hf).1, hr, hf]; exact b3v hr hf
theorem b0R (h : t7 s r = true) : x6 r ≠ [] := by
 simp only [t7, Bool.and_eq_true, decide_eq_true_eq] at h
 obtain ⟨h1, h2, h3, h4⟩ := h
 have b1 := J4 h1
 have b2 := J4 h2
 have hs : s.length ≤ 3 := by
  simp only [D7, B8, Bool.and_eq_true, inR, decide_eq_true_eq] at h1; omega
 have hp : E4 r.2.2 3 = true := by
  simp only [E4, Bool.not_eq_true', List.any_eq_false, Bool.not_eq_true, at0] at h4 ⊢
  intro x hx
  have h5 : inR x 0 (s.getD r.1.toNat 0 - 1) = true := by simpa using h4 x hx
  have h6 : inR x 0 (3 - 1) = true := by
   simp only [inR, decide_eq_true_eq] at h5 ⊢; omega
  simpa using h6
 simp only [at0] at h3
 rw [x6, if_pos (by simp only [Bool.and_eq_true, inR, decide_eq_true_eq]; exact ⟨by omega, by omega, by omega, hp⟩)]
 simp
theorem a9U : (x6 r).length ≤ 1048576 := by
 unfold x6
 split
 ·rename_i h
  simp only [Bool.and_eq_true, inR, decide_eq_true_eq] at h
  have h1 := P7 (f := n9) (K := 21) (l := r.2.2) (n := 3) (sep := [44]) (fun x => F0) (by omega)
  have h2 := F0 (n := r.1)
  have h3 := F0 (n := r.2.1)
  simp only [List.length_append, List.length_cons, List.length_nil] at h1 ⊢
  omega
 ·simp
theorem a4d : (y7 s (x6 r)).2 = t7 s r ∧ ((y7 s (x6 r)).2 = true → x6 (y7 s (x6 r)).1 = x6 r) := by
 by_cases h0 : x6 r = []
 ·have e : t7 s r = false := by
   cases h : t7 s r with
   | false => rfl
   | true => exact absurd h0 (b0R h)
  rw [y7, h0, e, if_neg (by intro h; exact b3B h.1 rfl)]
  exact ⟨rfl, fun h => by cases h⟩
 ·obtain ⟨h1, h2⟩ := a7F h0
  rw [y7, h1]
  by_cases h : t7 s r = true
  ·rw [if_pos ⟨h2, h, rfl⟩, h]; exact ⟨rfl, fun _ => rfl⟩
  ·rw [if_neg fun x => h x.2.1]
   exact ⟨by simpa using h, fun h => by cases h⟩
end
end Go.Proofs.YtfnbilpemdgkkaaGreatDoor
