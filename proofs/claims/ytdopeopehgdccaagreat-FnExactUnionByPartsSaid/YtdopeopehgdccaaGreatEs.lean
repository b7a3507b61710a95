import Derived.Test.YtdopeopehgdccaaGreatBu
import Derived.Test.YtdopeopehgdccaaGreatT25
namespace Go.Proofs.YtdopeopehgdccaaGreat
open Go.RowKit
set_option linter.unusedVariables false
set_option linter.unusedSimpArgs false
abbrev QT := List Int × List (Int × List Int)
abbrev QB := (Option Addr × Nat × Nat) × Option Addr × Nat × Nat
def dQ : QT := ([], [])
def dB : QB := ((none, 0, 0), none, 0, 0)
def a3U {α : Type} (d : α) (xs : List α) (is : List Nat) : List α := is.map fun i => xs.getD i d
def M0 {α : Type} (d : α) (xs : List α) (is : List Nat) (n : Nat) : List α := a3U d xs is ++ xs.drop n
def a0K {α : Type} (d : α) (xs : List α) (is : List Nat) (n : Nat) : List α := a3U d xs is ++ xs.drop (n + 1)
section
variable {α : Type} {d : α} {xs : List α} {is : List Nat} {n : Nat}
theorem a6q : (a3U d xs is).length = is.length := by simp [a3U]
theorem b1r (h : n < xs.length) : (M0 d xs is n)[is.length]? = some xs[n] := by
 unfold M0
 rw [List.getElem?_append_right (by rw [a6q]; omega), a6q, Nat.sub_self, List.drop_eq_getElem_cons h]; rfl
theorem b1n : (M0 d xs is n).length = is.length + (xs.length - n) := by simp [M0, a6q]
theorem b4J : (M0 d xs is n).take is.length ++ (M0 d xs is n).drop (is.length + 1) = a0K d xs is n := by
 unfold M0 a0K
 have h1 : (a3U d xs is).length = is.length := a6q
 rw [← h1, List.take_left', List.drop_append, List.drop_eq_nil_of_le (by omega), List.nil_append, show (a3U d xs is).length + 1 - (a3U d xs is).length = 1 from by omega, List.drop_drop]
 rfl
theorem b7q : (M0 d xs is n).take is.length ++ (M0 d xs is n).drop (((is.length : Int)) + 1).toNat = a0K d xs is n := by rw [show (((is.length : Int)) + 1).toNat = is.length + 1 from by omega, b4J]
theorem b7v : (M0 d xs is n).eraseIdx is.length = a0K d xs is n := by rw [List.eraseIdx_eq_take_drop_succ, b4J]
theorem b9Z (h : n < xs.length) : M0 d xs is n = M0 d xs (is ++ [n]) (n + 1) := by
 unfold M0 a3U
 rw [List.map_append, List.append_assoc, List.drop_eq_getElem_cons h]
 simp [List.getD, h]
theorem b3D {k g : Nat} (h : g < xs.length) : (xs.take (g + 1)).eraseIdx k = (xs.take g).eraseIdx k ++ (if g = k then [] else [xs[g]]) := by
 rw [List.take_succ_eq_append_getElem h]
 have hl : (xs.take g).length = g := by simp; omega
 rcases Nat.lt_trichotomy g k with hk | hk | hk
 ·rw [List.eraseIdx_of_length_le (by simp; omega), List.eraseIdx_of_length_le (by omega), if_neg (by omega)]
 ·subst hk
  rw [if_pos rfl, List.append_nil, List.eraseIdx_append_of_length_le (by omega), List.eraseIdx_of_length_le (l := xs.take g) (by omega), hl, Nat.sub_self]
  simp
 ·rw [if_neg (by omega), List.eraseIdx_append_of_lt_length (by omega)]
theorem b6l {k g : Nat} {i : Int} (h : g < xs.length) (hk : ¬ (g : Int) = i) (hi : k = i.toNat) (hi0 : 0 ≤ i) : (xs.take g).eraseIdx k ++ [xs[g]] = (xs.take (g + 1)).eraseIdx k := by
 rw [b3D h, if_neg (by omega)]
theorem b0p {k g : Nat} {i : Int} (h : g < xs.length) (hk : (g : Int) = i) (hi : k = i.toNat) : (xs.take g).eraseIdx k = (xs.take (g + 1)).eraseIdx k := by
 rw [b3D h, if_pos (by omega), List.append_nil]
end
def F4 (s : List Int) (u : List QT) : Nat → List Nat
 | 0 => []
 | n + 1 => cond (a0Y s (a0K dQ u (F4 s u n) n) (u.getD n dQ)) (F4 s u n) (F4 s u n ++ [n])
def o8 (s : List Int) (u : List QT) : List QT := cond (J4 s u) (M0 dQ u (F4 s u u.length) u.length) u
section
variable {s : List Int} {u : List QT} {n g : Nat}
theorem a1T : ∀ {n : Nat}, ∀ i ∈ F4 s u n, i < n
 | 0, i, h => by cases h
 | n + 1, i, h => by
  rw [F4] at h
  cases hc : a0Y s (a0K dQ u (F4 s u n) n) (u.getD n dQ)
  ·rw [hc] at h
   rcases List.mem_append.1 h with h | h
   ·exact Nat.lt_succ_of_lt (a1T i h)
   ·simp at h; omega
  ·rw [hc] at h; exact Nat.lt_succ_of_lt (a1T i h)
theorem a8T : (F4 s u n).length ≤ n := by
 induction n with
 | zero => exact Nat.le_refl _
 | succ n ih =>
  rw [F4]
  cases a0Y s (a0K dQ u (F4 s u n) n) (u.getD n dQ)
  ·simp; omega
  ·simp only [cond_true]; omega
theorem b2S (h : n < u.length) (hc : a0Y s (a0K dQ u (F4 s u n) n) u[n] = true) : F4 s u (n + 1) = F4 s u n := by
 rw [F4, show u.getD n dQ = u[n] from by simp [List.getD, h], hc]; rfl
theorem b5g (h : n < u.length) (hc : a0Y s (a0K dQ u (F4 s u n) n) u[n] = false) : F4 s u (n + 1) = F4 s u n ++ [n] := by
 rw [F4, show u.getD n dQ = u[n] from by simp [List.getD, h], hc]; rfl
theorem a7u {α : Type} {d : α} {xs : List α} (h : n < u.length) (hc : a0Y s (a0K dQ u (F4 s u n) n) u[n] = true) : a0K d xs (F4 s u n) n = M0 d xs (F4 s u (n + 1)) (n + 1) := by rw [b2S h hc]; rfl
theorem a2F {α : Type} {d : α} {xs : List α} (h : n < u.length) (hx : n < xs.length) (hc : a0Y s (a0K dQ u (F4 s u n) n) u[n] = false) : M0 d xs (F4 s u n) n = M0 d xs (F4 s u (n + 1)) (n + 1) := by rw [b5g h hc, b9Z hx]
theorem a5j (h : n < u.length) (hc : a0Y s (a0K dQ u (F4 s u n) n) u[n] = true) : ((F4 s u n).length : Int) = ((F4 s u (n + 1)).length : Int) := by rw [b2S h hc]
theorem a5f (h : n < u.length) (hc : a0Y s (a0K dQ u (F4 s u n) n) u[n] = false) : ((F4 s u n).length : Int) + 1 = ((F4 s u (n + 1)).length : Int) := by rw [b5g h hc]; simp
theorem b6D (hu : J4 s u = true) (h : ¬ n < u.length) (hn : n ≤ u.length) : M0 dQ u (F4 s u n) n = o8 s u := by
 rw [o8, hu, show n = u.length from by omega]; rfl
theorem b3Q (hu : J4 s u = false) : u = o8 s u := by rw [o8, hu]; rfl
theorem a7U {α : Type} {d : α} {xs : List α} {is : List Nat} (hi : ∀ i ∈ is, i < xs.length) {x : α} (hx : x ∈ M0 d xs is n) : x ∈ xs := by
 unfold M0 a3U at hx
 rcases List.mem_append.1 hx with hx | hx
 ·obtain ⟨i, h1, rfl⟩ := List.mem_map.1 hx
  have h2 := hi i h1
  simp only [List.getD, List.getElem?_eq_getElem h2, Option.getD_some]
  exact List.getElem_mem h2
 ·exact List.mem_of_mem_drop hx
theorem b5o {α : Type} {d : α} {xs : List α} {is : List Nat} (hi : ∀ i ∈ is, i < xs.length) {x : α} (hx : x ∈ a0K d xs is n) : x ∈ xs := a7U (n := n + 1) hi hx
theorem b5n {q : QT} (h : q ∈ o8 s u) : q ∈ u := by
 rw [o8] at h
 cases hu : J4 s u
 ·rw [hu] at h; exact h
 ·rw [hu] at h; exact a7U (fun i hi => a1T i hi) h
theorem a8d : (o8 s u).length ≤ u.length := by
 rw [o8]
 cases J4 s u
 ·exact Nat.le_refl _
 ·simp only [cond_true, b1n]
  have := a8T (s := s) (u := u) (n := u.length)
  omega
end
section
variable {α β : Type} {E : Enc α} {f : β → List Value} {w : World} {L : List Nat} {ys : List β} {xs : List α} {d : β} {d' : α} {is : List Nat} {n : Nat}
theorem c2h (h : Bor w L E f ys xs) (hi : ∀ i ∈ is, i < ys.length) : Bor w L E f (M0 d ys is n) (M0 d' xs is n) := Bor.app (b1E d d' h hi) (Bor.drop n h)
theorem Bor.del (h : Bor w L E f ys xs) (hi : ∀ i ∈ is, i < ys.length) : Bor w L E f (a0K d ys is n) (a0K d' xs is n) := Bor.app (b1E d d' h hi) (Bor.drop (n + 1) h)
theorem b5X (hf : ∀ y, (f y).length = E.k) {zs' zs : List (β × α)} (h : zs'.Sublist zs) : ∀ {L : List Nat}, B0 E w ((zs.map fun z => z.1).flatMap f) (zs.map fun z => z.2) L true → ∃ L', L'.Sublist L ∧ B0 E w ((zs'.map fun z => z.1).flatMap f) (zs'.map fun z => z.2) L' true := by
 induction h with
 | slnil => intro L hL; exact ⟨L, List.Sublist.refl _, hL⟩
 | cons a _ ih =>
  rintro L ⟨c1, c2, L1, L2, h1, rfl, h3, h4⟩
  simp only [List.map_cons, List.flatMap_cons] at h1
  obtain ⟨e1, e2⟩ := List.append_inj h1 ((hf a.1).trans (E.len h3).symm)
  subst e2
  obtain ⟨L', k1, k2⟩ := ih h4
  exact ⟨L', k1.trans (List.sublist_append_right _ _), k2⟩
 | cons_cons a _ ih =>
  rintro L ⟨c1, c2, L1, L2, h1, rfl, h3, h4⟩
  simp only [List.map_cons, List.flatMap_cons] at h1
  obtain ⟨e1, e2⟩ := List.append_inj h1 ((hf a.1).trans (E.len h3).symm)
  subst e1; subst e2
  obtain ⟨L', k1, k2⟩ := ih h4
  exact ⟨L1 ++ L', (List.Sublist.refl L1).append k1, _, _, L1, L', by simp only [List.map_cons, List.flatMap_cons], rfl, h3, k2⟩
theorem b3C {γ : Type} {s : List Int} {u : List QT} {zs : List γ} {d : γ} : ∀ {n : Nat}, n ≤ zs.length → (a3U d zs (F4 s u n)).Sublist (zs.take n)
 | 0, _ => by simp [F4, a3U]
 | n + 1, h => by
  have ih := b3C (d := d) (zs := zs) (s := s) (u := u) (n := n) (by omega)
  rw [List.take_succ_eq_append_getElem (by omega), F4]
  cases a0Y s (a0K dQ u (F4 s u n) n) (u.getD n dQ)
  ·simp only [cond_false]
   unfold a3U at *
   rw [List.map_append]
   refine ih.append ?_
   simp [List.getD, show n < zs.length from by omega]
  ·exact ih.trans (List.sublist_append_left _ _)
theorem b7L {γ : Type} {s : List Int} {u : List QT} {zs : List γ} {d : γ} (hn : n ≤ zs.length) : (M0 d zs (F4 s u n) n).Sublist zs := by
 have h := (b3C (d := d) (zs := zs) (s := s) (u := u) hn).append (List.Sublist.refl (zs.drop n))
 rwa [List.take_append_drop] at h
theorem b4Q {γ : Type} {g : α → γ} {d : α} (hi : ∀ i ∈ is, i < xs.length) : (M0 d xs is n).map g = M0 (g d) (xs.map g) is n := by
 unfold M0 a3U
 rw [List.map_append, List.map_map, List.map_drop]
 congr 1
 refine List.map_congr_left fun i h => ?_
 have := hi i h
 simp [List.getD, this]
variable {k : Nat} {w0 : World} {L0 : List Nat} {fr : Fr} {H R : List HP} {G : Act → World → Prop}
theorem b5V {s : List Int} {u : List QT} (hf : ∀ y, (f y).length = E.k) (hl : ys.length = xs.length) (hn : n ≤ xs.length) (h : Ent k w0 L0 fr (els E ((M0 d ys (F4 s u n) n).flatMap f) (M0 d' xs (F4 s u n) n) :: R) G) : Ent k w0 L0 fr (els E (ys.flatMap f) xs :: R) G := fun a w h1 h2 => by
 refine h a w h1 (Hp.turnL (A := [els E (ys.flatMap f) xs]) (A' := [_]) (R := R) h2 ?_)
 rintro L ⟨L1, L2, rfl, h3, h4⟩ hN
 rw [Sep] at h4; subst h4
 have e1 : (ys.zip xs).map (fun z => z.1) = ys := by rw [show (fun z : β × α => z.1) = Prod.fst from rfl, List.map_fst_zip (by omega)]
 have e2 : (ys.zip xs).map (fun z => z.2) = xs := by rw [show (fun z : β × α => z.2) = Prod.snd from rfl, List.map_snd_zip (by omega)]
 have h3' : B0 E w (((ys.zip xs).map fun z => z.1).flatMap f) ((ys.zip xs).map fun z => z.2) L1 true := by rw [e1, e2]; exact h3
 have hz : (ys.zip xs).length = xs.length := by rw [List.length_zip]; omega
 obtain ⟨L', k1, k2⟩ := b5X hf (b7L (d := (d, d')) (s := s) (u := u) (n := n) (by omega)) h3'
 rw [b4Q (fun i hi => by have := a1T i hi; omega), b4Q (fun i hi => by have := a1T i hi; omega), e1, e2] at k2
 have hs : ∀ b ∈ L', b ∈ L1 ++ [] := fun b hb => by simp [k1.mem hb]
 refine ⟨L' ++ [], ⟨L', [], rfl, k2, rfl⟩, ?_, ⟨rfl, rfl, rfl, Nat.le_refl _, fun _ _ _ => rfl, fun b hb => .inl (hs b (by simpa using hb))⟩⟩
 simp only [List.append_nil] at hN ⊢
 exact hN.sublist k1
end
theorem a2X {γ : Type} {d : γ} {xs : List γ} {is : List Nat} {n : Nat} (h : n < xs.length) : (M0 d xs is n).set is.length xs[n] = M0 d xs is n := by
 have h1 := b1r (d := d) (is := is) h
 obtain ⟨h2, h3⟩ := List.getElem?_eq_some_iff.1 h1
 rw [← h3, List.set_getElem_self]
theorem a6a {u : List (List Int × List (Int × List Int))} {n : Nat} (h : B9 (fun x => x.1.length + B9 (fun x => x.2.length) x.2) u ≤ n) : ∀ q ∈ u, q.1.length ≤ n := fun q hq => Nat.le_trans (Nat.le_add_right _ _) (b1w h q hq)
end Go.Proofs.YtdopeopehgdccaaGreat
