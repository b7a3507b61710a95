import Derived.Test.YthapcdhdfaibkaaGreatDoorT23
namespace Go.Proofs.YthapcdhdfaibkaaGreatDoor
set_option linter.unusedVariables false
set_option linter.unusedSimpArgs false
section
variable {s V W : List Int} {l : List Mth} {d4 rules' R : List Rul} {a8 facts' F F' X : List Fct} {d6 : List Int} {u : UU} {g n k : Nat} {f y : Fct} {r : Rul} {a : Acs} {S : NoS} {x : Lin} {q : List Int × List (Int × List Int)}
theorem b3b {out : List Fct} (h : y ∈ out) : y ∈ E0 F f out r := by
 unfold E0
 split
 ·split
  ·exact h
  ·exact a3l h
 ·exact h
theorem a5K : ∀ {R : List Rul} {out : List Fct}, y ∈ out → y ∈ R.foldl (E0 F f) out
 | [], _, h => h
 | r :: R, out, h => a5K (R := R) (b3b h)
theorem a8E : ∀ {fs out : List Fct}, y ∈ out → y ∈ fs.foldl (D6 R F) out
 | [], _, h => h
 | f :: fs, out, h => a8E (fs := fs) (a5K h)
theorem a9G : ∀ {R : List Rul} {out : List Fct}, r ∈ R → f.1 = r.1 → F3 F (r.2.1, vals r.2.2 f.2) = false → (r.2.1, vals r.2.2 f.2) ∈ R.foldl (E0 F f) out
 | r' :: R, out, hr, e, hn => by
  rcases List.mem_cons.1 hr with rfl | hr
  ·refine a5K (R := R) ?_
   rw [E0, if_pos e, if_neg (by rw [hn]; decide)]
   exact b4b _
  ·exact a9G (R := R) hr e hn
theorem b0c : ∀ {fs out : List Fct}, f ∈ fs → r ∈ R → f.1 = r.1 → F3 F (r.2.1, vals r.2.2 f.2) = false → (r.2.1, vals r.2.2 f.2) ∈ fs.foldl (D6 R F) out
 | f' :: fs, out, hf, hr, e, hn => by
  rcases List.mem_cons.1 hf with rfl | hf
  ·exact a8E (fs := fs) (a9G hr e hn)
  ·exact b0c (fs := fs) hf hr e hn
theorem b1M (h : n9 R F = []) (hr : r ∈ R) (hf : f ∈ F) (e : f.1 = r.1) : (r.2.1, vals r.2.2 f.2) ∈ F := by
 cases hh : F3 F (r.2.1, vals r.2.2 f.2) with
 | true => exact V8.1 hh
 | false => have := b0c (out := []) hf hr e hh; rw [show F.foldl (D6 R F) [] = n9 R F from rfl, h] at this; cases this
theorem b6Z (hR : ∀ r ∈ R, r ∈ d4) (hF : ∀ f ∈ F, f ∈ X) (hX : n9 d4 X = []) : ∀ y ∈ n9 R F, y ∈ X :=
 a7Z fun r hr f hf e _ => b1M hX (hR r hr) (hF f hf) e
theorem b5g : y ∈ (notU S x).1 ↔ y ∈ S.1 ∨ y = x.2.2 := by
 unfold notU
 cases hh : F3 S.1 x.2.2 with
 | true =>
  rw [if_pos rfl]
  exact ⟨.inl, fun h => h.elim id fun e => e ▸ V8.1 hh⟩
 | false =>
  rw [if_neg (by decide)]
  exact ⟨fun h => a1R h, fun h => h.elim a3l fun e => by rw [e]; exact a4N hh⟩
theorem a6L : ∀ {xs : List Lin} {S : NoS}, y ∈ (notes S xs).1 ↔ y ∈ S.1 ∨ ∃ x ∈ xs, y = x.2.2
 | [], S => by simp [notes]
 | x :: xs, S => by
  show y ∈ (notes (notU S x) xs).1 ↔ _
  rw [a6L (xs := xs), b5g]
  simp only [List.mem_cons, exists_eq_or_imp, or_assoc]
theorem a5S : ∀ {O : List Acs} {S : NoS}, y ∈ (rndA l a8 O S).1 ↔ y ∈ S.1 ∨ ∃ a ∈ O, y ∈ M5 l a8 a
 | [], S => by simp [rndA]
 | a :: O, S => by
  show y ∈ (rndA l a8 O (notes S ((M5 l a8 a).map (lnA a)))).1 ↔ _
  rw [a5S (O := O), a6L]
  simp only [List.mem_map, List.mem_cons, exists_eq_or_imp, or_assoc]
  constructor
  ·rintro (h | ⟨_, ⟨f, hf, rfl⟩, e⟩ | h)
   ·exact .inl h
   ·exact .inr (.inl (by rw [e]; exact hf))
   ·exact .inr (.inr h)
  ·rintro (h | h | h)
   ·exact .inl h
   ·exact .inr (.inl ⟨_, ⟨y, h, rfl⟩, rfl⟩)
   ·exact .inr (.inr h)
theorem b1N : y ∈ (E8 l d4 a8 u).1 ↔ (y ∈ u.1 ∨ ∃ a ∈ uO l u, y ∈ M5 l a8 a) ∨ y ∈ n9 d4 (uA l a8 u).1 := by
 show y ∈ (notes (uA l a8 u) (uD l d4 a8 u)).1 ↔ _
 rw [a6L]
 have e1 : y ∈ (uA l a8 u).1 ↔ (y ∈ u.1 ∨ ∃ a ∈ uO l u, y ∈ M5 l a8 a) := a5S (S := (u.1, u.2.2.2))
 rw [e1]
 refine or_congr Iff.rfl ⟨fun ⟨x, hx, e⟩ => ?_, fun h => ⟨lnR d4 (uA l a8 u).1 y, List.mem_map.2 ⟨y, h, rfl⟩, rfl⟩⟩
 obtain ⟨f, hf, rfl⟩ := List.mem_map.1 hx
 rw [e]; exact hf
def a4o (l : List Mth) (V : List Int) (a : Acs) : Prop := ∃ i : Nat, ∃ hi : i < l.length, a.1 = (i : Int) ∧ l[i].2.2.1 = 0 ∧ a.2 ∈ o2 V l[i].2.1.length
theorem a8X (h : ∀ v ∈ V, v ∈ W) : ∀ {n : Nat}, ∀ t ∈ o2 V n, t ∈ o2 W n
 | 0, t, ht => ht
 | n + 1, t, ht => by
  simp only [o2, List.mem_flatMap, List.mem_map] at ht ⊢
  obtain ⟨z, hz, v, hv, e⟩ := ht
  exact ⟨z, a8X h z hz, v, h v hv, e⟩
theorem a4o.mono (h : ∀ v ∈ V, v ∈ W) (hc : a4o l V a) : a4o l W a := by
 obtain ⟨i, hi, h1, h2, h3⟩ := hc
 exact ⟨i, hi, h1, h2, a8X h _ h3⟩
theorem a9k {log : List Acs} : ∀ {l : List Mth} {i : Int}, a ∈ c8 V log l i → ∃ k : Nat, ∃ hk : k < l.length, a.1 = i + k ∧ l[k].2.2.1 = 0 ∧ a.2 ∈ o2 V l[k].2.1.length
 | [], _, h => by simp [c8] at h
 | m :: l, i, h => by
  rw [c8] at h
  rcases List.mem_append.1 h with h | h
  ·split at h
   ·cases h
   ·rename_i hl
    obtain ⟨v, hv, rfl⟩ := List.mem_map.1 h
    exact ⟨0, by simp, by simp, Decidable.not_not.1 hl, (List.mem_filter.1 hv).1⟩
  ·obtain ⟨k, hk, h1, h2, h3⟩ := a9k h
   exact ⟨k + 1, by simpa using hk, by omega, by simpa using h2, by simpa using h3⟩
theorem b2h {log : List Acs} : ∀ {l : List Mth} {i : Int} {k : Nat} (hk : k < l.length), a.1 = i + k → l[k].2.2.1 = 0 → a.2 ∈ o2 V l[k].2.1.length → Q5 log a = false → a ∈ c8 V log l i
 | m :: l, i, 0, hk, h1, h2, h3, h4 => by
  rw [c8]
  refine List.mem_append_left _ ?_
  have h2' : m.2.2.1 = 0 := h2
  rw [if_neg (by rw [h2']; simp)]
  have e : a = (i, a.2) := Prod.ext (by simpa using h1) rfl
  rw [e]
  refine List.mem_map.2 ⟨a.2, List.mem_filter.2 ⟨h3, ?_⟩, rfl⟩
  rw [← e, h4]; rfl
 | m :: l, i, k + 1, hk, h1, h2, h3, h4 => by
  rw [c8]
  exact List.mem_append_right _ (b2h (k := k) (by simpa using hk) (by omega) (by simpa using h2) (by simpa using h3) h4)
theorem b6v (h : a ∈ uO l u) : a4o l u.2.1 a := by
 obtain ⟨k, hk, h1, h2, h3⟩ := a9k h
 exact ⟨k, hk, by omega, h2, h3⟩
theorem b2K : ∀ {n : Nat}, ∀ a ∈ (uIt l d4 a8 d6 n).2.2.1, ∀ f ∈ M5 l a8 a, f ∈ (uIt l d4 a8 d6 n).1
 | 0, a, ha, _, _ => by simp [uIt] at ha
 | n + 1, a, ha, f, hf => by
  refine b1N.2 (.inl ?_)
  rcases List.mem_append.1 ha with ha | ha
  ·exact .inl (b2K a ha f hf)
  ·exact .inr ⟨a, ha, hf⟩
structure Fx (l : List Mth) (d4 : List Rul) (a8 : List Fct) (d6 : List Int) (u : UU) : Prop where
 call : ∀ a, a4o l u.2.1 a → ∀ f ∈ M5 l a8 a, f ∈ u.1
 rule : n9 d4 u.1 = []
 seed : ∀ v ∈ H6 (d6.filter fun t => inR t 0 9), v ∈ u.2.1
 val : ∀ f ∈ u.1, ∀ v ∈ f.2, v ∈ u.2.1
theorem b2I : ∀ {n : Nat}, B3 s l = true → B7 s d4 = true → a0t s a8 → ∀ v ∈ H6 (d6.filter fun t => inR t 0 9), v ∈ (uIt l d4 a8 d6 n).2.1
 | 0, _, _, _, v, hv => hv
 | n + 1, hm, hr, hf, v, hv => ((a8V (a0z (a2z hm hr hf n).vals).1).2 v).2 (.inl (b2I hm hr hf v hv))
theorem b4H (hm : B3 s l = true) (hr : B7 s d4 = true) (hf : a0t s a8) : Fx l d4 a8 d6 (B2 l d4 a8 d6) := by
 have hex : ∃ g, g ≤ 5325 ∧ (E8 l d4 a8 (uIt l d4 a8 d6 g)).2.2.2.length ≤ (uIt l d4 a8 d6 g).2.2.2.length := Classical.byContradiction fun hn => by
  have hall : ∀ n, n ≤ 5326 → n ≤ (uIt l d4 a8 d6 n).2.2.2.length := by
   intro n
   induction n with
   | zero => intro _; exact Nat.zero_le _
   | succ n ih =>
    intro hle
    have h1 := ih (by omega)
    have h2 : ¬ (E8 l d4 a8 (uIt l d4 a8 d6 n)).2.2.2.length ≤ (uIt l d4 a8 d6 n).2.2.2.length := fun h => hn ⟨n, by omega, h⟩
    have h3 : (uIt l d4 a8 d6 (n + 1)).2.2.2.length = (E8 l d4 a8 (uIt l d4 a8 d6 n)).2.2.2.length := rfl
    omega
  obtain ⟨N, hN⟩ : ∃ N : Nat, N = 5326 := ⟨_, rfl⟩
  have h1 := hall N (by omega)
  have h2 := (a2z (d6 := d6) hm hr hf N).n.len.1
  have h3 : (uIt l d4 a8 d6 N).2.2.2.length ≤ 5324 := h2
  omega
 obtain ⟨g, hg, e⟩ := hex
 have hi := a2z (d6 := d6) hm hr hf g
 have hs := b0L hm hr hf hi e
 have hx := b5j hm hr hf hi e
 have hfin : B2 l d4 a8 d6 = uIt l d4 a8 d6 (g + 1) := (b2B (by omega) hx).symm
 have i2 := a2z (d6 := d6) hm hr hf (g + 1)
 have e1 : (uIt l d4 a8 d6 (g + 1)).1 = (uIt l d4 a8 d6 g).1 := congrArg (fun z => z.1) hs.s
 rw [hfin]
 refine ⟨fun a ha f hfm => ?_, ?_, b2I hm hr hf, i2.cl⟩
 ·refine b2K a ?_ f hfm
  cases hh : Q5 (uIt l d4 a8 d6 (g + 1)).2.2.1 a with
  | true =>
   obtain ⟨z, hz, e⟩ := List.any_eq_true.1 hh
   rw [← of_decide_eq_true e]; exact hz
  | false =>
   obtain ⟨i, hi, h1, h2, h3⟩ := ha
   have h4 : a ∈ uO l (uIt l d4 a8 d6 (g + 1)) := b2h (i := 0) hi (by omega) h2 h3 hh
   rw [show uO l (uIt l d4 a8 d6 (g + 1)) = [] from hs.o] at h4; cases h4
 ·have h1 := hs.m
  unfold uM at h1
  rw [hs.a] at h1
  rw [e1]; exact h1
end
end Go.Proofs.YthapcdhdfaibkaaGreatDoor
