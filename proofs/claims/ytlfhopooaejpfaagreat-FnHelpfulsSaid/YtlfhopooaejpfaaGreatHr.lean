import Derived.Test.YtlfhopooaejpfaaGreatEn
namespace Go.Proofs.YtlfhopooaejpfaaGreat
set_option linter.unusedVariables false
set_option linter.unusedSimpArgs false
section
variable {s V W : List Int} {l : List Mth} {d4 rules' R : List Rul} {c6 facts' F F' X : List Fct} {m6 : List Int} {u : UU} {g n k : Nat} {f y : Fct} {r : Rul} {a : Acs} {S : NoS} {x : Lin} {q : List Int × List (Int × List Int)}
theorem b5j {out : List Fct} (h : y ∈ out) : y ∈ G5 F f out r := by
 unfold G5
 split
 ·split
  ·exact h
  ·exact a2P h
 ·exact h
theorem a6C : ∀ {R : List Rul} {out : List Fct}, y ∈ out → y ∈ R.foldl (G5 F f) out
 | [], _, h => h
 | r :: R, out, h => a6C (R := R) (b5j h)
theorem a9j : ∀ {fs out : List Fct}, y ∈ out → y ∈ fs.foldl (F7 R F) out
 | [], _, h => h
 | f :: fs, out, h => a9j (fs := fs) (a6C h)
theorem b1t : ∀ {R : List Rul} {out : List Fct}, r ∈ R → f.1 = r.1 → I5 F (r.2.1, vals r.2.2 f.2) = false → (r.2.1, vals r.2.2 f.2) ∈ R.foldl (G5 F f) out
 | r' :: R, out, hr, e, hn => by
  rcases List.mem_cons.1 hr with rfl | hr
  ·refine a6C (R := R) ?_
   rw [G5, if_pos e, if_neg (by rw [hn]; decide)]
   exact b1D _
  ·exact b1t (R := R) hr e hn
theorem b1f : ∀ {fs out : List Fct}, f ∈ fs → r ∈ R → f.1 = r.1 → I5 F (r.2.1, vals r.2.2 f.2) = false → (r.2.1, vals r.2.2 f.2) ∈ fs.foldl (F7 R F) out
 | f' :: fs, out, hf, hr, e, hn => by
  rcases List.mem_cons.1 hf with rfl | hf
  ·exact a9j (fs := fs) (b1t hr e hn)
  ·exact b1f (fs := fs) hf hr e hn
theorem b7o (h : l6 R F = []) (hr : r ∈ R) (hf : f ∈ F) (e : f.1 = r.1) : (r.2.1, vals r.2.2 f.2) ∈ F := by
 cases hh : I5 F (r.2.1, vals r.2.2 f.2) with
 | true => exact a0E.1 hh
 | false => have := b1f (out := []) hf hr e hh; rw [show F.foldl (F7 R F) [] = l6 R F from rfl, h] at this; cases this
theorem b4V (hR : ∀ r ∈ R, r ∈ d4) (hF : ∀ f ∈ F, f ∈ X) (hX : l6 d4 X = []) : ∀ y ∈ l6 R F, y ∈ X :=
 b3b fun r hr f hf e _ => b7o hX (hR r hr) (hF f hf) e
theorem b6f (h1 : C4 s d4 = true) (h2 : G4 s c6 = true) : l6 d4 (D0 d4 c6) = [] := by
 have hex : ∃ n, n ≤ 6000 ∧ l6 d4 (x5 d4 c6 n) = [] := Classical.byContradiction fun hn => by
  have hall : ∀ n, n ≤ 6001 → a5D d4 c6 n := by
   intro n
   induction n with
   | zero => intro _; exact a7p ⟨s, h1, h2⟩
   | succ n ih => intro hle; exact a7r (ih (by omega)) fun e => hn ⟨n, by omega, e⟩
  have := (a6e (hall 6001 (Nat.le_refl _))).1
  omega
 obtain ⟨n, hn, e⟩ := hex
 rw [← a6F (by omega) e]; exact e
theorem b7Z (hX : ∀ f ∈ F, f ∈ X) : ∀ {m : List Fct}, (∀ f ∈ m, f ∈ X) → ∀ f ∈ m.foldl w6 F, f ∈ X := fun {m} hm f hf => by
 rcases (a2c f).1 hf with h | h
 ·exact hX f h
 ·exact hm f h
theorem b5a (h1 : C4 s d4 = true) (h2 : G4 s c6 = true) (hR : ∀ r ∈ R, r ∈ d4) : ∀ f ∈ D0 R c6, f ∈ D0 d4 c6 := by
 have hX := b6f h1 h2
 have hit : ∀ n, ∀ f ∈ x5 R c6 n, f ∈ D0 d4 c6 := by
  intro n
  induction n with
  | zero =>
   intro f hf
   have : ∀ n, f ∈ x5 d4 c6 n := by
    intro n
    induction n with
    | zero => exact hf
    | succ n ih => exact (a2c f).2 (.inl ih)
   exact this 6001
  | succ n ih => exact b7Z ih (b4V hR ih hX)
 exact hit 6001
theorem b7r : y ∈ (notU S x).1 ↔ y ∈ S.1 ∨ y = x.2.2 := by
 unfold notU
 cases hh : I5 S.1 x.2.2 with
 | true =>
  rw [if_pos rfl]
  exact ⟨.inl, fun h => h.elim id fun e => e ▸ a0E.1 hh⟩
 | false =>
  rw [if_neg (by decide)]
  exact ⟨fun h => a0z h, fun h => h.elim a2P fun e => by rw [e]; exact a5j hh⟩
theorem a7E : ∀ {xs : List Lin} {S : NoS}, y ∈ (notes S xs).1 ↔ y ∈ S.1 ∨ ∃ x ∈ xs, y = x.2.2
 | [], S => by simp [notes]
 | x :: xs, S => by
  show y ∈ (notes (notU S x) xs).1 ↔ _
  rw [a7E (xs := xs), b7r]
  simp only [List.mem_cons, exists_eq_or_imp, or_assoc]
theorem a6o : ∀ {O : List Acs} {S : NoS}, y ∈ (rndA l c6 O S).1 ↔ y ∈ S.1 ∨ ∃ a ∈ O, y ∈ U5 l c6 a
 | [], S => by simp [rndA]
 | a :: O, S => by
  show y ∈ (rndA l c6 O (notes S ((U5 l c6 a).map (lnA a)))).1 ↔ _
  rw [a6o (O := O), a7E]
  simp only [List.mem_map, List.mem_cons, exists_eq_or_imp, or_assoc]
  constructor
  ·rintro (h | ⟨_, ⟨f, hf, rfl⟩, e⟩ | h)
   ·exact .inl h
   ·exact .inr (.inl (by rw [e]; exact hf))
   ·exact .inr (.inr h)
  ·rintro (h | h | h)
   ·exact .inl h
   ·exact .inr (.inl ⟨_, ⟨y, h, rfl⟩, rfl⟩)
   ·exact .inr (.inr h)
theorem b2U : y ∈ (H0 l d4 c6 u).1 ↔ (y ∈ u.1 ∨ ∃ a ∈ uO l u, y ∈ U5 l c6 a) ∨ y ∈ l6 d4 (uA l c6 u).1 := by
 show y ∈ (notes (uA l c6 u) (uD l d4 c6 u)).1 ↔ _
 rw [a7E]
 have e1 : y ∈ (uA l c6 u).1 ↔ (y ∈ u.1 ∨ ∃ a ∈ uO l u, y ∈ U5 l c6 a) := a6o (S := (u.1, u.2.2.2))
 rw [e1]
 refine or_congr Iff.rfl ⟨fun ⟨x, hx, e⟩ => ?_, fun h => ⟨lnR d4 (uA l c6 u).1 y, List.mem_map.2 ⟨y, h, rfl⟩, rfl⟩⟩
 obtain ⟨f, hf, rfl⟩ := List.mem_map.1 hx
 rw [e]; exact hf
def a7K (l : List Mth) (V : List Int) (a : Acs) : Prop := ∃ i : Nat, ∃ hi : i < l.length, a.1 = (i : Int) ∧ l[i].2.2.1 = 0 ∧ a.2 ∈ o6 V l[i].2.1.length
theorem a9o (h : ∀ v ∈ V, v ∈ W) : ∀ {n : Nat}, ∀ t ∈ o6 V n, t ∈ o6 W n
 | 0, t, ht => ht
 | n + 1, t, ht => by
  simp only [o6, List.mem_flatMap, List.mem_map] at ht ⊢
  obtain ⟨z, hz, v, hv, e⟩ := ht
  exact ⟨z, a9o h z hz, v, h v hv, e⟩
theorem a7K.mono (h : ∀ v ∈ V, v ∈ W) (hc : a7K l V a) : a7K l W a := by
 obtain ⟨i, hi, h1, h2, h3⟩ := hc
 exact ⟨i, hi, h1, h2, a9o h _ h3⟩
theorem b4z {log : List Acs} : ∀ {l : List Mth} {i : Int}, a ∈ d7 V log l i → ∃ k : Nat, ∃ hk : k < l.length, a.1 = i + k ∧ l[k].2.2.1 = 0 ∧ a.2 ∈ o6 V l[k].2.1.length
 | [], _, h => by simp [d7] at h
 | m :: l, i, h => by
  rw [d7] at h
  rcases List.mem_append.1 h with h | h
  ·split at h
   ·cases h
   ·rename_i hl
    obtain ⟨v, hv, rfl⟩ := List.mem_map.1 h
    exact ⟨0, by simp, by simp, Decidable.not_not.1 hl, (List.mem_filter.1 hv).1⟩
  ·obtain ⟨k, hk, h1, h2, h3⟩ := b4z h
   exact ⟨k + 1, by simpa using hk, by omega, by simpa using h2, by simpa using h3⟩
theorem b4I {log : List Acs} : ∀ {l : List Mth} {i : Int} {k : Nat} (hk : k < l.length), a.1 = i + k → l[k].2.2.1 = 0 → a.2 ∈ o6 V l[k].2.1.length → M0 log a = false → a ∈ d7 V log l i
 | m :: l, i, 0, hk, h1, h2, h3, h4 => by
  rw [d7]
  refine List.mem_append_left _ ?_
  have h2' : m.2.2.1 = 0 := h2
  rw [if_neg (by rw [h2']; simp)]
  have e : a = (i, a.2) := Prod.ext (by simpa using h1) rfl
  rw [e]
  refine List.mem_map.2 ⟨a.2, List.mem_filter.2 ⟨h3, ?_⟩, rfl⟩
  rw [← e, h4]; rfl
 | m :: l, i, k + 1, hk, h1, h2, h3, h4 => by
  rw [d7]
  exact List.mem_append_right _ (b4I (k := k) (by simpa using hk) (by omega) (by simpa using h2) (by simpa using h3) h4)
theorem b8M (h : a ∈ uO l u) : a7K l u.2.1 a := by
 obtain ⟨k, hk, h1, h2, h3⟩ := b4z h
 exact ⟨k, hk, by omega, h2, h3⟩
theorem b4q : ∀ {n : Nat}, ∀ a ∈ (uIt l d4 c6 m6 n).2.2.1, ∀ f ∈ U5 l c6 a, f ∈ (uIt l d4 c6 m6 n).1
 | 0, a, ha, _, _ => by simp [uIt] at ha
 | n + 1, a, ha, f, hf => by
  refine b2U.2 (.inl ?_)
  rcases List.mem_append.1 ha with ha | ha
  ·exact .inl (b4q a ha f hf)
  ·exact .inr ⟨a, ha, hf⟩
structure Fx (l : List Mth) (d4 : List Rul) (c6 : List Fct) (m6 : List Int) (u : UU) : Prop where
 call : ∀ a, a7K l u.2.1 a → ∀ f ∈ U5 l c6 a, f ∈ u.1
 rule : l6 d4 u.1 = []
 seed : ∀ v ∈ I2 (m6.filter fun t => inR t 0 9), v ∈ u.2.1
 val : ∀ f ∈ u.1, ∀ v ∈ f.2, v ∈ u.2.1
theorem b4R : ∀ {n : Nat}, C0 s l = true → C4 s d4 = true → a0B s c6 → ∀ v ∈ I2 (m6.filter fun t => inR t 0 9), v ∈ (uIt l d4 c6 m6 n).2.1
 | 0, _, _, _, v, hv => hv
 | n + 1, hm, hr, hf, v, hv => ((b2g (a1a (a2I hm hr hf n).vals).1).2 v).2 (.inl (b4R hm hr hf v hv))
theorem c0y (hm : C0 s l = true) (hr : C4 s d4 = true) (hf : a0B s c6) : Fx l d4 c6 m6 (H6 l d4 c6 m6) := by
 have hex : ∃ g, g ≤ 5325 ∧ (H0 l d4 c6 (uIt l d4 c6 m6 g)).2.2.2.length ≤ (uIt l d4 c6 m6 g).2.2.2.length := Classical.byContradiction fun hn => by
  have hall : ∀ n, n ≤ 5326 → n ≤ (uIt l d4 c6 m6 n).2.2.2.length := by
   intro n
   induction n with
   | zero => intro _; exact Nat.zero_le _
   | succ n ih =>
    intro hle
    have h1 := ih (by omega)
    have h2 : ¬ (H0 l d4 c6 (uIt l d4 c6 m6 n)).2.2.2.length ≤ (uIt l d4 c6 m6 n).2.2.2.length := fun h => hn ⟨n, by omega, h⟩
    have h3 : (uIt l d4 c6 m6 (n + 1)).2.2.2.length = (H0 l d4 c6 (uIt l d4 c6 m6 n)).2.2.2.length := rfl
    omega
  obtain ⟨N, hN⟩ : ∃ N : Nat, N = 5326 := ⟨_, rfl⟩
  have h1 := hall N (by omega)
  have h2 := (a2I (m6 := m6) hm hr hf N).n.len.1
  have h3 : (uIt l d4 c6 m6 N).2.2.2.length ≤ 5324 := h2
  omega
 obtain ⟨g, hg, e⟩ := hex
 have hi := a2I (m6 := m6) hm hr hf g
 have hs := b2c hm hr hf hi e
 have hx := b7i hm hr hf hi e
 have hfin : H6 l d4 c6 m6 = uIt l d4 c6 m6 (g + 1) := (b4S (by omega) hx).symm
 have i2 := a2I (m6 := m6) hm hr hf (g + 1)
 have e1 : (uIt l d4 c6 m6 (g + 1)).1 = (uIt l d4 c6 m6 g).1 := congrArg (fun z => z.1) hs.s
 rw [hfin]
 refine ⟨fun a ha f hfm => ?_, ?_, b4R hm hr hf, i2.cl⟩
 ·refine b4q a ?_ f hfm
  cases hh : M0 (uIt l d4 c6 m6 (g + 1)).2.2.1 a with
  | true =>
   obtain ⟨z, hz, e⟩ := List.any_eq_true.1 hh
   rw [← of_decide_eq_true e]; exact hz
  | false =>
   obtain ⟨i, hi, h1, h2, h3⟩ := ha
   have h4 : a ∈ uO l (uIt l d4 c6 m6 (g + 1)) := b4I (i := 0) hi (by omega) h2 h3 hh
   rw [show uO l (uIt l d4 c6 m6 (g + 1)) = [] from hs.o] at h4; cases h4
 ·have h1 := hs.m
  unfold uM at h1
  rw [hs.a] at h1
  rw [e1]; exact h1
theorem b6p (hm : C0 s l = true) (hr : C4 s R = true) (hf' : a0B s facts') (hX : Fx l d4 c6 m6 u) (hR : ∀ r ∈ R, r ∈ d4) (hF : ∀ f ∈ facts', f ∈ c6) : ∀ {n : Nat}, (∀ f ∈ (uIt l R facts' m6 n).1, f ∈ u.1) ∧ ∀ v ∈ (uIt l R facts' m6 n).2.1, v ∈ u.2.1
 | 0 => ⟨fun f hf => by simp [uIt] at hf, hX.seed⟩
 | n + 1 => by
  obtain ⟨ih1, ih2⟩ := b6p hm hr hf' hX hR hF (n := n)
  have hi := a2I (m6 := m6) hm hr hf' n
  have hA : ∀ f ∈ (uA l facts' (uIt l R facts' m6 n)).1, f ∈ u.1 := by
   intro f hf
   rcases (a6o (S := ((uIt l R facts' m6 n).1, (uIt l R facts' m6 n).2.2.2))).1 hf with hf | ⟨a, ha, hf⟩
   ·exact ih1 f hf
   ·refine hX.call a ((b8M ha).mono ih2) f ?_
    obtain ⟨h1, h2⟩ := List.mem_filter.1 hf
    exact List.mem_filter.2 ⟨hF f h1, h2⟩
  have h1 : ∀ f ∈ (uIt l R facts' m6 (n + 1)).1, f ∈ u.1 := by
   intro f hf
   rcases b2U.1 hf with hf | hf
   ·exact hA f (a6o.2 hf)
   ·exact b4V hR hA hX.rule f hf
  refine ⟨h1, fun v hv => ?_⟩
  rcases ((b2g (a1a hi.vals).1).2 v).1 hv with hv | ⟨f, hf, hv⟩
  ·exact ih2 v hv
  ·exact hX.val f (h1 f hf) v hv
theorem b6z (hr : C4 s d4 = true) (hR : ∀ r ∈ R, r ∈ d4) (h : X9 s l R q = true) : X9 s l d4 q = true := by
 simp only [X9, Bool.and_eq_true, List.any_eq_true] at h ⊢
 obtain ⟨⟨hm, hr'⟩, hq, hb, b, hb1, hb2⟩ := h
 have h0 := b5h hq hb
 have hX := c0y (m6 := a1k q) hm hr (a5e hr h0)
 have hu := (b6p hm hr' (a5e hr' h0) hX hR (b5a hr h0 hR) (n := 6000)).1
 exact ⟨⟨hm, hr⟩, hq, hb, b, b5w hu b hb1, hb2⟩
end
end Go.Proofs.YtlfhopooaejpfaaGreat
