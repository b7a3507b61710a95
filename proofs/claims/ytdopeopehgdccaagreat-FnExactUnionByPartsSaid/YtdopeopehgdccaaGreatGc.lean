import Derived.Test.YtdopeopehgdccaaGreatBu
import Derived.Test.YtdopeopehgdccaaGreatGa
section
namespace Go.Proofs.YtdopeopehgdccaaGreat
set_option linter.unusedVariables false
def S7 (m : Int × (Option Addr × Nat × Nat) × Int × Int × Int) : Int × (Option Addr × Nat × Nat) × Int × Int × Int := cond (decide (m.2.2.1 ≠ 0)) (-1, m.2) m
def exB (l : List (Int × (Option Addr × Nat × Nat) × Int × Int × Int)) : List (Int × (Option Addr × Nat × Nat) × Int × Int × Int) := l.map S7
section
variable {l : List (Int × (Option Addr × Nat × Nat) × Int × Int × Int)} {xs : List MT5} {g : Nat} {w : World} {L : List Nat}
theorem b9e : ((l.take g).map S7 ++ l.drop g).length = l.length := by rw [List.length_append, List.length_map, ← List.length_append, List.take_append_drop]
theorem c0q (h : g < l.length) : ((l.take g).map S7 ++ l.drop g)[g]? = some l[g] := by
 rw [List.getElem?_append_right (by simp; omega)]
 simp [Nat.min_eq_left (Nat.le_of_lt h), h]
theorem b6d (h : g < l.length) {x : Int × (Option Addr × Nat × Nat) × Int × Int × Int} (hx : x = S7 l[g]) : ((l.take g).map S7 ++ l.drop g).set g x = (l.take (g + 1)).map S7 ++ l.drop (g + 1) := by
 have h1 : ((l.take g).map S7).length = g := by simp; omega
 rw [List.set_append, if_neg (by omega), h1, Nat.sub_self, List.drop_eq_getElem_cons h, List.set_cons_zero, List.take_succ_eq_append_getElem h, List.map_append, List.append_assoc, hx]; rfl
theorem b8X (h : g < l.length) (hx : l[g].2.2.1 ≠ 0) : ((l.take g).map S7 ++ l.drop g).set g (-1, l[g].2.1, l[g].2.2.1, l[g].2.2.2.1, l[g].2.2.2.2) = (l.take (g + 1)).map S7 ++ l.drop (g + 1) := b6d h (by unfold S7; rw [decide_eq_true hx]; rfl)
theorem b9u (h : g < l.length) (hx : ¬ l[g].2.2.1 ≠ 0) : ((l.take g).map S7 ++ l.drop g).set g l[g] = (l.take (g + 1)).map S7 ++ l.drop (g + 1) := b6d h (by unfold S7; rw [decide_eq_false hx]; rfl)
theorem b5a (h : g < l.length) {x : Int × (Option Addr × Nat × Nat) × Int × Int × Int} (hx : x = S7 l[g]) : (l.take g).map S7 ++ [x] = (l.take (g + 1)).map S7 := by
 rw [List.take_succ_eq_append_getElem h, List.map_append, hx]; rfl
theorem b2W (h : g < l.length) (hx : l[g].2.2.1 ≠ 0) : (l.take g).map S7 ++ [(-1, l[g].2.1, l[g].2.2.1, l[g].2.2.2.1, l[g].2.2.2.2)] = (l.take (g + 1)).map S7 := b5a h (by unfold S7; rw [decide_eq_true hx]; rfl)
theorem b3e (h : g < l.length) (hx : ¬ l[g].2.2.1 ≠ 0) : (l.take g).map S7 ++ [l[g]] = (l.take (g + 1)).map S7 := b5a h (by unfold S7; rw [decide_eq_false hx]; rfl)
theorem c0a (h : ¬ g < l.length) : (l.take g).map S7 = exB l := by rw [List.take_of_length_le (by omega)]; rfl
theorem b8W (h : ¬ g < l.length) : (l.take g).map S7 ++ l.drop g = exB l := by
 rw [List.take_of_length_le (by omega), List.drop_eq_nil_of_le (by omega), List.append_nil]; rfl
theorem b5D (h : Bor w L S5 a0F l xs) : Bor w L S5 a0F (exB l) (exF xs) := by
 refine h.map fun y x hx => ?_
 have hp := a6Y hx
 obtain ⟨h1, h2, h3, h4, h5⟩ := hp
 unfold S7 exM
 rw [h3]
 cases decide (x.2.2.1 ≠ 0)
 ·exact hx
 ·simp only [cond_true]
  obtain ⟨a0, c0, e, i0, r1, i2, i3, i4⟩ := K4 hx
  rw [show a0F (-1, y.2) = [.int .i64 (-1 : Int), .slice y.2.1.1 y.2.1.2.1 y.2.1.2.2, .int .i64 x.2.2.1, .int .i64 x.2.2.2.1, .int .i64 x.2.2.2.2] from by rw [← h3, ← h4, ← h5]; rfl]
  exact a8M (x := (-1, x.2)) (by unfold I64; omega) h2 i2 i3 i4
end
end Go.Proofs.YtdopeopehgdccaaGreat
end
section
namespace Go.Proofs.YtdopeopehgdccaaGreat
set_option linter.unusedVariables false
set_option linter.unusedSimpArgs false
theorem c1T {P : Program} {n : Nat} {fr : Fr} {x : Operand} {s ft : TypeId} {f o k : Nat} {z : List Value} {by' : Nat} {cs : List Value} {v : Value} (hf : R2 P s f = some (o, ft)) (ht : TyOk P ft false k z by') (hx : ev fr x = some (.agg cs.toArray)) (hv : cs[o]? = some v) : Yp P n fr (.field s x f) v := fun ac h w' d t p af g => by
 unfold R2 at hf
 split at hf
 ·rename_i fs hs
  obtain ⟨fd, h1, h2⟩ := Option.map_eq_some_iff.1 hf
  simp only [Prod.mk.injEq] at h2
  obtain ⟨rfl, rfl⟩ := h2
  simp [execOp, Instr.field, h.ev hx, run_underlying hs, h1, part, ht.run_isAgg, asAgg, hv]
 ·cases hf
def C1 (l : List MT5) : List MT5 := l.filter fun m => decide (m.2.2.1 = 0)
def rk (l : List MT5) (i : Int) : Int := if i < 0 then i else ((C1 (l.take i.toNat)).length : Int)
def rkS (l : List MT5) (x : Stp) : Stp := (x.1, rk l x.2)
section
variable {s : List Int} {l L M : List MT5} {d8 al : List AT2} {ds : List Bool} {a : AT2} {b b' : List Int} {i n g k : Nat} {S R : List Stp} {d7 : List Fct} {m : MT5} {q : List Int × List AT2}
theorem a5W (h : 0 ≤ H6 l a b) : ∃ i, ∃ hi : i < l.length, H6 l a b = (i : Int) ∧ (∀ x ∈ l.take i, K6 x a b = false) ∧ K6 l[i] a b = true := by
 unfold H6 J0 at h ⊢
 by_cases hc : l.any (fun m => K6 m a b) = true
 ·rw [if_pos hc]
  obtain ⟨x, hx, hp⟩ := List.any_eq_true.1 hc
  have hi := List.findIdx_lt_length_of_exists (p := fun m => K6 m a b) ⟨x, hx, hp⟩
  refine ⟨_, hi, rfl, fun y hy => ?_, List.findIdx_getElem (w := hi)⟩
  obtain ⟨j, hj, rfl⟩ := List.mem_take_iff_getElem.1 hy
  simpa using List.not_of_lt_findIdx (show j < l.findIdx (fun m => K6 m a b) by omega)
 ·rw [if_neg hc] at h; omega
theorem b1h (h : 0 ≤ a.1) : K6 (exM m) a b = (decide (m.2.2.1 = 0) && K6 m a b) := by
 unfold exM
 by_cases hl : m.2.2.1 = 0
 ·simp [hl]
 ·have h2 : ¬ (-1 : Int) = a.1 := by omega
  simp [hl, K6, h2]
theorem b5G (h : i < l.length) (h0 : l[i].2.2.1 = 0) : C1 l = C1 (l.take i) ++ l[i] :: C1 (l.drop (i + 1)) := by
 have e : l = l.take i ++ l[i] :: l.drop (i + 1) := by rw [← List.drop_eq_getElem_cons h, List.take_append_drop]
 unfold C1
 conv => lhs; rw [e]
 rw [List.filter_append, List.filter_cons_of_pos (by simpa using h0)]
theorem b9S : rk l (i : Int) = ((C1 (l.take i)).length : Int) := by rw [rk, if_neg (by omega), Int.toNat_natCast]
theorem b1V {i : Int} : decide (0 ≤ rk l i) = decide (0 ≤ i) := by
 unfold rk; split <;> (apply decide_eq_decide.2; omega)
theorem b2U (h : ¬ 0 ≤ H6 l a b) : H6 l a b = -1 := by unfold H6 at h ⊢; have := a3c (p := fun m => K6 m a b) (s := l); omega
theorem a6Z (ha : 0 ≤ a.1) : H6 (C1 l) a b = rk l (H6 (exF l) a b) ∧ (0 ≤ H6 (exF l) a b → (H6 (exF l) a b).toNat < l.length ∧ (atM l (H6 (exF l) a b)).2.2.1 = 0 ∧ atM (C1 l) (rk l (H6 (exF l) a b)) = atM l (H6 (exF l) a b) ∧ K6 (atM l (H6 (exF l) a b)) a b = true) := by
 by_cases h0 : 0 ≤ H6 (exF l) a b
 ·obtain ⟨i, hi, e, hn, hy⟩ := a5W h0
  have hi' : i < l.length := by simpa [exF] using hi
  have ey : K6 (exM l[i]) a b = true := by simpa [exF] using hy
  rw [b1h ha, Bool.and_eq_true, decide_eq_true_eq] at ey
  have hs := b5G hi' ey.1
  have hk : (C1 (l.take i)).length < (C1 l).length := by rw [hs, List.length_append, List.length_cons]; omega
  have hg : (C1 l)[(C1 (l.take i)).length]'hk = l[i] := by
   have : (C1 l)[(C1 (l.take i)).length]? = some l[i] := by rw [hs]; simp
   exact (List.getElem?_eq_some_iff.1 this).2
  have e2 : H6 (C1 l) a b = ((C1 (l.take i)).length : Int) := by
   refine (P8 (p := fun m => K6 m a b) hk (fun x hx => ?_) (by rw [hg]; exact ey.2)).symm
   rw [hs, List.take_left] at hx
   obtain ⟨hx1, hx2⟩ := List.mem_filter.1 hx
   have h9 := hn (exM x) (by unfold exF; rw [← List.map_take]; exact List.mem_map_of_mem hx1)
   rw [b1h ha, hx2, Bool.true_and] at h9
   exact h9
  rw [e, e2, b9S]
  have ea : atM l (i : Int) = l[i] := by rw [atM, Int.toNat_natCast]; exact K5 hi'
  refine ⟨rfl, fun _ => ⟨by rw [Int.toNat_natCast]; exact hi', by rw [ea]; exact ey.1, ?_, by rw [ea]; exact ey.2⟩⟩
  rw [ea, atM, Int.toNat_natCast, K5 hk, hg]
 ·have h1 := b2U h0
  refine ⟨?_, fun h => absurd h h0⟩
  rw [h1, show rk l (-1) = -1 from rfl]
  refine b2U fun h2 => h0 ?_
  obtain ⟨i, hi, e, hn, hy⟩ := a5W h2
  have hm := List.mem_filter.1 (List.getElem_mem hi)
  have h3 : (exF l).any (fun m => K6 m a b) = true := List.any_eq_true.2 ⟨exM (C1 l)[i], List.mem_map_of_mem hm.1, by rw [b1h ha, hm.2, Bool.true_and]; exact hy⟩
  have h4 := W6 (p := fun m => K6 m a b) (s := exF l)
  rw [h3] at h4; exact of_decide_eq_true h4
theorem b2P : ∀ {al : List AT2} {ds : List Bool} {i : Nat}, (∀ a ∈ al, 0 ≤ a.1) → E5 (C1 l) b al ds i = ((E5 (exF l) b al ds i).1, rk l (E5 (exF l) b al ds i).2.1, (E5 (exF l) b al ds i).2.2)
 | [], _, _, _ => rfl
 | _ :: _, [], _, _ => rfl
 | a :: al, d :: ds, i, h => by
  have h1 := (a6Z (l := l) (b := b) (h a (List.mem_cons_self ..))).1
  by_cases hc : (!d && decide (0 ≤ H6 (exF l) a b)) = true
  ·rw [a5z hc, a5z (by rw [h1, b1V]; exact hc), h1]
  ·rw [a4R hc, a4R (by rw [h1, b1V]; exact hc)]
   exact b2P fun x hx => h x (List.mem_cons_of_mem _ hx)
theorem b0P (h : ∀ a ∈ d8, 0 ≤ a.1) : grI (C1 l) d8 n = ((grI (exF l) d8 n).1.map (rkS l), (grI (exF l) d8 n).2) := by
 induction n with
 | zero => rfl
 | succ n ih =>
  have e : gNx (C1 l) d8 (grI (C1 l) d8 n) = ((gNx (exF l) d8 (grI (exF l) d8 n)).1, rk l (gNx (exF l) d8 (grI (exF l) d8 n)).2.1, (gNx (exF l) d8 (grI (exF l) d8 n)).2.2) := by
   rw [ih]; exact b2P h
  cases hx : (gNx (exF l) d8 (grI (exF l) d8 n)).2.2
  ·rw [a0k hx, a0k (by rw [e]; exact hx), ih]
  ·rw [W0 hx, W0 (by rw [e]; exact hx), e, ih]
   simp [rkS]
theorem b7N : (grI l d8 n).2.2 = stB d8 (grI l d8 n).1 := by
 induction n with
 | zero => rfl
 | succ n ih =>
  cases hx : (gNx l d8 (grI l d8 n)).2.2
  ·rw [a0k hx]; exact ih
  ·rw [W0 hx]
   show _ ++ _ = stB d8 (_ ++ [_])
   unfold stB
   rw [List.foldl_append]
   show _ = stB d8 (grI l d8 n).1 ++ _
   rw [← ih]; rfl
theorem b4X : ∀ {g : Nat}, g ≤ S.length → V1 l d8 (S ++ R) g = V1 l d8 S g
 | 0, _ => rfl
 | g + 1, h => by rw [V1, V1, b4X (by omega), List.take_append_of_le_length (by omega), K5 (by rw [List.length_append]; omega), K5 (by omega), List.getElem_append_left]
theorem b6c (hM : ∀ a ∈ d8, ∀ b, 0 ≤ H6 L a b → (H6 L a b).toNat < M.length ∧ K6 (atM M (H6 L a b)) a b = true) : V1 M d8 (grI L d8 n).1 (grI L d8 n).1.length = true := by
 induction n with
 | zero => rfl
 | succ n ih =>
  cases hx : (gNx L d8 (grI L d8 n)).2.2
  ·rw [a0k hx]; exact ih
  ·rw [W0 hx]
   obtain ⟨k, h1, h2, h3, a, h4, h5, h6⟩ := a3t (show (E5 L (grI L d8 n).2.2 d8 (grI L d8 n).2.1 0).2.2 = true from hx)
   have e1 : (gNx L d8 (grI L d8 n)).1 = (k : Int) := by unfold gNx; rw [h1]; simp
   have e3 : (gNx L d8 (grI L d8 n)).2.1 = H6 L a (grI L d8 n).2.2 := h5
   have ea : atA d8 (k : Int) = a := by unfold atA; rw [Int.toNat_natCast, List.getD, h4]; rfl
   obtain ⟨hm1, hm2⟩ := hM a (List.mem_of_getElem? h4) _ h6
   rw [e1, e3]
   show V1 M d8 _ ((grI L d8 n).1 ++ [_]).length = true
   rw [List.length_append, List.length_singleton, V1, b4X (Nat.le_refl _), ih, Bool.true_and, List.take_left, K5 (by simp), List.getElem_append_right (Nat.le_refl _)]
   have d1 := (a8c (l := L) (d8 := d8) (n := n)).1 k
   simp only [List.getD, h3, Option.getD_some] at d1
   simp only [Nat.sub_self, List.getElem_singleton, a0f, Bool.and_eq_true]
   refine ⟨?_, ?_, ?_, ?_⟩
   ·unfold inR; exact decide_eq_true (by omega)
   ·unfold stU; rw [← d1]; rfl
   ·unfold inR; exact decide_eq_true (by omega)
   ·rw [ea, ← b7N]; exact hm2
theorem b3v : ∀ {al : List AT2} {ds : List Bool} {i : Nat}, (E5 l b al ds i).2.2 = false → ∀ (k : Nat) (a : AT2), al[k]? = some a → ds[k]? = some false → ¬ 0 ≤ H6 l a b
 | [], _, _, _, k, a, h1, _ => by simp at h1
 | _ :: _, [], _, _, k, a, _, h2 => by simp at h2
 | x :: al, d :: ds, i, h, k, a, h1, h2 => by
  by_cases hc : (!d && decide (0 ≤ H6 l x b)) = true
  ·rw [a5z hc] at h; cases h
  ·rw [a4R hc] at h
   cases k with
   | zero =>
    simp only [List.getElem?_cons_zero, Option.some.injEq] at h1 h2
    subst h1; subst h2
    simpa using hc
   | succ k => exact b3v h k a (by simpa using h1) (by simpa using h2)
theorem b8c (h : ∀ v ∈ b, v ∈ b') (hc : K6 m a b = true) : K6 m a b' = true := by
 simp only [K6, Bool.and_eq_true, Bool.not_eq_true', List.any_eq_false] at hc ⊢
 refine ⟨hc.1, fun i hi hb => hc.2 i hi ?_⟩
 simp only [a1d, Bool.or_eq_true, Bool.and_eq_true, Bool.not_eq_true'] at hb ⊢
 rcases hb with hb | ⟨h1, h2⟩
 ·exact .inl hb
 ·refine .inr ⟨h1, ?_⟩
  cases e : G0 b (at0 a.2 i) with
  | false => rfl
  | true => rw [a1z.2 (h _ (a1z.1 e))] at h2; cases h2
theorem b1P (h : ∀ v ∈ b, v ∈ b') (hc : 0 ≤ H6 l a b) : 0 ≤ H6 l a b' := by
 obtain ⟨i, hi, e, hn, hy⟩ := a5W hc
 have h3 : l.any (fun m => K6 m a b') = true := List.any_eq_true.2 ⟨l[i], List.getElem_mem hi, b8c h hy⟩
 have h4 := W6 (p := fun m => K6 m a b') (s := l)
 rw [h3] at h4; exact of_decide_eq_true h4
theorem b7T : (gNx l d8 (grF l d8)).2.2 = false := by
 cases hx : (gNx l d8 (grF l d8)).2.2 with
 | false => rfl
 | true =>
  have h1 : ∀ n, n ≤ d8.length → (gNx l d8 (grI l d8 n)).2.2 = true := fun n hn => by
   cases hy : (gNx l d8 (grI l d8 n)).2.2 with
   | true => rfl
   | false =>
    have := b1y hy (d8.length - n)
    rw [show n + (d8.length - n) = d8.length from by omega] at this
    unfold grF at hx; rw [this, hy] at hx; cases hx
  have h2 : ∀ n, n ≤ d8.length → grP l d8 n := fun n => by
   induction n with
   | zero => exact fun _ => b4U
   | succ n ih => exact fun hn => b4Y (ih (by omega)) (h1 n (by omega))
  have h3 := b8A (h2 _ (Nat.le_refl _)) hx
  omega
theorem b2D (h : (grI l d8 n).2.1[k]? = some true) (ha : d8[k]? = some a) : ∀ v ∈ a.2, v ∈ (grI l d8 n).2.2 := by
 induction n with
 | zero => simp only [grI, List.getElem?_replicate] at h; split at h <;> simp at h
 | succ n ih =>
  cases hx : (gNx l d8 (grI l d8 n)).2.2
  ·rw [a0k hx] at h ⊢; exact ih h
  ·rw [W0 hx] at h ⊢
   intro v hv
   by_cases e : (gNx l d8 (grI l d8 n)).1.toNat = k
   ·refine List.mem_append_right _ ?_
    rw [e, List.getD, ha]; exact hv
   ·rw [List.getElem?_set_ne e] at h
    exact List.mem_append_left _ (ih h v hv)
theorem a7v (h : (grI l d8 n).2.1[k]? = some true) : ∀ j, (grI l d8 (n + j)).2.1[k]? = some true
 | 0 => h
 | j + 1 => by
  have h1 := a7v h j
  rw [← Nat.add_assoc]
  cases hx : (gNx l d8 (grI l d8 (n + j))).2.2
  ·rw [a0k hx]; exact h1
  ·rw [W0 hx]
   show (List.set _ _ _)[k]? = _
   rw [List.getElem?_set]
   have := (List.getElem?_eq_some_iff.1 h1).1
   split
   ·rename_i e; subst e; rw [if_pos this]
   ·exact h1
theorem b6f (h : (grI l d8 n).2.1[k]? = some true) (ha : d8[k]? = some a) : ∃ j, j < n ∧ 0 ≤ H6 l a (grI l d8 j).2.2 := by
 induction n with
 | zero => simp only [grI, List.getElem?_replicate] at h; split at h <;> simp at h
 | succ n ih =>
  cases hx : (gNx l d8 (grI l d8 n)).2.2
  ·rw [a0k hx] at h; obtain ⟨j, hj, h2⟩ := ih h; exact ⟨j, by omega, h2⟩
  ·rw [W0 hx] at h
   obtain ⟨k', h1, h2, h3, a', h4, h5, h6⟩ := a3t (show (E5 l (grI l d8 n).2.2 d8 (grI l d8 n).2.1 0).2.2 = true from hx)
   have e1 : (gNx l d8 (grI l d8 n)).1.toNat = k' := by unfold gNx; rw [h1]; simp
   by_cases e : k' = k
   ·subst e; rw [ha] at h4; cases h4; exact ⟨n, by omega, h6⟩
   ·rw [e1, List.getElem?_set_ne e] at h
    obtain ⟨j, hj, h2⟩ := ih h; exact ⟨j, by omega, h2⟩
theorem b2Z (hx : (gNx l d8 (grI l d8 n)).2.2 = true) : ∃ k a, d8[k]? = some a ∧ (gNx l d8 (grI l d8 n)).1.toNat = k ∧ 0 ≤ H6 l a (grI l d8 n).2.2 ∧ (grI l d8 (n + 1)).2.1[k]? = some true := by
 obtain ⟨k, h1, h2, h3, a, h4, h5, h6⟩ := a3t (show (E5 l (grI l d8 n).2.2 d8 (grI l d8 n).2.1 0).2.2 = true from hx)
 have e1 : (gNx l d8 (grI l d8 n)).1.toNat = k := by unfold gNx; rw [h1]; simp
 refine ⟨k, a, h4, e1, h6, ?_⟩
 rw [W0 hx]
 show (List.set _ _ _)[k]? = _
 rw [e1, List.getElem?_set_self ((List.getElem?_eq_some_iff.1 h3).1)]
theorem a7f : ∀ {al : List AT2} {ds : List Bool}, a ∈ I6 al ds ↔ ∃ k : Nat, al[k]? = some a ∧ ds[k]? = some true
 | [], ds => by simp [I6]
 | x :: al, [] => by simp [I6]
 | x :: al, d :: ds => by
  have ih := a7f (al := al) (ds := ds)
  unfold I6 at ih ⊢
  rw [List.zip_cons_cons, List.filter_cons]
  constructor
  ·intro h
   cases d with
   | true =>
    simp only [if_true, List.map_cons, List.mem_cons] at h
    rcases h with h | h
    ·exact ⟨0, by simp [h], rfl⟩
    ·obtain ⟨k, h1, h2⟩ := ih.1 h; exact ⟨k + 1, by simpa using h1, by simpa using h2⟩
   | false => obtain ⟨k, h1, h2⟩ := ih.1 (by simpa using h); exact ⟨k + 1, by simpa using h1, by simpa using h2⟩
  ·rintro ⟨k, h1, h2⟩
   cases k with
   | zero => simp only [List.getElem?_cons_zero, Option.some.injEq] at h1 h2; subst h1; subst h2; simp
   | succ k =>
    have := ih.2 ⟨k, by simpa using h1, by simpa using h2⟩
    cases d
    ·simpa using this
    ·simp only [if_true, List.map_cons, List.mem_cons]; exact .inr this
theorem b7E : (grF L (I6 d8 (grF L d8).2.1)).1.length = (I6 d8 (grF L d8).2.1).length := by
 generalize hP : I6 d8 (grF L d8).2.1 = P
 have hno := b3v (show (E5 L (grF L P).2.2 P (grF L P).2.1 0).2.2 = false from b7T)
 have hdone : ∀ a ∈ P, 0 ≤ H6 L a (grF L P).2.2 → ∀ v ∈ a.2, v ∈ (grF L P).2.2 := fun a ha hm => by
  obtain ⟨j, hj, e⟩ := List.getElem_of_mem ha
  have hl : j < (grF L P).2.1.length := by unfold grF; rw [a2k]; exact hj
  have ej : P[j]? = some a := by rw [List.getElem?_eq_getElem hj, e]
  cases hd : (grF L P).2.1[j] with
  | true => exact b2D (n := P.length) (by rw [← hd]; exact List.getElem?_eq_getElem hl) ej
  | false => exact absurd hm (hno j a ej (by rw [← hd]; exact List.getElem?_eq_getElem hl))
 have hsub : ∀ n, n ≤ d8.length → ∀ v ∈ (grI L d8 n).2.2, v ∈ (grF L P).2.2 := fun n => by
  induction n with
  | zero => intro _ v hv; simp [grI] at hv
  | succ n ih =>
   intro hn v hv
   cases hx : (gNx L d8 (grI L d8 n)).2.2
   ·rw [a0k hx] at hv; exact ih (by omega) v hv
   ·obtain ⟨k, a, h1, h2, h3, h4⟩ := b2Z hx
    rw [W0 hx] at hv
    rcases List.mem_append.1 hv with hv | hv
    ·exact ih (by omega) v hv
    ·rw [h2, List.getD, h1] at hv
     have h5 := a7v h4 (d8.length - (n + 1))
     rw [show n + 1 + (d8.length - (n + 1)) = d8.length from by omega] at h5
     refine hdone a (by rw [← hP]; exact a7f.2 ⟨k, h1, h5⟩) (b1P (ih (by omega)) h3) v hv
 have hall : ∀ j (hj : j < (grF L P).2.1.length), (grF L P).2.1[j] = true := fun j hj => by
  have hj' : j < P.length := by unfold grF at hj; rw [a2k] at hj; exact hj
  cases hd : (grF L P).2.1[j] with
  | true => rfl
  | false =>
   have hm : P[j] ∈ I6 d8 (grF L d8).2.1 := by rw [hP]; exact List.getElem_mem hj'
   obtain ⟨k, h1, h2⟩ := a7f.1 hm
   obtain ⟨n, hn, h3⟩ := b6f (n := d8.length) h2 h1
   exact absurd (b1P (hsub n (by omega)) h3) (hno j _ (List.getElem?_eq_getElem hj') (by rw [← hd]; exact List.getElem?_eq_getElem hj))
 have hc := a8P (l := L) (d8 := P) (n := P.length)
 have h0 : (grI L P P.length).2.1.count false = 0 := by
  refine List.count_eq_zero.2 fun hm => ?_
  obtain ⟨j, hj, e⟩ := List.getElem_of_mem hm
  have := hall j hj
  unfold grF at this; rw [this] at e; cases e
 unfold grF; omega
def W5 (l : List (Int × (Option Addr × Nat × Nat) × Int × Int × Int)) : List (Int × (Option Addr × Nat × Nat) × Int × Int × Int) := l.filter fun m => decide (m.2.2.1 = 0)
theorem b9H {w : World} {L : List Nat} {lb : List (Int × (Option Addr × Nat × Nat) × Int × Int × Int)} (h : Bor w L S5 a0F lb l) : Bor w L S5 a0F (W5 lb) (C1 l) := h.filter fun y x hx => by rw [(a6Y hx).2.2.1]
theorem b1M {lb : List (Int × (Option Addr × Nat × Nat) × Int × Int × Int)} (h : g < lb.length) (h0 : lb[g].2.2.1 = 0) : W5 (lb.take g) ++ [lb[g]] = W5 (lb.take (g + 1)) := by
 rw [List.take_succ_eq_append_getElem h, W5, W5, List.filter_append, List.filter_cons_of_pos (by simpa using h0), List.filter_nil]
theorem b1I {lb : List (Int × (Option Addr × Nat × Nat) × Int × Int × Int)} (h : g < lb.length) (h0 : ¬ lb[g].2.2.1 = 0) : W5 (lb.take g) = W5 (lb.take (g + 1)) := by
 rw [List.take_succ_eq_append_getElem h, W5, W5, List.filter_append, List.filter_cons_of_neg (by simpa using h0), List.filter_nil, List.append_nil]
theorem b9l {lb : List (Int × (Option Addr × Nat × Nat) × Int × Int × Int)} (h : ¬ g < lb.length) : W5 (lb.take g) = W5 lb := by rw [List.take_of_length_le (by omega)]
theorem b9p {lb : List (Int × (Option Addr × Nat × Nat) × Int × Int × Int)} : (W5 lb).length ≤ lb.length := List.length_filter_le ..
theorem b8k : (C1 l).length ≤ l.length := List.length_filter_le ..
theorem a9P (h : E2 s l = true) : E2 s (C1 l) = true := by
 simp only [E2, Bool.and_eq_true, decide_eq_true_eq, Bool.not_eq_true', List.any_eq_false] at h ⊢
 have h1 : (C1 l).length ≤ l.length := List.length_filter_le ..
 exact ⟨h.1, by omega, fun m hm => h.2.2 m (List.mem_filter.1 hm).1⟩
theorem a5l (h : D2 s q = true) : ∀ a ∈ q.2, 0 ≤ a.1 := fun a ha => by
 simp only [D2, Bool.and_eq_true] at h
 cases e : P0 s a with
 | true =>
  simp only [P0, M4, Bool.and_eq_true] at e
  exact (a0d e.1.2).1
 | false =>
  have h2 : (q.2.any fun a => !P0 s a) = true := List.any_eq_true.2 ⟨a, ha, by simp [e]⟩
  rw [h2] at h; simp at h
theorem b6K {S : List Stp} (hm : E2 s M = true) (hq : D2 s q = true) (hl : S.length = q.2.length) (ho : V1 M q.2 S S.length = true) : M5 s M q S = true := by
 rw [M5, hm, hq, ho, decide_eq_true (by omega)]; rfl
theorem b9F (hm : E2 s l = true) (hq : D2 s q = true) (hl : (grF (exF l) q.2).1.length = q.2.length) : M5 s l q (grF (exF l) q.2).1 = true :=
 b6K hm hq hl (b6c fun a ha b h => let h2 := (a6Z (l := l) (b := b) (a5l hq a ha)).2 h; ⟨h2.1, h2.2.2.2⟩)
theorem b7C (hm : E2 s l = true) (hq : D2 s q = true) (hl : (grF (exF l) q.2).1.length = q.2.length) : M5 s (C1 l) q (grF (C1 l) q.2).1 = true := by
 refine b6K (a9P hm) hq ?_ (b6c fun a ha b h => ?_)
 ·unfold grF at hl ⊢; rw [b0P (a5l hq)]; simpa using hl
 ·obtain ⟨i, hi, e, hn, hy⟩ := a5W h
  rw [e]
  exact ⟨by rw [Int.toNat_natCast]; exact hi, by rw [atM, Int.toNat_natCast, K5 hi]; exact hy⟩
theorem b8T : ∀ x ∈ (grI L d8 n).1, ∃ a b, a ∈ d8 ∧ x.2 = H6 L a b ∧ 0 ≤ H6 L a b := by
 induction n with
 | zero => intro x hx; simp [grI] at hx
 | succ n ih =>
  intro x hx
  cases hn : (gNx L d8 (grI L d8 n)).2.2
  ·rw [a0k hn] at hx; exact ih x hx
  ·rw [W0 hn] at hx
   rcases List.mem_append.1 hx with hx | hx
   ·exact ih x hx
   ·obtain ⟨k, h1, h2, h3, a, h4, h5, h6⟩ := a3t (show (E5 L (grI L d8 n).2.2 d8 (grI L d8 n).2.1 0).2.2 = true from hn)
    simp only [List.mem_singleton] at hx; subst hx
    exact ⟨a, _, List.mem_of_getElem? h4, h5, h6⟩
theorem b3A {T : Acs → List Fct} {x : Stp} : ∀ {B : List Bnd} {σ : RS}, (B.foldl (rb1 T l d8 x) σ).1 = σ.1 ++ B.flatMap fun b => G1 [b] (atA d8 x.1) (T (C6 l d8 x b))
 | [], σ => by simp
 | b :: B, σ => by rw [List.foldl_cons, b3A]; simp [rb1, List.append_assoc]
theorem b3f : ∀ {S : List Stp} {σ σ' : RS}, (∀ x ∈ S, atM (C1 l) (rk l x.2) = atM l x.2 ∧ (atM l x.2).2.2.1 = 0) → σ.1 = σ'.1 → (S.foldl (rs1 (fun a => n9 l d7 a) l d8) σ).1 = ((S.map (rkS l)).foldl (rs1 (fun a => r8 (C1 l) d7 a 0) (C1 l) d8) σ').1
 | [], _, _, _, h => h
 | x :: S, σ, σ', hS, h => by
  rw [List.map_cons, List.foldl_cons, List.foldl_cons]
  refine b3f (fun y hy => hS y (List.mem_cons_of_mem _ hy)) ?_
  obtain ⟨h1, h2⟩ := hS x (List.mem_cons_self ..)
  unfold rs1
  rw [b3A, b3A, h]
  refine congrArg (fun z => [] ++ List.flatMap z σ'.1) (funext fun b => ?_)
  have e1 : C6 (C1 l) d8 (rkS l x) b = (rk l x.2, a0D (atM l x.2) (atA d8 x.1) b) := by unfold C6; rw [show (rkS l x).2 = rk l x.2 from rfl, h1]; rfl
  have e2 : a1V (C1 l) (rk l x.2, a0D (atM l x.2) (atA d8 x.1) b) = 0 := by unfold a1V; rw [h1]; exact h2
  have e3 : (n9 l d7 (C6 l d8 x b)) = r8 (C1 l) d7 (C6 (C1 l) d8 (rkS l x) b) 0 := by
   rw [e1, ← a8b (.inl e2)]
   unfold n9 C6
   rw [h1]
  show G1 [b] _ (n9 l d7 (C6 l d8 x b)) = _
  rw [e3]; rfl
def S9 (l : List MT5) (p : List Int × List AT2) (d7 : List Fct) : List (List Int) := U1 p.1 (n8 (fun a => n9 l d7 a) l p.2 (grF (exF l) p.2).1).1
theorem b7V (hr : ∀ a ∈ q.2, 0 ≤ a.1) : U1 q.1 (n8 (fun a => r8 (C1 l) d7 a 0) (C1 l) q.2 (grF (C1 l) q.2).1).1 = S9 l q d7 := by
 have e : (grF (C1 l) q.2).1 = (grF (exF l) q.2).1.map (rkS l) := by unfold grF; rw [b0P hr]
 rw [S9, e]
 congr 1
 refine (b3f (fun x hx => ?_) rfl).symm
 obtain ⟨a, b, ha, e1, h1⟩ := b8T (n := q.2.length) x hx
 have h2 := (a6Z (l := l) (b := b) (hr a ha)).2 h1
 rw [e1]; exact ⟨h2.2.2.1, h2.2.1⟩
def Q7 (s : List Int) (l : List MT5) (q : List Int × List AT2) : List Stp := cond ((E2 s l && D2 s q) && decide (q.2.length ≤ (grF l q.2).1.length)) (grF l q.2).1 []
def a5u (s : List Int) (l : List MT5) (q : List Int × List AT2) : Bool := (E2 s l && D2 s q) && decide (q.2.length ≤ (grF l q.2).1.length)
theorem a2Y (h : (E2 s l && D2 s q) = false) : [] = Q7 s l q ∧ false = a5u s l q := by rw [Q7, a5u, h]; exact ⟨rfl, rfl⟩
theorem a3a (h : (grF l q.2).1.length < q.2.length) : [] = Q7 s l q ∧ false = a5u s l q := by rw [Q7, a5u, decide_eq_false (by omega), Bool.and_false]; exact ⟨rfl, rfl⟩
theorem a2x (h : (E2 s l && D2 s q) = true) (h2 : ¬ (grF l q.2).1.length < q.2.length) : (grF l q.2).1 = Q7 s l q ∧ true = a5u s l q := by rw [Q7, a5u, h, decide_eq_true (by omega)]; exact ⟨rfl, rfl⟩
theorem b9g (hm : E2 s l = true) (hq : D2 s q = true) (hl : (grF (exF l) q.2).1.length = q.2.length) (hf : F1 s d7 = true) : (N0 s (C1 l) q (Q7 s (C1 l) q) d7 0).1 = S9 l q d7 := by
 have h1 := b7C hm hq hl
 have h2 : (grF (C1 l) q.2).1.length = q.2.length := by unfold grF at hl ⊢; rw [b0P (a5l hq)]; simpa using hl
 have e : Q7 s (C1 l) q = (grF (C1 l) q.2).1 := (a2x (by rw [a9P hm, hq]; rfl) (by omega)).1.symm
 rw [e, ← b5b h1 hf]
 exact b7V (a5l hq)
end
end Go.Proofs.YtdopeopehgdccaaGreat
end
