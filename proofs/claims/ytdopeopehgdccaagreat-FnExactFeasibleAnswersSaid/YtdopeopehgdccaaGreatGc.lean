import Derived.Test.YtdopeopehgdccaaGreatGa
import Derived.Test.YtdopeopehgdccaaGreatEq
namespace Go.Proofs.YtdopeopehgdccaaGreat
set_option linter.unusedVariables false
set_option linter.unusedSimpArgs false
/-- a field of a value -/
theorem Y.fv {P : Program} {n : Nat} {fr : Fr} {x : Operand} {s ft : TypeId} {f o k : Nat} {z : List Value} {by' : Nat} {cs : List Value} {v : Value} (hf : K2 P s f = some (o, ft)) (ht : TyOk P ft false k z by') (hx : ev fr x = some (.agg cs.toArray)) (hv : cs[o]? = some v) : Yp P n fr (.field s x f) v := fun ac h w' d t p af g => by
  unfold K2 at hf
  split at hf
  · rename_i fs hs
    obtain ⟨fd, h1, h2⟩ := Option.map_eq_some_iff.1 hf
    simp only [Prod.mk.injEq] at h2
    obtain ⟨rfl, rfl⟩ := h2
    simp [execOp, Instr.field, h.ev hx, run_underlying hs, h1, part, ht.run_isAgg, asAgg, hv]
  · cases hf
def z6 (l : List MT5) : List MT5 := l.filter fun m => decide (m.2.2.1 = 0)
def rk (l : List MT5) (i : Int) : Int := if i < 0 then i else ((z6 (l.take i.toNat)).length : Int)
def rkS (l : List MT5) (x : Stp) : Stp := (x.1, rk l x.2)
section
variable {s : List Int} {l L M : List MT5} {d7 al : List AT2} {ds : List Bool} {a : AT2} {b b' : List Int} {i n g k : Nat} {S R : List Stp} {d8 : List Fct} {m : MT5} {q : List Int × List AT2}
theorem a3T (h : 0 ≤ D5 l a b) : ∃ i, ∃ hi : i < l.length, D5 l a b = (i : Int) ∧ (∀ x ∈ l.take i, F7 x a b = false) ∧ F7 l[i] a b = true := by
  unfold D5 E8 at h ⊢
  by_cases hc : l.any (fun m => F7 m a b) = true
  · rw [if_pos hc]
    obtain ⟨x, hx, hp⟩ := List.any_eq_true.1 hc
    have hi := List.findIdx_lt_length_of_exists (p := fun m => F7 m a b) ⟨x, hx, hp⟩
    refine ⟨_, hi, rfl, fun y hy => ?_, List.findIdx_getElem (w := hi)⟩
    obtain ⟨j, hj, rfl⟩ := List.mem_take_iff_getElem.1 hy
    simpa using List.not_of_lt_findIdx (show j < l.findIdx (fun m => F7 m a b) by omega)
  · rw [if_neg hc] at h; omega
theorem a8l (h : 0 ≤ a.1) : F7 (exM m) a b = (decide (m.2.2.1 = 0) && F7 m a b) := by
  unfold exM
  by_cases hl : m.2.2.1 = 0
  · simp [hl]
  · have h2 : ¬ (-1 : Int) = a.1 := by omega
    simp [hl, F7, h2]
theorem b1R (h : i < l.length) (h0 : l[i].2.2.1 = 0) : z6 l = z6 (l.take i) ++ l[i] :: z6 (l.drop (i + 1)) := by
  have e : l = l.take i ++ l[i] :: l.drop (i + 1) := by rw [← List.drop_eq_getElem_cons h, List.take_append_drop]
  unfold z6
  conv => lhs; rw [e]
  rw [List.filter_append, List.filter_cons_of_pos (by simpa using h0)]
theorem b5m : rk l (i : Int) = ((z6 (l.take i)).length : Int) := by rw [rk, if_neg (by omega), Int.toNat_natCast]
theorem a8N {i : Int} : decide (0 ≤ rk l i) = decide (0 ≤ i) := by
  unfold rk; split <;> (apply decide_eq_decide.2; omega)
theorem b0x (h : ¬ 0 ≤ D5 l a b) : D5 l a b = -1 := by unfold D5 at h ⊢; have := a1l (p := fun m => F7 m a b) (s := l); omega
theorem a4P (ha : 0 ≤ a.1) : D5 (z6 l) a b = rk l (D5 (exF l) a b) ∧ (0 ≤ D5 (exF l) a b → (D5 (exF l) a b).toNat < l.length ∧ (atM l (D5 (exF l) a b)).2.2.1 = 0 ∧ atM (z6 l) (rk l (D5 (exF l) a b)) = atM l (D5 (exF l) a b) ∧ F7 (atM l (D5 (exF l) a b)) a b = true) := by
  by_cases h0 : 0 ≤ D5 (exF l) a b
  · obtain ⟨i, hi, e, hn, hy⟩ := a3T h0
    have hi' : i < l.length := by simpa [exF] using hi
    have ey : F7 (exM l[i]) a b = true := by simpa [exF] using hy
    rw [a8l ha, Bool.and_eq_true, decide_eq_true_eq] at ey
    have hs := b1R hi' ey.1
    have hk : (z6 (l.take i)).length < (z6 l).length := by rw [hs, List.length_append, List.length_cons]; omega
    have hg : (z6 l)[(z6 (l.take i)).length]'hk = l[i] := by
      have : (z6 l)[(z6 (l.take i)).length]? = some l[i] := by rw [hs]; simp
      exact (List.getElem?_eq_some_iff.1 this).2
    have e2 : D5 (z6 l) a b = ((z6 (l.take i)).length : Int) := by
      refine (L6 (p := fun m => F7 m a b) hk (fun x hx => ?_) (by rw [hg]; exact ey.2)).symm
      rw [hs, List.take_left] at hx
      obtain ⟨hx1, hx2⟩ := List.mem_filter.1 hx
      have h9 := hn (exM x) (by unfold exF; rw [← List.map_take]; exact List.mem_map_of_mem hx1)
      rw [a8l ha, hx2, Bool.true_and] at h9
      exact h9
    rw [e, e2, b5m]
    have ea : atM l (i : Int) = l[i] := by rw [atM, Int.toNat_natCast]; exact F6 hi'
    refine ⟨rfl, fun _ => ⟨by rw [Int.toNat_natCast]; exact hi', by rw [ea]; exact ey.1, ?_, by rw [ea]; exact ey.2⟩⟩
    rw [ea, atM, Int.toNat_natCast, F6 hk, hg]
  · have h1 := b0x h0
    refine ⟨?_, fun h => absurd h h0⟩
    rw [h1, show rk l (-1) = -1 from rfl]
    refine b0x fun h2 => h0 ?_
    obtain ⟨i, hi, e, hn, hy⟩ := a3T h2
    have hm := List.mem_filter.1 (List.getElem_mem hi)
    have h3 : (exF l).any (fun m => F7 m a b) = true := List.any_eq_true.2 ⟨exM (z6 l)[i], List.mem_map_of_mem hm.1, by rw [a8l ha, hm.2, Bool.true_and]; exact hy⟩
    have h4 := R9 (p := fun m => F7 m a b) (s := exF l)
    rw [h3] at h4; exact of_decide_eq_true h4
theorem a9Y : ∀ {al : List AT2} {ds : List Bool} {i : Nat}, (∀ a ∈ al, 0 ≤ a.1) → B0 (z6 l) b al ds i = ((B0 (exF l) b al ds i).1, rk l (B0 (exF l) b al ds i).2.1, (B0 (exF l) b al ds i).2.2)
  | [], _, _, _ => rfl
  | _ :: _, [], _, _ => rfl
  | a :: al, d :: ds, i, h => by
    have h1 := (a4P (l := l) (b := b) (h a (List.mem_cons_self ..))).1
    by_cases hc : (!d && decide (0 ≤ D5 (exF l) a b)) = true
    · rw [a3n hc, a3n (by rw [h1, a8N]; exact hc), h1]
    · rw [a2N hc, a2N (by rw [h1, a8N]; exact hc)]
      exact a9Y fun x hx => h x (List.mem_cons_of_mem _ hx)
theorem a8g (h : ∀ a ∈ d7, 0 ≤ a.1) : grI (z6 l) d7 n = ((grI (exF l) d7 n).1.map (rkS l), (grI (exF l) d7 n).2) := by
  induction n with
  | zero => rfl
  | succ n ih =>
    have e : gNx (z6 l) d7 (grI (z6 l) d7 n) = ((gNx (exF l) d7 (grI (exF l) d7 n)).1, rk l (gNx (exF l) d7 (grI (exF l) d7 n)).2.1, (gNx (exF l) d7 (grI (exF l) d7 n)).2.2) := by
      rw [ih]; exact a9Y h
    cases hx : (gNx (exF l) d7 (grI (exF l) d7 n)).2.2
    · rw [S9 hx, S9 (by rw [e]; exact hx), ih]
    · rw [O1 hx, O1 (by rw [e]; exact hx), e, ih]
      simp [rkS]
theorem b3i : (grI l d7 n).2.2 = stB d7 (grI l d7 n).1 := by
  induction n with
  | zero => rfl
  | succ n ih =>
    cases hx : (gNx l d7 (grI l d7 n)).2.2
    · rw [S9 hx]; exact ih
    · rw [O1 hx]
      show _ ++ _ = stB d7 (_ ++ [_])
      unfold stB
      rw [List.foldl_append]
      show _ = stB d7 (grI l d7 n).1 ++ _
      rw [← ih]; rfl
theorem b1h : ∀ {g : Nat}, g ≤ S.length → N7 l d7 (S ++ R) g = N7 l d7 S g
  | 0, _ => rfl
  | g + 1, h => by rw [N7, N7, b1h (by omega), List.take_append_of_le_length (by omega), F6 (by rw [List.length_append]; omega), F6 (by omega), List.getElem_append_left]
/-- the steps that are found are an order, by any methods that can be called like these -/
theorem b2L (hM : ∀ a ∈ d7, ∀ b, 0 ≤ D5 L a b → (D5 L a b).toNat < M.length ∧ F7 (atM M (D5 L a b)) a b = true) : N7 M d7 (grI L d7 n).1 (grI L d7 n).1.length = true := by
  induction n with
  | zero => rfl
  | succ n ih =>
    cases hx : (gNx L d7 (grI L d7 n)).2.2
    · rw [S9 hx]; exact ih
    · rw [O1 hx]
      obtain ⟨k, h1, h2, h3, a, h4, h5, h6⟩ := a1J (show (B0 L (grI L d7 n).2.2 d7 (grI L d7 n).2.1 0).2.2 = true from hx)
      have e1 : (gNx L d7 (grI L d7 n)).1 = (k : Int) := by unfold gNx; rw [h1]; simp
      have e3 : (gNx L d7 (grI L d7 n)).2.1 = D5 L a (grI L d7 n).2.2 := h5
      have ea : atA d7 (k : Int) = a := by unfold atA; rw [Int.toNat_natCast, List.getD, h4]; rfl
      obtain ⟨hm1, hm2⟩ := hM a (List.mem_of_getElem? h4) _ h6
      rw [e1, e3]
      show N7 M d7 _ ((grI L d7 n).1 ++ [_]).length = true
      rw [List.length_append, List.length_singleton, N7, b1h (Nat.le_refl _), ih, Bool.true_and, List.take_left, F6 (by simp), List.getElem_append_right (Nat.le_refl _)]
      have d1 := (a5r (l := L) (d7 := d7) (n := n)).1 k
      simp only [List.getD, h3, Option.getD_some] at d1
      simp only [Nat.sub_self, List.getElem_singleton, S4, Bool.and_eq_true]
      refine ⟨?_, ?_, ?_, ?_⟩
      · unfold inR; exact decide_eq_true (by omega)
      · unfold stU; rw [← d1]; rfl
      · unfold inR; exact decide_eq_true (by omega)
      · rw [ea, ← b3i]; exact hm2
theorem b0c : ∀ {al : List AT2} {ds : List Bool} {i : Nat}, (B0 l b al ds i).2.2 = false → ∀ (k : Nat) (a : AT2), al[k]? = some a → ds[k]? = some false → ¬ 0 ≤ D5 l a b
  | [], _, _, _, k, a, h1, _ => by simp at h1
  | _ :: _, [], _, _, k, a, _, h2 => by simp at h2
  | x :: al, d :: ds, i, h, k, a, h1, h2 => by
    by_cases hc : (!d && decide (0 ≤ D5 l x b)) = true
    · rw [a3n hc] at h; cases h
    · rw [a2N hc] at h
      cases k with
      | zero =>
        simp only [List.getElem?_cons_zero, Option.some.injEq] at h1 h2
        subst h1; subst h2
        simpa using hc
      | succ k => exact b0c h k a (by simpa using h1) (by simpa using h2)
theorem b3K (h : ∀ v ∈ b, v ∈ b') (hc : F7 m a b = true) : F7 m a b' = true := by
  simp only [F7, Bool.and_eq_true, Bool.not_eq_true', List.any_eq_false] at hc ⊢
  refine ⟨hc.1, fun i hi hb => hc.2 i hi ?_⟩
  simp only [X3, Bool.or_eq_true, Bool.and_eq_true, Bool.not_eq_true'] at hb ⊢
  rcases hb with hb | ⟨h1, h2⟩
  · exact .inl hb
  · refine .inr ⟨h1, ?_⟩
    cases e : B9 b (at0 a.2 i) with
    | false => rfl
    | true => rw [a0d.2 (h _ (a0d.1 e))] at h2; cases h2
theorem a8A (h : ∀ v ∈ b, v ∈ b') (hc : 0 ≤ D5 l a b) : 0 ≤ D5 l a b' := by
  obtain ⟨i, hi, e, hn, hy⟩ := a3T hc
  have h3 : l.any (fun m => F7 m a b') = true := List.any_eq_true.2 ⟨l[i], List.getElem_mem hi, b3K h hy⟩
  have h4 := R9 (p := fun m => F7 m a b') (s := l)
  rw [h3] at h4; exact of_decide_eq_true h4
theorem b3D : (gNx l d7 (grF l d7)).2.2 = false := by
  cases hx : (gNx l d7 (grF l d7)).2.2 with
  | false => rfl
  | true =>
    have h1 : ∀ n, n ≤ d7.length → (gNx l d7 (grI l d7 n)).2.2 = true := fun n hn => by
      cases hy : (gNx l d7 (grI l d7 n)).2.2 with
      | true => rfl
      | false =>
        have := a8c hy (d7.length - n)
        rw [show n + (d7.length - n) = d7.length from by omega] at this
        unfold grF at hx; rw [this, hy] at hx; cases hx
    have h2 : ∀ n, n ≤ d7.length → grP l d7 n := fun n => by
      induction n with
      | zero => exact fun _ => b1r
      | succ n ih => exact fun hn => b1t (ih (by omega)) (h1 n (by omega))
    have h3 := b3T (h2 _ (Nat.le_refl _)) hx
    omega
theorem a9r (h : (grI l d7 n).2.1[k]? = some true) (ha : d7[k]? = some a) : ∀ v ∈ a.2, v ∈ (grI l d7 n).2.2 := by
  induction n with
  | zero => simp only [grI, List.getElem?_replicate] at h; split at h <;> simp at h
  | succ n ih =>
    cases hx : (gNx l d7 (grI l d7 n)).2.2
    · rw [S9 hx] at h ⊢; exact ih h
    · rw [O1 hx] at h ⊢
      intro v hv
      by_cases e : (gNx l d7 (grI l d7 n)).1.toNat = k
      · refine List.mem_append_right _ ?_
        rw [e, List.getD, ha]; exact hv
      · rw [List.getElem?_set_ne e] at h
        exact List.mem_append_left _ (ih h v hv)
theorem a4U (h : (grI l d7 n).2.1[k]? = some true) : ∀ j, (grI l d7 (n + j)).2.1[k]? = some true
  | 0 => h
  | j + 1 => by
    have h1 := a4U h j
    rw [← Nat.add_assoc]
    cases hx : (gNx l d7 (grI l d7 (n + j))).2.2
    · rw [S9 hx]; exact h1
    · rw [O1 hx]
      show (List.set _ _ _)[k]? = _
      rw [List.getElem?_set]
      have := (List.getElem?_eq_some_iff.1 h1).1
      split
      · rename_i e; subst e; rw [if_pos this]
      · exact h1
theorem b2m (h : (grI l d7 n).2.1[k]? = some true) (ha : d7[k]? = some a) : ∃ j, j < n ∧ 0 ≤ D5 l a (grI l d7 j).2.2 := by
  induction n with
  | zero => simp only [grI, List.getElem?_replicate] at h; split at h <;> simp at h
  | succ n ih =>
    cases hx : (gNx l d7 (grI l d7 n)).2.2
    · rw [S9 hx] at h; obtain ⟨j, hj, h2⟩ := ih h; exact ⟨j, by omega, h2⟩
    · rw [O1 hx] at h
      obtain ⟨k', h1, h2, h3, a', h4, h5, h6⟩ := a1J (show (B0 l (grI l d7 n).2.2 d7 (grI l d7 n).2.1 0).2.2 = true from hx)
      have e1 : (gNx l d7 (grI l d7 n)).1.toNat = k' := by unfold gNx; rw [h1]; simp
      by_cases e : k' = k
      · subst e; rw [ha] at h4; cases h4; exact ⟨n, by omega, h6⟩
      · rw [e1, List.getElem?_set_ne e] at h
        obtain ⟨j, hj, h2⟩ := ih h; exact ⟨j, by omega, h2⟩
theorem b0v (hx : (gNx l d7 (grI l d7 n)).2.2 = true) : ∃ k a, d7[k]? = some a ∧ (gNx l d7 (grI l d7 n)).1.toNat = k ∧ 0 ≤ D5 l a (grI l d7 n).2.2 ∧ (grI l d7 (n + 1)).2.1[k]? = some true := by
  obtain ⟨k, h1, h2, h3, a, h4, h5, h6⟩ := a1J (show (B0 l (grI l d7 n).2.2 d7 (grI l d7 n).2.1 0).2.2 = true from hx)
  have e1 : (gNx l d7 (grI l d7 n)).1.toNat = k := by unfold gNx; rw [h1]; simp
  refine ⟨k, a, h4, e1, h6, ?_⟩
  rw [O1 hx]
  show (List.set _ _ _)[k]? = _
  rw [e1, List.getElem?_set_self ((List.getElem?_eq_some_iff.1 h3).1)]
theorem a4X : ∀ {al : List AT2} {ds : List Bool}, a ∈ E4 al ds ↔ ∃ k : Nat, al[k]? = some a ∧ ds[k]? = some true
  | [], ds => by simp [E4]
  | x :: al, [] => by simp [E4]
  | x :: al, d :: ds => by
    have ih := a4X (al := al) (ds := ds)
    unfold E4 at ih ⊢
    rw [List.zip_cons_cons, List.filter_cons]
    constructor
    · intro h
      cases d with
      | true =>
        simp only [if_true, List.map_cons, List.mem_cons] at h
        rcases h with h | h
        · exact ⟨0, by simp [h], rfl⟩
        · obtain ⟨k, h1, h2⟩ := ih.1 h; exact ⟨k + 1, by simpa using h1, by simpa using h2⟩
      | false => obtain ⟨k, h1, h2⟩ := ih.1 (by simpa using h); exact ⟨k + 1, by simpa using h1, by simpa using h2⟩
    · rintro ⟨k, h1, h2⟩
      cases k with
      | zero => simp only [List.getElem?_cons_zero, Option.some.injEq] at h1 h2; subst h1; subst h2; simp
      | succ k =>
        have := ih.2 ⟨k, by simpa using h1, by simpa using h2⟩
        cases d
        · simpa using this
        · simp only [if_true, List.map_cons, List.mem_cons]; exact .inr this
/-- each atom of the part gets a step -/
theorem b3z : (grF L (E4 d7 (grF L d7).2.1)).1.length = (E4 d7 (grF L d7).2.1).length := by
  generalize hP : E4 d7 (grF L d7).2.1 = P
  have hno := b0c (show (B0 L (grF L P).2.2 P (grF L P).2.1 0).2.2 = false from b3D)
  have hdone : ∀ a ∈ P, 0 ≤ D5 L a (grF L P).2.2 → ∀ v ∈ a.2, v ∈ (grF L P).2.2 := fun a ha hm => by
    obtain ⟨j, hj, e⟩ := List.getElem_of_mem ha
    have hl : j < (grF L P).2.1.length := by unfold grF; rw [a0s]; exact hj
    have ej : P[j]? = some a := by rw [List.getElem?_eq_getElem hj, e]
    cases hd : (grF L P).2.1[j] with
    | true => exact a9r (n := P.length) (by rw [← hd]; exact List.getElem?_eq_getElem hl) ej
    | false => exact absurd hm (hno j a ej (by rw [← hd]; exact List.getElem?_eq_getElem hl))
  have hsub : ∀ n, n ≤ d7.length → ∀ v ∈ (grI L d7 n).2.2, v ∈ (grF L P).2.2 := fun n => by
    induction n with
    | zero => intro _ v hv; simp [grI] at hv
    | succ n ih =>
      intro hn v hv
      cases hx : (gNx L d7 (grI L d7 n)).2.2
      · rw [S9 hx] at hv; exact ih (by omega) v hv
      · obtain ⟨k, a, h1, h2, h3, h4⟩ := b0v hx
        rw [O1 hx] at hv
        rcases List.mem_append.1 hv with hv | hv
        · exact ih (by omega) v hv
        · rw [h2, List.getD, h1] at hv
          have h5 := a4U h4 (d7.length - (n + 1))
          rw [show n + 1 + (d7.length - (n + 1)) = d7.length from by omega] at h5
          refine hdone a (by rw [← hP]; exact a4X.2 ⟨k, h1, h5⟩) (a8A (ih (by omega)) h3) v hv
  have hall : ∀ j (hj : j < (grF L P).2.1.length), (grF L P).2.1[j] = true := fun j hj => by
    have hj' : j < P.length := by unfold grF at hj; rw [a0s] at hj; exact hj
    cases hd : (grF L P).2.1[j] with
    | true => rfl
    | false =>
      have hm : P[j] ∈ E4 d7 (grF L d7).2.1 := by rw [hP]; exact List.getElem_mem hj'
      obtain ⟨k, h1, h2⟩ := a4X.1 hm
      obtain ⟨n, hn, h3⟩ := b2m (n := d7.length) h2 h1
      exact absurd (a8A (hsub n (by omega)) h3) (hno j _ (List.getElem?_eq_getElem hj') (by rw [← hd]; exact List.getElem?_eq_getElem hj))
  have hc := a6A (l := L) (d7 := P) (n := P.length)
  have h0 : (grI L P P.length).2.1.count false = 0 := by
    refine List.count_eq_zero.2 fun hm => ?_
    obtain ⟨j, hj, e⟩ := List.getElem_of_mem hm
    have := hall j hj
    unfold grF at this; rw [this] at e; cases e
  unfold grF; omega
/-- the methods without a limit, as they stand -/
def S2 (l : List (Int × (Option Addr × Nat × Nat) × Int × Int × Int)) : List (Int × (Option Addr × Nat × Nat) × Int × Int × Int) := l.filter fun m => decide (m.2.2.1 = 0)
theorem b5c {w : World} {L : List Nat} {lb : List (Int × (Option Addr × Nat × Nat) × Int × Int × Int)} (h : Bor w L M4 V7 lb l) : Bor w L M4 V7 (S2 lb) (z6 l) := h.filter fun y x hx => by rw [(a5a hx).2.2.1]
theorem a8G {lb : List (Int × (Option Addr × Nat × Nat) × Int × Int × Int)} (h : g < lb.length) (h0 : lb[g].2.2.1 = 0) : S2 (lb.take g) ++ [lb[g]] = S2 (lb.take (g + 1)) := by
  rw [List.take_succ_eq_append_getElem h, S2, S2, List.filter_append, List.filter_cons_of_pos (by simpa using h0), List.filter_nil]
theorem a8E {lb : List (Int × (Option Addr × Nat × Nat) × Int × Int × Int)} (h : g < lb.length) (h0 : ¬ lb[g].2.2.1 = 0) : S2 (lb.take g) = S2 (lb.take (g + 1)) := by
  rw [List.take_succ_eq_append_getElem h, S2, S2, List.filter_append, List.filter_cons_of_neg (by simpa using h0), List.filter_nil, List.append_nil]
theorem b4n {lb : List (Int × (Option Addr × Nat × Nat) × Int × Int × Int)} (h : ¬ g < lb.length) : S2 (lb.take g) = S2 lb := by rw [List.take_of_length_le (by omega)]
theorem b4o {lb : List (Int × (Option Addr × Nat × Nat) × Int × Int × Int)} : (S2 lb).length ≤ lb.length := List.length_filter_le ..
theorem b3C : (z6 l).length ≤ l.length := List.length_filter_le ..
/-! ### the run of a part -/
theorem a7q (h : B3 s l = true) : B3 s (z6 l) = true := by
  simp only [B3, Bool.and_eq_true, decide_eq_true_eq, Bool.not_eq_true', List.any_eq_false] at h ⊢
  have h1 : (z6 l).length ≤ l.length := List.length_filter_le ..
  exact ⟨h.1, by omega, fun m hm => h.2.2 m (List.mem_filter.1 hm).1⟩
theorem a2T (h : y8 s q = true) : ∀ a ∈ q.2, 0 ≤ a.1 := fun a ha => by
  simp only [y8, Bool.and_eq_true] at h
  cases e : I2 s a with
  | true =>
    simp only [I2, G5, Bool.and_eq_true] at e
    exact (S5 e.1.2).1
  | false =>
    have h2 : (q.2.any fun a => !I2 s a) = true := List.any_eq_true.2 ⟨a, ha, by simp [e]⟩
    rw [h2] at h; simp at h
theorem b2R {S : List Stp} (hm : B3 s M = true) (hq : y8 s q = true) (hl : S.length = q.2.length) (ho : N7 M q.2 S S.length = true) : G7 s M q S = true := by
  rw [G7, hm, hq, ho, decide_eq_true (by omega)]; rfl
theorem b5z (hm : B3 s l = true) (hq : y8 s q = true) (hl : (grF (exF l) q.2).1.length = q.2.length) : G7 s l q (grF (exF l) q.2).1 = true :=
  b2R hm hq hl (b2L fun a ha b h => let h2 := (a4P (l := l) (b := b) (a2T hq a ha)).2 h; ⟨h2.1, h2.2.2.2⟩)
theorem b3q (hm : B3 s l = true) (hq : y8 s q = true) (hl : (grF (exF l) q.2).1.length = q.2.length) : G7 s (z6 l) q (grF (z6 l) q.2).1 = true := by
  refine b2R (a7q hm) hq ?_ (b2L fun a ha b h => ?_)
  · unfold grF at hl ⊢; rw [a8g (a2T hq)]; simpa using hl
  · obtain ⟨i, hi, e, hn, hy⟩ := a3T h
    rw [e]
    exact ⟨by rw [Int.toNat_natCast]; exact hi, by rw [atM, Int.toNat_natCast, F6 hi]; exact hy⟩
theorem b4R : ∀ x ∈ (grI L d7 n).1, ∃ a b, a ∈ d7 ∧ x.2 = D5 L a b ∧ 0 ≤ D5 L a b := by
  induction n with
  | zero => intro x hx; simp [grI] at hx
  | succ n ih =>
    intro x hx
    cases hn : (gNx L d7 (grI L d7 n)).2.2
    · rw [S9 hn] at hx; exact ih x hx
    · rw [O1 hn] at hx
      rcases List.mem_append.1 hx with hx | hx
      · exact ih x hx
      · obtain ⟨k, h1, h2, h3, a, h4, h5, h6⟩ := a1J (show (B0 L (grI L d7 n).2.2 d7 (grI L d7 n).2.1 0).2.2 = true from hn)
        simp only [List.mem_singleton] at hx; subst hx
        exact ⟨a, _, List.mem_of_getElem? h4, h5, h6⟩
theorem a9M {T : Acs → List Fct} {x : Stp} : ∀ {B : List Bnd} {σ : RS}, (B.foldl (rb1 T l d7 x) σ).1 = σ.1 ++ B.flatMap fun b => C0 [b] (atA d7 x.1) (T (w3 l d7 x b))
  | [], σ => by simp
  | b :: B, σ => by rw [List.foldl_cons, a9M]; simp [rb1, List.append_assoc]
theorem a9I : ∀ {S : List Stp} {σ σ' : RS}, (∀ x ∈ S, atM (z6 l) (rk l x.2) = atM l x.2 ∧ (atM l x.2).2.2.1 = 0) → σ.1 = σ'.1 → (S.foldl (rs1 (fun a => j6 l d8 a) l d7) σ).1 = ((S.map (rkS l)).foldl (rs1 (fun a => n0 (z6 l) d8 a 0) (z6 l) d7) σ').1
  | [], _, _, _, h => h
  | x :: S, σ, σ', hS, h => by
    rw [List.map_cons, List.foldl_cons, List.foldl_cons]
    refine a9I (fun y hy => hS y (List.mem_cons_of_mem _ hy)) ?_
    obtain ⟨h1, h2⟩ := hS x (List.mem_cons_self ..)
    unfold rs1
    rw [a9M, a9M, h]
    refine congrArg (fun z => [] ++ List.flatMap z σ'.1) (funext fun b => ?_)
    have e1 : w3 (z6 l) d7 (rkS l x) b = (rk l x.2, V8 (atM l x.2) (atA d7 x.1) b) := by unfold w3; rw [show (rkS l x).2 = rk l x.2 from rfl, h1]; rfl
    have e2 : a0l (z6 l) (rk l x.2, V8 (atM l x.2) (atA d7 x.1) b) = 0 := by unfold a0l; rw [h1]; exact h2
    have e3 : (j6 l d8 (w3 l d7 x b)) = n0 (z6 l) d8 (w3 (z6 l) d7 (rkS l x) b) 0 := by
      rw [e1, ← a5o (.inl e2)]
      unfold j6 w3
      rw [h1]
    show C0 [b] _ (j6 l d8 (w3 l d7 x b)) = _
    rw [e3]; rfl
/-- what the run of a part tells -/
def a2r (l : List MT5) (p : List Int × List AT2) (d8 : List Fct) : List (List Int) := M0 p.1 (j5 (fun a => j6 l d8 a) l p.2 (grF (exF l) p.2).1).1
theorem b3L (hr : ∀ a ∈ q.2, 0 ≤ a.1) : M0 q.1 (j5 (fun a => n0 (z6 l) d8 a 0) (z6 l) q.2 (grF (z6 l) q.2).1).1 = a2r l q d8 := by
  have e : (grF (z6 l) q.2).1 = (grF (exF l) q.2).1.map (rkS l) := by unfold grF; rw [a8g hr]
  rw [a2r, e]
  congr 1
  refine (a9I (fun x hx => ?_) rfl).symm
  obtain ⟨a, b, ha, e1, h1⟩ := b4R (n := q.2.length) x hx
  have h2 := (a4P (l := l) (b := b) (hr a ha)).2 h1
  rw [e1]; exact ⟨h2.2.2.1, h2.2.1⟩
def S0 (s : List Int) (l : List MT5) (q : List Int × List AT2) : List Stp := cond ((B3 s l && y8 s q) && decide (q.2.length ≤ (grF l q.2).1.length)) (grF l q.2).1 []
def a3h (s : List Int) (l : List MT5) (q : List Int × List AT2) : Bool := (B3 s l && y8 s q) && decide (q.2.length ≤ (grF l q.2).1.length)
theorem a1m (h : (B3 s l && y8 s q) = false) : [] = S0 s l q ∧ false = a3h s l q := by rw [S0, a3h, h]; exact ⟨rfl, rfl⟩
theorem a1n (h : (grF l q.2).1.length < q.2.length) : [] = S0 s l q ∧ false = a3h s l q := by rw [S0, a3h, decide_eq_false (by omega), Bool.and_false]; exact ⟨rfl, rfl⟩
theorem a0M (h : (B3 s l && y8 s q) = true) (h2 : ¬ (grF l q.2).1.length < q.2.length) : (grF l q.2).1 = S0 s l q ∧ true = a3h s l q := by rw [S0, a3h, h, decide_eq_true (by omega)]; exact ⟨rfl, rfl⟩
/-- the reference's run of a part -/
theorem b4v (hm : B3 s l = true) (hq : y8 s q = true) (hl : (grF (exF l) q.2).1.length = q.2.length) (hf : B7 s d8 = true) : (K4 s (z6 l) q (S0 s (z6 l) q) d8 0).1 = a2r l q d8 := by
  have h1 := b3q hm hq hl
  have h2 : (grF (z6 l) q.2).1.length = q.2.length := by unfold grF at hl ⊢; rw [a8g (a2T hq)]; simpa using hl
  have e : S0 s (z6 l) q = (grF (z6 l) q.2).1 := (a0M (by rw [a7q hm, hq]; rfl) (by omega)).1.symm
  rw [e, ← b1d h1 hf]
  exact b3L (a2T hq)
end
end Go.Proofs.YtdopeopehgdccaaGreat
