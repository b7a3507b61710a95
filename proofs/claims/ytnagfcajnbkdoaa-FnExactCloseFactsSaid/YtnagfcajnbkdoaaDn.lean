/- Plain laws: what rules demand, and the closure of facts under rules. No program in sight. -/
import Derived.Test.YtnagfcajnbkdoaaDl
namespace Go.Proofs.Ytnagfcajnbkdoaa
set_option linter.unusedVariables false
set_option linter.unusedSimpArgs false
theorem okRules_all {s : List Int} {l : List (Int × Int × List Int)} (h : okRules s l = true) : okSchema s = true ∧ l.length ≤ 4 ∧ ∀ r ∈ l, okRule s r = true := by
  simp only [okRules, Bool.and_eq_true, decide_eq_true_eq, Bool.not_eq_true', List.any_eq_false, Bool.not_eq_true] at h
  exact ⟨h.1, by omega, fun r hr => by have := h.2.2 r hr; simpa using this⟩
theorem okFacts_all {s : List Int} {l : List (Int × List Int)} (h : okFacts s l = true) : l.length ≤ 24 ∧ ∀ f ∈ l, okFact s f = true := by
  simp only [okFacts, okFs, List.drop_zero, Bool.and_eq_true, decide_eq_true_eq, List.all_eq_true] at h
  exact ⟨by omega, h.1.1⟩
theorem okFact_len {s : List Int} {f : Int × List Int} (h : okFact s f = true) : f.2.length ≤ 3 := by
  simp only [okFact, Bool.and_eq_true, decide_eq_true_eq] at h
  have := okRel_lt h.1
  simp only [at0] at h; omega
theorem okVals_mem {v : List Int} (h : okVals v = true) : ∀ x ∈ v, 0 ≤ x ∧ x ≤ 9 := by
  simp only [okVals, Bool.not_eq_true', List.any_eq_false, Bool.not_eq_true] at h
  intro x hx
  have := h x hx
  simp [inR] at this; omega
theorem okVals_of {v : List Int} (h : ∀ x ∈ v, 0 ≤ x ∧ x ≤ 9) : okVals v = true := by
  simp only [okVals, Bool.not_eq_true', List.any_eq_false, Bool.not_eq_true]
  intro x hx
  have := h x hx
  simp [inR]; omega
/-- what a valid rule makes of a valid fact is valid -/
theorem okFact_imp {s : List Int} {r : Int × Int × List Int} {f : Int × List Int} (h1 : okRule s r = true) (h2 : okFact s f = true) (e : f.1 = r.1) : okFact s (r.2.1, vals r.2.2 f.2) = true := by
  have h3 := rule_fact h1 h2 e
  simp only [okRule, okFact, Bool.and_eq_true, decide_eq_true_eq] at h1 h2 ⊢
  refine ⟨h1.2.1, by rw [vals_len]; exact h1.2.2.1, okVals_of fun x hx => ?_⟩
  simp only [vals, List.mem_map] at hx
  obtain ⟨i, hi, rfl⟩ := hx
  have h4 := h3 i hi
  rw [at0_get (show i.toNat < f.2.length by omega)]
  exact okVals_mem h2.2.2 _ (List.getElem_mem _)
theorem miss2_all {P : Int × List Int → Prop} {facts : List (Int × List Int)} {f : Int × List Int} : ∀ {l : List (Int × Int × List Int)} {out : List (Int × List Int)}, (∀ r ∈ l, f.1 = r.1 → hasF facts (r.2.1, vals r.2.2 f.2) = false → P (r.2.1, vals r.2.2 f.2)) → (∀ x ∈ out, P x) → ∀ x ∈ l.foldl (miss2 facts f) out, P x
  | [], out, _, h, x, hx => h x hx
  | r :: l, out, hr, h, x, hx => by
    refine miss2_all (l := l) (out := miss2 facts f out r) (fun r hr' => hr r (by simp [hr'])) (fun y hy => ?_) x hx
    unfold miss2 at hy
    split at hy
    · split at hy
      · exact h y hy
      · rename_i h1 h2
        rcases addP_mem hy with hy | rfl
        · exact h y hy
        · exact hr r (by simp) h1 (by simpa using h2)
    · exact h y hy
theorem miss_all {P : Int × List Int → Prop} {facts : List (Int × List Int)} {l : List (Int × Int × List Int)} (H : ∀ r ∈ l, ∀ f ∈ facts, f.1 = r.1 → hasF facts (r.2.1, vals r.2.2 f.2) = false → P (r.2.1, vals r.2.2 f.2)) : ∀ x ∈ missF l facts, P x := by
  have : ∀ {fs out : List (Int × List Int)}, (∀ f ∈ fs, f ∈ facts) → (∀ x ∈ out, P x) → ∀ x ∈ fs.foldl (miss1 l facts) out, P x := by
    intro fs
    induction fs with
    | nil => intro out _ h; exact h
    | cons f fs ih =>
      intro out hs h
      exact ih (fun g hg => hs g (by simp [hg])) (miss2_all (fun r hr => H r hr f (hs f (by simp))) h)
  exact this (fun f h => h) (by simp)
theorem miss_ok {s : List Int} {l : List (Int × Int × List Int)} {facts : List (Int × List Int)} (h1 : okRules s l = true) (h2 : ∀ f ∈ facts, okFact s f = true) : ∀ x ∈ missF l facts, okFact s x = true ∧ hasF facts x = false :=
  miss_all fun r hr f hf e h => ⟨okFact_imp ((okRules_all h1).2.2 r hr) (h2 f hf) e, h⟩
theorem ruled_h {s : List Int} {l : List (Int × Int × List Int)} {facts : List (Int × List Int)} (h1 : okRules s l = true) (h2 : ∀ f ∈ facts, okFact s f = true) : (∀ r ∈ l, ∀ f ∈ facts, f.1 = r.1 → ∀ x ∈ r.2.2, 0 ≤ x ∧ x < f.2.length) ∧ (∀ r ∈ l, r.2.2.length ≤ 1048576) ∧ l.length ≤ 4 :=
  have h := okRules_all h1
  ⟨fun r hr f hf e => rule_fact (h.2.2 r hr) (h2 f hf) e, fun r hr => Nat.le_trans (rule_len (h.2.2 r hr)) (by decide), h.2.1⟩
theorem ruled_b {s : List Int} {l : List (Int × Int × List Int)} {facts : List (Int × List Int)} (h : (okRules s l && okFacts s facts) = true) : (∀ r ∈ l, ∀ f ∈ facts, f.1 = r.1 → ∀ x ∈ r.2.2, 0 ≤ x ∧ x < f.2.length) ∧ (∀ r ∈ l, r.2.2.length ≤ 1048576) ∧ l.length ≤ 4 ∧ facts.length ≤ 1048576 := by
  rw [Bool.and_eq_true] at h
  have h2 := okFacts_all h.2
  have h3 := ruled_h h.1 h2.2
  exact ⟨h3.1, h3.2.1, h3.2.2, by omega⟩
theorem ruled_ex {s : List Int} {l : List (Int × Int × List Int)} {facts : List (Int × List Int)} (h : (okRules s l && okFacts s facts) = true) : ∃ s, okRules s l = true ∧ okFacts s facts = true := by
  rw [Bool.and_eq_true] at h
  exact ⟨s, h⟩
def missR (s : List Int) (l : List (Int × Int × List Int)) (facts : List (Int × List Int)) : List (Int × List Int) := if okRules s l && okFacts s facts then missF l facts else []
theorem facts_tot {n : Nat} {s : List Int} {l : List (Int × List Int)} (h : ∀ f ∈ l, okFact s f = true) (hn : l.length ≤ n) : totS cE_Fact l ≤ n * 4 := by
  have h5 := totS_max (c := cE_Fact) (n := 4) (l := l) fun a ha => by
    have := okFact_len (h a ha)
    simp only [cE_Fact, totS_I]; omega
  omega
theorem missF_len {l : List (Int × Int × List Int)} {facts : List (Int × List Int)} (h : l.length ≤ 4) : (missF l facts).length ≤ facts.length * 4 :=
  Nat.le_trans miss_len (Nat.mul_le_mul_left _ h)
theorem missR_tot {s : List Int} {l : List (Int × Int × List Int)} {facts : List (Int × List Int)} : totS cE_Fact (missR s l facts) ≤ 400 := by
  unfold missR
  split
  · rename_i h
    rw [Bool.and_eq_true] at h
    have h1 := okRules_all h.1
    have h2 := okFacts_all h.2
    have h3 := missF_len (facts := facts) h1.2.1
    have h4 := facts_tot (n := 96) (fun f hf => (miss_ok h.1 h2.2 f hf).1) (by omega)
    omega
  · simp [totS]
theorem ok_len {l : List (Int × Int × List Int)} {facts : List (Int × List Int)} (h : ∃ s, okRules s l = true ∧ okFacts s facts = true) : facts.length ≤ 24 := by
  obtain ⟨s, h1, h2⟩ := h
  exact (okFacts_all h2).1
theorem ok_el {l : List (Int × Int × List Int)} {facts : List (Int × List Int)} (h : ∃ s, okRules s l = true ∧ okFacts s facts = true) : ∀ f ∈ facts, f.2.length ≤ 1048576 := by
  obtain ⟨s, h1, h2⟩ := h
  exact fun f hf => Nat.le_trans (okFact_len ((okFacts_all h2).2 f hf)) (by decide)
/- the closure -/
def closeIt (l : List (Int × Int × List Int)) (facts : List (Int × List Int)) : Nat → List (Int × List Int)
  | 0 => facts
  | n + 1 => (missF l (closeIt l facts n)).foldl addF (closeIt l facts n)
def closeF (l : List (Int × Int × List Int)) (facts : List (Int × List Int)) : List (Int × List Int) := closeIt l facts 6001
theorem close_stay {l : List (Int × Int × List Int)} {facts : List (Int × List Int)} {n : Nat} (h : missF l (closeIt l facts n) = []) : ∀ k, closeIt l facts (n + k) = closeIt l facts n
  | 0 => rfl
  | k + 1 => by
    show (missF l (closeIt l facts (n + k))).foldl addF (closeIt l facts (n + k)) = _
    rw [close_stay h k, h]; rfl
theorem close_done {l : List (Int × Int × List Int)} {facts : List (Int × List Int)} {n : Nat} (hn : n ≤ 6001) (h : missF l (closeIt l facts n) = []) : closeIt l facts n = closeF l facts := by
  have := close_stay h (6001 - n)
  rw [show n + (6001 - n) = 6001 by omega] at this
  exact this.symm
theorem nodup_lt : ∀ {n : Nat} {l : List Nat}, l.Nodup → (∀ x ∈ l, x < n) → l.length ≤ n
  | 0, l, _, h => by
    cases l with
    | nil => simp
    | cons x l => exact absurd (h x (by simp)) (by omega)
  | n + 1, l, hd, h => by
    by_cases hm : n ∈ l
    · have h1 := nodup_lt (n := n) (l := l.erase n) (hd.erase n) fun x hx => by
        have h2 := (hd.mem_erase_iff).1 hx
        have := h x h2.2; omega
      rw [List.length_erase_of_mem hm] at h1; omega
    · have h1 := nodup_lt (n := n) (l := l) hd fun x hx => by
        have h2 := h x hx
        have : x ≠ n := fun e => hm (e ▸ hx)
        omega
      omega
def codeV : List Int → Nat
  | [] => 0
  | v :: l => (v.toNat + 1) + 11 * codeV l
theorem codeV_inj : ∀ {a b : List Int}, (∀ x ∈ a, 0 ≤ x ∧ x ≤ 9) → (∀ x ∈ b, 0 ≤ x ∧ x ≤ 9) → codeV a = codeV b → a = b
  | [], [], _, _, _ => rfl
  | [], y :: b, _, _, h => by simp [codeV] at h; omega
  | x :: a, [], _, _, h => by simp [codeV] at h
  | x :: a, y :: b, ha, hb, h => by
    have h1 := ha x (by simp)
    have h2 := hb y (by simp)
    simp only [codeV] at h
    rw [codeV_inj (a := a) (b := b) (fun z hz => ha z (by simp [hz])) (fun z hz => hb z (by simp [hz])) (by omega), show x = y by omega]
theorem codeV_lt : ∀ {n : Nat} {a : List Int}, (∀ x ∈ a, 0 ≤ x ∧ x ≤ 9) → a.length ≤ n → codeV a < 11 ^ n
  | n, [], _, _ => by simp [codeV]; exact Nat.pow_pos (by decide)
  | 0, x :: a, _, h => by simp at h
  | n + 1, x :: a, ha, h => by
    have h1 := codeV_lt (n := n) (a := a) (fun z hz => ha z (by simp [hz])) (by simpa using h)
    have h2 := ha x (by simp)
    simp only [codeV, Nat.pow_succ]; omega
def codeF (f : Int × List Int) : Nat := f.1.toNat + 4 * codeV f.2
theorem okFact_rel {s : List Int} {f : Int × List Int} (h : okFact s f = true) : 0 ≤ f.1 ∧ f.1 < 4 := by
  simp only [okFact, Bool.and_eq_true, decide_eq_true_eq] at h
  have h1 := okRel_lt h.1
  have h2 := h.1
  simp only [okRel, okSchema, inR, Bool.and_eq_true, decide_eq_true_eq] at h2
  omega
theorem okFact_vals {s : List Int} {f : Int × List Int} (h : okFact s f = true) : ∀ x ∈ f.2, 0 ≤ x ∧ x ≤ 9 := by
  simp only [okFact, Bool.and_eq_true] at h
  exact okVals_mem h.2.2
theorem facts_few {s : List Int} {D : List (Int × List Int)} (hd : D.Nodup) (h : ∀ f ∈ D, okFact s f = true) : D.length ≤ 5324 := by
  have h1 : (D.map codeF).Nodup := by
    unfold List.Nodup at hd ⊢
    rw [List.pairwise_map]
    refine List.Pairwise.imp_of_mem (fun {a b} ha hb hab e => hab ?_) hd
    have ra := okFact_rel (h a ha)
    have rb := okFact_rel (h b hb)
    simp only [codeF] at e
    have e2 := codeV_inj (okFact_vals (h a ha)) (okFact_vals (h b hb)) (by omega)
    exact Prod.ext (by omega) e2
  have h2 := nodup_lt (n := 5324) h1 fun x hx => by
    obtain ⟨f, hf, rfl⟩ := List.mem_map.1 hx
    have r := okFact_rel (h f hf)
    have c := codeV_lt (n := 3) (okFact_vals (h f hf)) (okFact_len (h f hf))
    unfold codeF; omega
  simpa using h2
theorem insQ_mem {α : Type} {p : α → Bool} {f y : α} : ∀ {l : List α}, y ∈ l → y ∈ insQ p f l
  | x :: l, h => by
    simp only [insQ]
    simp only [List.mem_cons] at h
    split
    · simp [h]
    · rcases h with h | h
      · simp [h]
      · simp [insQ_mem h]
theorem insQ_self {α : Type} {p : α → Bool} {f : α} : ∀ {l : List α}, l.any p = true → f ∈ insQ p f l
  | x :: l, h => by
    simp only [insQ]
    split
    · simp
    · rename_i h1
      simp only [List.any_cons, h1, Bool.false_or] at h
      simp [insQ_self h]
theorem addF_mem {l : List (Int × List Int)} {f y : Int × List Int} (h : y ∈ l) : y ∈ addF l f := by
  unfold addF addP
  split
  · exact h
  · split
    · exact insQ_mem h
    · simp [h]
theorem hasF_mem {l : List (Int × List Int)} {f : Int × List Int} : hasF l f = true ↔ f ∈ l := by
  unfold hasF
  rw [List.any_eq_true]
  constructor
  · rintro ⟨x, hx, e⟩
    rw [decide_eq_true_eq, cmpF_zero] at e
    exact e ▸ hx
  · intro h
    exact ⟨f, h, by rw [decide_eq_true_eq, cmpF_zero]⟩
theorem addF_self {l : List (Int × List Int)} {f : Int × List Int} (h : hasF l f = false) : f ∈ addF l f := by
  unfold addF addP
  rw [h]
  simp only [Bool.false_eq_true, if_false]
  split
  · rename_i h1; exact insQ_self h1
  · simp
def gInv (s : List Int) (x D : List (Int × List Int)) : Prop := D.Nodup ∧ (∀ f ∈ D, f ∈ x) ∧ x.length ≤ 24 + D.length ∧ ∀ f ∈ x, okFact s f = true
theorem gInv_add {s : List Int} {x D : List (Int × List Int)} {f : Int × List Int} (h : gInv s x D) (hf : okFact s f = true) : ∃ D', gInv s (addF x f) D' ∧ D.length + (if hasF x f then 0 else 1) ≤ D'.length := by
  obtain ⟨h1, h2, h3, h4⟩ := h
  cases hx : hasF x f with
  | true => exact ⟨D, by rw [addF_has hx]; exact ⟨h1, h2, h3, h4⟩, by simp⟩
  | false =>
    refine ⟨f :: D, ⟨?_, ?_, ?_, ?_⟩, by simp⟩
    · rw [List.nodup_cons]
      exact ⟨fun hm => (by rw [hasF_mem.2 (h2 f hm)] at hx; cases hx), h1⟩
    · intro y hy
      simp only [List.mem_cons] at hy
      rcases hy with rfl | hy
      · exact addF_self hx
      · exact addF_mem (h2 y hy)
    · have := addP_len (h := hasF x f) (p := ltF f) (f := f) (l := x)
      simp only [addF, List.length_cons]; omega
    · intro y hy
      rcases addP_mem hy with hy | rfl
      · exact h4 y hy
      · exact hf
theorem gInv_fold {s : List Int} : ∀ {m x D : List (Int × List Int)}, gInv s x D → (∀ f ∈ m, okFact s f = true) → ∃ D', gInv s (m.foldl addF x) D' ∧ D.length ≤ D'.length
  | [], x, D, h, _ => ⟨D, h, Nat.le_refl _⟩
  | f :: m, x, D, h, hm => by
    obtain ⟨D1, g1, l1⟩ := gInv_add h (hm f (by simp))
    obtain ⟨D2, g2, l2⟩ := gInv_fold (m := m) g1 (fun y hy => hm y (by simp [hy]))
    exact ⟨D2, g2, by omega⟩
theorem gInv_fold1 {s : List Int} {m x D : List (Int × List Int)} (h : gInv s x D) (hm : ∀ f ∈ m, okFact s f = true ∧ hasF x f = false) (h0 : m ≠ []) : ∃ D', gInv s (m.foldl addF x) D' ∧ D.length + 1 ≤ D'.length := by
  cases m with
  | nil => exact absurd rfl h0
  | cons f m =>
    obtain ⟨D1, g1, l1⟩ := gInv_add h (hm f (by simp)).1
    obtain ⟨D2, g2, l2⟩ := gInv_fold (m := m) g1 (fun y hy => (hm y (by simp [hy])).1)
    rw [(hm f (by simp)).2] at l1
    refine ⟨D2, g2, ?_⟩
    simp only [Bool.false_eq_true, if_false] at l1
    omega
def cInv (l : List (Int × Int × List Int)) (facts : List (Int × List Int)) (n : Nat) : Prop := ∃ s, okRules s l = true ∧ ∃ D, gInv s (closeIt l facts n) D ∧ n ≤ D.length
theorem gInv_zero {s : List Int} {facts : List (Int × List Int)} (h2 : okFacts s facts = true) : gInv s facts [] := by
  have h := okFacts_all h2
  exact ⟨by simp, by simp, by simpa using h.1, h.2⟩
theorem cInv_zero {l : List (Int × Int × List Int)} {facts : List (Int × List Int)} (h : ∃ s, okRules s l = true ∧ okFacts s facts = true) : cInv l facts 0 := by
  obtain ⟨s, h1, h2⟩ := h
  exact ⟨s, h1, [], gInv_zero h2, by simp⟩
theorem cInv_step {l : List (Int × Int × List Int)} {facts : List (Int × List Int)} {n : Nat} (h : cInv l facts n) (h0 : missF l (closeIt l facts n) ≠ []) : cInv l facts (n + 1) := by
  obtain ⟨s, h1, D, g, hn⟩ := h
  obtain ⟨D', g', l'⟩ := gInv_fold1 g (miss_ok h1 g.2.2.2) h0
  exact ⟨s, h1, D', g', by omega⟩
theorem cInv_le {l : List (Int × Int × List Int)} {facts : List (Int × List Int)} {n : Nat} (h : cInv l facts n) : n ≤ 6000 ∧ (closeIt l facts n).length ≤ 6024 ∧ (missF l (closeIt l facts n)).length ≤ 24096 ∧ l.length ≤ 4 := by
  obtain ⟨s, h1, D, g, hn⟩ := h
  have h2 := facts_few g.1 (fun f hf => g.2.2.2 f (g.2.1 f hf))
  have h3 := g.2.2.1
  have h4 := (okRules_all h1).2.1
  have h5 := missF_len (facts := closeIt l facts n) h4
  omega
theorem cInv_h {l : List (Int × Int × List Int)} {facts : List (Int × List Int)} {n : Nat} (h : cInv l facts n) : (∀ r ∈ l, ∀ f ∈ closeIt l facts n, f.1 = r.1 → ∀ x ∈ r.2.2, 0 ≤ x ∧ x < f.2.length) ∧ (∀ r ∈ l, r.2.2.length ≤ 1048576) ∧ (∀ f ∈ missF l (closeIt l facts n), f.2.length ≤ 1048576) ∧ ∀ f ∈ closeIt l facts n, f.2.length ≤ 1048576 := by
  obtain ⟨s, h1, D, g, hn⟩ := h
  have h2 := ruled_h h1 g.2.2.2
  exact ⟨h2.1, h2.2.1, fun f hf => Nat.le_trans (okFact_len (miss_ok h1 g.2.2.2 f hf).1) (by decide), fun f hf => Nat.le_trans (okFact_len (g.2.2.2 f hf)) (by decide)⟩
theorem fold_len {m x : List (Int × List Int)} : (m.foldl addF x).length ≤ x.length + m.length := by
  induction m generalizing x with
  | nil => simp
  | cons f m ih =>
    have h1 := ih (x := addF x f)
    have h2 := addP_len (h := hasF x f) (p := ltF f) (f := f) (l := x)
    simp only [List.foldl_cons, List.length_cons]
    unfold addF at h1 ⊢; omega
theorem fold_el {n : Nat} : ∀ {m x : List (Int × List Int)}, (∀ f ∈ m, f.2.length ≤ n) → (∀ f ∈ x, f.2.length ≤ n) → ∀ f ∈ m.foldl addF x, f.2.length ≤ n
  | [], x, _, h => h
  | y :: m, x, hm, h => by
    refine fold_el (m := m) (x := addF x y) (fun f hf => hm f (by simp [hf])) fun f hf => ?_
    rcases addP_mem hf with hf | rfl
    · exact h f hf
    · exact hm _ (by simp)
theorem fold_elt {n g : Nat} {m x : List (Int × List Int)} (hm : ∀ f ∈ m, f.2.length ≤ n) (hx : ∀ f ∈ x, f.2.length ≤ n) : ∀ f ∈ (m.take g).foldl addF x, f.2.length ≤ n :=
  fold_el (fun f hf => hm f (List.mem_of_mem_take hf)) hx
theorem it_g {s : List Int} {l : List (Int × Int × List Int)} {facts : List (Int × List Int)} (h1 : okRules s l = true) (h2 : okFacts s facts = true) : ∀ n, ∃ D, gInv s (closeIt l facts n) D
  | 0 => ⟨[], gInv_zero h2⟩
  | n + 1 => by
    obtain ⟨D, g⟩ := it_g h1 h2 n
    obtain ⟨D', g', _⟩ := gInv_fold g (fun f hf => (miss_ok h1 g.2.2.2 f hf).1)
    exact ⟨D', g'⟩
theorem closeF_ok {s : List Int} {l : List (Int × Int × List Int)} {facts : List (Int × List Int)} (h1 : okRules s l = true) (h2 : okFacts s facts = true) : (closeF l facts).length ≤ 6024 ∧ ∀ f ∈ closeF l facts, okFact s f = true := by
  obtain ⟨D, g⟩ := it_g h1 h2 6001
  have h3 := facts_few g.1 (fun f hf => g.2.2.2 f (g.2.1 f hf))
  exact ⟨by have := g.2.2.1; unfold closeF; omega, g.2.2.2⟩
def closeR (s : List Int) (l : List (Int × Int × List Int)) (facts : List (Int × List Int)) : List (Int × List Int) := if okRules s l && okFacts s facts then closeF l facts else []
theorem closeR_tot {s : List Int} {l : List (Int × Int × List Int)} {facts : List (Int × List Int)} : totS cE_Fact (closeR s l facts) ≤ 24096 := by
  unfold closeR
  split
  · rename_i h
    rw [Bool.and_eq_true] at h
    have h2 := closeF_ok h.1 h.2
    have h4 := facts_tot (n := 6024) h2.2 h2.1
    omega
  · simp [totS]
end Go.Proofs.Ytnagfcajnbkdoaa
