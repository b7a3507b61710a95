/- Plain definitions: accesses, the first rule that gives a fact, lines of a proof. No program in sight. -/
import Derived.Test.YtlbfbeldhkcdiaaDoorDx
namespace Go.Proofs.YtlbfbeldhkcdiaaDoor
set_option linter.unusedVariables false
set_option linter.unusedSimpArgs false
abbrev Mth := Int × List Int × Int × Int × Int
abbrev Fct := Int × List Int
abbrev Lin := Int × (Int × List Int) × Int × List Int
abbrev Rul := Int × Int × List Int
def atM (l : List Mth) (i : Int) : Mth := l.getD i.toNat (0, [], 0, 0, 0)
theorem atM_get {l : List Mth} {i : Int} (h : i.toNat < l.length) : atM l i = l[i.toNat] := by simp [atM, List.getD, h]
def atR (l : List Rul) (i : Int) : Rul := l.getD i.toNat (0, 0, [])
theorem atR_get {l : List Rul} {i : Int} (h : i.toNat < l.length) : atR l i = l[i.toNat] := by simp [atR, List.getD, h]
theorem inR_le {n a b : Int} (h : inR n a b = true) : a ≤ n ∧ n ≤ b := of_decide_eq_true h
def okAcc (s : List Int) (l : List Mth) (a : Int × List Int) : Bool := okMeths s l && (inR a.1 0 ((l.length : Int) - 1) && (decide (a.2.length = (atM l a.1).2.1.length) && okVals a.2))
theorem okAcc_all {s : List Int} {l : List Mth} {a : Int × List Int} (h : okAcc s l a = true) : okMeths s l = true ∧ (0 ≤ a.1 ∧ a.1.toNat < l.length) ∧ a.2.length = (atM l a.1).2.1.length ∧ okVals a.2 = true := by
  simp only [okAcc, Bool.and_eq_true, decide_eq_true_eq] at h
  have h1 := inR_le h.2.1
  exact ⟨h.1, ⟨by omega, by omega⟩, h.2.2.1, h.2.2.2⟩
theorem okMeths_mem {s : List Int} {l : List Mth} (h : okMeths s l = true) : ∀ m ∈ l, okMeth s m = true := by
  simp only [okMeths, Bool.and_eq_true, Bool.not_eq_true', List.any_eq_false, decide_eq_true_eq] at h
  intro m hm
  have := h.2.2 m hm
  simpa using this
theorem okAcc_mem {s : List Int} {l : List Mth} {a : Int × List Int} (h : okAcc s l a = true) : okMeth s (atM l a.1) = true := by
  obtain ⟨h1, h2, _⟩ := okAcc_all h
  rw [atM_get h2.2]
  exact okMeths_mem h1 _ (List.getElem_mem _)
theorem acc_in {s : List Int} {l : List Mth} {a : Int × List Int} {facts : List Fct} (h : okAcc s l a = true) (hf : okFacts s facts = true) : ∀ f ∈ facts, f.1 = (atM l a.1).1 → ∀ i ∈ (atM l a.1).2.1, 0 ≤ i ∧ i < f.2.length :=
  fun f hm e => okMeth_fact (okAcc_mem h) ((okFacts_all hf).2 f hm) e
def givB (r : Rul) (f x : Fct) : Bool := decide (x.1 = r.1) && decide (cmpF (r.2.1, vals r.2.2 x.2) f = 0)
def givR (facts : List Fct) (f : Fct) (r : Rul) : Bool := facts.any (givB r f)
def ruleK (rules : List Rul) (facts : List Fct) (f : Fct) : Int := idxP (givR facts f) rules
theorem ruleK_hit {rules : List Rul} {facts : List Fct} {f : Fct} {g h : Nat} (po : ∀ x ∈ rules.take g, givR facts f x = false) (hg : g < rules.length) (hh : h < facts.length) (e1 : facts[h].1 = rules[g].1) (e2 : cmpF (rules[g].2.1, vals rules[g].2.2 facts[h].2) f = 0) : (g : Int) = ruleK rules facts f :=
  idxP_hit hg po (List.any_eq_true.2 ⟨facts[h], List.getElem_mem _, by rw [givB, decide_eq_true e1, decide_eq_true e2]; rfl⟩)
theorem ruleK_miss {rules : List Rul} {facts : List Fct} {f : Fct} {g : Nat} (po : ∀ x ∈ rules.take g, givR facts f x = false) (hg : ¬ g < rules.length) : (-1 : Int) = ruleK rules facts f := idxP_miss hg po
theorem ruleK_one {r : Rul} {facts : List Fct} {f : Fct} : decide (ruleK [r] facts f = 0) = givR facts f r := by
  cases h : givR facts f r <;> simp [ruleK, idxP, h]
def knownV (seeds : List Int) (before : List Lin) (v : Int) : Bool := hasI seeds v || before.any (fun y => hasI y.2.2.2 v)
def rulB (s : List Int) (r : Rul) (x y : Fct) : Bool := impB s r y && decide (cmpF (impR s r y, impV s r y) x = 0)
def accL (s : List Int) (l : List Mth) (facts : List Fct) (kn : Int → Bool) (x : Lin) : Bool :=
  okAcc s l x.2.1 && (decide ((atM l x.2.1.1).2.2.1 = 0) && ((!x.2.1.2.any (fun v => !kn v)) && hasF (facts.filter (fitsF (atM l x.2.1.1) x.2.1.2)) x.2.2))
def rulL (s : List Int) (rules : List Rul) (gv : Bool) (x : Lin) : Bool := inR x.1 0 ((rules.length : Int) - 1) && (okFact s x.2.2 && gv)
def holdsL (s : List Int) (l : List Mth) (rules : List Rul) (facts : List Fct) (seeds : List Int) (before : List Lin) (x : Lin) : Bool :=
  if x.1 = -1 then accL s l facts (knownV seeds before) x else rulL s rules (before.any fun y => rulB s (atR rules x.1) x.2.2 y.2.2) x
def lin0 : Lin := (0, (0, []), 0, [])
/-- all lines from g on hold behind those ahead of them -/
def holdsG (s : List Int) (l : List Mth) (rules : List Rul) (facts : List Fct) (seeds : List Int) (lines : List Lin) (g : Nat) : Bool :=
  ((List.range lines.length).drop g).all fun i => holdsL s l rules facts seeds (lines.take i) (lines.getD i lin0)
theorem holdsG_step {s : List Int} {l : List Mth} {rules : List Rul} {facts : List Fct} {seeds : List Int} {lines : List Lin} {g : Nat} (h : g < lines.length) :
    holdsG s l rules facts seeds lines g = (holdsL s l rules facts seeds (lines.take g) lines[g] && holdsG s l rules facts seeds lines (g + 1)) := by
  unfold holdsG
  rw [List.drop_eq_getElem_cons (by simpa using h)]
  simp [List.getD, h]
theorem holdsG_end {s : List Int} {l : List Mth} {rules : List Rul} {facts : List Fct} {seeds : List Int} {lines : List Lin} {g : Nat} (h : lines.length ≤ g) : holdsG s l rules facts seeds lines g = true := by
  unfold holdsG
  rw [List.drop_eq_nil_of_le (by simpa using h)]; rfl
def lastC (lines : List Lin) (f : Fct) : Bool := decide (cmpF (lines.getD (lines.length - 1) lin0).2.2 f = 0)
theorem lastC_get {lines : List Lin} {f : Fct} (h : lines.length - 1 < lines.length) : lastC lines f = decide (cmpF lines[lines.length - 1].2.2 f = 0) := by simp [lastC, List.getD, h]
def checkP (s : List Int) (l : List Mth) (rules : List Rul) (facts : List Fct) (seeds : List Int) (f : Fct) (lines : List Lin) : Bool :=
  (okMeths s l && okRules s rules) && (okFacts s facts && (decide (0 < lines.length) && (lastC lines f && holdsG s l rules facts seeds lines 0)))
-- the other one's way
def fctsL (lines : List Lin) (g : Nat) : List Fct := ((lines.take g).map fun x => x.2.2).foldl addF []
def valsL (seeds : List Int) (lines : List Lin) (g : Nat) : List Int := (lines.take g).foldl (fun v x => x.2.2.2.foldl putI v) (setI (seeds.filter fun t => inR t 0 9))
theorem fctsL_step {lines : List Lin} {g : Nat} (h : g < lines.length) : addF (fctsL lines g) lines[g].2.2 = fctsL lines (g + 1) := by
  unfold fctsL; rw [List.take_succ_eq_append_getElem h, List.map_append, List.foldl_append]; rfl
theorem valsL_step {seeds : List Int} {lines : List Lin} {g : Nat} (h : g < lines.length) : lines[g].2.2.2.foldl putI (valsL seeds lines g) = valsL seeds lines (g + 1) := by
  unfold valsL; rw [List.take_succ_eq_append_getElem h, List.foldl_append]; rfl
def specL (s : List Int) (l : List Mth) (rules : List Rul) (facts : List Fct) (F : List Fct) (V : List Int) (x : Lin) : Bool :=
  if x.1 = -1 then accL s l facts (hasI V) x else rulL s rules (givR F x.2.2 (atR rules x.1)) x
def specG (s : List Int) (l : List Mth) (rules : List Rul) (facts : List Fct) (seeds : List Int) (lines : List Lin) (g : Nat) : Bool :=
  ((List.range lines.length).drop g).all fun i => specL s l rules facts (fctsL lines i) (valsL seeds lines i) (lines.getD i lin0)
theorem specG_step {s : List Int} {l : List Mth} {rules : List Rul} {facts : List Fct} {seeds : List Int} {lines : List Lin} {g : Nat} (h : g < lines.length) :
    specG s l rules facts seeds lines g = (specL s l rules facts (fctsL lines g) (valsL seeds lines g) lines[g] && specG s l rules facts seeds lines (g + 1)) := by
  unfold specG
  rw [List.drop_eq_getElem_cons (by simpa using h)]
  simp [List.getD, h]
theorem specG_end {s : List Int} {l : List Mth} {rules : List Rul} {facts : List Fct} {seeds : List Int} {lines : List Lin} {g : Nat} (h : lines.length ≤ g) : specG s l rules facts seeds lines g = true := by
  unfold specG
  rw [List.drop_eq_nil_of_le (by simpa using h)]; rfl
theorem fold_putI {x : List Lin} : ∀ {v : List Int}, v.Pairwise (· < ·) → ((x.foldl (fun v x => x.2.2.2.foldl putI v) v).Pairwise (· < ·) ∧ ∀ y, y ∈ x.foldl (fun v x => x.2.2.2.foldl putI v) v ↔ y ∈ v ∨ ∃ z ∈ x, y ∈ z.2.2.2) := by
  induction x with
  | nil => intro v h; simpa using h
  | cons a x ih =>
    intro v h
    have h1 := setI_fold (l := a.2.2.2) h
    have h2 := ih h1.1
    refine ⟨h2.1, fun y => ?_⟩
    rw [List.foldl_cons, h2.2 y, h1.2 y]
    simp only [List.mem_cons, exists_eq_or_imp, or_assoc]
theorem valsL_mem {seeds : List Int} {lines : List Lin} {g : Nat} {v : Int} (hv : inR v 0 9 = true) : hasI (valsL seeds lines g) v = knownV seeds (lines.take g) v := by
  rw [Bool.eq_iff_iff, hasI_mem, valsL, (fold_putI setI_asc).2 v, setI_mem, knownV, Bool.or_eq_true, hasI_mem, List.any_eq_true, List.mem_filter]
  simp only [hasI_mem, hv, and_true]
theorem fold_addF {x : List Fct} : ∀ {v : List Fct} (y : Fct), y ∈ x.foldl addF v ↔ y ∈ v ∨ y ∈ x := by
  induction x with
  | nil => intro v y; simp
  | cons a x ih =>
    intro v y
    rw [List.foldl_cons, ih, List.mem_cons]
    have : y ∈ addF v a ↔ y ∈ v ∨ y = a := by
      refine ⟨fun h => addP_mem h, ?_⟩
      rintro (h | rfl)
      · exact addF_mem h
      · cases hh : hasF v y
        · exact addF_self hh
        · exact addF_mem (hasF_mem.1 hh)
    rw [this, or_assoc]
theorem fctsL_mem {lines : List Lin} {g : Nat} {y : Fct} : y ∈ fctsL lines g ↔ ∃ z ∈ lines.take g, z.2.2 = y := by
  rw [fctsL, fold_addF]
  simp only [List.not_mem_nil, false_or, List.mem_map]
theorem any_ext {α : Type} {l : List α} {p q : α → Bool} (h : ∀ x ∈ l, p x = q x) : l.any p = l.any q := by
  induction l with
  | nil => rfl
  | cons a l ih => rw [List.any_cons, List.any_cons, h a (by simp), ih fun x hx => h x (by simp [hx])]
theorem spec_holds {s : List Int} {l : List Mth} {rules : List Rul} {facts : List Fct} {seeds : List Int} {lines : List Lin} {g : Nat} {x : Lin} (hr : okRules s rules = true) (hb : ∀ y ∈ lines.take g, okFact s y.2.2 = true) :
    specL s l rules facts (fctsL lines g) (valsL seeds lines g) x = holdsL s l rules facts seeds (lines.take g) x := by
  unfold specL holdsL
  split
  · unfold accL
    cases ha : okAcc s l x.2.1
    · rfl
    · rw [any_ext (q := fun v => !knownV seeds (lines.take g) v)]
      intro v hv
      have hw := okVals_mem (okAcc_all ha).2.2.2 v hv
      rw [valsL_mem (by simp only [inR]; exact decide_eq_true hw)]
  · unfold rulL
    cases hi : inR x.1 0 ((rules.length : Int) - 1)
    · rfl
    · have h1 := inR_le hi
      have h2 : okRule s (atR rules x.1) = true := by
        rw [atR_get (by omega)]
        exact (okRules_all hr).2.2 _ (List.getElem_mem _)
      have h3 : givR (fctsL lines g) x.2.2 (atR rules x.1) = (lines.take g).any fun y => rulB s (atR rules x.1) x.2.2 y.2.2 := by
        rw [Bool.eq_iff_iff, givR, List.any_eq_true, List.any_eq_true]
        constructor
        · rintro ⟨y, hy, h⟩
          obtain ⟨z, hz, rfl⟩ := fctsL_mem.1 hy
          refine ⟨z, hz, ?_⟩
          simp only [givB, Bool.and_eq_true, decide_eq_true_eq] at h
          have h4 := impB_yes h2 (hb z hz) h.1
          simp only [rulB, impR, impV, h4, cond_true, h.2, decide_true, Bool.and_self]
        · rintro ⟨z, hz, h⟩
          refine ⟨z.2.2, fctsL_mem.2 ⟨z, hz, rfl⟩, ?_⟩
          simp only [rulB, Bool.and_eq_true, decide_eq_true_eq] at h
          have h4 := h.1
          rw [impB_is h2 (hb z hz), decide_eq_true_eq] at h4
          have h5 := h.2
          simp only [impR, impV, h.1, cond_true] at h5
          simp only [givB, h4, h5, decide_true, Bool.and_self]
      rw [h3]
theorem spec_ok {s : List Int} {l : List Mth} {rules : List Rul} {facts : List Fct} {F : List Fct} {V : List Int} {x : Lin} (hf : okFacts s facts = true) (h : specL s l rules facts F V x = true) : okFact s x.2.2 = true := by
  unfold specL at h
  split at h
  · simp only [accL, Bool.and_eq_true] at h
    exact (okFacts_all hf).2 _ (List.mem_filter.1 (hasF_mem.1 h.2.2.2)).1
  · simp only [rulL, Bool.and_eq_true] at h
    exact h.2.1
theorem specG_holdsG {s : List Int} {l : List Mth} {rules : List Rul} {facts : List Fct} {seeds : List Int} {lines : List Lin} (hr : okRules s rules = true) (hf : okFacts s facts = true) :
    ∀ (n g : Nat), lines.length - g = n → (∀ y ∈ lines.take g, okFact s y.2.2 = true) → specG s l rules facts seeds lines g = holdsG s l rules facts seeds lines g := by
  intro n
  induction n with
  | zero => intro g hg hb; rw [specG_end (by omega), holdsG_end (by omega)]
  | succ n ih =>
    intro g hg hb
    have h : g < lines.length := by omega
    rw [specG_step h, holdsG_step h, ← spec_holds hr hb]
    cases hs : specL s l rules facts (fctsL lines g) (valsL seeds lines g) lines[g]
    · rfl
    · rw [ih (g + 1) (by omega)]
      intro y hy
      rw [List.take_succ_eq_append_getElem h] at hy
      rcases List.mem_append.1 hy with hy | hy
      · exact hb y hy
      · obtain rfl := List.mem_singleton.1 hy
        exact spec_ok hf hs
theorem spec_check {s : List Int} {l : List Mth} {rules : List Rul} {facts : List Fct} {seeds : List Int} {f : Fct} {lines : List Lin} :
    checkP s l rules facts seeds f lines = ((okMeths s l && okRules s rules) && (okFacts s facts && (decide (0 < lines.length) && (specG s l rules facts seeds lines 0 && lastC lines f)))) := by
  unfold checkP
  cases h1 : okMeths s l && okRules s rules
  · rfl
  · cases h2 : okFacts s facts
    · rfl
    · rw [specG_holdsG (by simp only [Bool.and_eq_true] at h1; exact h1.2) h2 _ 0 rfl (by simp), Bool.and_comm (lastC lines f)]
-- sizes
abbrev linT : Lin → Nat := fun x => x.2.1.2.length + x.2.2.2.length
theorem fputI_len : ∀ {l s : List Int}, (l.foldl putI s).length ≤ s.length + l.length := by
  intro l
  induction l with
  | nil => intro s; simp
  | cons a l ih =>
    intro s
    have h1 := ih (s := putI s a)
    have h2 := addP_len (h := hasI s a) (p := fun y => decide (a < y)) (f := a) (l := s)
    simp only [List.foldl_cons, List.length_cons]
    unfold putI at h1 ⊢; omega
theorem valsL_len {seeds : List Int} {lines : List Lin} {g : Nat} : (valsL seeds lines g).length ≤ seeds.length + totS linT (lines.take g) := by
  have h1 : ∀ {x : List Lin} {v : List Int}, (x.foldl (fun v x => x.2.2.2.foldl putI v) v).length ≤ v.length + totS linT x := by
    intro x
    induction x with
    | nil => intro v; simp
    | cons a x ih =>
      intro v
      have h2 := ih (v := a.2.2.2.foldl putI v)
      have h3 := fputI_len (l := a.2.2.2) (s := v)
      have h4 : totS linT (a :: x) = linT a + totS linT x := by simp [totS]
      have h5 : linT a = a.2.1.2.length + a.2.2.2.length := rfl
      rw [List.foldl_cons]; omega
  have h2 := h1 (x := lines.take g) (v := setI (seeds.filter fun t => inR t 0 9))
  have h3 := setI_len (l := seeds.filter fun t => inR t 0 9)
  have h4 := List.length_filter_le (fun t => inR t 0 9) seeds
  unfold valsL; omega
theorem valsL_len2 {seeds : List Int} {lines : List Lin} {g k : Nat} (h1 : seeds.length ≤ 1048576) (h2 : totL linT lines ≤ 1048576) (h : g < lines.length) : ((lines[g].2.2.2.take k).foldl putI (valsL seeds lines g)).length ≤ 2097152 := by
  have a1 := valsL_len (seeds := seeds) (lines := lines) (g := g)
  have a2 := fputI_len (l := lines[g].2.2.2.take k) (s := valsL seeds lines g)
  have a3 := totS_step (t := linT) h
  have a4 := totS_le (t := linT) (l := lines) (g := g + 1)
  have a5 : lines[g].2.2.2.length ≤ linT lines[g] := Nat.le_add_left _ _
  have a6 := List.length_take_le' k lines[g].2.2.2
  unfold totL at h2; omega
theorem fctsL_len {lines : List Lin} {g : Nat} (h2 : totL linT lines ≤ 1048576) : (fctsL lines g).length ≤ 1048576 := by
  have h3 := fold_len (m := (lines.take g).map fun x => x.2.2) (x := [])
  have h4 := List.length_take_le g lines
  have h5 := List.length_take_le' g lines
  simp only [List.length_map, List.length_nil] at h3
  unfold totL at h2; unfold fctsL
  simp only [List.length_take] at h3
  omega
theorem line_len {lines : List Lin} (h2 : totL linT lines ≤ 1048576) : ∀ x ∈ lines, x.2.2.2.length ≤ 1048576 ∧ x.2.1.2.length ≤ 1048576 := by
  intro x hx
  obtain ⟨g, hg, rfl⟩ := List.getElem_of_mem hx
  have h3 := tot_elem (t := linT) hg
  have a5 : linT lines[g] = lines[g].2.1.2.length + lines[g].2.2.2.length := rfl
  omega
theorem fctsL_el {lines : List Lin} {g : Nat} (h2 : totL linT lines ≤ 1048576) : ∀ f ∈ fctsL lines g, f.2.length ≤ 1048576 := by
  intro f hf
  obtain ⟨z, hz, rfl⟩ := fctsL_mem.1 hf
  exact (line_len h2 z (List.mem_of_mem_take hz)).1
theorem fctsL_ok {s : List Int} {lines : List Lin} {g : Nat} (hb : ∀ y ∈ lines.take g, okFact s y.2.2 = true) : ∀ f ∈ fctsL lines g, okFact s f = true := by
  intro f hf
  obtain ⟨z, hz, rfl⟩ := fctsL_mem.1 hf
  exact hb z hz
theorem ok_snoc {s : List Int} {lines : List Lin} {g : Nat} (hb : ∀ y ∈ lines.take g, okFact s y.2.2 = true) (h : g < lines.length) (ho : okFact s lines[g].2.2 = true) : ∀ y ∈ lines.take (g + 1), okFact s y.2.2 = true := by
  intro y hy
  rw [List.take_succ_eq_append_getElem h] at hy
  rcases List.mem_append.1 hy with hy | hy
  · exact hb y hy
  · obtain rfl := List.mem_singleton.1 hy
    exact ho
theorem mid_rule {s : List Int} {l : List Mth} {rules : List Rul} {F : List Fct} {a b : Nat} (h : (okMeths s l && okRules s rules) = true) (hb : ∀ f ∈ F, okFact s f = true) : ∀ r ∈ (rules.take a).drop b, ∀ f ∈ F, f.1 = r.1 → ∀ x ∈ r.2.2, 0 ≤ x ∧ x < f.2.length := by
  intro r hr f hf e
  simp only [Bool.and_eq_true] at h
  exact rule_fact ((okRules_all h.2).2.2 r (List.mem_of_mem_take (List.mem_of_mem_drop hr))) (hb f hf) e
theorem mid_rlen {s : List Int} {l : List Mth} {rules : List Rul} {a b : Nat} (h : (okMeths s l && okRules s rules) = true) : ∀ r ∈ (rules.take a).drop b, r.2.2.length ≤ 1048576 := by
  intro r hr
  simp only [Bool.and_eq_true] at h
  exact Nat.le_trans (rule_len ((okRules_all h.2).2.2 r (List.mem_of_mem_take (List.mem_of_mem_drop hr)))) (by decide)
theorem mid_one {α : Type} {l : List α} {i : Nat} (h : i < l.length) : (l.take (i + 1)).drop i = [l[i]] := by
  rw [List.take_succ_eq_append_getElem h, List.drop_left' (by simp; omega)]
end Go.Proofs.YtlbfbeldhkcdiaaDoor
