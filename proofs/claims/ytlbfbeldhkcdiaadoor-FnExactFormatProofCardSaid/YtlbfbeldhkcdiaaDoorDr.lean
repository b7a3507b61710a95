/- Plain facts: bindings' numbers; contained queries. No program in sight. -/
import Derived.Test.YtlbfbeldhkcdiaaDoorBd
namespace Go.Proofs.YtlbfbeldhkcdiaaDoor
set_option linter.unusedVariables false
set_option linter.unusedSimpArgs false
theorem Ro.i64B {w : World} {L : List Nat} {e : TypeId} {a : Option Addr} {m c : Nat} {xs : List (List Int × List Int)} (h : Ro w L (Enc.sl e (Enc.pair (Enc.sl tI Enc.int) (Enc.sl tI Enc.int))) [.slice a m c] xs) : ∀ x ∈ xs, (∀ y ∈ x.1, I64 y) ∧ ∀ y ∈ x.2, I64 y := by
  intro x hx
  obtain ⟨i, hi, rfl⟩ := List.getElem_of_mem hx
  obtain ⟨_, _, ci, _, h1, _⟩ := h.elem i hi
  obtain ⟨c1, c2, rfl, h2, h3⟩ := h1.pair
  obtain ⟨a', c', rfl⟩ := h3.sl
  obtain ⟨a2, c2', rfl⟩ := h2.sl
  exact ⟨h2.i64, h3.i64⟩
theorem ansR_yes {s : List Int} {q : List Int × List (Int × List Int)} {facts : List (Int × List Int)} (h1 : okQuery s q = true) (h2 : okFacts s facts = true) : ansR s q facts = tupF q.1 (bindsF q.2 facts) := by simp [ansR, h1, h2]
theorem ansR_no {s : List Int} {q : List Int × List (Int × List Int)} {facts : List (Int × List Int)} (h2 : okFacts s facts = false) : ansR s q facts = [] := by simp [ansR, h2]
theorem ansR_len {s : List Int} {q : List Int × List (Int × List Int)} {facts : List (Int × List Int)} : (ansR s q facts).length ≤ 331776 ∧ ∀ t ∈ ansR s q facts, t.length ≤ 3 := by
  unfold ansR
  split
  · rename_i h
    rw [Bool.and_eq_true] at h
    have h1 := okQuery_h h.1
    have h2 := okFacts_all h.2
    have h3 := binds_lt (facts := facts) h2.1 h1.1 h1.2.2
    have h4 := tup_len (h := q.1) (l := bindsF q.2 facts)
    exact ⟨by omega, fun t ht => Nat.le_trans (tup_el (h := q.1) (l := bindsF q.2 facts) t ht) h1.2.1⟩
  · simp
theorem addT_fold {n : Nat} : ∀ {m out : List (List Int)}, (m.foldl addT out).length ≤ out.length + m.length ∧ ((∀ t ∈ out, t.length ≤ n) → (∀ t ∈ m, t.length ≤ n) → ∀ t ∈ m.foldl addT out, t.length ≤ n)
  | [], out => by simp
  | x :: m, out => by
    have h1 := addT_fold (n := n) (m := m) (out := addT out x)
    have h2 := addT_len (l := out) (t := x)
    refine ⟨by simp only [List.foldl_cons, List.length_cons]; omega, fun ho hm => h1.2 (fun t ht => ?_) (fun t ht => hm t (by simp [ht]))⟩
    rcases addP_mem ht with ht | rfl
    · exact ho t ht
    · exact hm _ (by simp)
def uniS (s : List Int) (facts : List (Int × List Int)) (out : List (List Int)) (q : List Int × List (Int × List Int)) : List (List Int) := (ansR s q facts).foldl addT out
def uniA (s : List Int) (u : List (List Int × List (Int × List Int))) (facts : List (Int × List Int)) : List (List Int) := if okUnion s u then u.foldl (uniS s facts) [] else []
theorem uni_fold {s : List Int} {facts : List (Int × List Int)} : ∀ {u : List (List Int × List (Int × List Int))} {out : List (List Int)}, (u.foldl (uniS s facts) out).length ≤ out.length + u.length * 331776 ∧ ((∀ t ∈ out, t.length ≤ 3) → ∀ t ∈ u.foldl (uniS s facts) out, t.length ≤ 3)
  | [], out => by simp
  | q :: u, out => by
    have h1 := uni_fold (s := s) (facts := facts) (u := u) (out := uniS s facts out q)
    have h2 := addT_fold (n := 3) (m := ansR s q facts) (out := out)
    have h3 := ansR_len (s := s) (q := q) (facts := facts)
    refine ⟨?_, fun ho => h1.2 (h2.2 ho h3.2)⟩
    have h4 : (uniS s facts out q).length ≤ out.length + (ansR s q facts).length := h2.1
    simp only [List.foldl_cons, List.length_cons, Nat.succ_mul]; omega
theorem uni_take {s : List Int} {facts : List (Int × List Int)} {u : List (List Int × List (Int × List Int))} {g h : Nat} {m : List (List Int)} (hg : g ≤ 3) (hm : m.length ≤ 331776) (he : ∀ t ∈ m, t.length ≤ 3) : ((m.take h).foldl addT ((u.take g).foldl (uniS s facts) [])).length ≤ 2000000 ∧ ∀ t ∈ (m.take h).foldl addT ((u.take g).foldl (uniS s facts) []), t.length ≤ 1048576 := by
  have h1 := uni_fold (s := s) (facts := facts) (u := u.take g) (out := [])
  have h2 := addT_fold (n := 3) (m := m.take h) (out := (u.take g).foldl (uniS s facts) [])
  have h3 := List.length_take_le g u
  have h4 := List.length_take_le' h m
  have h5 := Nat.mul_le_mul_right 331776 (Nat.le_trans h3 hg)
  simp only [List.length_nil] at h1
  refine ⟨by omega, fun t ht => Nat.le_trans (h2.2 (h1.2 (by simp)) (fun t ht => he t (List.mem_of_mem_take ht)) t ht) (by decide)⟩
theorem okUnion_h {s : List Int} {u : List (List Int × List (Int × List Int))} (h : okUnion s u = true) : u.length ≤ 3 ∧ ∀ q ∈ u, okQuery s q = true := by
  simp only [okUnion, badU, inR, Bool.and_eq_true, decide_eq_true_eq, Bool.not_eq_true', List.any_eq_false] at h
  refine ⟨by omega, fun q hq => ?_⟩
  have := h.2 q hq
  cases hk : okQuery s q with
  | true => rfl
  | false => simp [hk] at this
theorem uni_no {s : List Int} {facts : List (Int × List Int)} (h2 : okFacts s facts = false) : ∀ {u : List (List Int × List (Int × List Int))}, u.foldl (uniS s facts) [] = []
  | [] => rfl
  | q :: u => by
    have : uniS s facts [] q = [] := by simp [uniS, ansR_no h2]
    rw [List.foldl_cons, this, uni_no h2]
theorem uniA_tot {s : List Int} {u : List (List Int × List (Int × List Int))} {facts : List (Int × List Int)} : totS cE_Is (uniA s u facts) ≤ 3000000 := by
  unfold uniA
  split
  · rename_i h
    have h1 := uni_fold (s := s) (facts := facts) (u := u) (out := [])
    have h2 := okUnion_h h
    have h3 := Nat.mul_le_mul_right 331776 h2.1
    have h5 := tuples_tot (n := 995328) (h1.2 (by simp)) (by simp only [List.length_nil] at h1; omega)
    omega
  · simp [totS]
/- frozen queries -/
theorem terms_le {is : Int → Bool} {atoms : List (Int × List Int)} (hz : totL (fun x => x.2.length) atoms ≤ 1048576) : (termsF is atoms).length ≤ 1048576 := by
  have h1 := terms_len (is := is) (g := atoms.length) hz
  have h2 := setI_len (l := (atoms.flatMap fun a => a.2).filter is)
  rw [List.take_of_length_le (Nat.le_refl _)] at h1
  unfold termsF; omega
theorem vars_few {atoms : List (Int × List Int)} : (termsF (fun t => inR t 10 17) atoms).length ≤ 8 := by
  have h1 : (termsF (fun t => inR t 10 17) atoms).Pairwise (· < ·) := (setI_fold List.Pairwise.nil).1
  have h2 : ((termsF (fun t => inR t 10 17) atoms).map fun x => (x - 10).toNat).Nodup := by
    unfold List.Nodup
    rw [List.pairwise_map]
    refine List.Pairwise.imp_of_mem (fun {a b} ha hb hab e => ?_) h1
    have ra := vars_in a ha
    have rb := vars_in b hb
    omega
  have h3 := nodup_lt (n := 8) h2 fun x hx => by
    obtain ⟨y, hy, rfl⟩ := List.mem_map.1 hx
    have := vars_in y hy
    omega
  simpa using h3
theorem frzV_i64 {u : List Int} {n : Nat} (h : ∀ i, i < n → nextV u (fzN u i) ≤ 9) : ∀ x ∈ frzV u n, I64 x := by
  intro x hx
  simp only [frzV, List.mem_map, List.mem_range] at hx
  obtain ⟨i, hi, rfl⟩ := hx
  have := h i hi
  unfold I64; constructor <;> omega
theorem facts_tot2 : ∀ {l : List (Int × List Int)}, totS cE_Fact l = l.length + totS (fun x => x.2.length) l
  | [] => rfl
  | x :: l => by
    have h := facts_tot2 (l := l)
    simp only [totS, List.map_cons, List.sum_cons, List.length_cons] at h ⊢
    rw [h]
    have : cE_Fact x = 1 + x.2.length := by simp only [cE_Fact, totS_I]
    rw [this]; omega
theorem totS_insQ {α : Type} {t : α → Nat} {p : α → Bool} {f : α} : ∀ {l : List α}, totS t (insQ p f l) ≤ totS t l + t f
  | [] => by simp [insQ, totS]
  | x :: l => by
    have h := totS_insQ (t := t) (p := p) (f := f) (l := l)
    simp only [insQ]
    split <;> simp only [totS, List.map_cons, List.sum_cons] at h ⊢ <;> omega
theorem totS_addP {α : Type} {t : α → Nat} {h : Bool} {p : α → Bool} {f : α} {l : List α} : totS t (addP h p f l) ≤ totS t l + t f := by
  unfold addP
  split
  · omega
  · split
    · exact totS_insQ
    · simp [totS, List.sum_append]
theorem frzF_tot : ∀ {atoms out : List (Int × List Int)} {b : List Int × List Int}, totS (fun x => x.2.length) (atoms.foldl (fun out a => addF out (factO a b)) out) ≤ totS (fun x => x.2.length) out + totS (fun x => x.2.length) atoms
  | [], out, b => by simp [totS]
  | a :: atoms, out, b => by
    have h1 := frzF_tot (atoms := atoms) (out := addF out (factO a b)) (b := b)
    have h2 : totS (fun x => x.2.length) (addF out (factO a b)) ≤ totS (fun x => x.2.length) out + (factO a b).2.length := totS_addP
    have e : (factO a b).2.length = a.2.length := by simp [factO]
    rw [e] at h2
    simp only [List.foldl_cons, totS, List.map_cons, List.sum_cons] at h1 h2 ⊢
    omega
theorem fzF_tot {u : List Int} {atoms : List (Int × List Int)} (hz : totL (fun x => x.2.length) atoms ≤ 1048576) : totS cE_Fact (fzF u atoms) ≤ 3000000 ∧ totS cE_I (fzV u atoms) ≤ 8 ∧ totS cE_I (fzX u atoms) ≤ 8 := by
  have h0 := vars_few (atoms := atoms)
  unfold fzF fzV fzX
  cases fzB u atoms
  · simp [totS]
  · simp only [cond_true, totS_I, frzV_len]
    have h1 := frzF_tot (atoms := atoms) (out := []) (b := (varsF atoms, frzV u (varsF atoms).length))
    have h2 := frz_len (atoms := atoms) (b := (varsF atoms, frzV u (varsF atoms).length))
    have h3 := facts_tot2 (l := frzF atoms (varsF atoms, frzV u (varsF atoms).length))
    have h4 : totS (fun x : Int × List Int => x.2.length) ([] : List (Int × List Int)) = 0 := rfl
    unfold totL at hz
    unfold frzF at h2 h3 ⊢
    refine ⟨?_, h0, h0⟩
    rw [h3]
    omega
end Go.Proofs.YtlbfbeldhkcdiaaDoor
