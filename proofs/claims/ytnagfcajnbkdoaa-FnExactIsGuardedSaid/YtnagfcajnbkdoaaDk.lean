/- Plain definitions: terms, atoms, queries, unions, negated atoms. No program in sight. -/
import Derived.Test.YtnagfcajnbkdoaaDj
namespace Go.Proofs.Ytnagfcajnbkdoaa
set_option linter.unusedVariables false
theorem Tr.wk {P : Program} {f : FuncId} {args : List Value} {RR RR' : World → List Nat → Prop} {pre : List HP} {κ : Type} {φ : κ → Prop} {ret : κ → Value} {post : κ → List HP} (h : Tr P f args RR pre φ ret post) (hR : ∀ w L, RR' w L → RR w L) : Tr P f args RR' pre φ ret post :=
  ⟨h.1, fun w L hr hs hn => h.2 w L (hR w L hr) hs hn⟩
theorem setI_app {l m : List Int} : setI (l ++ m) = m.foldl putI (setI l) := by unfold setI; rw [List.foldl_append]
theorem setI_snoc {l : List Int} {x : Int} : setI (l ++ [x]) = putI (setI l) x := by rw [setI_app]; rfl
theorem hasI_mem {l : List Int} {x : Int} : hasI l x = true ↔ x ∈ l := by
  unfold hasI
  rw [List.any_eq_true]
  constructor
  · rintro ⟨y, hy, e⟩; simp at e; subst e; exact hy
  · intro h; exact ⟨x, h, by simp⟩
def termsF (is : Int → Bool) (atoms : List (Int × List Int)) : List Int := setI ((atoms.flatMap fun a => a.2).filter is)
theorem flat_len : ∀ {l : List (Int × List Int)}, (l.flatMap fun a => a.2).length = totS (fun x => x.2.length) l
  | [] => rfl
  | a :: l => by simp only [List.flatMap_cons, List.length_append, flat_len (l := l), totS, List.map_cons, List.sum_cons]
theorem terms_len {is : Int → Bool} {atoms : List (Int × List Int)} {g : Nat} (hz : totL (fun x => x.2.length) atoms ≤ 1048576) : (((atoms.take g).flatMap fun a => a.2).filter is).length ≤ 1048576 := by
  have h1 := List.length_filter_le is ((atoms.take g).flatMap fun a => a.2)
  have h2 := totS_le (t := fun x : Int × List Int => x.2.length) (l := atoms) (g := g)
  rw [flat_len] at h1
  unfold totL at hz; omega
theorem terms_len2 {is : Int → Bool} {atoms : List (Int × List Int)} {g h : Nat} (hz : totL (fun x => x.2.length) atoms ≤ 1048576) (hg : g < atoms.length) : (((atoms.take g).flatMap fun a => a.2).filter is ++ (atoms[g].2.take h).filter is).length ≤ 1048576 := by
  have h1 := List.length_filter_le is ((atoms.take g).flatMap fun a => a.2)
  have h2 := totS_le (t := fun x : Int × List Int => x.2.length) (l := atoms) (g := g + 1)
  have h3 := List.length_filter_le is (atoms[g].2.take h)
  have h4 := List.length_take_le' h atoms[g].2
  rw [totS_step hg] at h2
  rw [flat_len] at h1
  rw [List.length_append]
  unfold totL at hz; omega
def okTerm (t : Int) : Bool := inR t 0 9 || inR t 10 17
def okAtom (s : List Int) (a : Int × List Int) : Bool := okRel s a.1 && (decide ((a.2.length : Int) = at0 s a.1) && !a.2.any fun t => !okTerm t)
def okHead (q : List Int × List (Int × List Int)) : Bool := decide ((q.1.length : Int) ≤ 3) && !q.1.any fun t => !hasI (termsF (fun t => inR t 10 17) q.2) t
def okQuery (s : List Int) (q : List Int × List (Int × List Int)) : Bool := okSchema s && (inR (q.2.length : Int) 1 4 && ((!q.2.any fun a => !okAtom s a) && okHead q))
def badU (s : List Int) (u : List (List Int × List (Int × List Int))) (q : List Int × List (Int × List Int)) : Bool := !okQuery s q || decide ((q.1.length : Int) ≠ ((u.getD 0 ([], [])).1.length : Int))
def okUnion (s : List Int) (u : List (List Int × List (Int × List Int))) : Bool := inR (u.length : Int) 1 3 && !u.any (badU s u)
theorem okU_sch {s : List Int} {u : List (List Int × List (Int × List Int))} (h : okSchema s = false) : okUnion s u = false := by
  cases u with
  | nil => simp [okUnion, inR]
  | cons q u => simp [okUnion, badU, okQuery, h]
def okGuard (s : List Int) (g : (List Int × List (Int × List Int)) × List (Int × List Int)) : Bool :=
  okQuery s g.1 && (decide ((g.2.length : Int) ≤ 4) && ((!g.2.any fun a => !okAtom s a) && !(termsF (fun t => inR t 10 17) g.2).any fun t => !hasI (termsF (fun t => inR t 10 17) g.1.2) t))
theorem set_any {l : List Int} {p : Int → Bool} : (setI l).any p = l.any p := by
  rw [Bool.eq_iff_iff, List.any_eq_true, List.any_eq_true]
  constructor
  · rintro ⟨x, h, e⟩; exact ⟨x, setI_mem.1 h, e⟩
  · rintro ⟨x, h, e⟩; exact ⟨x, setI_mem.2 h, e⟩
theorem guard_terms {s v : List Int} : ∀ {l : List (Int × List Int)}, (l.any fun a => !okAtom s a || a.2.any fun t => inR t 10 17 && !hasI v t) = ((l.any fun a => !okAtom s a) || (termsF (fun t => inR t 10 17) l).any fun t => !hasI v t) := by
  intro l
  rw [termsF, set_any]
  induction l with
  | nil => rfl
  | cons a l ih =>
    have h : ∀ m : List Int, (m.filter fun t => inR t 10 17).any (fun t => !hasI v t) = m.any fun t => inR t 10 17 && !hasI v t := by
      intro m
      induction m with
      | nil => rfl
      | cons x m ih => simp only [List.filter_cons, List.any_cons, ← ih]; cases inR x 10 17 <;> simp
    simp only [List.any_cons, ih, List.flatMap_cons, List.filter_append, List.any_append, h]
    cases okAtom s a <;> cases (a.2.any fun t => inR t 10 17 && !hasI v t) <;> cases (l.any fun a => !okAtom s a) <;> simp
theorem union_len {u : List (List Int × List (Int × List Int))} {n : Nat} (h : totL (fun x => x.1.length + totL (fun x => x.2.length) x.2) u ≤ n) : ∀ q ∈ u, totL (fun x => x.2.length) q.2 ≤ n := fun q hq => Nat.le_trans (Nat.le_add_left _ _) (tot_mem h q hq)
end Go.Proofs.Ytnagfcajnbkdoaa
