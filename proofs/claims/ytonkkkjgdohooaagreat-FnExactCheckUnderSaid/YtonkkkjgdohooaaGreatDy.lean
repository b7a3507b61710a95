import Derived.Test.YtonkkkjgdohooaaGreatDx
namespace Go.Proofs.YtonkkkjgdohooaaGreat
set_option linter.unusedVariables false
set_option linter.unusedSimpArgs false
abbrev Mth := Int × List Int × Int × Int × Int
abbrev Fct := Int × List Int
abbrev Lin := Int × (Int × List Int) × Int × List Int
abbrev Rul := Int × Int × List Int
def atM (l : List Mth) (i : Int) : Mth := l.getD i.toNat (0, [], 0, 0, 0)
theorem atM_get {l : List Mth} {i : Int} (h : i.toNat < l.length) : atM l i = l[i.toNat] := by simp [atM, List.getD, h]
def atR (l : List Rul) (i : Int) : Rul := l.getD i.toNat (0, 0, [])
def okAcc (s : List Int) (l : List Mth) (a : Int × List Int) : Bool := okMeths s l && (inR a.1 0 ((l.length : Int) - 1) && (decide (a.2.length = (atM l a.1).2.1.length) && okVals a.2))
theorem okMeths_mem {s : List Int} {l : List Mth} (h : okMeths s l = true) : ∀ m ∈ l, okMeth s m = true := by
  simp only [okMeths, Bool.and_eq_true, Bool.not_eq_true', List.any_eq_false, decide_eq_true_eq] at h
  intro m hm
  have := h.2.2 m hm
  simpa using this
def givB (r : Rul) (f x : Fct) : Bool := decide (x.1 = r.1) && decide (cmpF (r.2.1, vals r.2.2 x.2) f = 0)
def givR (facts : List Fct) (f : Fct) (r : Rul) : Bool := facts.any (givB r f)
def ruleK (rules : List Rul) (facts : List Fct) (f : Fct) : Int := idxP (givR facts f) rules
theorem ruleK_hit {rules : List Rul} {facts : List Fct} {f : Fct} {g h : Nat} (po : ∀ x ∈ rules.take g, givR facts f x = false) (hg : g < rules.length) (hh : h < facts.length) (e1 : facts[h].1 = rules[g].1) (e2 : cmpF (rules[g].2.1, vals rules[g].2.2 facts[h].2) f = 0) : (g : Int) = ruleK rules facts f :=
  idxP_hit hg po (List.any_eq_true.2 ⟨facts[h], List.getElem_mem _, by rw [givB, decide_eq_true e1, decide_eq_true e2]; rfl⟩)
theorem ruleK_miss {rules : List Rul} {facts : List Fct} {f : Fct} {g : Nat} (po : ∀ x ∈ rules.take g, givR facts f x = false) (hg : ¬ g < rules.length) : (-1 : Int) = ruleK rules facts f := idxP_miss hg po
def knownV (seeds : List Int) (before : List Lin) (v : Int) : Bool := hasI seeds v || before.any (fun y => hasI y.2.2.2 v)
def rulB (s : List Int) (r : Rul) (x y : Fct) : Bool := impB s r y && decide (cmpF (impR s r y, impV s r y) x = 0)
def accL (s : List Int) (l : List Mth) (facts : List Fct) (kn : Int → Bool) (x : Lin) : Bool :=
  okAcc s l x.2.1 && (decide ((atM l x.2.1.1).2.2.1 = 0) && ((!x.2.1.2.any (fun v => !kn v)) && hasF (facts.filter (fitsF (atM l x.2.1.1) x.2.1.2)) x.2.2))
def rulL (s : List Int) (rules : List Rul) (gv : Bool) (x : Lin) : Bool := inR x.1 0 ((rules.length : Int) - 1) && (okFact s x.2.2 && gv)
def holdsL (s : List Int) (l : List Mth) (rules : List Rul) (facts : List Fct) (seeds : List Int) (before : List Lin) (x : Lin) : Bool :=
  if x.1 = -1 then accL s l facts (knownV seeds before) x else rulL s rules (before.any fun y => rulB s (atR rules x.1) x.2.2 y.2.2) x
def lin0 : Lin := (0, (0, []), 0, [])
/-- all lines from g on hold behind those ahead of them -/
def holdsG (s : List Int) (l : List Mth) (rules : List Rul) (facts : List Fct) (seeds : List Int) (lines : List Lin) (g : Nat) : Bool :=
  ((List.range lines.length).drop g).all fun i => holdsL s l rules facts seeds (lines.take i) (lines.getD i lin0)
def lastC (lines : List Lin) (f : Fct) : Bool := decide (cmpF (lines.getD (lines.length - 1) lin0).2.2 f = 0)
def checkP (s : List Int) (l : List Mth) (rules : List Rul) (facts : List Fct) (seeds : List Int) (f : Fct) (lines : List Lin) : Bool :=
  (okMeths s l && okRules s rules) && (okFacts s facts && (decide (0 < lines.length) && (lastC lines f && holdsG s l rules facts seeds lines 0)))
-- the other one's way
def fctsL (lines : List Lin) (g : Nat) : List Fct := ((lines.take g).map fun x => x.2.2).foldl addF []
def valsL (seeds : List Int) (lines : List Lin) (g : Nat) : List Int := (lines.take g).foldl (fun v x => x.2.2.2.foldl putI v) (setI (seeds.filter fun t => inR t 0 9))
def specL (s : List Int) (l : List Mth) (rules : List Rul) (facts : List Fct) (F : List Fct) (V : List Int) (x : Lin) : Bool :=
  if x.1 = -1 then accL s l facts (hasI V) x else rulL s rules (givR F x.2.2 (atR rules x.1)) x
def specG (s : List Int) (l : List Mth) (rules : List Rul) (facts : List Fct) (seeds : List Int) (lines : List Lin) (g : Nat) : Bool :=
  ((List.range lines.length).drop g).all fun i => specL s l rules facts (fctsL lines i) (valsL seeds lines i) (lines.getD i lin0)
theorem fold_addF {x : List Fct} : ∀ {v : List Fct} (y : Fct), y ∈ x.foldl addF v ↔ y ∈ v ∨ y ∈ x := by
  induction x with
  | nil => intro v y; simp
  | cons a x ih =>
    intro v y
    rw [List.foldl_cons, ih, List.mem_cons]
    have : y ∈ addF v a ↔ y ∈ v ∨ y = a := by
      refine ⟨fun h => addP_mem h, ?_⟩
      rintro (h | rfl)
      · exact addF_mem h
      · cases hh : hasF v y
        · exact addF_self hh
        · exact addF_mem (hasF_mem.1 hh)
    rw [this, or_assoc]
-- sizes
abbrev linT : Lin → Nat := fun x => x.2.1.2.length + x.2.2.2.length
theorem fputI_len : ∀ {l s : List Int}, (l.foldl putI s).length ≤ s.length + l.length := by
  intro l
  induction l with
  | nil => intro s; simp
  | cons a l ih =>
    intro s
    have h1 := ih (s := putI s a)
    have h2 := addP_len (h := hasI s a) (p := fun y => decide (a < y)) (f := a) (l := s)
    simp only [List.foldl_cons, List.length_cons]
    unfold putI at h1 ⊢; omega
end Go.Proofs.YtonkkkjgdohooaaGreat
