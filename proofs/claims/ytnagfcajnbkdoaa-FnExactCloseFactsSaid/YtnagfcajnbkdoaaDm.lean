/- What the laws' mark functions write: every number of a value becomes the next one. Made by program. -/
import Derived.Test.YtnagfcajnbkdoaaDa
namespace Go.Proofs.Ytnagfcajnbkdoaa
set_option linter.unusedVariables false
set_option linter.unusedSimpArgs false
def mkL {α : Type} (c : α → Nat) (m : α → Int → α) : List α → Int → List α
  | [], _ => []
  | x :: xs, k => m x k :: mkL c m xs (k + (c x : Nat))
section
variable {α : Type} {c : α → Nat} {m : α → Int → α}
theorem mkL_len : ∀ {xs : List α} {k : Int}, (mkL c m xs k).length = xs.length
  | [], _ => rfl
  | _ :: xs, k => by simp [mkL, mkL_len]
theorem mkL_app : ∀ {xs ys : List α} {k : Int}, mkL c m (xs ++ ys) k = mkL c m xs k ++ mkL c m ys (k + (totS c xs : Nat))
  | [], ys, k => by simp [mkL, totS]
  | x :: xs, ys, k => by
    have h : (totS c (x :: xs) : Int) = (c x : Int) + (totS c xs : Int) := by simp [totS]
    simp [mkL, mkL_app (xs := xs), h, Int.add_assoc]
theorem mk_get {a : List α} {k : Int} {g : Nat} (h : g < a.length) : (mkL c m (a.take g) k ++ a.drop g)[g]? = some a[g] := by
  rw [List.getElem?_append_right (by rw [mkL_len]; simp; omega), mkL_len, List.length_take, Nat.min_eq_left (by omega), Nat.sub_self, List.getElem?_drop]
  simp [h]
theorem mk_set {a : List α} {k : Int} {g : Nat} {x : α} (h : g < a.length) (hx : x = m a[g] (k + (totS c (a.take g) : Nat))) : (mkL c m (a.take g) k ++ a.drop g).set g x = mkL c m (a.take (g + 1)) k ++ a.drop (g + 1) := by
  subst hx
  rw [List.take_succ_eq_append_getElem h, mkL_app, List.drop_eq_getElem_cons h]
  have hl : (mkL c m (a.take g) k).length = g := by rw [mkL_len]; simp; omega
  rw [List.set_append_right _ _ (by omega), hl, Nat.sub_self]
  simp only [List.set_cons_zero, mkL, List.append_assoc, List.singleton_append]
theorem mk_all {a : List α} {k : Int} {g : Nat} (h : a.length ≤ g) : mkL c m (a.take g) k ++ a.drop g = mkL c m a k := by
  rw [List.take_of_length_le h, List.drop_eq_nil_of_le h, List.append_nil]
theorem mkL_getq : ∀ {a : List α} {k : Int} {g : Nat} (h : g < a.length), (mkL c m a k)[g]? = some (m a[g] (k + (totS c (a.take g) : Nat)))
  | x :: xs, k, 0, _ => by simp [mkL, totS]
  | x :: xs, k, g + 1, h => by
    have h1 : g < xs.length := by simpa using h
    have e : (totS c ((x :: xs).take (g + 1)) : Int) = (c x : Int) + (totS c (xs.take g) : Int) := by simp [totS]
    simp only [mkL, List.getElem?_cons_succ, mkL_getq h1, List.getElem_cons_succ, e, Int.add_assoc]
/-- in a list that is marked each element is marked -/
theorem mkL_at {a : List α} {k : Int} {g : Nat} (hz : mkL c m a k = a) (h : g < a.length) : m a[g] (k + (totS c (a.take g) : Nat)) = a[g] := by
  have h1 := mkL_getq (c := c) (m := m) (k := k) h
  rw [hz, List.getElem?_eq_getElem h] at h1
  exact (Option.some.inj h1).symm
theorem mkL_c (hc : ∀ x k, c (m x k) = c x) : ∀ {xs : List α} {k : Int}, totS c (mkL c m xs k) = totS c xs
  | [], _ => rfl
  | x :: xs, k => by
    have h := mkL_c hc (xs := xs) (k := k + (c x : Nat))
    simp only [totS, mkL, List.map_cons, List.sum_cons, hc] at h ⊢; rw [h]
theorem mkL_mk (hc : ∀ x k, c (m x k) = c x) (hm : ∀ x k, m (m x k) k = m x k) : ∀ {xs : List α} {k : Int}, mkL c m (mkL c m xs k) k = mkL c m xs k
  | [], _ => rfl
  | x :: xs, k => by simp only [mkL, hc, hm, mkL_mk hc hm]
end
theorem permOw {α : Type} {E : Enc α} {cs : List Value} {xs ys : α} (h : xs = ys) : [ow E cs xs].Perm [ow E cs ys] := by rw [h]
def cE_I (_ : Int) : Nat := 1
def mE_I (_ : Int) (k : Int) : Int := k
theorem cm_I (x k : Int) : cE_I (mE_I x k) = cE_I x := rfl
theorem mm_I (x k : Int) : mE_I (mE_I x k) k = mE_I x k := rfl
theorem totS_I : ∀ {l : List Int}, totS cE_I l = l.length
  | [] => rfl
  | x :: l => by have h := totS_I (l := l); simp only [totS, List.map_cons, List.sum_cons, List.length_cons] at h ⊢; rw [h]; simp [cE_I]; omega
def cE_Is (x : List Int) : Nat := totS cE_I x
def mE_Is (x : List Int) (k : Int) : List Int := mkL cE_I mE_I x k
theorem cm_Is (x : List Int) (k : Int) : cE_Is (mE_Is x k) = cE_Is x := mkL_c cm_I
theorem mm_Is (x : List Int) (k : Int) : mE_Is (mE_Is x k) k = mE_Is x k := mkL_mk cm_I mm_I
def cE_Fact (x : Int × List Int) : Nat := 1 + totS cE_I x.2
def mE_Fact (x : Int × List Int) (k : Int) : Int × List Int := ((k), mkL cE_I mE_I x.2 (k + 1))
theorem cm_Fact (x : Int × List Int) (k : Int) : cE_Fact (mE_Fact x k) = cE_Fact x := by simp [cE_Fact, mE_Fact, mkL_c cm_I]
theorem mm_Fact (x : Int × List Int) (k : Int) : mE_Fact (mE_Fact x k) k = mE_Fact x k := by simp [mE_Fact, mkL_c cm_I, mkL_mk cm_I mm_I]
def cE_Facts (x : List (Int × List Int)) : Nat := totS cE_Fact x
def mE_Facts (x : List (Int × List Int)) (k : Int) : List (Int × List Int) := mkL cE_Fact mE_Fact x k
theorem cm_Facts (x : List (Int × List Int)) (k : Int) : cE_Facts (mE_Facts x k) = cE_Facts x := mkL_c cm_Fact
theorem mm_Facts (x : List (Int × List Int)) (k : Int) : mE_Facts (mE_Facts x k) k = mE_Facts x k := mkL_mk cm_Fact mm_Fact
def cE_Atom (x : Int × List Int) : Nat := 1 + totS cE_I x.2
def mE_Atom (x : Int × List Int) (k : Int) : Int × List Int := ((k), mkL cE_I mE_I x.2 (k + 1))
theorem cm_Atom (x : Int × List Int) (k : Int) : cE_Atom (mE_Atom x k) = cE_Atom x := by simp [cE_Atom, mE_Atom, mkL_c cm_I]
theorem mm_Atom (x : Int × List Int) (k : Int) : mE_Atom (mE_Atom x k) k = mE_Atom x k := by simp [mE_Atom, mkL_c cm_I, mkL_mk cm_I mm_I]
def cE_Atoms (x : List (Int × List Int)) : Nat := totS cE_Atom x
def mE_Atoms (x : List (Int × List Int)) (k : Int) : List (Int × List Int) := mkL cE_Atom mE_Atom x k
theorem cm_Atoms (x : List (Int × List Int)) (k : Int) : cE_Atoms (mE_Atoms x k) = cE_Atoms x := mkL_c cm_Atom
theorem mm_Atoms (x : List (Int × List Int)) (k : Int) : mE_Atoms (mE_Atoms x k) k = mE_Atoms x k := mkL_mk cm_Atom mm_Atom
def cE_Access (x : Int × List Int) : Nat := 1 + totS cE_I x.2
def mE_Access (x : Int × List Int) (k : Int) : Int × List Int := ((k), mkL cE_I mE_I x.2 (k + 1))
theorem cm_Access (x : Int × List Int) (k : Int) : cE_Access (mE_Access x k) = cE_Access x := by simp [cE_Access, mE_Access, mkL_c cm_I]
theorem mm_Access (x : Int × List Int) (k : Int) : mE_Access (mE_Access x k) k = mE_Access x k := by simp [mE_Access, mkL_c cm_I, mkL_mk cm_I mm_I]
def cE_Accesss (x : List (Int × List Int)) : Nat := totS cE_Access x
def mE_Accesss (x : List (Int × List Int)) (k : Int) : List (Int × List Int) := mkL cE_Access mE_Access x k
theorem cm_Accesss (x : List (Int × List Int)) (k : Int) : cE_Accesss (mE_Accesss x k) = cE_Accesss x := mkL_c cm_Access
theorem mm_Accesss (x : List (Int × List Int)) (k : Int) : mE_Accesss (mE_Accesss x k) k = mE_Accesss x k := mkL_mk cm_Access mm_Access
def cE_Step (x : Int × Int) : Nat := 1 + 1
def mE_Step (x : Int × Int) (k : Int) : Int × Int := ((k), (k + 1))
theorem cm_Step (x : Int × Int) (k : Int) : cE_Step (mE_Step x k) = cE_Step x := by simp [cE_Step, mE_Step]
theorem mm_Step (x : Int × Int) (k : Int) : mE_Step (mE_Step x k) k = mE_Step x k := by simp [mE_Step]
def cE_Steps (x : List (Int × Int)) : Nat := totS cE_Step x
def mE_Steps (x : List (Int × Int)) (k : Int) : List (Int × Int) := mkL cE_Step mE_Step x k
theorem cm_Steps (x : List (Int × Int)) (k : Int) : cE_Steps (mE_Steps x k) = cE_Steps x := mkL_c cm_Step
theorem mm_Steps (x : List (Int × Int)) (k : Int) : mE_Steps (mE_Steps x k) k = mE_Steps x k := mkL_mk cm_Step mm_Step
def cE_Query (x : List Int × List (Int × List Int)) : Nat := totS cE_I x.1 + totS cE_Atom x.2
def mE_Query (x : List Int × List (Int × List Int)) (k : Int) : List Int × List (Int × List Int) := (mkL cE_I mE_I x.1 (k), mkL cE_Atom mE_Atom x.2 (k + (totS cE_I x.1 : Nat)))
theorem cm_Query (x : List Int × List (Int × List Int)) (k : Int) : cE_Query (mE_Query x k) = cE_Query x := by simp [cE_Query, mE_Query, mkL_c cm_Atom, mkL_c cm_I]
theorem mm_Query (x : List Int × List (Int × List Int)) (k : Int) : mE_Query (mE_Query x k) k = mE_Query x k := by simp [mE_Query, mkL_c cm_Atom, mkL_c cm_I, mkL_mk cm_Atom mm_Atom, mkL_mk cm_I mm_I]
def cE_Querys (x : List (List Int × List (Int × List Int))) : Nat := totS cE_Query x
def mE_Querys (x : List (List Int × List (Int × List Int))) (k : Int) : List (List Int × List (Int × List Int)) := mkL cE_Query mE_Query x k
theorem cm_Querys (x : List (List Int × List (Int × List Int))) (k : Int) : cE_Querys (mE_Querys x k) = cE_Querys x := mkL_c cm_Query
theorem mm_Querys (x : List (List Int × List (Int × List Int))) (k : Int) : mE_Querys (mE_Querys x k) k = mE_Querys x k := mkL_mk cm_Query mm_Query
def cE_Binding (x : List Int × List Int) : Nat := totS cE_I x.1 + totS cE_I x.2
def mE_Binding (x : List Int × List Int) (k : Int) : List Int × List Int := (mkL cE_I mE_I x.1 (k), mkL cE_I mE_I x.2 (k + (totS cE_I x.1 : Nat)))
theorem cm_Binding (x : List Int × List Int) (k : Int) : cE_Binding (mE_Binding x k) = cE_Binding x := by simp [cE_Binding, mE_Binding, mkL_c cm_I]
theorem mm_Binding (x : List Int × List Int) (k : Int) : mE_Binding (mE_Binding x k) k = mE_Binding x k := by simp [mE_Binding, mkL_c cm_I, mkL_mk cm_I mm_I]
def cE_Bindings (x : List (List Int × List Int)) : Nat := totS cE_Binding x
def mE_Bindings (x : List (List Int × List Int)) (k : Int) : List (List Int × List Int) := mkL cE_Binding mE_Binding x k
theorem cm_Bindings (x : List (List Int × List Int)) (k : Int) : cE_Bindings (mE_Bindings x k) = cE_Bindings x := mkL_c cm_Binding
theorem mm_Bindings (x : List (List Int × List Int)) (k : Int) : mE_Bindings (mE_Bindings x k) k = mE_Bindings x k := mkL_mk cm_Binding mm_Binding
def cE_Method (x : Int × List Int × Int × Int × Int) : Nat := 1 + totS cE_I x.2.1 + 1 + 1 + 1
def mE_Method (x : Int × List Int × Int × Int × Int) (k : Int) : Int × List Int × Int × Int × Int := ((k), mkL cE_I mE_I x.2.1 (k + 1), (k + 1 + (totS cE_I x.2.1 : Nat)), (k + 1 + (totS cE_I x.2.1 : Nat) + 1), (k + 1 + (totS cE_I x.2.1 : Nat) + 1 + 1))
theorem cm_Method (x : Int × List Int × Int × Int × Int) (k : Int) : cE_Method (mE_Method x k) = cE_Method x := by simp [cE_Method, mE_Method, mkL_c cm_I]
theorem mm_Method (x : Int × List Int × Int × Int × Int) (k : Int) : mE_Method (mE_Method x k) k = mE_Method x k := by simp [mE_Method, mkL_c cm_I, mkL_mk cm_I mm_I]
def cE_Methods (x : List (Int × List Int × Int × Int × Int)) : Nat := totS cE_Method x
def mE_Methods (x : List (Int × List Int × Int × Int × Int)) (k : Int) : List (Int × List Int × Int × Int × Int) := mkL cE_Method mE_Method x k
theorem cm_Methods (x : List (Int × List Int × Int × Int × Int)) (k : Int) : cE_Methods (mE_Methods x k) = cE_Methods x := mkL_c cm_Method
theorem mm_Methods (x : List (Int × List Int × Int × Int × Int)) (k : Int) : mE_Methods (mE_Methods x k) k = mE_Methods x k := mkL_mk cm_Method mm_Method
def cE_Rule (x : Int × Int × List Int) : Nat := 1 + 1 + totS cE_I x.2.2
def mE_Rule (x : Int × Int × List Int) (k : Int) : Int × Int × List Int := ((k), (k + 1), mkL cE_I mE_I x.2.2 (k + 1 + 1))
theorem cm_Rule (x : Int × Int × List Int) (k : Int) : cE_Rule (mE_Rule x k) = cE_Rule x := by simp [cE_Rule, mE_Rule, mkL_c cm_I]
theorem mm_Rule (x : Int × Int × List Int) (k : Int) : mE_Rule (mE_Rule x k) k = mE_Rule x k := by simp [mE_Rule, mkL_c cm_I, mkL_mk cm_I mm_I]
def cE_Rules (x : List (Int × Int × List Int)) : Nat := totS cE_Rule x
def mE_Rules (x : List (Int × Int × List Int)) (k : Int) : List (Int × Int × List Int) := mkL cE_Rule mE_Rule x k
theorem cm_Rules (x : List (Int × Int × List Int)) (k : Int) : cE_Rules (mE_Rules x k) = cE_Rules x := mkL_c cm_Rule
theorem mm_Rules (x : List (Int × Int × List Int)) (k : Int) : mE_Rules (mE_Rules x k) k = mE_Rules x k := mkL_mk cm_Rule mm_Rule
def cE_Guarded (x : (List Int × List (Int × List Int)) × List (Int × List Int)) : Nat := totS cE_I x.1.1 + totS cE_Atom x.1.2 + totS cE_Atom x.2
def mE_Guarded (x : (List Int × List (Int × List Int)) × List (Int × List Int)) (k : Int) : (List Int × List (Int × List Int)) × List (Int × List Int) := ((mkL cE_I mE_I x.1.1 (k), mkL cE_Atom mE_Atom x.1.2 (k + (totS cE_I x.1.1 : Nat))), mkL cE_Atom mE_Atom x.2 (k + (totS cE_I x.1.1 : Nat) + (totS cE_Atom x.1.2 : Nat)))
theorem cm_Guarded (x : (List Int × List (Int × List Int)) × List (Int × List Int)) (k : Int) : cE_Guarded (mE_Guarded x k) = cE_Guarded x := by simp [cE_Guarded, mE_Guarded, mkL_c cm_Atom, mkL_c cm_I]
theorem mm_Guarded (x : (List Int × List (Int × List Int)) × List (Int × List Int)) (k : Int) : mE_Guarded (mE_Guarded x k) k = mE_Guarded x k := by simp [mE_Guarded, mkL_c cm_Atom, mkL_c cm_I, mkL_mk cm_Atom mm_Atom, mkL_mk cm_I mm_I]
def cE_Guardeds (x : List ((List Int × List (Int × List Int)) × List (Int × List Int))) : Nat := totS cE_Guarded x
def mE_Guardeds (x : List ((List Int × List (Int × List Int)) × List (Int × List Int))) (k : Int) : List ((List Int × List (Int × List Int)) × List (Int × List Int)) := mkL cE_Guarded mE_Guarded x k
theorem cm_Guardeds (x : List ((List Int × List (Int × List Int)) × List (Int × List Int))) (k : Int) : cE_Guardeds (mE_Guardeds x k) = cE_Guardeds x := mkL_c cm_Guarded
theorem mm_Guardeds (x : List ((List Int × List (Int × List Int)) × List (Int × List Int))) (k : Int) : mE_Guardeds (mE_Guardeds x k) k = mE_Guardeds x k := mkL_mk cm_Guarded mm_Guarded
def cE_Line (x : Int × (Int × List Int) × Int × List Int) : Nat := 1 + 1 + totS cE_I x.2.1.2 + 1 + totS cE_I x.2.2.2
def mE_Line (x : Int × (Int × List Int) × Int × List Int) (k : Int) : Int × (Int × List Int) × Int × List Int := ((k), ((k + 1), mkL cE_I mE_I x.2.1.2 (k + 1 + 1)), ((k + 1 + 1 + (totS cE_I x.2.1.2 : Nat)), mkL cE_I mE_I x.2.2.2 (k + 1 + 1 + (totS cE_I x.2.1.2 : Nat) + 1)))
theorem cm_Line (x : Int × (Int × List Int) × Int × List Int) (k : Int) : cE_Line (mE_Line x k) = cE_Line x := by simp [cE_Line, mE_Line, mkL_c cm_I]
theorem mm_Line (x : Int × (Int × List Int) × Int × List Int) (k : Int) : mE_Line (mE_Line x k) k = mE_Line x k := by simp [mE_Line, mkL_c cm_I, mkL_mk cm_I mm_I]
def cE_Lines (x : List (Int × (Int × List Int) × Int × List Int)) : Nat := totS cE_Line x
def mE_Lines (x : List (Int × (Int × List Int) × Int × List Int)) (k : Int) : List (Int × (Int × List Int) × Int × List Int) := mkL cE_Line mE_Line x k
theorem cm_Lines (x : List (Int × (Int × List Int) × Int × List Int)) (k : Int) : cE_Lines (mE_Lines x k) = cE_Lines x := mkL_c cm_Line
theorem mm_Lines (x : List (Int × (Int × List Int) × Int × List Int)) (k : Int) : mE_Lines (mE_Lines x k) k = mE_Lines x k := mkL_mk cm_Line mm_Line
def cE_Proof (x : List (Int × (Int × List Int) × Int × List Int)) : Nat := totS cE_Line x
def mE_Proof (x : List (Int × (Int × List Int) × Int × List Int)) (k : Int) : List (Int × (Int × List Int) × Int × List Int) := (mkL cE_Line mE_Line x (k))
theorem cm_Proof (x : List (Int × (Int × List Int) × Int × List Int)) (k : Int) : cE_Proof (mE_Proof x k) = cE_Proof x := by simp [cE_Proof, mE_Proof, mkL_c cm_Line]
theorem mm_Proof (x : List (Int × (Int × List Int) × Int × List Int)) (k : Int) : mE_Proof (mE_Proof x k) k = mE_Proof x k := by simp [mE_Proof, mkL_c cm_Line, mkL_mk cm_Line mm_Line]
def cE_Proofs (x : List (List (Int × (Int × List Int) × Int × List Int))) : Nat := totS cE_Proof x
def mE_Proofs (x : List (List (Int × (Int × List Int) × Int × List Int))) (k : Int) : List (List (Int × (Int × List Int) × Int × List Int)) := mkL cE_Proof mE_Proof x k
theorem cm_Proofs (x : List (List (Int × (Int × List Int) × Int × List Int))) (k : Int) : cE_Proofs (mE_Proofs x k) = cE_Proofs x := mkL_c cm_Proof
theorem mm_Proofs (x : List (List (Int × (Int × List Int) × Int × List Int))) (k : Int) : mE_Proofs (mE_Proofs x k) k = mE_Proofs x k := mkL_mk cm_Proof mm_Proof
def cE_Reached (x : (List (Int × List Int)) × List Int × (List (Int × List Int)) × Int) : Nat := totS cE_Fact x.1 + totS cE_I x.2.1 + totS cE_Access x.2.2.1 + 1
def mE_Reached (x : (List (Int × List Int)) × List Int × (List (Int × List Int)) × Int) (k : Int) : (List (Int × List Int)) × List Int × (List (Int × List Int)) × Int := (mkL cE_Fact mE_Fact x.1 (k), mkL cE_I mE_I x.2.1 (k + (totS cE_Fact x.1 : Nat)), mkL cE_Access mE_Access x.2.2.1 (k + (totS cE_Fact x.1 : Nat) + (totS cE_I x.2.1 : Nat)), (k + (totS cE_Fact x.1 : Nat) + (totS cE_I x.2.1 : Nat) + (totS cE_Access x.2.2.1 : Nat)))
theorem cm_Reached (x : (List (Int × List Int)) × List Int × (List (Int × List Int)) × Int) (k : Int) : cE_Reached (mE_Reached x k) = cE_Reached x := by simp [cE_Reached, mE_Reached, mkL_c cm_Access, mkL_c cm_Fact, mkL_c cm_I]
theorem mm_Reached (x : (List (Int × List Int)) × List Int × (List (Int × List Int)) × Int) (k : Int) : mE_Reached (mE_Reached x k) k = mE_Reached x k := by simp [mE_Reached, mkL_c cm_Access, mkL_c cm_Fact, mkL_c cm_I, mkL_mk cm_Access mm_Access, mkL_mk cm_Fact mm_Fact, mkL_mk cm_I mm_I]
def cE_Reacheds (x : List ((List (Int × List Int)) × List Int × (List (Int × List Int)) × Int)) : Nat := totS cE_Reached x
def mE_Reacheds (x : List ((List (Int × List Int)) × List Int × (List (Int × List Int)) × Int)) (k : Int) : List ((List (Int × List Int)) × List Int × (List (Int × List Int)) × Int) := mkL cE_Reached mE_Reached x k
theorem cm_Reacheds (x : List ((List (Int × List Int)) × List Int × (List (Int × List Int)) × Int)) (k : Int) : cE_Reacheds (mE_Reacheds x k) = cE_Reacheds x := mkL_c cm_Reached
theorem mm_Reacheds (x : List ((List (Int × List Int)) × List Int × (List (Int × List Int)) × Int)) (k : Int) : mE_Reacheds (mE_Reacheds x k) k = mE_Reacheds x k := mkL_mk cm_Reached mm_Reached
def cE_Certificate (x : (List (Int × List Int)) × (List (Int × List Int)) × List Int) : Nat := totS cE_Fact x.1 + totS cE_Fact x.2.1 + totS cE_I x.2.2
def mE_Certificate (x : (List (Int × List Int)) × (List (Int × List Int)) × List Int) (k : Int) : (List (Int × List Int)) × (List (Int × List Int)) × List Int := (mkL cE_Fact mE_Fact x.1 (k), mkL cE_Fact mE_Fact x.2.1 (k + (totS cE_Fact x.1 : Nat)), mkL cE_I mE_I x.2.2 (k + (totS cE_Fact x.1 : Nat) + (totS cE_Fact x.2.1 : Nat)))
theorem cm_Certificate (x : (List (Int × List Int)) × (List (Int × List Int)) × List Int) (k : Int) : cE_Certificate (mE_Certificate x k) = cE_Certificate x := by simp [cE_Certificate, mE_Certificate, mkL_c cm_Fact, mkL_c cm_I]
theorem mm_Certificate (x : (List (Int × List Int)) × (List (Int × List Int)) × List Int) (k : Int) : mE_Certificate (mE_Certificate x k) k = mE_Certificate x k := by simp [mE_Certificate, mkL_c cm_Fact, mkL_c cm_I, mkL_mk cm_Fact mm_Fact, mkL_mk cm_I mm_I]
def cE_Certificates (x : List ((List (Int × List Int)) × (List (Int × List Int)) × List Int)) : Nat := totS cE_Certificate x
def mE_Certificates (x : List ((List (Int × List Int)) × (List (Int × List Int)) × List Int)) (k : Int) : List ((List (Int × List Int)) × (List (Int × List Int)) × List Int) := mkL cE_Certificate mE_Certificate x k
theorem cm_Certificates (x : List ((List (Int × List Int)) × (List (Int × List Int)) × List Int)) (k : Int) : cE_Certificates (mE_Certificates x k) = cE_Certificates x := mkL_c cm_Certificate
theorem mm_Certificates (x : List ((List (Int × List Int)) × (List (Int × List Int)) × List Int)) (k : Int) : mE_Certificates (mE_Certificates x k) k = mE_Certificates x k := mkL_mk cm_Certificate mm_Certificate
end Go.Proofs.Ytnagfcajnbkdoaa
