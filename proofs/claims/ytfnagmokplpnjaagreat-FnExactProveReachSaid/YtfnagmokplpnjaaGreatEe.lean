/- The first part of an owned list. Proofs found. -/
import Derived.Test.YtfnagmokplpnjaaGreatEd
namespace Go.Proofs.YtfnagmokplpnjaaGreat
open Go.RowKit
set_option linter.unusedVariables false
section
variable {n : Nat} {w0 : World} {L0 : List Nat} {fr : Fr} {H R : List HP} {G : Act → World → Prop} {α : Type} {E : Enc α} {e : TypeId} {a : Option Addr} {m c : Nat} {xs : List α} {cs : List Value}
theorem Ent.capow (hm : ow (Enc.sl e E) [.slice a m c] xs ∈ H) (h : m ≤ c → Ent n w0 L0 fr H G) : Ent n w0 L0 fr H G := fun ac w h1 h2 => by
  obtain ⟨L, hL⟩ := h2.mem hm
  obtain ⟨ccs, L1, L2, _, g1, g2, _, _, g4⟩ := ow_sl hL
  rcases g4 with ⟨_, h0, _⟩ | ⟨g, cur, h3, h4, h5, _⟩
  · exact h (by omega) ac w h1 h2
  · exact h h5 ac w h1 h2
theorem Ent.elstake (k : Nat) (h : Ent n w0 L0 fr (els E (cs.take (k * E.k)) (xs.take k) :: R) G) (hk : k ≤ xs.length) : Ent n w0 L0 fr (els E cs xs :: R) G := fun ac w h1 h2 => by
  obtain ⟨L, ⟨L1, LR, rfl, g3, hR⟩, hn, hst⟩ := h2
  have hx : xs = xs.take k ++ xs.drop k := (List.take_append_drop k xs).symm
  have g3' : Elems E w cs xs L1 true := g3
  rw [hx] at g3'
  obtain ⟨c1, c2, M1, M2, rfl, rfl, e1, e2⟩ := Elems.split g3'
  have hl : c1.length = k * E.k := by rw [e1.len, List.length_take, Nat.min_eq_left hk]
  have ec : (c1 ++ c2).take (k * E.k) = c1 := by rw [← hl, List.take_left]
  refine h ac w h1 ⟨M1 ++ LR, ⟨M1, LR, rfl, by rw [ec]; exact e1, hR⟩, ?_, hst.sublist fun b hb => ?_⟩
  · simp only [List.nodup_append] at hn ⊢
    exact ⟨hn.1.1, hn.2.1, fun a ha b hb => hn.2.2 a (by simp [ha]) b hb⟩
  · rcases List.mem_append.1 hb with hb | hb <;> simp [hb]
theorem Ent.otake (k : Nat) (hk : k ≤ xs.length) (hm : m = xs.length) (hl : m ≤ 9223372036854775807) (h : Ent n w0 L0 fr (ow (Enc.sl e E) [.slice a k c] (xs.take k) :: R) G) : Ent n w0 L0 fr (ow (Enc.sl e E) [.slice a m c] xs :: R) G :=
  Ent.spl fun ccs _ => Ent.shr (m' := k) (by omega) (Ent.p1 (Ent.elstake k (Ent.p1 (Ent.joi (by simp; omega) (by unfold maxLen; omega) h)) hk))
end
-- the first line of a fact
theorem idx_ltN {α : Type} {p : α → Bool} {X : List α} {k : Nat} (h : idxP p X = (k : Int)) : k < X.length := by
  unfold idxP at h
  split at h
  · rename_i ha
    have h1 : X.findIdx p < X.length := List.findIdx_lt_length_of_exists (by simpa using ha)
    omega
  · omega
theorem line_ok3 {s : List Int} {u : UU} (hu : uInv s u) {x : Lin} (hx : x ∈ u.2.2.2) : x.2.1.2.length ≤ 3 ∧ x.2.2.2.length ≤ 3 := ⟨hu.n.acc x hx, okFact_len (hu.n.ok x hx)⟩
def prvI (X : List Lin) (f : Fct) : Int := idxP (fun x => decide (cmpF x.2.2 f = 0)) X
def prvB (s : List Int) (l : List Mth) (rules : List Rul) (facts : List Fct) (seeds : List Int) (f : Fct) : Bool := okUnd s l rules facts && decide (0 ≤ prvI (uFin l rules facts seeds).2.2.2 f)
def prvL (s : List Int) (l : List Mth) (rules : List Rul) (facts : List Fct) (seeds : List Int) (f : Fct) : List Lin := if prvB s l rules facts seeds f then (uFin l rules facts seeds).2.2.2.take ((prvI (uFin l rules facts seeds).2.2.2 f).toNat + 1) else []
attribute [local irreducible] uFin
section
variable {s : List Int} {l : List Mth} {rules : List Rul} {facts : List Fct} {seeds : List Int} {f : Fct} {g : Nat}
theorem prvL_no (h : okUnd s l rules facts = false) : [] = prvL s l rules facts seeds f ∧ false = prvB s l rules facts seeds f := by simp [prvL, prvB, h]
theorem prvL_yes (h : okUnd s l rules facts = true) {k : Nat} (hk : prvI (uFin l rules facts seeds).2.2.2 f = k) : (uFin l rules facts seeds).2.2.2.take (k + 1) = prvL s l rules facts seeds f ∧ true = prvB s l rules facts seeds f := by
  have h1 : prvB s l rules facts seeds f = true := by rw [prvB, h, hk]; simp
  rw [prvL, if_pos h1, hk, h1]; exact ⟨rfl, rfl⟩
theorem prvL_none (h : okUnd s l rules facts = true) (hk : prvI (uFin l rules facts seeds).2.2.2 f < 0) : [] = prvL s l rules facts seeds f ∧ false = prvB s l rules facts seeds f := by
  have h1 : prvB s l rules facts seeds f = false := by rw [prvB, h, Bool.true_and, decide_eq_false_iff_not]; omega
  rw [prvL, h1]; exact ⟨rfl, rfl⟩
theorem prvL_hit (h : okUnd s l rules facts = true) (po : ∀ x ∈ (uFin l rules facts seeds).2.2.2.take g, decide (cmpF x.2.2 f = 0) = false) (hg : g < (uFin l rules facts seeds).2.2.2.length) (e : cmpF (uFin l rules facts seeds).2.2.2[g].2.2 f = 0) :
    (uFin l rules facts seeds).2.2.2.take (g + 1) = prvL s l rules facts seeds f ∧ true = prvB s l rules facts seeds f :=
  prvL_yes h (idxP_hit hg po (decide_eq_true e)).symm
theorem prvL_miss (h : okUnd s l rules facts = true) (po : ∀ x ∈ (uFin l rules facts seeds).2.2.2.take g, decide (cmpF x.2.2 f = 0) = false) (hg : ¬ g < (uFin l rules facts seeds).2.2.2.length) : [] = prvL s l rules facts seeds f ∧ false = prvB s l rules facts seeds f :=
  prvL_none h (by rw [prvI, ← idxP_miss hg po]; decide)
theorem prvL_tot : totS cE_Line (prvL s l rules facts seeds f) ≤ 53240 := by
  unfold prvL
  split
  · rename_i h
    simp only [prvB, Bool.and_eq_true] at h
    have h1 := uFin_inv (seeds := seeds) h.1
    have h2 := h1.n.len.1
    have h3 := totS_max (c := cE_Line) (n := 10) (l := (uFin l rules facts seeds).2.2.2.take ((prvI (uFin l rules facts seeds).2.2.2 f).toNat + 1)) fun x hx => by
      have hx' := List.mem_of_mem_take hx
      have a1 := h1.n.acc x hx'
      have a2 := okFact_len (h1.n.ok x hx')
      simp only [cE_Line, totS_I]; omega
    have h4 := List.length_take_le' ((prvI (uFin l rules facts seeds).2.2.2 f).toNat + 1) (uFin l rules facts seeds).2.2.2
    have h5 : (uFin l rules facts seeds).2.2.2.length ≤ 5324 := h2
    omega
  · simp [totS]
end
end Go.Proofs.YtfnagmokplpnjaaGreat
