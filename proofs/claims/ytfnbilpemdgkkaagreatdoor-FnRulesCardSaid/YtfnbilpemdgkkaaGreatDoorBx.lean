import Derived.Test.YtfnbilpemdgkkaaGreatDoorBe
section
namespace Go.Proofs.YtfnbilpemdgkkaaGreatDoor
open Go.RowKit
set_option linter.unusedVariables false
section
variable {P : Program} {n : Nat} {w0 : World} {L0 : List Nat} {fr : Fr} {H : List HP}
end
end Go.Proofs.YtfnbilpemdgkkaaGreatDoor
end
section
namespace Go.Proofs.YtfnbilpemdgkkaaGreatDoor
open Go.RowKit
set_option linter.unusedVariables false
section
variable {P : Program} {Q : Exit → Act → World → Prop} {n : Nat} {w0 : World} {L0 : List Nat} {fr : Fr} {H R : List HP} {d : Nat} {ty : TypeId} {pos : String} {af : Array Edge} {g : Option (Nat × Bool)}
end
section
variable {n : Nat} {w0 : World} {L0 : List Nat} {fr : Fr} {R : List HP} {G : Act → World → Prop} {α : Type} {E : Enc α} {xs ys : List α} {cs c1 c2 : List Value}
theorem b1C (h : Ent n w0 L0 fr (els E (c1 ++ c2) (xs ++ ys) :: R) G) : Ent n w0 L0 fr (els E c1 xs :: els E c2 ys :: R) G := fun ac w h1 h2 => by
 obtain ⟨L, ⟨M1, L1, rfl, e1, M2, LR, rfl, e2, hR⟩, hn, hst⟩ := h2
 have ea : M1 ++ (M2 ++ LR) = (M1 ++ M2) ++ LR := by simp
 rw [ea] at hn hst
 exact h ac w h1 ⟨(M1 ++ M2) ++ LR, ⟨M1 ++ M2, LR, rfl, p9.app e1 e2, hR⟩, hn, hst⟩
end
structure DfI (k M i j : Nat) (cur kc rc : List Value) : Prop where
 len : cur.length = M * k
 lt : i < j
 le : j ≤ M
 kl : kc.length = i * k
 k1 : cur.take (i * k) = kc
 r1 : cur.drop (j * k) = rc
theorem DfI.skip {k M i j : Nat} {cur kc c1 c2 : List Value} (h : DfI k M i j cur kc (c1 ++ c2)) (hj : j < M) (hc : c1.length = k) : DfI k M i (j + 1) cur kc c2 := by
 refine ⟨h.len, by have := h.lt; omega, hj, h.kl, h.k1, ?_⟩
 have e : cur.drop ((j + 1) * k) = (cur.drop (j * k)).drop k := by rw [List.drop_drop, Nat.succ_mul]
 rw [e, h.r1, ← hc, List.drop_left]
theorem DfI.put {k M i j : Nat} {cur kc c1 c2 : List Value} (h : DfI k M i j cur kc (c1 ++ c2)) (hj : j < M) (hc : c1.length = k) : DfI k M (i + 1) (j + 1) (cur.take (i * k) ++ c1 ++ cur.drop (i * k + k)) (kc ++ c1) c2 := by
 have hlt := h.lt
 have h2 : i * k + k ≤ j * k := by rw [← Nat.succ_mul]; exact Nat.mul_le_mul_right _ hlt
 have h3 : j * k + k ≤ M * k := by rw [← Nat.succ_mul]; exact Nat.mul_le_mul_right _ hj
 have hl := h.len
 have hs := h.skip hj hc
 have l1 : (cur.take (i * k) ++ c1).length = (i + 1) * k := by rw [List.length_append, List.length_take, hc, Nat.succ_mul]; omega
 refine ⟨?_, by omega, hj, ?_, ?_, ?_⟩
 ·simp only [List.length_append, List.length_take, List.length_drop, hc]; omega
 ·rw [List.length_append, h.kl, hc, Nat.succ_mul]
 ·rw [← l1, List.take_left, h.k1]
 ·rw [← hs.r1, List.drop_append, l1, (show (cur.take (i * k) ++ c1).drop ((j + 1) * k) = [] from List.drop_eq_nil_of_le (by rw [l1]; exact Nat.mul_le_mul_right _ (by omega))), List.nil_append, List.drop_drop]
  congr 1
  have h4 : (i + 1) * k ≤ (j + 1) * k := Nat.mul_le_mul_right _ (by omega)
  have h5 : (i + 1) * k = i * k + k := Nat.succ_mul _ _
  have h6 : (j + 1) * k = j * k + k := Nat.succ_mul _ _
  omega
end Go.Proofs.YtfnbilpemdgkkaaGreatDoor
end
section
namespace Go.Proofs.YtfnbilpemdgkkaaGreatDoor
open Go.RowKit
set_option linter.unusedVariables false
set_option linter.unusedSimpArgs false
def hpx {κ : Type} (F : κ → List HP) : HP where
 holds w L := ∃ k, Sep (F k) w L
 stable := fun ⟨k, h⟩ hb => ⟨k, h.stable hb⟩
 inh := fun ⟨k, h⟩ => h.inh
def b7y (RR : World → List Nat → Prop) : Prop := ∀ (w0 : World) (L0 : List Nat) (pre rest : List HP) (w : World) (Lp : List Nat), At w0 L0 pre rest w Lp → RR w0 L0 → RR w Lp
def FnS {α σ : Type} (P : Program) (g : FuncId) (caps : List Value) (RR : World → List Nat → Prop) (E : Enc α) (val : List Value → Value) (D : σ → α → Prop) (p : α → Bool) (S : σ → HP) (st : σ → α → σ) : Prop :=
 ∀ cs x s, D s x → Tr P g (val cs :: caps) (fun w L => Ro w L E cs x ∧ RR w L) [S s] (κ := Unit) (fun _ => True) (fun _ => .bool (p x)) (fun _ => [S (st s x)])
section
variable {P : Program} {Q : Exit → Act → World → Prop} {n : Nat} {w0 : World} {L0 : List Nat} {fr : Fr} {H R A : List HP} {G : Act → World → Prop} {d : Nat} {ty : TypeId} {pos : String} {af : Array Edge} {g : Option (Nat × Bool)} {κ σ α : Type} {F F' : κ → List HP} {RR : World → List Nat → Prop}
theorem b3a (k : κ) (hH : H = F k ++ R) (h : Ent n w0 L0 fr (hpx F :: R) G) : Ent n w0 L0 fr H G := fun a w h1 h2 => by
 subst hH
 obtain ⟨L, hs, hn, hst⟩ := h2
 obtain ⟨L1, L2, rfl, g1, g2⟩ := Sep.append.1 hs
 exact h a w h1 ⟨L1 ++ L2, ⟨L1, L2, rfl, ⟨k, g1⟩, g2⟩, hn, hst⟩
theorem b1D (h : ∀ k, Ent n w0 L0 fr (F k ++ R) G) : Ent n w0 L0 fr (hpx F :: R) G := fun a w h1 h2 => by
 obtain ⟨L, ⟨L1, L2, rfl, ⟨k, g1⟩, g2⟩, hn, hst⟩ := h2
 exact h k a w h1 ⟨L1 ++ L2, Sep.append.2 ⟨L1, L2, rfl, g1, g2⟩, hn, hst⟩
theorem b7l {κ' : Type} [Inhabited κ] {F'' : κ' → List HP} {F' : κ' → List HP} {f : FuncId} {args : List Value} {φ : κ' → Prop} {ret : κ' → Value} {v : Value} (tr : ∀ k, Tr P f args RR (F k) (κ := κ') φ ret F'') (hp : ∀ k, (F'' k).Perm (F' k)) (hr : ∀ k, ret k = v) : Tr P f args RR [hpx F] (κ := Unit) (fun _ => True) (fun _ => v) (fun _ => [hpx F']) := by
 refine ⟨(tr default).1, fun w L hR hs hn => ?_⟩
 obtain ⟨L1, L2, rfl, ⟨k, g1⟩, g2⟩ := hs
 have e2 : L2 = [] := g2
 subst e2
 rw [List.append_nil] at hR hn ⊢
 refine ((tr k).2 w L1 hR g1 hn).mono ?_
 rintro e w' ⟨k', _, rfl, hh⟩
 obtain ⟨L, hs', hn', hst'⟩ := hh.perm (hp k')
 exact ⟨(), trivial, by rw [hr], L, ⟨L, [], (List.append_nil _).symm, ⟨k', hs'⟩, rfl⟩, hn', hst'⟩
end
section
variable {α σ : Type} {s : List α} {st : σ → α → σ} {s0 : σ} {p : α → Bool} {k : Nat}
def b7x (p : α → Bool) (s : List α) : Nat := if H2 p s < 0 then s.length else (H2 p s).toNat + 1
end
end Go.Proofs.YtfnbilpemdgkkaaGreatDoor
end
