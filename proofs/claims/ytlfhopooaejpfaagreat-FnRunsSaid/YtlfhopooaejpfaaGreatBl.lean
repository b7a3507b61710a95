import Derived.Test.YtlfhopooaejpfaaGreatBe
section
namespace Go.Proofs.YtlfhopooaejpfaaGreat
open Go.RowKit
set_option linter.unusedVariables false
section
variable {P : Program} {n : Nat} {w0 : World} {L0 : List Nat} {fr : Fr} {H : List HP}
end
end Go.Proofs.YtlfhopooaejpfaaGreat
end
section
namespace Go.Proofs.YtlfhopooaejpfaaGreat
open Go.RowKit
set_option linter.unusedVariables false
section
variable {P : Program} {Q : Exit → Act → World → Prop} {n : Nat} {w0 : World} {L0 : List Nat} {fr : Fr} {H R : List HP} {d : Nat} {ty : TypeId} {pos : String} {af : Array Edge} {g : Option (Nat × Bool)}
theorem b6K {T e : TypeId} {agg : Bool} {k : Nat} {z : List Value} {by' : Nat} {x y : Operand} {gb M C i off : Nat} {cs vs cs' : List Value} {v : Value} (ht : TyOk P T agg k z by') (hx : ev fr x = some (.pointer (some ⟨gb, off, none⟩))) (hoff : off = i * k) (hy : ev fr y = some v) (hv : v.cells = vs.toArray) (hl : vs.length = k) (h1 : ∀ u ∈ vs, u.oneCell' = true) (hi : i < M) (hcs : cs.take (i * k) ++ vs ++ cs.drop (i * k + k) = cs') :
  Nop P Q n w0 L0 fr (row e k (some ⟨gb, 0, none⟩) M C cs :: R) ⟨none, .store T x y, ty, pos, af, g⟩ false (κ := Unit) (fun _ => fr) (fun _ => row e k (some ⟨gb, 0, none⟩) M C cs' :: R) (fun _ => True) := fun K hK a w ha hw => by
 subst hcs; subst hoff
 obtain ⟨L, ⟨L1, L2, rfl, hrow, hR⟩, hn, hst⟩ := hw
 obtain ⟨hlc, ⟨_, h0, _⟩ | ⟨g', cur, hg', hg, hmc, hcm, hsz, htake, rfl⟩⟩ := hrow
 ·omega
 cases hg'
 have hik : i * k + k ≤ M * k := by rw [← Nat.succ_mul]; exact Nat.mul_le_mul_right _ hi
 have hMc : M * k ≤ cur.size := by rw [hsz]; exact Nat.mul_le_mul_right _ hmc
 have hrun := a2A (P := P) ht hv hl h1 hg (off := i * k) (by rw [hl]; omega)
 have hrow' : (row e k (some ⟨gb, 0, none⟩) M C (cs.take (i * k) ++ vs ++ cs.drop (i * k + k))).holds (w.setRow gb (cur.toList.take (i * k) ++ vs ++ cur.toList.drop (i * k + vs.length)).toArray) [gb] := by
  refine ⟨?_, .inr ⟨gb, _, rfl, setRow_heap w gb cur _ e _ hg, hmc, hcm, ?_, ?_, rfl⟩⟩
  ·simp only [List.length_append, List.length_take, List.length_drop, hl, hlc]; omega
  ·simp only [List.size_toArray, List.length_append, List.length_take, List.length_drop, Array.length_toList, hl]; omega
  ·rw [show (cur.toList.take (i * k) ++ vs ++ cur.toList.drop (i * k + vs.length)).toArray.toList = cur.toList.take (i * k) ++ vs ++ cur.toList.drop (i * k + vs.length) from rfl, hl, ← htake]
   rw [List.take_append, List.take_append]
   simp only [List.length_append, List.length_take, Array.length_toList, hl]
   rw [List.take_of_length_le (l := List.take (i * k) cur.toList) (by simp; omega), List.take_of_length_le (l := vs) (by omega)]
   congr 1
   ·rw [List.take_take, Nat.min_eq_left (by omega)]
   ·rw [List.drop_take]; congr 1; rw [Nat.min_eq_left (by omega)]
 obtain ⟨k1, k2, k3⟩ := hst.call hn hR.inh (Step.setRow (Array.getElem?_eq_some_iff.1 hg).1) (List.nodup_append.1 hn).1
 simp only [Oper.wp, execOp, ha.ev hx, ha.ev hy, Sem.run_bind, hrun, Result.andThen_ok, Sem.run_pure, Oper.upon_skip]
 exact hK () trivial w _ _ ha ⟨[gb] ++ L2, ⟨[gb], L2, rfl, hrow', hR.stable k3⟩, k2, k1⟩ (by simp)
end
theorem At.els1 {α : Type} {E : Enc α} {w0 w : World} {L0 Lp : List Nat} {pre rest : List HP} {c1 : List Value} {x : α} (hA : At w0 L0 pre rest w Lp) (hm : els E c1 [x] ∈ rest) : Ro w Lp E c1 x := by
 obtain ⟨⟨Lr, h1, h2, h3, h4⟩⟩ := hA
 obtain ⟨L', ⟨d1, d2, M1, M2, rfl, rfl, r1, rfl, rfl⟩, r2⟩ := h2.mem hm
 rw [List.append_nil] at r2 ⊢
 obtain ⟨L'', r3, r4⟩ := E.ro r1
 exact ⟨L'', r4, fun b hb hp => (List.nodup_append.1 h3).2.2 b hp b (r2 b (r3 b hb)) rfl⟩
section
variable {n : Nat} {w0 : World} {L0 : List Nat} {fr : Fr} {R : List HP} {G : Act → World → Prop} {α : Type} {E : Enc α} {xs ys : List α} {cs c1 c2 : List Value}
theorem a6u (h : ∀ c1 c2, cs = c1 ++ c2 → c1.length = xs.length * E.k → Ent n w0 L0 fr (els E c1 xs :: els E c2 ys :: R) G) : Ent n w0 L0 fr (els E cs (xs ++ ys) :: R) G := fun ac w h1 h2 => by
 obtain ⟨L, ⟨L1, LR, rfl, g1, hR⟩, hn, hst⟩ := h2
 obtain ⟨c1, c2, M1, M2, rfl, rfl, e1, e2⟩ := C4.split g1
 have ea : (M1 ++ M2) ++ LR = M1 ++ (M2 ++ LR) := by simp
 rw [ea] at hn hst
 exact h c1 c2 rfl e1.len ac w h1 ⟨M1 ++ (M2 ++ LR), ⟨M1, M2 ++ LR, rfl, e1, M2, LR, rfl, e2, hR⟩, hn, hst⟩
theorem b4D (h : Ent n w0 L0 fr (els E (c1 ++ c2) (xs ++ ys) :: R) G) : Ent n w0 L0 fr (els E c1 xs :: els E c2 ys :: R) G := fun ac w h1 h2 => by
 obtain ⟨L, ⟨M1, L1, rfl, e1, M2, LR, rfl, e2, hR⟩, hn, hst⟩ := h2
 have ea : M1 ++ (M2 ++ LR) = (M1 ++ M2) ++ LR := by simp
 rw [ea] at hn hst
 exact h ac w h1 ⟨(M1 ++ M2) ++ LR, ⟨M1 ++ M2, LR, rfl, C4.app e1 e2, hR⟩, hn, hst⟩
end
structure DfI (k M i j : Nat) (cur kc rc : List Value) : Prop where
 len : cur.length = M * k
 lt : i < j
 le : j ≤ M
 kl : kc.length = i * k
 k1 : cur.take (i * k) = kc
 r1 : cur.drop (j * k) = rc
theorem DfI.skip {k M i j : Nat} {cur kc c1 c2 : List Value} (h : DfI k M i j cur kc (c1 ++ c2)) (hj : j < M) (hc : c1.length = k) : DfI k M i (j + 1) cur kc c2 := by
 refine ⟨h.len, by have := h.lt; omega, hj, h.kl, h.k1, ?_⟩
 have e : cur.drop ((j + 1) * k) = (cur.drop (j * k)).drop k := by rw [List.drop_drop, Nat.succ_mul]
 rw [e, h.r1, ← hc, List.drop_left]
theorem DfI.put {k M i j : Nat} {cur kc c1 c2 : List Value} (h : DfI k M i j cur kc (c1 ++ c2)) (hj : j < M) (hc : c1.length = k) : DfI k M (i + 1) (j + 1) (cur.take (i * k) ++ c1 ++ cur.drop (i * k + k)) (kc ++ c1) c2 := by
 have hlt := h.lt
 have h2 : i * k + k ≤ j * k := by rw [← Nat.succ_mul]; exact Nat.mul_le_mul_right _ hlt
 have h3 : j * k + k ≤ M * k := by rw [← Nat.succ_mul]; exact Nat.mul_le_mul_right _ hj
 have hl := h.len
 have hs := h.skip hj hc
 have l1 : (cur.take (i * k) ++ c1).length = (i + 1) * k := by rw [List.length_append, List.length_take, hc, Nat.succ_mul]; omega
 refine ⟨?_, by omega, hj, ?_, ?_, ?_⟩
 ·simp only [List.length_append, List.length_take, List.length_drop, hc]; omega
 ·rw [List.length_append, h.kl, hc, Nat.succ_mul]
 ·rw [← l1, List.take_left, h.k1]
 ·rw [← hs.r1, List.drop_append, l1, (show (cur.take (i * k) ++ c1).drop ((j + 1) * k) = [] from List.drop_eq_nil_of_le (by rw [l1]; exact Nat.mul_le_mul_right _ (by omega))), List.nil_append, List.drop_drop]
  congr 1
  have h4 : (i + 1) * k ≤ (j + 1) * k := Nat.mul_le_mul_right _ (by omega)
  have h5 : (i + 1) * k = i * k + k := Nat.succ_mul _ _
  have h6 : (j + 1) * k = j * k + k := Nat.succ_mul _ _
  omega
theorem b4F {k M i : Nat} {cs c1 c2 c3 : List Value} (hl : cs.length = M * k) (hi : i < M) (e : cs = c1 ++ (c2 ++ c3)) (h1 : c1.length = i * k) (h2 : c2.length = k) : DfI k M i (i + 1) cs c1 c3 := by
 subst e
 refine ⟨hl, by omega, hi, h1, by rw [← h1, List.take_left], ?_⟩
 rw [← List.append_assoc, Nat.succ_mul, ← h1, ← h2, ← List.length_append, List.drop_left]
theorem a0Z {α : Type} {s : List α} {p : α → Bool} {j : Nat} (h : j < s.length) : (s.take (j + 1)).filter p = if p s[j] then (s.take j).filter p ++ [s[j]] else (s.take j).filter p := by
 rw [List.take_succ_eq_append_getElem h, List.filter_append]
 cases hp : p s[j] <;> simp [hp]
theorem a9I {α : Type} {s : List α} {p : α → Bool} {i : Nat} (h : H3 p s = (i : Int)) : i < s.length ∧ (∀ hi : i < s.length, p s[i] = true) ∧ (s.take i).filter (fun x => !p x) = s.take i ∧ (s.take (i + 1)).filter (fun x => !p x) = s.take i := by
 have h0 : ¬ H3 p s < 0 := by omega
 have h1 := a6I h0
 have ha : s.any p = true := by
  by_cases q : s.any p = true
  ·exact q
  ·exact absurd (a7p.2 (by simpa using q)) h0
 have hf : (s.findIdx p : Int) = (i : Int) := by rw [← h, H3, if_pos ha]
 have hf' : s.findIdx p = i := by omega
 have hi : i < s.length := by omega
 have hp : p s[i] = true := by subst hf'; exact List.findIdx_getElem
 have h3 : (s.take i).filter (fun x => !p x) = s.take i := by
  rw [List.filter_eq_self]
  intro x hx
  obtain ⟨q, hq, rfl⟩ := List.mem_take_iff_getElem.1 hx
  have := List.not_of_lt_findIdx (p := p) (xs := s) (i := q) (by omega)
  simpa using this
 refine ⟨hi, fun _ => hp, h3, ?_⟩
 rw [a0Z hi, if_neg (by simp [hp]), h3]
theorem b0J {α : Type} {s : List α} {p : α → Bool} (h : H3 p s < 0) : s.filter (fun x => !p x) = s := by
 rw [List.filter_eq_self]
 intro x hx
 have := a7p.1 h
 rw [List.any_eq_false] at this
 simpa using this x hx
end Go.Proofs.YtlfhopooaejpfaaGreat
end
