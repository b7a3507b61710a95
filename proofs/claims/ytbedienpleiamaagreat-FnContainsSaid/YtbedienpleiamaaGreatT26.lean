import Derived.Test.YtbedienpleiamaaGreatT12
section
namespace Go.Proofs.YtbedienpleiamaaGreat
open Go.RowKit
set_option linter.unusedVariables false
section
variable {P : Program} {n : Nat} {w0 : World} {L0 : List Nat} {fr : Fr} {H : List HP}
theorem b2g {x y u v : Operand} {T e : TypeId} {agg : Bool} {k : Nat} {z : List Value} {by' : Nat} {a : Option Addr} {m c l h b : Nat} (hT : P.underlying T = some (.slice e)) (ht : TyOk P e agg k z by') (hx : ev fr x = some (.slice a m c)) (hy : ev fr y = some (.int .i64 (l : Int))) (hu : ev fr u = some (.int .i64 (h : Int))) (hv : ev fr v = some (.int .i64 (b : Int))) (h1 : l ≤ h) (h2 : h ≤ b) (h3 : b ≤ c) :
    Yp P n fr (.slice T x (some y) (some u) (some v)) (.slice (if b = l then a else a.map (·.add (l * k))) (h - l) (b - l)) := fun ac hf w' d t p af g => by
  simp [execOp, hf.ev hx, hf.ev hy, hf.ev hu, hf.ev hv, Instr.sliceAt, Instr.slice, Instr.sliceBounds, W2 h1, W2 h2, W2 h3, run_underlying hT, ht.run_sizeOf]
theorem b0I {x y u : Operand} {T e : TypeId} {agg : Bool} {k : Nat} {z : List Value} {by' : Nat} {a : Option Addr} {m c l h : Nat} (hT : P.underlying T = some (.slice e)) (ht : TyOk P e agg k z by') (hx : ev fr x = some (.slice a m c)) (hy : ev fr y = some (.int .i64 (l : Int))) (hu : ev fr u = some (.int .i64 (h : Int))) (h1 : l ≤ h) (h2 : h ≤ c) :
    Yp P n fr (.slice T x (some y) (some u) none) (.slice (if c = l then a else a.map (·.add (l * k))) (h - l) (c - l)) := fun ac hf w' d t p af g => by
  simp [execOp, hf.ev hx, hf.ev hy, hf.ev hu, Instr.sliceAt, Instr.slice, Instr.sliceBounds, W2 h1, W2 h2, run_underlying hT, ht.run_sizeOf]
theorem b1p {x y u : Operand} {T e : TypeId} {agg : Bool} {k : Nat} {z : List Value} {by' : Nat} {b m c l h : Nat} (hT : P.underlying T = some (.slice e)) (ht : TyOk P e agg k z by') (hx : ev fr x = some (.slice (some ⟨b, 0, none⟩) m c)) (hy : ev fr y = some (.int .i64 (l : Int))) (hu : ev fr u = some (.int .i64 (h : Int))) (h1 : l ≤ h) (h2 : h ≤ c) (hc : l < c) :
    Yp P n fr (.slice T x (some y) (some u) none) (.slice (some ⟨b, l * k, none⟩) (h - l) (c - l)) := by
  have h := b0I (P := P) (n := n) (fr := fr) hT ht hx hy hu h1 h2
  rw [if_neg (by omega)] at h
  have e1 : Option.map (fun q : Addr => q.add (l * k)) (some ⟨b, 0, none⟩) = some ⟨b, l * k, none⟩ := by
    simp only [Option.map_some, Addr.add]
    split
    · rename_i h0; rw [h0]
    · simp
  rw [e1] at h; exact h
theorem a9g {e : TypeId} {k M C gb j : Nat} {cs : List Value} (hm : row e k (some ⟨gb, 0, none⟩) M C cs ∈ H) (hc : cs.length = M * k) (hj : j ≤ M) (hMC : M ≤ C) :
    (M - j = 0 ∧ cs.drop (j * k) = []) ∨ ∃ b o, (if C = j then some (⟨gb, 0, none⟩ : Addr) else (some (⟨gb, 0, none⟩ : Addr)).map (·.add (j * k))) = some ⟨b, o, none⟩ ∧ Has w0 L0 H b o (cs.drop (j * k)) := by
  by_cases h : C = j
  · refine .inl ⟨by omega, List.drop_eq_nil_of_le ?_⟩
    rw [hc, show j = M by omega]; exact Nat.le_refl _
  · refine .inr ⟨gb, j * k, ?_, a4q hm j (rest := []) (List.append_nil _).symm⟩
    rw [if_neg h]
    simp only [Option.map_some, Addr.add]
    split
    · rename_i h0; rw [h0]
    · simp
theorem a8K {cs R : List Value} {x y n k : Nat} (hc : cs.length = n * k) (hx : x ≤ y) (hy : y ≤ n) : (cs.take (x * k) ++ cs.drop (y * k) ++ R).take ((x + (n - y)) * k) = cs.take (x * k) ++ cs.drop (y * k) := by
  have h1 : x * k ≤ n * k := Nat.mul_le_mul_right _ (by omega)
  have h2 : (cs.take (x * k) ++ cs.drop (y * k)).length = (x + (n - y)) * k := by
    rw [List.length_append, List.length_take, List.length_drop, hc, Nat.add_mul, Nat.sub_mul, Nat.min_eq_left h1]
  rw [← h2, List.take_left]
end
end Go.Proofs.YtbedienpleiamaaGreat
end
section
namespace Go.Proofs.YtbedienpleiamaaGreat
open Go.RowKit
set_option linter.all false
set_option maxHeartbeats 2000000
attribute [local irreducible] Nop Yd Yp Ent Has Tr FnP FnP2 Src O1 S7 W5 X5 I0
theorem a5S {a_s : Option Addr} {m_s c_s : Nat} {s : List (Int × List Int)} {i : Int} {j : Int} (hij : 0 ≤ i ∧ i ≤ j ∧ j ≤ s.length) : Tr Tryz.prog 83 [.slice a_s m_s c_s, .int .i64 i, .int .i64 j] (fun w L => True) [ow j8 [.slice a_s m_s c_s] s] (κ := Option Addr × Nat × Nat) (fun k => True) (fun k => .slice k.1 k.2.1 k.2.2) (fun k => [ow j8 [.slice k.1 k.2.1 k.2.2] (s.take i.toNat ++ s.drop j.toNat)]) := by
 refine Tr.intro Tryz.func83 rfl (n := 33) rfl (by decide +kernel) bl (fr := [(0, .slice a_s m_s c_s), (1, .int .i64 i), (2, .int .i64 j)]) rfl fun w L hR => (d4 m0 fun es ls => ?_)
 subst es
 obtain ⟨x, rfl⟩ : ∃ x : Nat, i = (x : Int) := ⟨i.toNat, by omega⟩
 obtain ⟨y, rfl⟩ : ∃ y : Nat, j = (y : Int) := ⟨j.toNat, by omega⟩
 refine a3H fun cs hcs => ?_
 replace hcs : cs.length = s.length * 2 := hcs
 show Ent _ _ _ _ (row tAtom 2 a_s s.length c_s cs :: _) _
 refine a1O (mS m0) fun h1s => (a3I m0 fun hms => (Ew Z1 (Ei rfl (Ev Z6 (Em rfl (Em rfl (Em rfl (Em rfl (Ey rfl ((Y.len us_Atoms rfl).yd) (Ey rfl ((b2g (l := x) (h := y) (b := s.length) us_Atoms ty_Atom rfl rfl rfl rfl om om om).yd) (Eu (Eq_ (Ew Z3 (Em rfl (Em rfl (Ey rfl ((Y.eql rfl rfl).yd) (n9 (fun q16 => ?_) (fun q16 => ?_))))))))))))))))))
 ·refine Eu (o0 rfl (Ew Z2 (Em rfl (Ei rfl (Eu (E.ret (o4 (d7 (d7 (a0B (E := N3) rfl mx (i9 (congrArg (ow j8 [_]) (show s = s.take x ++ s.drop y from by rw [show x = y by omega, List.take_append_drop])) ?_)))))))))))
  exact Fg rfl rfl (_, _, _) rfl rfl
 ·refine a4r m0 om fun sb hsb _ => ?_
  subst hsb
  refine Eu (n0 rfl (f8 (Et (Ew Z3 (Em rfl (Ey rfl ((Y.len us_Atoms rfl).yd) (Ei rfl (Eu (Eq_ (D.region (fun j => !(Nat.beq j 6)) mixed (Dyp 0 rfl (i8 rfl) (Dyp 1 rfl (i8 rfl) (Dyp 2 rfl (a2p (h := x) us_Atoms ty_Atom rfl rfl om) (Dyp 3 rfl (i8 rfl) (Dyp 4 rfl (i8 rfl) (Dyp 5 rfl (a4p (l := y) us_Atoms ty_Atom rfl rfl om) (r8 6 rfl rfl kr (fun h => by cases h) (b0H (i := x) (m2 := s.length - y) (news := cs.drop (y * 2)) us_Atoms ty_Atom rfl rfl rfl om (a9g m0 hcs om hms.1) (by rw [List.length_drop, hcs, Nat.sub_mul]) (fun u hu => h1s u (List.mem_of_mem_drop hu)) om dc rfl) (fun _ _ => (Dyp 7 rfl (C0 rfl) (r7 kr (Et (Ew Z6 (Em rfl (Em rfl (Ey rfl ((Y.len us_Atoms rfl).yd) (Em rfl (Ey rfl ((b1p (l := (x + (s.length - y))) (h := s.length) (b := sb) us_Atoms ty_Atom rfl rfl rfl om om om).yd) (Est rfl (b2k (p := (x + (s.length - y))) (q := (s.length - ((x + (s.length - y))))) us_Atoms ty_Atom (by simp [Value.oneCell']) rfl rfl om om om rfl) (fun _ _ => (Ev Z2 (Em rfl (Ei rfl (Eu (E.ret (d7 (a9K (i := x) (j := y) om om (d7 (i9 (congrArg (row tAtom 2 (some ⟨sb, 0, none⟩) (x + (s.length - y)) c_s) (a8K hcs om om)) (a0B (E := N3) (by simp only [List.length_append, List.length_take, List.length_drop]; omega) mx ?_)))))))))))))))))))))))))))))))))))))))
  exact Fg rfl rfl (_, _, _) rfl rfl
end Go.Proofs.YtbedienpleiamaaGreat
end
