import Derived.Test.YtdopeopehgdccaaGreatEs
section
namespace Go.Proofs.YtdopeopehgdccaaGreat
open Go.RowKit
set_option linter.unusedVariables false
section
variable {P : Program} {n : Nat} {w0 : World} {L0 : List Nat} {fr : Fr} {H : List HP}
theorem c1j {x y u v : Operand} {T e : TypeId} {agg : Bool} {k : Nat} {z : List Value} {by' : Nat} {a : Option Addr} {m c l h b : Nat} (hT : P.underlying T = some (.slice e)) (ht : TyOk P e agg k z by') (hx : ev fr x = some (.slice a m c)) (hy : ev fr y = some (.int .i64 (l : Int))) (hu : ev fr u = some (.int .i64 (h : Int))) (hv : ev fr v = some (.int .i64 (b : Int))) (h1 : l ≤ h) (h2 : h ≤ b) (h3 : b ≤ c) :
    Yp P n fr (.slice T x (some y) (some u) (some v)) (.slice (if b = l then a else a.map (·.add (l * k))) (h - l) (b - l)) := fun ac hf w' d t p af g => by
  simp [execOp, hf.ev hx, hf.ev hy, hf.ev hu, hf.ev hv, Instr.sliceAt, Instr.slice, Instr.sliceBounds, a0U h1, a0U h2, a0U h3, run_underlying hT, ht.run_sizeOf]
theorem b9B {x y u : Operand} {T e : TypeId} {agg : Bool} {k : Nat} {z : List Value} {by' : Nat} {a : Option Addr} {m c l h : Nat} (hT : P.underlying T = some (.slice e)) (ht : TyOk P e agg k z by') (hx : ev fr x = some (.slice a m c)) (hy : ev fr y = some (.int .i64 (l : Int))) (hu : ev fr u = some (.int .i64 (h : Int))) (h1 : l ≤ h) (h2 : h ≤ c) :
    Yp P n fr (.slice T x (some y) (some u) none) (.slice (if c = l then a else a.map (·.add (l * k))) (h - l) (c - l)) := fun ac hf w' d t p af g => by
  simp [execOp, hf.ev hx, hf.ev hy, hf.ev hu, Instr.sliceAt, Instr.slice, Instr.sliceBounds, a0U h1, a0U h2, run_underlying hT, ht.run_sizeOf]
theorem c0A {x y u : Operand} {T e : TypeId} {agg : Bool} {k : Nat} {z : List Value} {by' : Nat} {b m c l h : Nat} (hT : P.underlying T = some (.slice e)) (ht : TyOk P e agg k z by') (hx : ev fr x = some (.slice (some ⟨b, 0, none⟩) m c)) (hy : ev fr y = some (.int .i64 (l : Int))) (hu : ev fr u = some (.int .i64 (h : Int))) (h1 : l ≤ h) (h2 : h ≤ c) (hc : l < c) :
    Yp P n fr (.slice T x (some y) (some u) none) (.slice (some ⟨b, l * k, none⟩) (h - l) (c - l)) := by
  have h := b9B (P := P) (n := n) (fr := fr) hT ht hx hy hu h1 h2
  rw [if_neg (by omega)] at h
  have e1 : Option.map (fun q : Addr => q.add (l * k)) (some ⟨b, 0, none⟩) = some ⟨b, l * k, none⟩ := by
    simp only [Option.map_some, Addr.add]
    split
    · rename_i h0; rw [h0]
    · simp
  rw [e1] at h; exact h
theorem b8i {e : TypeId} {k M C gb j : Nat} {cs : List Value} (hm : row e k (some ⟨gb, 0, none⟩) M C cs ∈ H) (hc : cs.length = M * k) (hj : j ≤ M) (hMC : M ≤ C) :
    (M - j = 0 ∧ cs.drop (j * k) = []) ∨ ∃ b o, (if C = j then some (⟨gb, 0, none⟩ : Addr) else (some (⟨gb, 0, none⟩ : Addr)).map (·.add (j * k))) = some ⟨b, o, none⟩ ∧ Has w0 L0 H b o (cs.drop (j * k)) := by
  by_cases h : C = j
  · refine .inl ⟨by omega, List.drop_eq_nil_of_le ?_⟩
    rw [hc, show j = M by omega]; exact Nat.le_refl _
  · refine .inr ⟨gb, j * k, ?_, a4f hm j (rest := []) (List.append_nil _).symm⟩
    rw [if_neg h]
    simp only [Option.map_some, Addr.add]
    split
    · rename_i h0; rw [h0]
    · simp
theorem b6u {cs R : List Value} {x y n k : Nat} (hc : cs.length = n * k) (hx : x ≤ y) (hy : y ≤ n) : (cs.take (x * k) ++ cs.drop (y * k) ++ R).take ((x + (n - y)) * k) = cs.take (x * k) ++ cs.drop (y * k) := by
  have h1 : x * k ≤ n * k := Nat.mul_le_mul_right _ (by omega)
  have h2 : (cs.take (x * k) ++ cs.drop (y * k)).length = (x + (n - y)) * k := by
    rw [List.length_append, List.length_take, List.length_drop, hc, Nat.add_mul, Nat.sub_mul, Nat.min_eq_left h1]
  rw [← h2, List.take_left]
end
end Go.Proofs.YtdopeopehgdccaaGreat
end
section
namespace Go.Proofs.YtdopeopehgdccaaGreat
open Go.RowKit
set_option linter.all false
set_option maxHeartbeats 2000000
attribute [local irreducible] Nop Yd Yp Ent Has Tr FnP FnP2 Src O8 Y2 a0b a0m G5
variable {s : List ((Option Addr × Nat × Nat) × Option Addr × Nat × Nat)} {m_s c_s : Nat} {a_s : Option Addr}
theorem b0f {i : Int} {j : Int} (hij : 0 ≤ i ∧ i ≤ j ∧ j ≤ s.length) : Tr Tryz.prog 158 [.slice a_s m_s c_s, .int .i64 i, .int .i64 j] (fun w L => True) [ow Y4 [.slice a_s m_s c_s] s] (κ := Option Addr × Nat × Nat) (fun k => True) (fun k => .slice k.1 k.2.1 k.2.2) (fun k => [ow Y4 [.slice k.1 k.2.1 k.2.2] (s.take i.toNat ++ s.drop j.toNat)]) := by
 refine l0 Tryz.func158 rfl (n := 33) rfl (by decide +kernel) bl (fr := [(0, .slice a_s m_s c_s), (1, .int .i64 i), (2, .int .i64 j)]) rfl fun w L hR => (f5 m0 fun es ls => ?_)
 subst es
 obtain ⟨x, rfl⟩ : ∃ x : Nat, i = (x : Int) := ⟨i.toNat, by omega⟩
 obtain ⟨y, rfl⟩ : ∃ y : Nat, j = (y : Int) := ⟨j.toNat, by omega⟩
 refine a4g fun cs hcs => ?_
 replace hcs : cs.length = s.length * 2 := hcs
 show Ent _ _ _ _ (row a7T 2 a_s s.length c_s cs :: _) _
 refine a2r (mS m0) fun h1s => (a4a m0 fun hms => (Ew Z1 (Ei rfl (Ev Z6 (Em rfl (Em rfl (Em rfl (Em rfl (Ey rfl ((Y.len us_Querys rfl).yd) (Ey rfl ((c1j (l := x) (h := y) (b := s.length) us_Querys ty_Query rfl rfl rfl rfl om om om).yd) (Eu (Eq_ (Ew Z3 (Em rfl (Em rfl (Ey rfl ((Y.eql rfl rfl).yd) (o7 (fun q16 => ?_) (fun q16 => ?_))))))))))))))))))
 ·refine Eu (o5 rfl (Ew Z2 (Em rfl (Ei rfl (Eu (E.ret (l4 (f8 (f8 (a1u (E := a0i) rfl mx (i9 (congrArg (ow Y4 [_]) (show s = s.take x ++ s.drop y from by rw [show x = y by omega, List.take_append_drop])) ?_)))))))))))
  exact Fg rfl rfl (_, _, _) rfl rfl
 ·refine a4d m0 om fun sb hsb _ => ?_
  subst hsb
  refine Eu (o4 rfl (i7 (Et (Ew Z3 (Em rfl (Ey rfl ((Y.len us_Querys rfl).yd) (Ei rfl (Eu (Eq_ (D.region (fun j => !(Nat.beq j 6)) mixed (Dyp 0 rfl (o0 rfl) (Dyp 1 rfl (o0 rfl) (Dyp 2 rfl (a3y (h := x) us_Querys ty_Query rfl rfl om) (Dyp 3 rfl (o0 rfl) (Dyp 4 rfl (o0 rfl) (Dyp 5 rfl (a6z (l := y) us_Querys ty_Query rfl rfl om) (t6 6 rfl rfl kr (fun h => by cases h) (b9z (i := x) (m2 := s.length - y) (news := cs.drop (y * 2)) us_Querys ty_Query rfl rfl rfl om (b8i m0 hcs om hms.1) (by rw [List.length_drop, hcs, Nat.sub_mul]) (fun u hu => h1s u (List.mem_of_mem_drop hu)) om dc rfl) (fun _ _ => (Dyp 7 rfl (F0 rfl) (s3 kr (Et (Ew Z6 (Em rfl (Em rfl (Ey rfl ((Y.len us_Querys rfl).yd) (Em rfl (Ey rfl ((c0A (l := (x + (s.length - y))) (h := s.length) (b := sb) us_Querys ty_Query rfl rfl rfl om om om).yd) (Est rfl (b8F (p := (x + (s.length - y))) (q := (s.length - ((x + (s.length - y))))) us_Querys ty_Query (by simp [Value.oneCell']) rfl rfl om om om rfl) (fun _ _ => (Ev Z2 (Em rfl (Ei rfl (Eu (E.ret (f8 (b8q (i := x) (j := y) om om (f8 (i9 (congrArg (row a7T 2 (some ⟨sb, 0, none⟩) (x + (s.length - y)) c_s) (b6u hcs om om)) (a1u (E := a0i) (by simp only [List.length_append, List.length_take, List.length_drop]; omega) mx ?_)))))))))))))))))))))))))))))))))))))))
  exact Fg rfl rfl (_, _, _) rfl rfl
theorem a9U (hz : s.length ≤ 1048576) : Tr Tryz.prog 159 [.slice a_s m_s c_s] (fun w L => Ro w L Y4 [.slice a_s m_s c_s] s) [] (κ := Option Addr × Nat × Nat) (fun k => True) (fun k => .slice k.1 k.2.1 k.2.2) (fun k => [ow Y4 [.slice k.1 k.2.1 k.2.2] s]) := by
 refine l0 Tryz.func159 rfl (n := 8) rfl (by decide +kernel) bl (fr := [(0, .slice a_s m_s c_s)]) rfl fun w L hR => ?_
 have hs := hR
 obtain ⟨rfl, ls⟩ := hs.slen
 refine Ew Z1 (Ei rfl (Eu (Eq_ (Ew Z2 (Em rfl (Ey rfl ((b4p us_Querys rfl rfl).yd) (Ent.b (fun q4 => ?_) (fun q4 => ?_))))))))
 ·refine Eu (o5 rfl (Ew Z1 (Ei rfl (Eu (E.ret (l4 (s7 (A := []) (Own.nil (E := a0i) (e := a7T) (a := none)) rfl (i9 (congrArg (ow Y4 [_]) (show _ = s by (cases a_s with | none => exact hs.none_nil.symm | some x => cases q4))) ?_))))))))
  exact Fg rfl rfl (none, 0, 0) rfl rfl
 ·refine Eu (o4 rfl (i7 (Et (Ew Z4 (Est rfl (Nb [] [] us_Querys ty_Query rfl rfl) (fun b5 _ => (Ent.drop (Em rfl (Est rfl (K7 (E := a0i) b4B us_Querys ty_Query rfl rfl rfl hs bn bn dc) (fun p7 _ => (Ei rfl ?_)))))))))))
  exact Eu (E.ret (Fg rfl rfl (_, _, _) rfl rfl))
end Go.Proofs.YtdopeopehgdccaaGreat
end
section
namespace Go.Proofs.YtdopeopehgdccaaGreat
def c2y {α : Type} (l : List α) (i : Int) : List α := if inR i 0 ((l.length : Int) - 1) then l.take i.toNat ++ l.drop (i + 1).toNat else l
end Go.Proofs.YtdopeopehgdccaaGreat
end
section
namespace Go.Proofs.YtdopeopehgdccaaGreat
open Go.RowKit
set_option linter.all false
set_option maxHeartbeats 2000000
attribute [local irreducible] Nop Yd Yp Ent Has Tr FnP FnP2 Src O8 Y2 a0b a0m G5
theorem a4Z {l3 : Int} {u7 : Option Addr} {x8 u6 : Nat} {f7 : List Int} (haz : f7.length ≤ 1048576) : Tr Tryz.prog 164 [.agg #[.int .i64 l3, .slice u7 x8 u6]] (fun w L => I64 l3 ∧ Ro w L eIs [.slice u7 x8 u6] f7) [] (κ := Option Addr × Nat × Nat) (fun k => True) (fun k => .agg #[.int .i64 l3, .slice k.1 k.2.1 k.2.2]) (fun k => [ow eIs [.slice k.1 k.2.1 k.2.2] f7]) := by
 refine l0 Tryz.func164 rfl (n := 9) rfl (by decide +kernel) bl (fr := [(0, .agg #[.int .i64 l3, .slice u7 x8 u6])]) rfl fun w L hR => ?_
 obtain ⟨I0, y7⟩ := hR
 obtain ⟨rfl, P3⟩ := y7.slen
 refine Ew Z2 (Est rfl (N.box (cs := [_, _]) rfl dc rfl) (fun b1 _ => (Est rfl (N.alloc ty_Atom dc) (fun b2 _ => (Eu (Eq_ (D.region (fun j => !(Nat.beq j 6)) mixed (Dyp 0 rfl (j6 fo_Atom_0 i8 dc rfl) (Dy 1 rfl (g9 i8 rfl (Hz (mS m0) 0 rfl) rfl) (Dyp 2 rfl (j6 fo_Atom_1 ty_Is dc rfl) (Dy 3 rfl (g9 ty_Is rfl (Hz (mS m0) 1 rfl) rfl) (t6 4 rfl rfl kr (fun _ => rfl) (N.call (a0X fc) rfl rfl rfl dc rfl (fun w Lp hA => hA.ro y7)) (fun k7 _ => ?_)))))))))))))
 obtain ⟨a7, m7, c7⟩ := k7
 refine f5 m0 fun e7 l7 => ?_
 subst e7
 refine Dyp 5 rfl (J2 (pvs := [_, _]) (cs := [_, _]) ty_Atom b1B rfl rfl) (f8 (t6 6 rfl rfl kr (fun h => by cases h) (Ns [_, _] ty_Atom rfl) (fun _ _ => (s3 kr (Et (E.ret (f8 ?_)))))))
 exact a1L br rfl rfl (mS m0) ty_Atom rfl (_, _, _) trivial rfl (J := _) (.refl _) (.inl rfl)
theorem a9x {a_l : Option Addr} {m_l c_l : Nat} {l : List (Int × List Int)} (hln : l.length ≤ 1048576) (hlt : ∀ a ∈ l, a.2.length ≤ 1048576) : Tr Tryz.prog 290 [.slice a_l m_l c_l] (fun w L => Ro w L w9 [.slice a_l m_l c_l] l) [] (κ := Option Addr × Nat × Nat) (fun k => True) (fun k => .slice k.1 k.2.1 k.2.2) (fun k => [ow w9 [.slice k.1 k.2.1 k.2.2] l]) := by
 refine l0 Tryz.func290 rfl (n := 20) rfl (by decide +kernel) bl (fr := [(0, .slice a_l m_l c_l)]) rfl fun w L hR => ?_
 have hl := hR
 obtain ⟨rfl, ll⟩ := hl.slen
 refine Ew Z1 (Ei rfl (Ev Z2 (Est rfl (Nb [] [] us_Atoms ty_Atom rfl rfl) (fun b6 _ => (Ent.drop (Ei rfl (Eu (Eq_ (Ew Z3 (Em rfl (Ey rfl ((Y.len us_Atoms rfl).yd) (Em rfl (Eu (E.block (s7 (A := []) (Own.nil (E := W7) (e := tAtom) (a := (some ⟨b6, 0, none⟩))) rfl (i9 (congrArg (ow w9 [_]) (show [] = l.take 0 from by first | rfl | (simp; done) | grind [d1, d2, t1, t2])) (E.loop (κ := Nat × Option Addr × Nat × Nat) (fun g => g.1 ≤ l.length ∧ True) (fun g => [(3, .slice g.2.1 g.2.2.1 g.2.2.2), (7, .slice a_l l.length c_l), (8, .int .i64 (↑l.length : Int)), (9, .int .i64 (↑g.1 : Int))]) (fun g => [ow w9 [.slice g.2.1 g.2.2.1 g.2.2.2] (l.take g.1)]) (fun g => l.length - g.1) (0, (some ⟨b6, 0, none⟩), 0, 0) ⟨Nat.zero_le _, by simp⟩ ⟨rfl, rfl, rfl, rfl, trivial⟩ (.refl _) (fun g pg => ?_))))))))))))))))))
 obtain ⟨g, aA0_0, mA0_0, cA0_0⟩ := g
 try dsimp only at pg
 try dsimp only
 obtain ⟨pk, pa⟩ := pg
 have jp := List.length_take_le g l
 refine f5 m0 fun eaA0_0 laA0_0 => ?_
 subst eaA0_0
 refine Ew Z1 (Ey rfl ((Y.lss rfl rfl).yd) (o7 (fun q10 => ?_) (fun q10 => ?_)))
 ·obtain ⟨eb11, eo11, ec11, ea11, er11, el11, eh11⟩ := hl.elem g om
  obtain ⟨xa11_0, xc11_0, rfl, ei11_0, xh11_0⟩ := J6 er11
  have := xh11_0.slen.2
  refine Eu (Eq_ (o5 rfl (i7 (Et (Eq_ (E.block (Ew Z4 (Ey rfl ((s4 us_Atoms ty_Atom rfl ea11 rfl g rfl om).yd) (Ey rfl (r9 (cs := [_, _]) ty_Atom rfl (eh11 _) rfl) (Est rfl (N.alloc ty_Atom dc) (fun b5 _ => (Est rfl (Ns [_, _] ty_Atom rfl) (fun _ _ => (Eu (Ez Z6 (Em rfl (Ey rfl (r9 (cs := [_, _]) ty_Atom rfl (Has.pt m0) rfl) (Est rfl (N.call (a4Z (hlt _ (List.getElem_mem om))) rfl rfl rfl dc rfl (fun w Lp hA => ⟨ei11_0, hA.ro xh11_0⟩)) (fun k15 _ => ?_)))))))))))))))))))
  obtain ⟨a15, m15, c15⟩ := k15
  refine f5 m0 fun e15 l15 => ?_
  subst e15
  refine Est rfl (Nb [_] [_, _] us_Atoms ty_Atom rfl rfl) (fun b16 _ => (f8 (f8 (v7 (Est rfl (B1 (E := W7) (ex := l[g]) us_Atoms ty_Atom rfl rfl rfl (a1c (x := l[g]) ei11_0 Own.ow) rfl bn bn dc) (fun p17 _ => (Ei rfl (En (t8 (Et (Ez Z2 (Ey rfl ((Y.add rfl rfl om om).yd) (Em rfl (Eu (f8 (Ent.drop (i9 (congrArg (ow w9 [_]) (show (l.take g) ++ [l[g]] = l.take (g + 1) from by grind [d1, d2, t1, t2])) ?_)))))))))))))))))
  exact Ea (g + 1, p17.1, ((l.take g).length + 1), p17.2) ⟨oz, trivial⟩
 ·refine Eu (Eq_ (o4 rfl (E.exit (o3 (o3 (w3 (Et (Ew Z2 (Em rfl (Ei rfl (Eu (E.ret (i9 (congrArg (ow w9 [_]) (show _ = l by grind [d1, d2, t1, t2])) ?_)))))))))))))
  exact Fg rfl rfl (_, _, _) rfl rfl
theorem a8Q {r5 : Option Addr} {s8 o9 : Nat} {f6 : List Int} {o2 : Option Addr} {s5 o1 : Nat} {d4 : List (Int × List Int)} (hqh : f6.length ≤ 1048576) (hqn : d4.length ≤ 1048576) (hqt : ∀ a ∈ d4, a.2.length ≤ 1048576) : Tr Tryz.prog 233 [.agg #[.slice r5 s8 o9, .slice o2 s5 o1]] (fun w L => Ro w L eIs [.slice r5 s8 o9] f6 ∧ Ro w L w9 [.slice o2 s5 o1] d4) [] (κ := (Option Addr × Nat × Nat) × (Option Addr × Nat × Nat)) (fun k => True) (fun k => .agg #[.slice k.1.1 k.1.2.1 k.1.2.2, .slice k.2.1 k.2.2.1 k.2.2.2]) (fun k => [ow eIs [.slice k.1.1 k.1.2.1 k.1.2.2] f6, ow w9 [.slice k.2.1 k.2.2.1 k.2.2.2] d4]) := by
 refine l0 Tryz.func233 rfl (n := 10) rfl (by decide +kernel) bl (fr := [(0, .agg #[.slice r5 s8 o9, .slice o2 s5 o1])]) rfl fun w L hR => ?_
 obtain ⟨t7, s0⟩ := hR
 obtain ⟨rfl, I9⟩ := t7.slen
 obtain ⟨rfl, H0⟩ := s0.slen
 refine Ew Z2 (Est rfl (N.box (cs := [_, _]) rfl dc rfl) (fun b1 _ => (Est rfl (N.alloc ty_Query dc) (fun b2 _ => (Eu (Eq_ (D.region (fun j => !(Nat.beq j 7)) mixed (Dyp 0 rfl (j6 fo_Query_0 ty_Is dc rfl) (Dy 1 rfl (g9 ty_Is rfl (Hz (mS m0) 0 rfl) rfl) (Dyp 3 rfl (j6 fo_Query_1 ty_Atoms dc rfl) (Dy 4 rfl (g9 ty_Atoms rfl (Hz (mS m0) 1 rfl) rfl) (t6 2 rfl rfl kr (fun _ => rfl) (N.call (a0X fc) rfl rfl rfl dc rfl (fun w Lp hA => hA.ro t7)) (fun k5 _ => ?_)))))))))))))
 obtain ⟨a5, m5, c5⟩ := k5
 refine f5 m0 fun e5 l5 => ?_
 subst e5
 refine t6 5 rfl rfl kr (fun _ => rfl) (N.call (a9x fc fc) rfl rfl rfl dc rfl (fun w Lp hA => hA.ro s0)) (fun k8 _ => ?_)
 obtain ⟨a8, m8, c8⟩ := k8
 refine f5 m0 fun e8 l8 => ?_
 subst e8
 refine Dyp 6 rfl (J2 (pvs := [_, _]) (cs := [_, _]) ty_Query a3Y rfl rfl) (o6 (t6 7 rfl rfl kr (fun h => by cases h) (Ns [_, _] ty_Query rfl) (fun _ _ => (s3 kr (Et (E.ret (f8 (o6 (f8 (f8 ?_))))))))))
 exact a1L br rfl rfl (mS (mS m0)) ty_Query rfl ((_, _, _), (_, _, _)) trivial rfl (J := _) (.refl _) (.inl rfl)
end Go.Proofs.YtdopeopehgdccaaGreat
end
