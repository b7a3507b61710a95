import Derived.Test.YtdopeopehgdccaaGreatT19
import Derived.Test.YtdopeopehgdccaaGreatT31
section
namespace Go.Proofs.YtdopeopehgdccaaGreat
set_option linter.unusedVariables false
set_option linter.unusedSimpArgs false
def c0u (d8 n : List (Int × List Int)) (b : List Int × List Int) : Bool := n.any fun a => K6 d8 (S9 a b)
def c0B (s : List Int) (g : (List Int × List (Int × List Int)) × List (Int × List Int)) (d8 : List (Int × List Int)) : List (List Int) :=
  if R2 s g && F2 s d8 then S0 g.1.1 ((I0 g.1.2 d8).filter fun b => !c0u d8 g.2 b) else []
theorem a1S {s : List Int} {g : (List Int × List (Int × List Int)) × List (Int × List Int)} (h : R2 s g = true) : I4 s g.1 = true ∧ ∀ a ∈ g.2, a.2.length ≤ 3 := by
  simp only [R2, Bool.and_eq_true, Bool.not_eq_true', List.any_eq_false, Bool.not_eq_true] at h
  refine ⟨h.1, fun a ha => ?_⟩
  have h1 : J0 s a = true := by simpa using h.2.2.1 a ha
  simp only [J0, Bool.and_eq_true, decide_eq_true_eq] at h1
  have h2 := a1e h1.1
  simp only [at0] at h1; omega
def c1E (s : List Int) (g : (List Int × List (Int × List Int)) × List (Int × List Int)) (d8 : List (Int × List Int)) (t : List Int) : Bool := R2 s g && (U3 (b8o s g.1 d8) t && !U3 (c0B s g d8) t)
end Go.Proofs.YtdopeopehgdccaaGreat
end
section
namespace Go.Proofs.YtdopeopehgdccaaGreat
open Go.RowKit
instance PtIn.app {b : Nat} {T : TypeId} {cs : List Value} {A H : List HP} [h : PtIn b T cs H] : PtIn b T cs (A ++ H) := ⟨List.mem_append.2 (.inr h.out)⟩
instance c0h {b : Nat} {T : TypeId} {cs : List Value} {A H : List HP} [h : PtIn b T cs H] : PtIn b T cs (List.append A H) := ⟨List.mem_append.2 (.inr h.out)⟩
end Go.Proofs.YtdopeopehgdccaaGreat
end
section
namespace Go.Proofs.YtdopeopehgdccaaGreat
open Go.RowKit
set_option linter.all false
set_option maxHeartbeats 2000000
attribute [local irreducible] Nop Yd Yp Ent Has Tr FnP FnP2 Src R6 a0d a0I a1c H6
theorem a5Q {l0 : Int} {s7 : Option Addr} {u8 s6 : Nat} {f7 : List Int} {y6 : Option Addr} {D5 y7 : Nat} {j9 : List Int} {s4 : Option Addr} {u5 s5 : Nat} {f8 : List Int} (hz : f7.length ≤ 1048576) : Tr Tryz.prog 117 [.agg #[.int .i64 l0, .slice s7 u8 s6], .agg #[.slice y6 D5 y7, .slice s4 u5 s5]] (fun w L => I64 l0 ∧ Ro w L eIs [.slice s7 u8 s6] f7 ∧ Ro w L eIs [.slice y6 D5 y7] j9 ∧ Ro w L eIs [.slice s4 u5 s5] f8) [] (κ := Option Addr × Nat × Nat) (fun k => True) (fun k => .agg #[.int .i64 ((S9 (l0, f7) (j9, f8)).1), .slice k.1 k.2.1 k.2.2]) (fun k => [ow eIs [.slice k.1 k.2.1 k.2.2] ((S9 (l0, f7) (j9, f8)).2)]) := by
 refine n9 Tryz.func117 rfl (n := 30) rfl (by decide +kernel) bl (fr := [(0, .agg #[.int .i64 l0, .slice s7 u8 s6]), (1, .agg #[.slice y6 D5 y7, .slice s4 u5 s5])]) rfl fun w L hR => ?_
 obtain ⟨G5, x6, E0, w4⟩ := hR
 obtain ⟨rfl, N8⟩ := x6.slen
 obtain ⟨rfl, a0u⟩ := E0.slen
 obtain ⟨rfl, O3⟩ := w4.slen
 have jv := a7x (b := (j9, f8)) (l := f7) x6.i64 E0.i64 w4.i64
 refine Ew Z3 (Est rfl (N.box (cs := [_, _]) rfl dc rfl) (fun b2 _ => (Est rfl (N.box (cs := [_, _]) rfl dc rfl) (fun b3 _ => (Est rfl (N.alloc ty_Fact dc) (fun b4 _ => (Ev Z5 (Ey rfl ((j7 fo_Atom_0 i8 dc rfl).yd) (Ey rfl (g9 i8 rfl (Hz (mS (mS m0)) 0 rfl) rfl) (Ey rfl ((Q3 (pvs := [_]) (cs := [_, _]) ty_Fact a7S rfl rfl).yd) (Est rfl (N.alloc ty_Fact dc) (fun b5 _ => (Est rfl (Ns [_, _] ty_Fact rfl) (fun _ _ => (Eu (Eq_ (Ew Z1 (Ei rfl (Eu (E.block (s3 (A := []) (Own.nil (E := Enc.int) (e := tI) (a := none)) rfl (j6 (congrArg (ow eIs [_]) (show [] = (f7.take 0).map (F3 (j9, f8)) from by first | rfl | (simp; done) | grind [S9, d1, d2, t1, t2])) (E.loop (κ := Nat × Option Addr × Nat × Nat) (fun g => g.1 ≤ f7.length ∧ True) (fun g => [(2, .pointer (some ⟨b2, 0, none⟩)), (3, .pointer (some ⟨b3, 0, none⟩)), (4, .pointer (some ⟨b4, 0, none⟩)), (5, .pointer (some ⟨b5, 0, none⟩)), (6, .int .i64 (↑g.1 : Int))]) (fun g => [ow eIs [.slice g.2.1 g.2.2.1 g.2.2.2] ((f7.take g.1).map (F3 (j9, f8))), pt b5 115 [.int .i64 l0, .slice g.2.1 g.2.2.1 g.2.2.2], pt b4 115 [.int .i64 0, .slice none 0 0], pt b3 125 [.slice y6 j9.length y7, .slice s4 f8.length s5], pt b2 128 [.int .i64 l0, .slice s7 f7.length s6]]) (fun g => f7.length - g.1) (0, none, 0, 0) ⟨Nat.zero_le _, by simp⟩ ⟨rfl, rfl, rfl, rfl, rfl, trivial⟩ (.refl _) (fun g pg => ?_))))))))))))))))))))))))
 obtain ⟨g, aA0_0, mA0_0, cA0_0⟩ := g
 try dsimp only at pg
 try dsimp only
 obtain ⟨pk, pa⟩ := pg
 refine i9 m0 fun eaA0_0 laA0_0 => ?_
 subst eaA0_0
 refine Eq_ (Ew Z5 (Em rfl (Ey rfl ((j7 fo_Atom_1 ty_Is dc rfl).yd) (Ey rfl (g9 ty_Is rfl (Hz (mS (mS (mS (mS m0)))) 1 rfl) rfl) (Ey rfl ((Y.len us_Is rfl).yd) (Ey rfl ((Y.lss rfl rfl).yd) (o6 (fun q14 => ?_) (fun q14 => ?_))))))))
 ·refine Eu (o2 rfl (j5 (Et (Eq_ (E.block (D.region (fun j => !(Nat.beq j 10) && !(Nat.beq j 12)) mixed (Dyp 0 rfl (j7 fo_Fact_1 ty_Is dc rfl) (Dy 1 rfl (g9 ty_Is rfl (Hz (mS m0) 1 rfl) rfl) (Dy 2 rfl (o9 (cs := [_, _]) ty_Binding rfl (Has.pt (mS (mS (mS m0)))) rfl) (Dyp 3 rfl (j7 fo_Atom_1 ty_Is dc rfl) (Dy 4 rfl (g9 ty_Is rfl (Hz (mS (mS (mS (mS m0)))) 1 rfl) rfl) (Dyp 5 rfl (l3 rfl) ?_))))))))))))
  obtain ⟨eb23, eo23, ea23, ei23, eh23⟩ := x6.elemI g om
  refine Dyp 6 rfl (r7 us_Is i8 rfl ea23 rfl g rfl om) (Dy 7 rfl (g9 i8 rfl (eh23 _) rfl) (t8 8 rfl rfl kr (fun _ => rfl) (n0 a2F rfl rfl rfl dc (fun w Lp hA => ⟨hA.ro E0, hA.ro w4⟩)) (fun _ _ => (t8 9 rfl rfl kr (fun _ => rfl) (Nb [_] [_] us_Is i8 rfl rfl) (fun b26 _ => (i7 (t8 10 rfl rfl kr (fun h => by cases h) (D6 (E := Enc.int) (ex := F3 (j9, f8) f7[g]) us_Is i8 rfl rfl rfl (Own.int i6) rfl bn bn dc) (fun p27 _ => (Dyp 11 rfl (j7 fo_Fact_1 ty_Is dc rfl) (i7 (t8 12 rfl rfl kr (fun h => by cases h) (Ns [_, _] ty_Is rfl) (fun _ _ => (r8 kr (t7 (Et (Ez Z3 (Em rfl (Ey rfl ((Y.add rfl rfl om om).yd) (Ei rfl (Eu (i7 (j6 (congrArg (ow eIs [_]) (show ((f7.take g).map (F3 (j9, f8))) ++ [F3 (j9, f8) f7[g]] = (f7.take (g + 1)).map (F3 (j9, f8)) from by grind [S9, d1, d2, t1, t2])) (C7 (C7 (C7 (C7 (C7 ?_)))))))))))))))))))))))))))
  exact Ea (g + 1, p27.1, (((f7.take g).map (F3 (j9, f8))).length + 1), p27.2) ⟨oz, trivial⟩
 ·refine Eu (o3 rfl (E.exit (o8 (o8 (x9 (Et (Ew Z2 (Ey rfl (o9 (cs := [_, _]) ty_Fact rfl (Has.pt (mS m0)) rfl) (r5 (Est rfl (Ns [_, _] ty_Fact rfl) (fun _ _ => (Eu (E.ret (i7 (j6 (congrArg (ow eIs [_]) (show _ = (S9 (l0, f7) (j9, f8)).2 by grind [S9, d1, d2, t1, t2])) ?_)))))))))))))))
  exact a2k br rfl rfl (mS m0) ty_Fact rfl (_, _, _) trivial (by rw [show ((S9 (l0, f7) (j9, f8)).1) = (l0) from (by grind [S9, d1, d2, t1, t2])]; try rfl) (J := _) (.refl _) (.inl rfl)
theorem a7h {M9 : Option Addr} {M7 M8 : Nat} {I6 : List Int} {K5 : Option Addr} {K3 K4 : Nat} {I1 : List (Int × List Int)} {a0y : Option Addr} {a0w a0x : Nat} {a1l : List (Int × List Int)} {v : Int} : Tr Tryz.prog 54 [.agg #[.slice M9 M7 M8, .slice K5 K3 K4, .slice a0y a0w a0x], .int .i64 v] (fun w L => 0 ≤ v ∧ v + ((r9 E1 I6 + r9 E2 I1 + r9 E2 a1l : Nat) : Int) ≤ 4611686018427387904) [ow eIs [.slice M9 M7 M8] I6, ow B7 [.slice K5 K3 K4] I1, ow B7 [.slice a0y a0w a0x] a1l] (κ := Unit) (fun k => True) (fun k => .int .i64 (v + ((r9 E1 I6 + r9 E2 I1 + r9 E2 a1l : Nat) : Int))) (fun k => [ow eIs [.slice M9 M7 M8] (mkL E1 V7 I6 v), ow B7 [.slice K5 K3 K4] (mkL E2 U0 I1 (v + ((r9 E1 I6 : Nat) : Int))), ow B7 [.slice a0y a0w a0x] (mkL E2 U0 a1l (v + ((r9 E1 I6 : Nat) : Int) + ((r9 E2 I1 : Nat) : Int)))]) := by
 refine n9 Tryz.func54 rfl (n := 14) rfl (by decide +kernel) bl (fr := [(0, .agg #[.slice M9 M7 M8, .slice K5 K3 K4, .slice a0y a0w a0x]), (1, .int .i64 v)]) rfl fun w L hR => ?_
 obtain ⟨as0, as1⟩ := hR
 refine i9 m0 fun b1U a4p => ?_
 subst b1U
 refine i9 (mS m0) fun b0N a3U => ?_
 subst b0N
 refine i9 (mS (mS m0)) fun b9c b3o => ?_
 subst b9c
 refine Ew Z2 (Est rfl (N.box (cs := [_, _, _]) rfl dc rfl) (fun b2 _ => (Ei rfl (Ev Z5 (Ey rfl ((j7 fo_Guarded_0 ty_Query dc rfl).yd) (Ey rfl (o9 (cs := [_, _]) ty_Query rfl ((Has.pt m0).sub (cs' := [_, _]) 0 rfl) rfl) (Em rfl (r5 (r5 (Est rfl (N.call (pre := [_, _]) a8z rfl rfl rfl dc rfl (fun w Lp hA => ⟨(by first | assumption | omega), (by first | assumption | omega)⟩)) (fun _ _ => (Ei rfl (Ev Z5 (Ey rfl ((j7 fo_Guarded_1 ty_Atoms dc rfl).yd) (Ey rfl (g9 ty_Atoms rfl (Hz (mS (mS m0)) 2 rfl) rfl) (Em rfl (w7 (Est rfl (N.call (pre := [_]) a4v rfl rfl rfl dc rfl (fun w Lp hA => ⟨(by first | assumption | omega), (by first | assumption | omega)⟩)) (fun _ _ => (Ei rfl (Ev Z2 (Em rfl (Ei rfl (Eu (E.ret (j6 (congrArg (ow B7 [_]) (show mkL E2 U0 a1l (v + ((r9 E1 I6 + r9 E2 I1 : Nat) : Int)) = mkL E2 U0 a1l (v + ((r9 E1 I6 : Nat) : Int) + ((r9 E2 I1 : Nat) : Int)) from by first | rfl | omega | (congr 1; omega))) (r5 (r5 ?_))))))))))))))))))))))))))))
 exact Fg rfl rfl () (by rw [show (v + ((r9 E1 I6 + r9 E2 I1 + r9 E2 a1l : Nat) : Int)) = ((v + ((r9 E1 I6 + r9 E2 I1 : Nat) : Int)) + (r9 E2 a1l : Nat)) from (by first | rfl | omega | (congr 1; omega))]; try rfl) rfl
end Go.Proofs.YtdopeopehgdccaaGreat
end
