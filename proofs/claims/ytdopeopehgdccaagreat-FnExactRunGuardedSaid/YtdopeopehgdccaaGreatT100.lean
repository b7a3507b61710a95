import Derived.Test.YtdopeopehgdccaaGreatT86
import Derived.Test.YtdopeopehgdccaaGreatGg
import Derived.Test.YtdopeopehgdccaaGreatT39
namespace Go.Proofs.YtdopeopehgdccaaGreat
open Go.RowKit
set_option linter.all false
set_option maxHeartbeats 2000000
attribute [local irreducible] Nop Yd Yp Ent Has Tr FnP FnP2 Src R6 a0d a0I a1c H6
theorem a6T {y6 : Option Addr} {D5 y7 : Nat} {j9 : List Int} {s4 : Option Addr} {u5 s5 : Nat} {f8 : List Int} {b_l : Nat} {a_l : Option Addr} {m_l c_l : Nat} {l : List (Int × List Int × Int × Int × Int)} {b_methods : Nat} {a_methods : Option Addr} {m_methods c_methods : Nat} {methods : List Int} {b_i0 : Nat} {i0 : Int} {b_n : Nat} {X2 : Int} {b1s : Option Addr} {b1t b1u : Nat} {O7 : List Int} {b_r : Nat} {a_r_Answers : Option Addr} {m_r_Answers c_r_Answers : Nat} {a7T : Option Addr} {b4o a7U : Nat} {a5l : List (Int × List Int)} {a_r_Got : Option Addr} {m_r_Got c_r_Got : Nat} {b3n : Int} {b_facts : Nat} {a_facts : Option Addr} {m_facts c_facts : Nat} {d8 : List (Int × List Int)} {s : List Int} (hk : 0 ≤ i0 ∧ i0.toNat < methods.length) (ho : Q0 s l (at0 methods i0, N7 (atM l (at0 methods i0)) (X2, O7) (j9, f8)) = true) (hof : F2 s d8 = true) (hin : ∀ i ∈ (atM l (at0 methods i0)).2.1, 0 ≤ i ∧ i.toNat < O7.length) (hi3 : (atM l (at0 methods i0)).2.1.length ≤ 1000) (hnt : O7.length ≤ 1048576) (hlg : a5l.length ≤ 1000000000) (hn64 : I64 X2) : Tr Tryz.prog 123 [.agg #[.slice y6 D5 y7, .slice s4 u5 s5], .pointer (some ⟨b_l, 0, none⟩), .pointer (some ⟨b_methods, 0, none⟩), .pointer (some ⟨b_i0, 0, none⟩), .pointer (some ⟨b_n, 0, none⟩), .pointer (some ⟨b_r, 0, none⟩), .pointer (some ⟨b_facts, 0, none⟩)] (fun w L => Ro w L eIs [.slice y6 D5 y7] j9 ∧ Ro w L eIs [.slice s4 u5 s5] f8 ∧ RoPt w L b_l [.slice a_l m_l c_l] ∧ Ro w L E6 [.slice a_l m_l c_l] l ∧ RoPt w L b_methods [.slice a_methods m_methods c_methods] ∧ Ro w L eIs [.slice a_methods m_methods c_methods] methods ∧ RoPt w L b_i0 [.int .i64 i0] ∧ RoPt w L b_n [.int .i64 X2, .slice b1s b1t b1u] ∧ Ro w L eIs [.slice b1s b1t b1u] O7 ∧ RoPt w L b_facts [.slice a_facts m_facts c_facts] ∧ Ro w L s8 [.slice a_facts m_facts c_facts] d8) [pt b_r 57 [.slice a_r_Answers m_r_Answers c_r_Answers, .slice a7T b4o a7U, .slice a_r_Got m_r_Got c_r_Got, .int .i64 b3n], ow x5 [.slice a7T b4o a7U] a5l] (κ := Option Addr × Nat × Nat) (fun k => True) (fun k => .bool (K6 (l2 l d8 (at0 methods i0, N7 (atM l (at0 methods i0)) (X2, O7) (j9, f8))) (S9 (X2, O7) (j9, f8)))) (fun k => [ow x5 [.slice k.1 k.2.1 k.2.2] (a4K (at0 methods i0, N7 (atM l (at0 methods i0)) (X2, O7) (j9, f8)) a5l), pt b_r 57 [.slice a_r_Answers m_r_Answers c_r_Answers, .slice k.1 k.2.1 k.2.2, .slice a_r_Got m_r_Got c_r_Got, .int .i64 b3n]]) := by
 refine n9 Tryz.func123 rfl (n := 37) rfl (by decide +kernel) bl (fr := [(0, .agg #[.slice y6 D5 y7, .slice s4 u5 s5]), (1, .pointer (some ⟨b_l, 0, none⟩)), (2, .pointer (some ⟨b_methods, 0, none⟩)), (3, .pointer (some ⟨b_i0, 0, none⟩)), (4, .pointer (some ⟨b_n, 0, none⟩)), (5, .pointer (some ⟨b_r, 0, none⟩)), (6, .pointer (some ⟨b_facts, 0, none⟩))]) rfl fun w L hR => ?_
 obtain ⟨E0, w4, hb_l, hl, hb_methods, hmethods, hb_i0, hb_n, a4N, hb_facts, hfacts⟩ := hR
 obtain ⟨rfl, a0u⟩ := E0.slen
 obtain ⟨rfl, O3⟩ := w4.slen
 obtain ⟨rfl, ll⟩ := hl.slen
 obtain ⟨rfl, lmethods⟩ := hmethods.slen
 obtain ⟨rfl, c0C⟩ := a4N.slen
 obtain ⟨rfl, lfacts⟩ := hfacts.slen
 refine i9 (mS m0) fun b9b c1f => ?_
 subst b9b
 have em : at0 methods i0 = methods[i0.toNat] := G0 hk.2
 rw [em] at ho hin hi3
 have em64 : I64 methods[i0.toNat] := hmethods.i64 _ (List.getElem_mem hk.2)
 refine Ew Z2 (Est rfl (N.box (cs := [_, _]) rfl dc rfl) (fun b7 _ => (Ei rfl (Eu (Eq_ (a5m (κ := Nat × Option Addr × Nat) (fun _ => True) (fun kM => [(1, .pointer (some ⟨b_l, 0, none⟩)), (4, .pointer (some ⟨b_n, 0, none⟩)), (5, .pointer (some ⟨b_r, 0, none⟩)), (6, .pointer (some ⟨b_facts, 0, none⟩)), (7, .pointer (some ⟨b7, 0, none⟩)), (9, .pointer (some ⟨kM.1, 0, none⟩))]) (fun kM => [pt kM.1 133 [.int .i64 methods[i0.toNat], .slice kM.2.1 (N7 (atM l methods[i0.toNat]) (X2, O7) (j9, f8)).length kM.2.2], ow eIs [.slice kM.2.1 (N7 (atM l methods[i0.toNat]) (X2, O7) (j9, f8)).length kM.2.2] (N7 (atM l methods[i0.toNat]) (X2, O7) (j9, f8)), pt b7 125 [.slice y6 j9.length y7, .slice s4 f8.length s5], pt b_r 57 [.slice a_r_Answers m_r_Answers c_r_Answers, .slice a7T a5l.length a7U, .slice a_r_Got m_r_Got c_r_Got, .int .i64 b3n], ow x5 [.slice a7T a5l.length a7U] a5l]) ?_ (fun kM _ => ?_)))))))
 ·refine D.region (fun j => !(Nat.beq j 9)) mixed (Dy 0 rfl (g9 ty_Methods rfl (hb_l.has) rfl) (Dy 1 rfl (g9 ty_Is rfl (hb_methods.has) rfl) (Dy 2 rfl (g9 i8 rfl (hb_i0.has) rfl) ?_)))
  obtain ⟨eb13, eo13, ea13, ei13, eh13⟩ := hmethods.elemI i0.toNat om
  refine Dyp 3 rfl (r7 us_Is i8 rfl ea13 rfl i0.toNat om om) (Dy 4 rfl (g9 i8 rfl (eh13 _) rfl) (Dy 5 rfl (o9 (cs := [_, _]) ty_Atom rfl (hb_n.has) rfl) (Dy 6 rfl (o9 (cs := [_, _]) ty_Binding rfl (Has.pt m0) rfl) (a5p (i := 7) (j := 8) kr ?_ ?_))))
  ·refine a2M 7 rfl rfl (fun _ => rfl) (N.call (a1V (R0 ho).2.1 hin hi3) rfl rfl rfl dc rfl (fun w Lp hA => ⟨hA.ro hl, i6, hA.ro a4N, hA.ro E0, hA.ro w4⟩)) (fun k17 _ => ?_)
   obtain ⟨a17, m17, c17⟩ := k17
   refine i9 m0 fun e17 l17 => ?_
   subst e17
   refine t8 8 rfl rfl kr (fun _ => rfl) (N.alloc ty_Access dc) (fun b9 _ => (t8 9 rfl rfl kr (fun h => by cases h) (Ns [_, _] ty_Access rfl) (fun _ _ => (r8 kr (C7 (C7 (C7 (C7 (C7 ?_)))))))))
   exact a1m (b9, a17, c17) trivial ⟨rfl, rfl, rfl, rfl, rfl, rfl, trivial⟩ (.refl _)
  ·refine a2M 8 rfl rfl (fun _ => rfl) (N.alloc ty_Access dc) (fun b9 _ => (t8 7 rfl rfl kr (fun _ => rfl) (N.call (a1V (R0 ho).2.1 hin hi3) rfl rfl rfl dc rfl (fun w Lp hA => ⟨hA.ro hl, i6, hA.ro a4N, hA.ro E0, hA.ro w4⟩)) (fun k17 _ => ?_)))
   obtain ⟨a17, m17, c17⟩ := k17
   refine i9 m0 fun e17 l17 => ?_
   subst e17
   refine i7 (t8 9 rfl rfl kr (fun h => by cases h) (Ns [_, _] ty_Access rfl) (fun _ _ => (r8 kr (C7 (C7 (C7 (C7 (C7 ?_))))))))
   exact a1m (b9, a17, c17) trivial ⟨rfl, rfl, rfl, rfl, rfl, rfl, trivial⟩ (.refl _)
 ·obtain ⟨b9, a17, c17⟩ := kM
  try dsimp only
  refine Et (Eq_ (Ew Z5 (Ey rfl ((j7 fo_Run_1 ty_Accesss dc rfl).yd) (Ey rfl (g9 ty_Accesss rfl (Hz (mS (mS (mS m0))) 1 rfl) rfl) (Ey rfl (o9 (cs := [_, _]) ty_Access rfl (Has.pt m0) rfl) (Est rfl (n0 a4I rfl rfl rfl dc (fun w Lp hA => ⟨hA.ow (mS (mS (mS (mS m0)))), em64, hA.ow (mS m0)⟩)) (fun _ _ => (Ent.b (fun q21 => ?_) (fun q21 => ?_)))))))))
  ·refine Ey rfl ((Y.not (b := true) rfl).yd) (Eu (o3 rfl (j5 (Et (Eq_ (D.region (fun j => true) mixed (Dy 0 rfl (g9 ty_Methods rfl (hb_l.has) rfl) (Dy 1 rfl (g9 ty_Facts rfl (hb_facts.has) rfl) (Dy 2 rfl (o9 (cs := [_, _]) ty_Access rfl (Has.pt m0) rfl) (Dy 4 rfl (o9 (cs := [_, _]) ty_Atom rfl (hb_n.has) rfl) (Dy 5 rfl (o9 (cs := [_, _]) ty_Binding rfl (Has.pt (mS (mS m0))) rfl) (t8 3 rfl rfl kr (fun _ => rfl) (N.call (a3N (R0 ho).2.1 (Nat.le_of_eq (R0 ho).2.2.1.symm) (a7c ho hof) (Nat.le_trans (I3 hof).1 dc) (fun f hf => Nat.le_trans (U2 ((I3 hof).2 f hf)) dc)) rfl rfl rfl dc rfl (fun w Lp hA => ⟨hA.ro hl, hA.ro hfacts, em64, hA.ow (mS m0)⟩)) (fun k32 _ => ?_)))))))))))))
   obtain ⟨a32, m32, c32⟩ := k32
   refine i9 m0 fun e32 l32 => ?_
   subst e32
   refine t8 6 rfl rfl kr (fun _ => rfl) (N.call (a6H hnt) rfl rfl rfl dc rfl (fun w Lp hA => ⟨i6, hA.ro a4N, hA.ro E0, hA.ro w4⟩)) (fun k35 _ => ?_)
   obtain ⟨a35, m35, c35⟩ := k35
   refine i9 m0 fun e35 l35 => ?_
   subst e35
   refine t8 7 rfl rfl kr (fun _ => rfl) (n0 a3L rfl rfl rfl dc (fun w Lp hA => ⟨hA.ow (mS m0), i6, hA.ow m0⟩)) (fun _ _ => (Dyp 8 rfl (F7 rfl) (r8 kr (Et (E.ret (y5 (j6 (congrArg (ow x5 [_]) (show _ = a4K (at0 methods i0, N7 (atM l (at0 methods i0)) (X2, O7) (j9, f8)) a5l by first | (rw [em]; rfl) | (rw [em]; exact a7s q21) | (rw [em]; exact a7b q21))) (y5 (i7 ?_)))))))))
   exact Fg rfl rfl (_, _, _) (by rw [show (K6 (l2 l d8 (at0 methods i0, N7 (atM l (at0 methods i0)) (X2, O7) (j9, f8))) (S9 (X2, O7) (j9, f8))) = (K6 (d8.filter (T0 (atM l methods[i0.toNat]) (N7 (atM l methods[i0.toNat]) (X2, O7) (j9, f8)))) (((S9 (X2, O7) (j9, f8)).1), ((S9 (X2, O7) (j9, f8)).2))) from (by first | (rw [em]; rfl) | (rw [em]; exact a7s q21) | (rw [em]; exact a7b q21))]; try rfl) rfl
  ·refine Ey rfl ((Y.not (b := false) rfl).yd) (Eu (o2 rfl (Ez Z7 (Ey rfl ((j7 fo_Run_1 ty_Accesss dc rfl).yd) (Ey rfl (g9 ty_Accesss rfl (Hz (mS (mS (mS m0))) 1 rfl) rfl) (Ey rfl (o9 (cs := [_, _]) ty_Access rfl (Has.pt m0) rfl) (Est rfl (Nb [_] [_, _] us_Accesss ty_Access rfl rfl) (fun b26 _ => (J7 (Est rfl (b4u (E := P4) (ex := (methods[i0.toNat], N7 (atM l methods[i0.toNat]) (X2, O7) (j9, f8))) (ce := [_, _]) us_Accesss ty_Access rfl rfl rfl rfl rfl rfl bn bn dc) (fun p27 _ => (Ey rfl ((j7 fo_Run_1 ty_Accesss dc rfl).yd) (C7 (Est rfl (Ns [_, _, _, _] ty_Accesss rfl) (fun _ _ => (Eu (Eq_ (D.region (fun j => true) mixed (Dy 0 rfl (g9 ty_Methods rfl (hb_l.has) rfl) (Dy 1 rfl (g9 ty_Facts rfl (hb_facts.has) rfl) (Dy 2 rfl (o9 (cs := [_, _]) ty_Access rfl (Has.pt (mS (mS m0))) rfl) (Dy 4 rfl (o9 (cs := [_, _]) ty_Atom rfl (hb_n.has) rfl) (Dy 5 rfl (o9 (cs := [_, _]) ty_Binding rfl (Has.pt (mS (mS (mS (mS m0))))) rfl) (t8 3 rfl rfl kr (fun _ => rfl) (N.call (a3N (R0 ho).2.1 (Nat.le_of_eq (R0 ho).2.2.1.symm) (a7c ho hof) (Nat.le_trans (I3 hof).1 dc) (fun f hf => Nat.le_trans (U2 ((I3 hof).2 f hf)) dc)) rfl rfl rfl dc rfl (fun w Lp hA => ⟨hA.ro hl, hA.ro hfacts, em64, hA.ow (mS (mS (mS m0)))⟩)) (fun k32 _ => ?_)))))))))))))))))))))))))
   obtain ⟨a32, m32, c32⟩ := k32
   refine i9 m0 fun e32 l32 => ?_
   subst e32
   refine t8 6 rfl rfl kr (fun _ => rfl) (N.call (a6H hnt) rfl rfl rfl dc rfl (fun w Lp hA => ⟨i6, hA.ro a4N, hA.ro E0, hA.ro w4⟩)) (fun k35 _ => ?_)
   obtain ⟨a35, m35, c35⟩ := k35
   refine i9 m0 fun e35 l35 => ?_
   subst e35
   refine t8 7 rfl rfl kr (fun _ => rfl) (n0 a3L rfl rfl rfl dc (fun w Lp hA => ⟨hA.ow (mS m0), i6, hA.ow m0⟩)) (fun _ _ => (Dyp 8 rfl (F7 rfl) (r8 kr (Et (E.ret (J7 (C7 (a7J (a1i (x := (methods[i0.toNat], N7 (atM l methods[i0.toNat]) (X2, O7) (j9, f8))) em64 Own.ow) rfl rfl (j6 (congrArg (ow x5 [_]) (show _ = a4K (at0 methods i0, N7 (atM l (at0 methods i0)) (X2, O7) (j9, f8)) a5l by first | (rw [em]; rfl) | (rw [em]; exact a7s q21) | (rw [em]; exact a7b q21))) (w7 (i7 ?_)))))))))))
   exact Fg rfl rfl (_, _, _) (by rw [show (K6 (l2 l d8 (at0 methods i0, N7 (atM l (at0 methods i0)) (X2, O7) (j9, f8))) (S9 (X2, O7) (j9, f8))) = (K6 (d8.filter (T0 (atM l methods[i0.toNat]) (N7 (atM l methods[i0.toNat]) (X2, O7) (j9, f8)))) (((S9 (X2, O7) (j9, f8)).1), ((S9 (X2, O7) (j9, f8)).2))) from (by first | (rw [em]; rfl) | (rw [em]; exact a7s q21) | (rw [em]; exact a7b q21))]; try rfl) rfl
end Go.Proofs.YtdopeopehgdccaaGreat
