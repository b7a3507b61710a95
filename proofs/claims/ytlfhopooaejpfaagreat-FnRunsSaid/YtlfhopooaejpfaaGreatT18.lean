import Derived.Test.YtlfhopooaejpfaaGreatT6
import Derived.Test.YtlfhopooaejpfaaGreatGa
namespace Go.Proofs.YtlfhopooaejpfaaGreat
open Go.RowKit
set_option linter.all false
set_option maxHeartbeats 2000000
attribute [local irreducible] Nop Yd Yp Ent Has Tr FnP FnP2 Src M0 S8 V1 W0 G4
theorem a8W {D0 : Option Addr} {E7 C9 : Nat} {j7 : List Int} {u6 : Option Addr} {w8 t8 : Nat} {g9 : List Int} {v : Int} {x : Int} (hb1 : j7.length ≤ 1000000) (hb2 : g9.length ≤ 1000000) : Tr Tryz.prog 161 [.agg #[.slice D0 E7 C9, .slice u6 w8 t8], .int .i64 v, .int .i64 x] (fun w L => Ro w L eIs [.slice D0 E7 C9] j7 ∧ Ro w L eIs [.slice u6 w8 t8] g9 ∧ I64 v ∧ I64 x) [] (κ := (Option Addr × Nat × Nat) × (Option Addr × Nat × Nat)) (fun k => True) (fun k => .agg #[.slice k.1.1 k.1.2.1 k.1.2.2, .slice k.2.1 k.2.2.1 k.2.2.2]) (fun k => [ow eIs [.slice k.1.1 k.1.2.1 k.1.2.2] (j7 ++ [v]), ow eIs [.slice k.2.1 k.2.2.1 k.2.2.2] (g9 ++ [x])]) := by
 refine Tr.intro Tryz.func161 rfl (n := 22) rfl (by decide +kernel) bl (fr := [(0, .agg #[.slice D0 E7 C9, .slice u6 w8 t8]), (1, .int .i64 v), (2, .int .i64 x)]) rfl fun w L hR => ?_
 obtain ⟨F1, z6, i6v, i6x⟩ := hR
 obtain ⟨rfl, a0f⟩ := F1.slen
 obtain ⟨rfl, N9⟩ := z6.slen
 refine Ew Z2 (Est rfl (N.box (cs := [_, _]) rfl dc rfl) (fun b3 _ => (Est rfl (N.alloc ty_Binding dc) (fun b6 _ => (Eu (Eq_ (a4l (κ := (Option Addr × Nat) × (Option Addr × Nat)) (fun _ => True) (fun kM => [(6, .pointer (some ⟨b6, 0, none⟩))]) (fun kM => [pt b6 78 [.slice kM.1.1 (j7.length + 1) kM.1.2, .slice kM.2.1 (g9.length + 1) kM.2.2], ow eIs [.slice kM.2.1 (g9.length + 1) kM.2.2] (g9 ++ [x]), ow eIs [.slice kM.1.1 (j7.length + 1) kM.1.2] (j7 ++ [v]), pt b3 78 [.slice D0 j7.length C9, .slice u6 g9.length t8]]) ?_ (fun kM _ => ?_))))))))
 ·refine O0 [b6, b3] (fun j => !(Nat.beq j 15)) mixed (C0 1 rfl rfl dc (i7 fo_Binding_0 ty_Is dc rfl) kr (Y6 2 rfl rfl dc (R2 ty_Is rfl ((O9.pt (mS m0) (by simp)).sub (cs' := [_]) 0 rfl) rfl) kr (C0 4 rfl rfl dc (j4 rfl) kr (C0 8 rfl rfl dc (i7 fo_Binding_1 ty_Is dc rfl) kr (Y6 9 rfl rfl dc (R2 ty_Is rfl ((O9.pt (mS m0) (by simp)).sub (cs' := [_]) 1 rfl) rfl) kr (C0 11 rfl rfl dc (j4 rfl) kr (b3w (i := 0) (j := 5) (l := 7) (m := 12) kr ?_ ?_ ?_ ?_)))))))
  rotate_left 4
  all_goals first
   | (refine H2 0 rfl rfl (fun _ _ => SameI.out) (Nb [] [] us_Is f0 rfl rfl) (fun b7 _ => ?_); refine Ent.drop ?_)
   | refine H2 5 rfl rfl (fun _ _ => SameI.out) (Nb [_] [_] us_Is f0 rfl rfl) (fun b12 _ => ?_)
   | (refine H2 7 rfl rfl (fun _ _ => SameI.out) (Nb [] [] us_Is f0 rfl rfl) (fun b14 _ => ?_); refine Ent.drop ?_)
   | refine H2 12 rfl rfl (fun _ _ => SameI.out) (Nb [_] [_] us_Is f0 rfl rfl) (fun b19 _ => ?_)
   | skip
  refine b3w (i := 3) (j := 5) (l := 7) (m := 12) kr ?_ ?_ ?_ ?_
  rotate_left 4
  refine a0g (i := 0) (j := 7) (l := 12) kr ?_ ?_ ?_
  rotate_left 3
  refine a0g (i := 0) (j := 5) (l := 12) kr ?_ ?_ ?_
  rotate_left 3
  refine a0g (i := 0) (j := 5) (l := 7) kr ?_ ?_ ?_
  rotate_left 3
  all_goals first
   | refine H2 3 rfl rfl (fun _ _ => SameI.out) (J3 (E := Enc.int) Plain.int us_Is f0 rfl rfl rfl F1 om om dc) (fun p10 _ => ?_)
   | refine H2 5 rfl rfl (fun _ _ => SameI.out) (Nb [_] [_] us_Is f0 rfl rfl) (fun b12 _ => ?_)
   | (refine H2 7 rfl rfl (fun _ _ => SameI.out) (Nb [] [] us_Is f0 rfl rfl) (fun b14 _ => ?_); refine Ent.drop ?_)
   | refine H2 12 rfl rfl (fun _ _ => SameI.out) (Nb [_] [_] us_Is f0 rfl rfl) (fun b19 _ => ?_)
   | (refine H2 0 rfl rfl (fun _ _ => SameI.out) (Nb [] [] us_Is f0 rfl rfl) (fun b7 _ => ?_); refine Ent.drop ?_)
   | skip
  refine a0g (i := 5) (j := 7) (l := 12) kr ?_ ?_ ?_
  rotate_left 3
  refine a0g (i := 3) (j := 7) (l := 12) kr ?_ ?_ ?_
  rotate_left 3
  refine a0g (i := 3) (j := 5) (l := 12) kr ?_ ?_ ?_
  rotate_left 3
  refine a0g (i := 3) (j := 5) (l := 7) kr ?_ ?_ ?_
  rotate_left 3
  refine a0g (i := 3) (j := 7) (l := 12) kr ?_ ?_ ?_
  rotate_left 3
  refine B0 (i := 0) (j := 12) kr ?_ ?_
  rotate_left 2
  refine B0 (i := 0) (j := 7) kr ?_ ?_
  rotate_left 2
  refine a0g (i := 3) (j := 5) (l := 12) kr ?_ ?_ ?_
  rotate_left 3
  refine B0 (i := 0) (j := 12) kr ?_ ?_
  rotate_left 2
  refine B0 (i := 0) (j := 5) kr ?_ ?_
  rotate_left 2
  refine a0g (i := 3) (j := 5) (l := 7) kr ?_ ?_ ?_
  rotate_left 3
  refine B0 (i := 0) (j := 7) kr ?_ ?_
  rotate_left 2
  refine B0 (i := 0) (j := 5) kr ?_ ?_
  rotate_left 2
  all_goals first
   | refine H2 5 rfl rfl (fun _ _ => SameI.out) (Nb [_] [_] us_Is f0 rfl rfl) (fun b12 _ => ?_)
   | (refine H2 7 rfl rfl (fun _ _ => SameI.out) (Nb [] [] us_Is f0 rfl rfl) (fun b14 _ => ?_); refine Ent.drop ?_)
   | refine H2 12 rfl rfl (fun _ _ => SameI.out) (Nb [_] [_] us_Is f0 rfl rfl) (fun b19 _ => ?_)
   | refine H2 3 rfl rfl (fun _ _ => SameI.out) (J3 (E := Enc.int) Plain.int us_Is f0 rfl rfl rfl F1 om om dc) (fun p10 _ => ?_)
   | (refine H2 0 rfl rfl (fun _ _ => SameI.out) (Nb [] [] us_Is f0 rfl rfl) (fun b7 _ => ?_); refine Ent.drop ?_)
   | skip
  refine a0g (i := 6) (j := 7) (l := 12) kr ?_ ?_ ?_
  rotate_left 3
  refine B0 (i := 5) (j := 12) kr ?_ ?_
  rotate_left 2
  refine B0 (i := 5) (j := 7) kr ?_ ?_
  rotate_left 2
  refine a0g (i := 6) (j := 7) (l := 12) kr ?_ ?_ ?_
  rotate_left 3
  refine B0 (i := 3) (j := 12) kr ?_ ?_
  rotate_left 2
  refine B0 (i := 3) (j := 7) kr ?_ ?_
  rotate_left 2
  refine B0 (i := 5) (j := 12) kr ?_ ?_
  rotate_left 2
  refine B0 (i := 3) (j := 12) kr ?_ ?_
  rotate_left 2
  refine B0 (i := 3) (j := 5) kr ?_ ?_
  rotate_left 2
  refine B0 (i := 5) (j := 7) kr ?_ ?_
  rotate_left 2
  refine B0 (i := 3) (j := 7) kr ?_ ?_
  rotate_left 2
  refine B0 (i := 3) (j := 5) kr ?_ ?_
  rotate_left 2
  refine a0g (i := 6) (j := 7) (l := 12) kr ?_ ?_ ?_
  rotate_left 3
  refine B0 (i := 3) (j := 12) kr ?_ ?_
  rotate_left 2
  refine B0 (i := 3) (j := 7) kr ?_ ?_
  rotate_left 2
  refine B0 (i := 3) (j := 12) kr ?_ ?_
  rotate_left 2
  refine K1 0 ?_
  rotate_left
  refine B0 (i := 3) (j := 7) kr ?_ ?_
  rotate_left 2
  refine K1 0 ?_
  rotate_left
  refine B0 (i := 5) (j := 12) kr ?_ ?_
  rotate_left 2
  refine B0 (i := 3) (j := 12) kr ?_ ?_
  rotate_left 2
  refine B0 (i := 3) (j := 5) kr ?_ ?_
  rotate_left 2
  refine B0 (i := 3) (j := 12) kr ?_ ?_
  rotate_left 2
  refine K1 0 ?_
  rotate_left
  refine B0 (i := 3) (j := 5) kr ?_ ?_
  rotate_left 2
  refine K1 0 ?_
  rotate_left
  refine B0 (i := 5) (j := 7) kr ?_ ?_
  rotate_left 2
  refine B0 (i := 3) (j := 7) kr ?_ ?_
  rotate_left 2
  refine B0 (i := 3) (j := 5) kr ?_ ?_
  rotate_left 2
  refine B0 (i := 3) (j := 7) kr ?_ ?_
  rotate_left 2
  refine K1 0 ?_
  rotate_left
  refine B0 (i := 3) (j := 5) kr ?_ ?_
  rotate_left 2
  refine K1 0 ?_
  rotate_left
  all_goals first
   | (refine f7 ?_; refine H2 6 rfl rfl (fun _ _ => SameI.out) (y6 (E := Enc.int) (ex := v) us_Is f0 rfl rfl rfl (Own.int i6v) rfl om om dc) (fun p13 _ => ?_))
   | (refine H2 7 rfl rfl (fun _ _ => SameI.out) (Nb [] [] us_Is f0 rfl rfl) (fun b14 _ => ?_); refine Ent.drop ?_)
   | refine H2 12 rfl rfl (fun _ _ => SameI.out) (Nb [_] [_] us_Is f0 rfl rfl) (fun b19 _ => ?_)
   | refine H2 5 rfl rfl (fun _ _ => SameI.out) (Nb [_] [_] us_Is f0 rfl rfl) (fun b12 _ => ?_)
   | (refine f7 ?_; refine f7 ?_; refine H2 6 rfl rfl (fun _ _ => SameI.out) (y6 (E := Enc.int) (ex := v) us_Is f0 rfl rfl rfl (Own.int i6v) rfl om om dc) (fun p13 _ => ?_))
   | refine H2 3 rfl rfl (fun _ _ => SameI.out) (J3 (E := Enc.int) Plain.int us_Is f0 rfl rfl rfl F1 om om dc) (fun p10 _ => ?_)
   | (refine H2 0 rfl rfl (fun _ _ => SameI.out) (Nb [] [] us_Is f0 rfl rfl) (fun b7 _ => ?_); refine Ent.drop ?_)
   | skip
  refine B0 (i := 7) (j := 12) kr ?_ ?_
  rotate_left 2
  refine B0 (i := 6) (j := 12) kr ?_ ?_
  rotate_left 2
  refine B0 (i := 6) (j := 7) kr ?_ ?_
  rotate_left 2
  refine B0 (i := 6) (j := 12) kr ?_ ?_
  rotate_left 2
  refine K1 5 ?_
  rotate_left
  refine B0 (i := 6) (j := 7) kr ?_ ?_
  rotate_left 2
  refine K1 5 ?_
  rotate_left
  refine B0 (i := 7) (j := 12) kr ?_ ?_
  rotate_left 2
  refine B0 (i := 6) (j := 12) kr ?_ ?_
  rotate_left 2
  refine B0 (i := 6) (j := 7) kr ?_ ?_
  rotate_left 2
  refine B0 (i := 6) (j := 12) kr ?_ ?_
  rotate_left 2
  refine K1 3 ?_
  rotate_left
  refine B0 (i := 6) (j := 7) kr ?_ ?_
  rotate_left 2
  refine K1 3 ?_
  rotate_left
  refine B0 (i := 6) (j := 12) kr ?_ ?_
  rotate_left 2
  refine K1 5 ?_
  rotate_left
  refine B0 (i := 6) (j := 12) kr ?_ ?_
  rotate_left 2
  refine K1 3 ?_
  rotate_left
  refine K1 5 ?_
  rotate_left
  refine K1 3 ?_
  rotate_left
  refine B0 (i := 6) (j := 7) kr ?_ ?_
  rotate_left 2
  refine K1 5 ?_
  rotate_left
  refine B0 (i := 6) (j := 7) kr ?_ ?_
  rotate_left 2
  refine K1 3 ?_
  rotate_left
  refine K1 5 ?_
  rotate_left
  refine K1 3 ?_
  rotate_left
  refine B0 (i := 7) (j := 12) kr ?_ ?_
  rotate_left 2
  refine B0 (i := 6) (j := 12) kr ?_ ?_
  rotate_left 2
  refine B0 (i := 6) (j := 7) kr ?_ ?_
  rotate_left 2
  refine B0 (i := 6) (j := 12) kr ?_ ?_
  rotate_left 2
  refine K1 3 ?_
  rotate_left
  refine B0 (i := 6) (j := 7) kr ?_ ?_
  rotate_left 2
  refine K1 3 ?_
  rotate_left
  refine B0 (i := 6) (j := 12) kr ?_ ?_
  rotate_left 2
  refine K1 3 ?_
  rotate_left
  refine K1 3 ?_
  rotate_left
  refine B0 (i := 6) (j := 7) kr ?_ ?_
  rotate_left 2
  refine K1 3 ?_
  rotate_left
  refine K1 3 ?_
  rotate_left
  refine B0 (i := 6) (j := 12) kr ?_ ?_
  rotate_left 2
  refine K1 5 ?_
  rotate_left
  refine B0 (i := 6) (j := 12) kr ?_ ?_
  rotate_left 2
  refine K1 3 ?_
  rotate_left
  refine K1 5 ?_
  rotate_left
  refine K1 3 ?_
  rotate_left
  refine B0 (i := 6) (j := 12) kr ?_ ?_
  rotate_left 2
  refine K1 3 ?_
  rotate_left
  refine K1 3 ?_
  rotate_left
  refine K1 5 ?_
  rotate_left
  refine K1 3 ?_
  rotate_left
  refine K1 3 ?_
  rotate_left
  refine B0 (i := 6) (j := 7) kr ?_ ?_
  rotate_left 2
  refine K1 5 ?_
  rotate_left
  refine B0 (i := 6) (j := 7) kr ?_ ?_
  rotate_left 2
  refine K1 3 ?_
  rotate_left
  refine K1 5 ?_
  rotate_left
  refine K1 3 ?_
  rotate_left
  refine B0 (i := 6) (j := 7) kr ?_ ?_
  rotate_left 2
  refine K1 3 ?_
  rotate_left
  refine K1 3 ?_
  rotate_left
  refine K1 5 ?_
  rotate_left
  refine K1 3 ?_
  rotate_left
  refine K1 3 ?_
  rotate_left
  all_goals first
   | (refine H2 7 rfl rfl (fun _ _ => SameI.out) (Nb [] [] us_Is f0 rfl rfl) (fun b14 _ => ?_); refine Ent.drop ?_)
   | refine H2 12 rfl rfl (fun _ _ => SameI.out) (Nb [_] [_] us_Is f0 rfl rfl) (fun b19 _ => ?_)
   | (refine f7 ?_; refine H2 6 rfl rfl (fun _ _ => SameI.out) (y6 (E := Enc.int) (ex := v) us_Is f0 rfl rfl rfl (Own.int i6v) rfl om om dc) (fun p13 _ => ?_))
   | (refine f7 ?_; refine j6 ?_; refine H2 6 rfl rfl (fun _ _ => SameI.out) (y6 (E := Enc.int) (ex := v) us_Is f0 rfl rfl rfl (Own.int i6v) rfl om om dc) (fun p13 _ => ?_))
   | refine H2 5 rfl rfl (fun _ _ => SameI.out) (Nb [_] [_] us_Is f0 rfl rfl) (fun b12 _ => ?_)
   | (refine j6 ?_; refine H2 6 rfl rfl (fun _ _ => SameI.out) (y6 (E := Enc.int) (ex := v) us_Is f0 rfl rfl rfl (Own.int i6v) rfl om om dc) (fun p13 _ => ?_))
   | (refine f7 ?_; refine f7 ?_; refine H2 6 rfl rfl (fun _ _ => SameI.out) (y6 (E := Enc.int) (ex := v) us_Is f0 rfl rfl rfl (Own.int i6v) rfl om om dc) (fun p13 _ => ?_))
   | (refine j6 ?_; refine j6 ?_; refine H2 6 rfl rfl (fun _ _ => SameI.out) (y6 (E := Enc.int) (ex := v) us_Is f0 rfl rfl rfl (Own.int i6v) rfl om om dc) (fun p13 _ => ?_))
   | refine H2 3 rfl rfl (fun _ _ => SameI.out) (J3 (E := Enc.int) Plain.int us_Is f0 rfl rfl rfl F1 om om dc) (fun p10 _ => ?_)
   | (refine j6 ?_; refine f7 ?_; refine H2 6 rfl rfl (fun _ _ => SameI.out) (y6 (E := Enc.int) (ex := v) us_Is f0 rfl rfl rfl (Own.int i6v) rfl om om dc) (fun p13 _ => ?_))
   | skip
  refine B0 (i := 10) (j := 12) kr ?_ ?_
  rotate_left 2
  refine K1 7 ?_
  rotate_left
  refine B0 (i := 10) (j := 12) kr ?_ ?_
  rotate_left 2
  refine K1 6 ?_
  rotate_left
  refine K1 7 ?_
  rotate_left
  refine K1 6 ?_
  rotate_left
  refine B0 (i := 10) (j := 12) kr ?_ ?_
  rotate_left 2
  refine K1 6 ?_
  rotate_left
  refine K1 6 ?_
  rotate_left
  refine K1 7 ?_
  rotate_left
  refine K1 6 ?_
  rotate_left
  refine K1 6 ?_
  rotate_left
  refine B0 (i := 10) (j := 12) kr ?_ ?_
  rotate_left 2
  refine K1 7 ?_
  rotate_left
  refine B0 (i := 10) (j := 12) kr ?_ ?_
  rotate_left 2
  refine K1 6 ?_
  rotate_left
  refine K1 7 ?_
  rotate_left
  refine K1 6 ?_
  rotate_left
  refine B0 (i := 10) (j := 12) kr ?_ ?_
  rotate_left 2
  refine K1 6 ?_
  rotate_left
  refine K1 6 ?_
  rotate_left
  refine K1 7 ?_
  rotate_left
  refine K1 6 ?_
  rotate_left
  refine K1 6 ?_
  rotate_left
  refine B0 (i := 10) (j := 12) kr ?_ ?_
  rotate_left 2
  refine K1 6 ?_
  rotate_left
  refine K1 6 ?_
  rotate_left
  refine B0 (i := 10) (j := 12) kr ?_ ?_
  rotate_left 2
  refine K1 6 ?_
  rotate_left
  refine K1 6 ?_
  rotate_left
  refine K1 6 ?_
  rotate_left
  refine K1 6 ?_
  rotate_left
  refine K1 7 ?_
  rotate_left
  refine K1 6 ?_
  rotate_left
  refine K1 6 ?_
  rotate_left
  refine K1 7 ?_
  rotate_left
  refine K1 6 ?_
  rotate_left
  refine K1 6 ?_
  rotate_left
  refine K1 6 ?_
  rotate_left
  refine K1 6 ?_
  rotate_left
  refine B0 (i := 10) (j := 12) kr ?_ ?_
  rotate_left 2
  refine K1 7 ?_
  rotate_left
  refine B0 (i := 10) (j := 12) kr ?_ ?_
  rotate_left 2
  refine K1 6 ?_
  rotate_left
  refine K1 7 ?_
  rotate_left
  refine K1 6 ?_
  rotate_left
  refine B0 (i := 10) (j := 12) kr ?_ ?_
  rotate_left 2
  refine K1 6 ?_
  rotate_left
  refine K1 6 ?_
  rotate_left
  refine K1 7 ?_
  rotate_left
  refine K1 6 ?_
  rotate_left
  refine K1 6 ?_
  rotate_left
  refine B0 (i := 10) (j := 12) kr ?_ ?_
  rotate_left 2
  refine K1 6 ?_
  rotate_left
  refine K1 6 ?_
  rotate_left
  refine K1 6 ?_
  rotate_left
  refine K1 7 ?_
  rotate_left
  refine K1 6 ?_
  rotate_left
  refine K1 6 ?_
  rotate_left
  refine K1 6 ?_
  rotate_left
  refine B0 (i := 10) (j := 12) kr ?_ ?_
  rotate_left 2
  refine K1 6 ?_
  rotate_left
  refine K1 6 ?_
  rotate_left
  refine B0 (i := 10) (j := 12) kr ?_ ?_
  rotate_left 2
  refine K1 6 ?_
  rotate_left
  refine K1 6 ?_
  rotate_left
  refine K1 6 ?_
  rotate_left
  refine K1 6 ?_
  rotate_left
  refine B0 (i := 10) (j := 12) kr ?_ ?_
  rotate_left 2
  refine K1 6 ?_
  rotate_left
  refine K1 6 ?_
  rotate_left
  refine K1 6 ?_
  rotate_left
  refine K1 6 ?_
  rotate_left
  refine K1 6 ?_
  rotate_left
  refine K1 6 ?_
  rotate_left
  refine K1 7 ?_
  rotate_left
  refine K1 6 ?_
  rotate_left
  refine K1 6 ?_
  rotate_left
  refine K1 7 ?_
  rotate_left
  refine K1 6 ?_
  rotate_left
  refine K1 6 ?_
  rotate_left
  refine K1 6 ?_
  rotate_left
  refine K1 6 ?_
  rotate_left
  refine K1 7 ?_
  rotate_left
  refine K1 6 ?_
  rotate_left
  refine K1 6 ?_
  rotate_left
  refine K1 6 ?_
  rotate_left
  refine K1 6 ?_
  rotate_left
  refine K1 6 ?_
  rotate_left
  refine K1 6 ?_
  rotate_left
  all_goals first
   | refine H2 10 rfl rfl (fun _ _ => SameI.out) (J3 (E := Enc.int) Plain.int us_Is f0 rfl rfl rfl z6 om om dc) (fun p17 _ => ?_)
   | refine H2 12 rfl rfl (fun _ _ => SameI.out) (Nb [_] [_] us_Is f0 rfl rfl) (fun b19 _ => ?_)
   | (refine H2 7 rfl rfl (fun _ _ => SameI.out) (Nb [] [] us_Is f0 rfl rfl) (fun b14 _ => ?_); refine Ent.drop ?_)
   | (refine f7 ?_; refine j6 ?_; refine H2 6 rfl rfl (fun _ _ => SameI.out) (y6 (E := Enc.int) (ex := v) us_Is f0 rfl rfl rfl (Own.int i6v) rfl om om dc) (fun p13 _ => ?_))
   | (refine j6 ?_; refine H2 6 rfl rfl (fun _ _ => SameI.out) (y6 (E := Enc.int) (ex := v) us_Is f0 rfl rfl rfl (Own.int i6v) rfl om om dc) (fun p13 _ => ?_))
   | (refine j6 ?_; refine j6 ?_; refine H2 6 rfl rfl (fun _ _ => SameI.out) (y6 (E := Enc.int) (ex := v) us_Is f0 rfl rfl rfl (Own.int i6v) rfl om om dc) (fun p13 _ => ?_))
   | (refine j6 ?_; refine f7 ?_; refine H2 6 rfl rfl (fun _ _ => SameI.out) (y6 (E := Enc.int) (ex := v) us_Is f0 rfl rfl rfl (Own.int i6v) rfl om om dc) (fun p13 _ => ?_))
   | (refine f7 ?_; refine H2 6 rfl rfl (fun _ _ => SameI.out) (y6 (E := Enc.int) (ex := v) us_Is f0 rfl rfl rfl (Own.int i6v) rfl om om dc) (fun p13 _ => ?_))
   | (refine f7 ?_; refine f7 ?_; refine H2 6 rfl rfl (fun _ _ => SameI.out) (y6 (E := Enc.int) (ex := v) us_Is f0 rfl rfl rfl (Own.int i6v) rfl om om dc) (fun p13 _ => ?_))
   | skip
  refine K1 12 ?_
  rotate_left
  refine K1 10 ?_
  rotate_left
  refine K1 10 ?_
  rotate_left
  refine K1 12 ?_
  rotate_left
  refine K1 10 ?_
  rotate_left
  refine K1 10 ?_
  rotate_left
  refine K1 10 ?_
  rotate_left
  refine K1 10 ?_
  rotate_left
  refine K1 12 ?_
  rotate_left
  refine K1 10 ?_
  rotate_left
  refine K1 10 ?_
  rotate_left
  refine K1 10 ?_
  rotate_left
  refine K1 10 ?_
  rotate_left
  refine K1 10 ?_
  rotate_left
  refine K1 10 ?_
  rotate_left
  refine K1 12 ?_
  rotate_left
  refine K1 10 ?_
  rotate_left
  refine K1 10 ?_
  rotate_left
  refine K1 12 ?_
  rotate_left
  refine K1 10 ?_
  rotate_left
  refine K1 10 ?_
  rotate_left
  refine K1 10 ?_
  rotate_left
  refine K1 10 ?_
  rotate_left
  refine K1 12 ?_
  rotate_left
  refine K1 10 ?_
  rotate_left
  refine K1 10 ?_
  rotate_left
  refine K1 10 ?_
  rotate_left
  refine K1 10 ?_
  rotate_left
  refine K1 10 ?_
  rotate_left
  refine K1 10 ?_
  rotate_left
  refine K1 12 ?_
  rotate_left
  refine K1 10 ?_
  rotate_left
  refine K1 10 ?_
  rotate_left
  refine K1 10 ?_
  rotate_left
  refine K1 12 ?_
  rotate_left
  refine K1 10 ?_
  rotate_left
  refine K1 10 ?_
  rotate_left
  refine K1 10 ?_
  rotate_left
  refine K1 10 ?_
  rotate_left
  refine K1 10 ?_
  rotate_left
  refine K1 10 ?_
  rotate_left
  refine K1 10 ?_
  rotate_left
  refine K1 10 ?_
  rotate_left
  refine K1 10 ?_
  rotate_left
  refine K1 10 ?_
  rotate_left
  refine K1 10 ?_
  rotate_left
  refine K1 10 ?_
  rotate_left
  refine K1 10 ?_
  rotate_left
  refine K1 12 ?_
  rotate_left
  refine K1 10 ?_
  rotate_left
  refine K1 10 ?_
  rotate_left
  refine K1 12 ?_
  rotate_left
  refine K1 10 ?_
  rotate_left
  refine K1 10 ?_
  rotate_left
  refine K1 10 ?_
  rotate_left
  refine K1 10 ?_
  rotate_left
  refine K1 12 ?_
  rotate_left
  refine K1 10 ?_
  rotate_left
  refine K1 10 ?_
  rotate_left
  refine K1 10 ?_
  rotate_left
  refine K1 10 ?_
  rotate_left
  refine K1 10 ?_
  rotate_left
  refine K1 10 ?_
  rotate_left
  refine K1 12 ?_
  rotate_left
  refine K1 10 ?_
  rotate_left
  refine K1 10 ?_
  rotate_left
  refine K1 10 ?_
  rotate_left
  refine K1 10 ?_
  rotate_left
  refine K1 10 ?_
  rotate_left
  refine K1 10 ?_
  rotate_left
  refine K1 10 ?_
  rotate_left
  refine K1 10 ?_
  rotate_left
  refine K1 12 ?_
  rotate_left
  refine K1 10 ?_
  rotate_left
  refine K1 10 ?_
  rotate_left
  refine K1 10 ?_
  rotate_left
  refine K1 12 ?_
  rotate_left
  refine K1 10 ?_
  rotate_left
  refine K1 10 ?_
  rotate_left
  refine K1 10 ?_
  rotate_left
  refine K1 10 ?_
  rotate_left
  refine K1 10 ?_
  rotate_left
  refine K1 12 ?_
  rotate_left
  refine K1 10 ?_
  rotate_left
  refine K1 10 ?_
  rotate_left
  refine K1 10 ?_
  rotate_left
  refine K1 10 ?_
  rotate_left
  refine K1 10 ?_
  rotate_left
  refine K1 10 ?_
  rotate_left
  refine K1 10 ?_
  rotate_left
  refine K1 10 ?_
  rotate_left
  refine K1 10 ?_
  rotate_left
  refine K1 10 ?_
  rotate_left
  refine K1 10 ?_
  rotate_left
  refine K1 10 ?_
  rotate_left
  refine K1 10 ?_
  rotate_left
  refine K1 10 ?_
  rotate_left
  refine K1 10 ?_
  rotate_left
  refine K1 10 ?_
  rotate_left
  refine K1 10 ?_
  rotate_left
  refine K1 10 ?_
  rotate_left
  refine K1 10 ?_
  rotate_left
  refine K1 10 ?_
  rotate_left
  refine K1 10 ?_
  rotate_left
  refine K1 10 ?_
  rotate_left
  all_goals first
   | refine H2 12 rfl rfl (fun _ _ => SameI.out) (Nb [_] [_] us_Is f0 rfl rfl) (fun b19 _ => ?_)
   | refine H2 10 rfl rfl (fun _ _ => SameI.out) (J3 (E := Enc.int) Plain.int us_Is f0 rfl rfl rfl z6 om om dc) (fun p17 _ => ?_)
   | skip
  refine K1 13 ?_
  rotate_left
  refine K1 13 ?_
  rotate_left
  refine K1 13 ?_
  rotate_left
  refine K1 13 ?_
  rotate_left
  refine K1 13 ?_
  rotate_left
  refine K1 13 ?_
  rotate_left
  refine K1 13 ?_
  rotate_left
  refine K1 13 ?_
  rotate_left
  refine K1 13 ?_
  rotate_left
  refine K1 13 ?_
  rotate_left
  refine K1 13 ?_
  rotate_left
  refine K1 13 ?_
  rotate_left
  refine K1 13 ?_
  rotate_left
  refine K1 13 ?_
  rotate_left
  refine K1 13 ?_
  rotate_left
  refine K1 13 ?_
  rotate_left
  refine K1 13 ?_
  rotate_left
  refine K1 13 ?_
  rotate_left
  refine K1 13 ?_
  rotate_left
  refine K1 13 ?_
  rotate_left
  refine K1 13 ?_
  rotate_left
  refine K1 13 ?_
  rotate_left
  refine K1 13 ?_
  rotate_left
  refine K1 13 ?_
  rotate_left
  refine K1 13 ?_
  rotate_left
  refine K1 13 ?_
  rotate_left
  refine K1 13 ?_
  rotate_left
  refine K1 13 ?_
  rotate_left
  refine K1 13 ?_
  rotate_left
  refine K1 13 ?_
  rotate_left
  refine K1 13 ?_
  rotate_left
  refine K1 13 ?_
  rotate_left
  refine K1 13 ?_
  rotate_left
  refine K1 13 ?_
  rotate_left
  refine K1 13 ?_
  rotate_left
  refine K1 13 ?_
  rotate_left
  refine K1 13 ?_
  rotate_left
  refine K1 13 ?_
  rotate_left
  refine K1 13 ?_
  rotate_left
  refine K1 13 ?_
  rotate_left
  refine K1 13 ?_
  rotate_left
  refine K1 13 ?_
  rotate_left
  refine K1 13 ?_
  rotate_left
  refine K1 13 ?_
  rotate_left
  refine K1 13 ?_
  rotate_left
  refine K1 13 ?_
  rotate_left
  refine K1 13 ?_
  rotate_left
  refine K1 13 ?_
  rotate_left
  refine K1 13 ?_
  rotate_left
  refine K1 13 ?_
  rotate_left
  refine K1 13 ?_
  rotate_left
  refine K1 13 ?_
  rotate_left
  refine K1 13 ?_
  rotate_left
  refine K1 13 ?_
  rotate_left
  refine K1 13 ?_
  rotate_left
  refine K1 13 ?_
  rotate_left
  refine K1 13 ?_
  rotate_left
  refine K1 13 ?_
  rotate_left
  refine K1 13 ?_
  rotate_left
  refine K1 13 ?_
  rotate_left
  refine K1 13 ?_
  rotate_left
  refine K1 13 ?_
  rotate_left
  refine K1 13 ?_
  rotate_left
  refine K1 13 ?_
  rotate_left
  refine K1 13 ?_
  rotate_left
  refine K1 13 ?_
  rotate_left
  refine K1 13 ?_
  rotate_left
  refine K1 13 ?_
  rotate_left
  refine K1 13 ?_
  rotate_left
  refine K1 13 ?_
  rotate_left
  refine K1 13 ?_
  rotate_left
  refine K1 13 ?_
  rotate_left
  refine K1 13 ?_
  rotate_left
  refine K1 13 ?_
  rotate_left
  refine K1 13 ?_
  rotate_left
  refine K1 13 ?_
  rotate_left
  refine K1 13 ?_
  rotate_left
  refine K1 13 ?_
  rotate_left
  refine K1 13 ?_
  rotate_left
  refine K1 13 ?_
  rotate_left
  refine K1 13 ?_
  rotate_left
  refine K1 13 ?_
  rotate_left
  refine K1 13 ?_
  rotate_left
  refine K1 13 ?_
  rotate_left
  refine K1 13 ?_
  rotate_left
  refine K1 13 ?_
  rotate_left
  refine K1 13 ?_
  rotate_left
  refine K1 13 ?_
  rotate_left
  refine K1 13 ?_
  rotate_left
  refine K1 13 ?_
  rotate_left
  refine K1 13 ?_
  rotate_left
  refine K1 13 ?_
  rotate_left
  refine K1 13 ?_
  rotate_left
  refine K1 13 ?_
  rotate_left
  refine K1 13 ?_
  rotate_left
  refine K1 13 ?_
  rotate_left
  refine K1 13 ?_
  rotate_left
  refine K1 13 ?_
  rotate_left
  refine K1 13 ?_
  rotate_left
  refine K1 13 ?_
  rotate_left
  refine K1 13 ?_
  rotate_left
  refine K1 13 ?_
  rotate_left
  refine K1 13 ?_
  rotate_left
  refine K1 13 ?_
  rotate_left
  refine K1 13 ?_
  rotate_left
  all_goals first
   | (refine f7 ?_; refine H2 13 rfl rfl (fun _ _ => SameI.out) (y6 (E := Enc.int) (ex := x) us_Is f0 rfl rfl rfl (Own.int i6x) rfl om om dc) (fun p20 _ => ?_))
   | (refine f7 ?_; refine f7 ?_; refine H2 13 rfl rfl (fun _ _ => SameI.out) (y6 (E := Enc.int) (ex := x) us_Is f0 rfl rfl rfl (Own.int i6x) rfl om om dc) (fun p20 _ => ?_))
   | (refine j6 ?_; refine f7 ?_; refine H2 13 rfl rfl (fun _ _ => SameI.out) (y6 (E := Enc.int) (ex := x) us_Is f0 rfl rfl rfl (Own.int i6x) rfl om om dc) (fun p20 _ => ?_))
   | skip
  all_goals first
   | (refine C0 14 rfl rfl dc (I6 (pvs := [_, _]) (cs := [_, _]) ty_Binding pl_Binding rfl rfl) kr ?_; refine j6 ?_; refine F3 15 rfl rfl kr (fun h => by cases h) (Ns [_, _] ty_Binding rfl) (fun _ _ => ?_); refine Q6 kr (m6 ?_); refine m6 ?_; refine m6 ?_; refine m6 ?_; exact a0q (p13, p20) trivial ⟨rfl, trivial⟩ (.refl _))
 ·obtain ⟨p13, p20⟩ := kM
  try dsimp only
  refine Et (E.ret (f7 (j6 (f7 (f7 ?_)))))
  exact J2 br rfl rfl (mS (mS m0)) ty_Binding rfl ((_, _, _), (_, _, _)) trivial rfl (J := _) (.refl _) (.inl rfl)
end Go.Proofs.YtlfhopooaejpfaaGreat
