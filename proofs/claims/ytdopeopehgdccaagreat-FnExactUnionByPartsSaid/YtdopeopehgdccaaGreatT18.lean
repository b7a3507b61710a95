import Derived.Test.YtdopeopehgdccaaGreatT6
import Derived.Test.YtdopeopehgdccaaGreatGa
namespace Go.Proofs.YtdopeopehgdccaaGreat
open Go.RowKit
set_option linter.all false
set_option maxHeartbeats 2000000
attribute [local irreducible] Nop Yd Yp Ent Has Tr FnP FnP2 Src O8 Y2 a0b a0m G5
theorem a6I {B5 : Option Addr} {D9 B4 : Nat} {l2 : List Int} {u9 : Option Addr} {x6 u8 : Nat} {j5 : List Int} {v : Int} {x : Int} (hb1 : l2.length ≤ 1000000) (hb2 : j5.length ≤ 1000000) : Tr Tryz.prog 248 [.agg #[.slice B5 D9 B4, .slice u9 x6 u8], .int .i64 v, .int .i64 x] (fun w L => Ro w L eIs [.slice B5 D9 B4] l2 ∧ Ro w L eIs [.slice u9 x6 u8] j5 ∧ I64 v ∧ I64 x) [] (κ := (Option Addr × Nat × Nat) × (Option Addr × Nat × Nat)) (fun k => True) (fun k => .agg #[.slice k.1.1 k.1.2.1 k.1.2.2, .slice k.2.1 k.2.2.1 k.2.2.2]) (fun k => [ow eIs [.slice k.1.1 k.1.2.1 k.1.2.2] (l2 ++ [v]), ow eIs [.slice k.2.1 k.2.2.1 k.2.2.2] (j5 ++ [x])]) := by
 refine l0 Tryz.func248 rfl (n := 22) rfl (by decide +kernel) bl (fr := [(0, .agg #[.slice B5 D9 B4, .slice u9 x6 u8]), (1, .int .i64 v), (2, .int .i64 x)]) rfl fun w L hR => ?_
 obtain ⟨E3, y5, i6v, i6x⟩ := hR
 obtain ⟨rfl, a0B⟩ := E3.slen
 obtain ⟨rfl, O5⟩ := y5.slen
 refine Ew Z2 (Est rfl (N.box (cs := [_, _]) rfl dc rfl) (fun b3 _ => (Est rfl (N.alloc ty_Binding dc) (fun b6 _ => (Eu (Eq_ (a3z (κ := (Option Addr × Nat) × (Option Addr × Nat)) (fun _ => True) (fun kM => [(6, .pointer (some ⟨b6, 0, none⟩))]) (fun kM => [pt b6 125 [.slice kM.1.1 (l2.length + 1) kM.1.2, .slice kM.2.1 (j5.length + 1) kM.2.2], ow eIs [.slice kM.2.1 (j5.length + 1) kM.2.2] (j5 ++ [x]), ow eIs [.slice kM.1.1 (l2.length + 1) kM.1.2] (l2 ++ [v]), pt b3 125 [.slice B5 l2.length B4, .slice u9 j5.length u8]]) ?_ (fun kM _ => ?_))))))))
 ·refine a7S [b6, b3] (fun j => !(Nat.beq j 15)) mixed (T2 1 rfl rfl dc (j6 fo_Binding_0 ty_Is dc rfl) kr (a7Q 2 rfl rfl dc (a4q ty_Is rfl ((a2E.pt (mS m0) (by simp)).sub (cs' := [_]) 0 rfl) rfl) kr (T2 4 rfl rfl dc (o0 rfl) kr (T2 8 rfl rfl dc (j6 fo_Binding_1 ty_Is dc rfl) kr (a7Q 9 rfl rfl dc (a4q ty_Is rfl ((a2E.pt (mS m0) (by simp)).sub (cs' := [_]) 1 rfl) rfl) kr (T2 11 rfl rfl dc (o0 rfl) kr (b7f (i := 0) (j := 5) (l := 7) (m := 12) kr ?_ ?_ ?_ ?_)))))))
  rotate_left 4
  all_goals first
   | (refine H5 0 rfl rfl (fun _ _ => SameI.out) (Nb [] [] us_Is i8 rfl rfl) (fun b7 _ => ?_); refine Ent.drop ?_)
   | refine H5 5 rfl rfl (fun _ _ => SameI.out) (Nb [_] [_] us_Is i8 rfl rfl) (fun b12 _ => ?_)
   | (refine H5 7 rfl rfl (fun _ _ => SameI.out) (Nb [] [] us_Is i8 rfl rfl) (fun b14 _ => ?_); refine Ent.drop ?_)
   | refine H5 12 rfl rfl (fun _ _ => SameI.out) (Nb [_] [_] us_Is i8 rfl rfl) (fun b19 _ => ?_)
   | skip
  refine b7f (i := 3) (j := 5) (l := 7) (m := 12) kr ?_ ?_ ?_ ?_
  rotate_left 4
  refine a1t (i := 0) (j := 7) (l := 12) kr ?_ ?_ ?_
  rotate_left 3
  refine a1t (i := 0) (j := 5) (l := 12) kr ?_ ?_ ?_
  rotate_left 3
  refine a1t (i := 0) (j := 5) (l := 7) kr ?_ ?_ ?_
  rotate_left 3
  all_goals first
   | refine H5 3 rfl rfl (fun _ _ => SameI.out) (K7 (E := Enc.int) Plain.int us_Is i8 rfl rfl rfl E3 om om dc) (fun p10 _ => ?_)
   | refine H5 5 rfl rfl (fun _ _ => SameI.out) (Nb [_] [_] us_Is i8 rfl rfl) (fun b12 _ => ?_)
   | (refine H5 7 rfl rfl (fun _ _ => SameI.out) (Nb [] [] us_Is i8 rfl rfl) (fun b14 _ => ?_); refine Ent.drop ?_)
   | refine H5 12 rfl rfl (fun _ _ => SameI.out) (Nb [_] [_] us_Is i8 rfl rfl) (fun b19 _ => ?_)
   | (refine H5 0 rfl rfl (fun _ _ => SameI.out) (Nb [] [] us_Is i8 rfl rfl) (fun b7 _ => ?_); refine Ent.drop ?_)
   | skip
  refine a1t (i := 5) (j := 7) (l := 12) kr ?_ ?_ ?_
  rotate_left 3
  refine a1t (i := 3) (j := 7) (l := 12) kr ?_ ?_ ?_
  rotate_left 3
  refine a1t (i := 3) (j := 5) (l := 12) kr ?_ ?_ ?_
  rotate_left 3
  refine a1t (i := 3) (j := 5) (l := 7) kr ?_ ?_ ?_
  rotate_left 3
  refine a1t (i := 3) (j := 7) (l := 12) kr ?_ ?_ ?_
  rotate_left 3
  refine B8 (i := 0) (j := 12) kr ?_ ?_
  rotate_left 2
  refine B8 (i := 0) (j := 7) kr ?_ ?_
  rotate_left 2
  refine a1t (i := 3) (j := 5) (l := 12) kr ?_ ?_ ?_
  rotate_left 3
  refine B8 (i := 0) (j := 12) kr ?_ ?_
  rotate_left 2
  refine B8 (i := 0) (j := 5) kr ?_ ?_
  rotate_left 2
  refine a1t (i := 3) (j := 5) (l := 7) kr ?_ ?_ ?_
  rotate_left 3
  refine B8 (i := 0) (j := 7) kr ?_ ?_
  rotate_left 2
  refine B8 (i := 0) (j := 5) kr ?_ ?_
  rotate_left 2
  all_goals first
   | refine H5 5 rfl rfl (fun _ _ => SameI.out) (Nb [_] [_] us_Is i8 rfl rfl) (fun b12 _ => ?_)
   | (refine H5 7 rfl rfl (fun _ _ => SameI.out) (Nb [] [] us_Is i8 rfl rfl) (fun b14 _ => ?_); refine Ent.drop ?_)
   | refine H5 12 rfl rfl (fun _ _ => SameI.out) (Nb [_] [_] us_Is i8 rfl rfl) (fun b19 _ => ?_)
   | refine H5 3 rfl rfl (fun _ _ => SameI.out) (K7 (E := Enc.int) Plain.int us_Is i8 rfl rfl rfl E3 om om dc) (fun p10 _ => ?_)
   | (refine H5 0 rfl rfl (fun _ _ => SameI.out) (Nb [] [] us_Is i8 rfl rfl) (fun b7 _ => ?_); refine Ent.drop ?_)
   | skip
  refine a1t (i := 6) (j := 7) (l := 12) kr ?_ ?_ ?_
  rotate_left 3
  refine B8 (i := 5) (j := 12) kr ?_ ?_
  rotate_left 2
  refine B8 (i := 5) (j := 7) kr ?_ ?_
  rotate_left 2
  refine a1t (i := 6) (j := 7) (l := 12) kr ?_ ?_ ?_
  rotate_left 3
  refine B8 (i := 3) (j := 12) kr ?_ ?_
  rotate_left 2
  refine B8 (i := 3) (j := 7) kr ?_ ?_
  rotate_left 2
  refine B8 (i := 5) (j := 12) kr ?_ ?_
  rotate_left 2
  refine B8 (i := 3) (j := 12) kr ?_ ?_
  rotate_left 2
  refine B8 (i := 3) (j := 5) kr ?_ ?_
  rotate_left 2
  refine B8 (i := 5) (j := 7) kr ?_ ?_
  rotate_left 2
  refine B8 (i := 3) (j := 7) kr ?_ ?_
  rotate_left 2
  refine B8 (i := 3) (j := 5) kr ?_ ?_
  rotate_left 2
  refine a1t (i := 6) (j := 7) (l := 12) kr ?_ ?_ ?_
  rotate_left 3
  refine B8 (i := 3) (j := 12) kr ?_ ?_
  rotate_left 2
  refine B8 (i := 3) (j := 7) kr ?_ ?_
  rotate_left 2
  refine B8 (i := 3) (j := 12) kr ?_ ?_
  rotate_left 2
  refine K1 0 ?_
  rotate_left
  refine B8 (i := 3) (j := 7) kr ?_ ?_
  rotate_left 2
  refine K1 0 ?_
  rotate_left
  refine B8 (i := 5) (j := 12) kr ?_ ?_
  rotate_left 2
  refine B8 (i := 3) (j := 12) kr ?_ ?_
  rotate_left 2
  refine B8 (i := 3) (j := 5) kr ?_ ?_
  rotate_left 2
  refine B8 (i := 3) (j := 12) kr ?_ ?_
  rotate_left 2
  refine K1 0 ?_
  rotate_left
  refine B8 (i := 3) (j := 5) kr ?_ ?_
  rotate_left 2
  refine K1 0 ?_
  rotate_left
  refine B8 (i := 5) (j := 7) kr ?_ ?_
  rotate_left 2
  refine B8 (i := 3) (j := 7) kr ?_ ?_
  rotate_left 2
  refine B8 (i := 3) (j := 5) kr ?_ ?_
  rotate_left 2
  refine B8 (i := 3) (j := 7) kr ?_ ?_
  rotate_left 2
  refine K1 0 ?_
  rotate_left
  refine B8 (i := 3) (j := 5) kr ?_ ?_
  rotate_left 2
  refine K1 0 ?_
  rotate_left
  all_goals first
   | (refine f8 ?_; refine H5 6 rfl rfl (fun _ _ => SameI.out) (B1 (E := Enc.int) (ex := v) us_Is i8 rfl rfl rfl (Own.int i6v) rfl om om dc) (fun p13 _ => ?_))
   | (refine H5 7 rfl rfl (fun _ _ => SameI.out) (Nb [] [] us_Is i8 rfl rfl) (fun b14 _ => ?_); refine Ent.drop ?_)
   | refine H5 12 rfl rfl (fun _ _ => SameI.out) (Nb [_] [_] us_Is i8 rfl rfl) (fun b19 _ => ?_)
   | refine H5 5 rfl rfl (fun _ _ => SameI.out) (Nb [_] [_] us_Is i8 rfl rfl) (fun b12 _ => ?_)
   | (refine f8 ?_; refine f8 ?_; refine H5 6 rfl rfl (fun _ _ => SameI.out) (B1 (E := Enc.int) (ex := v) us_Is i8 rfl rfl rfl (Own.int i6v) rfl om om dc) (fun p13 _ => ?_))
   | refine H5 3 rfl rfl (fun _ _ => SameI.out) (K7 (E := Enc.int) Plain.int us_Is i8 rfl rfl rfl E3 om om dc) (fun p10 _ => ?_)
   | (refine H5 0 rfl rfl (fun _ _ => SameI.out) (Nb [] [] us_Is i8 rfl rfl) (fun b7 _ => ?_); refine Ent.drop ?_)
   | skip
  refine B8 (i := 7) (j := 12) kr ?_ ?_
  rotate_left 2
  refine B8 (i := 6) (j := 12) kr ?_ ?_
  rotate_left 2
  refine B8 (i := 6) (j := 7) kr ?_ ?_
  rotate_left 2
  refine B8 (i := 6) (j := 12) kr ?_ ?_
  rotate_left 2
  refine K1 5 ?_
  rotate_left
  refine B8 (i := 6) (j := 7) kr ?_ ?_
  rotate_left 2
  refine K1 5 ?_
  rotate_left
  refine B8 (i := 7) (j := 12) kr ?_ ?_
  rotate_left 2
  refine B8 (i := 6) (j := 12) kr ?_ ?_
  rotate_left 2
  refine B8 (i := 6) (j := 7) kr ?_ ?_
  rotate_left 2
  refine B8 (i := 6) (j := 12) kr ?_ ?_
  rotate_left 2
  refine K1 3 ?_
  rotate_left
  refine B8 (i := 6) (j := 7) kr ?_ ?_
  rotate_left 2
  refine K1 3 ?_
  rotate_left
  refine B8 (i := 6) (j := 12) kr ?_ ?_
  rotate_left 2
  refine K1 5 ?_
  rotate_left
  refine B8 (i := 6) (j := 12) kr ?_ ?_
  rotate_left 2
  refine K1 3 ?_
  rotate_left
  refine K1 5 ?_
  rotate_left
  refine K1 3 ?_
  rotate_left
  refine B8 (i := 6) (j := 7) kr ?_ ?_
  rotate_left 2
  refine K1 5 ?_
  rotate_left
  refine B8 (i := 6) (j := 7) kr ?_ ?_
  rotate_left 2
  refine K1 3 ?_
  rotate_left
  refine K1 5 ?_
  rotate_left
  refine K1 3 ?_
  rotate_left
  refine B8 (i := 7) (j := 12) kr ?_ ?_
  rotate_left 2
  refine B8 (i := 6) (j := 12) kr ?_ ?_
  rotate_left 2
  refine B8 (i := 6) (j := 7) kr ?_ ?_
  rotate_left 2
  refine B8 (i := 6) (j := 12) kr ?_ ?_
  rotate_left 2
  refine K1 3 ?_
  rotate_left
  refine B8 (i := 6) (j := 7) kr ?_ ?_
  rotate_left 2
  refine K1 3 ?_
  rotate_left
  refine B8 (i := 6) (j := 12) kr ?_ ?_
  rotate_left 2
  refine K1 3 ?_
  rotate_left
  refine K1 3 ?_
  rotate_left
  refine B8 (i := 6) (j := 7) kr ?_ ?_
  rotate_left 2
  refine K1 3 ?_
  rotate_left
  refine K1 3 ?_
  rotate_left
  refine B8 (i := 6) (j := 12) kr ?_ ?_
  rotate_left 2
  refine K1 5 ?_
  rotate_left
  refine B8 (i := 6) (j := 12) kr ?_ ?_
  rotate_left 2
  refine K1 3 ?_
  rotate_left
  refine K1 5 ?_
  rotate_left
  refine K1 3 ?_
  rotate_left
  refine B8 (i := 6) (j := 12) kr ?_ ?_
  rotate_left 2
  refine K1 3 ?_
  rotate_left
  refine K1 3 ?_
  rotate_left
  refine K1 5 ?_
  rotate_left
  refine K1 3 ?_
  rotate_left
  refine K1 3 ?_
  rotate_left
  refine B8 (i := 6) (j := 7) kr ?_ ?_
  rotate_left 2
  refine K1 5 ?_
  rotate_left
  refine B8 (i := 6) (j := 7) kr ?_ ?_
  rotate_left 2
  refine K1 3 ?_
  rotate_left
  refine K1 5 ?_
  rotate_left
  refine K1 3 ?_
  rotate_left
  refine B8 (i := 6) (j := 7) kr ?_ ?_
  rotate_left 2
  refine K1 3 ?_
  rotate_left
  refine K1 3 ?_
  rotate_left
  refine K1 5 ?_
  rotate_left
  refine K1 3 ?_
  rotate_left
  refine K1 3 ?_
  rotate_left
  all_goals first
   | (refine H5 7 rfl rfl (fun _ _ => SameI.out) (Nb [] [] us_Is i8 rfl rfl) (fun b14 _ => ?_); refine Ent.drop ?_)
   | refine H5 12 rfl rfl (fun _ _ => SameI.out) (Nb [_] [_] us_Is i8 rfl rfl) (fun b19 _ => ?_)
   | (refine f8 ?_; refine H5 6 rfl rfl (fun _ _ => SameI.out) (B1 (E := Enc.int) (ex := v) us_Is i8 rfl rfl rfl (Own.int i6v) rfl om om dc) (fun p13 _ => ?_))
   | (refine f8 ?_; refine o6 ?_; refine H5 6 rfl rfl (fun _ _ => SameI.out) (B1 (E := Enc.int) (ex := v) us_Is i8 rfl rfl rfl (Own.int i6v) rfl om om dc) (fun p13 _ => ?_))
   | refine H5 5 rfl rfl (fun _ _ => SameI.out) (Nb [_] [_] us_Is i8 rfl rfl) (fun b12 _ => ?_)
   | (refine o6 ?_; refine H5 6 rfl rfl (fun _ _ => SameI.out) (B1 (E := Enc.int) (ex := v) us_Is i8 rfl rfl rfl (Own.int i6v) rfl om om dc) (fun p13 _ => ?_))
   | (refine f8 ?_; refine f8 ?_; refine H5 6 rfl rfl (fun _ _ => SameI.out) (B1 (E := Enc.int) (ex := v) us_Is i8 rfl rfl rfl (Own.int i6v) rfl om om dc) (fun p13 _ => ?_))
   | (refine o6 ?_; refine o6 ?_; refine H5 6 rfl rfl (fun _ _ => SameI.out) (B1 (E := Enc.int) (ex := v) us_Is i8 rfl rfl rfl (Own.int i6v) rfl om om dc) (fun p13 _ => ?_))
   | refine H5 3 rfl rfl (fun _ _ => SameI.out) (K7 (E := Enc.int) Plain.int us_Is i8 rfl rfl rfl E3 om om dc) (fun p10 _ => ?_)
   | (refine o6 ?_; refine f8 ?_; refine H5 6 rfl rfl (fun _ _ => SameI.out) (B1 (E := Enc.int) (ex := v) us_Is i8 rfl rfl rfl (Own.int i6v) rfl om om dc) (fun p13 _ => ?_))
   | skip
  refine B8 (i := 10) (j := 12) kr ?_ ?_
  rotate_left 2
  refine K1 7 ?_
  rotate_left
  refine B8 (i := 10) (j := 12) kr ?_ ?_
  rotate_left 2
  refine K1 6 ?_
  rotate_left
  refine K1 7 ?_
  rotate_left
  refine K1 6 ?_
  rotate_left
  refine B8 (i := 10) (j := 12) kr ?_ ?_
  rotate_left 2
  refine K1 6 ?_
  rotate_left
  refine K1 6 ?_
  rotate_left
  refine K1 7 ?_
  rotate_left
  refine K1 6 ?_
  rotate_left
  refine K1 6 ?_
  rotate_left
  refine B8 (i := 10) (j := 12) kr ?_ ?_
  rotate_left 2
  refine K1 7 ?_
  rotate_left
  refine B8 (i := 10) (j := 12) kr ?_ ?_
  rotate_left 2
  refine K1 6 ?_
  rotate_left
  refine K1 7 ?_
  rotate_left
  refine K1 6 ?_
  rotate_left
  refine B8 (i := 10) (j := 12) kr ?_ ?_
  rotate_left 2
  refine K1 6 ?_
  rotate_left
  refine K1 6 ?_
  rotate_left
  refine K1 7 ?_
  rotate_left
  refine K1 6 ?_
  rotate_left
  refine K1 6 ?_
  rotate_left
  refine B8 (i := 10) (j := 12) kr ?_ ?_
  rotate_left 2
  refine K1 6 ?_
  rotate_left
  refine K1 6 ?_
  rotate_left
  refine B8 (i := 10) (j := 12) kr ?_ ?_
  rotate_left 2
  refine K1 6 ?_
  rotate_left
  refine K1 6 ?_
  rotate_left
  refine K1 6 ?_
  rotate_left
  refine K1 6 ?_
  rotate_left
  refine K1 7 ?_
  rotate_left
  refine K1 6 ?_
  rotate_left
  refine K1 6 ?_
  rotate_left
  refine K1 7 ?_
  rotate_left
  refine K1 6 ?_
  rotate_left
  refine K1 6 ?_
  rotate_left
  refine K1 6 ?_
  rotate_left
  refine K1 6 ?_
  rotate_left
  refine B8 (i := 10) (j := 12) kr ?_ ?_
  rotate_left 2
  refine K1 7 ?_
  rotate_left
  refine B8 (i := 10) (j := 12) kr ?_ ?_
  rotate_left 2
  refine K1 6 ?_
  rotate_left
  refine K1 7 ?_
  rotate_left
  refine K1 6 ?_
  rotate_left
  refine B8 (i := 10) (j := 12) kr ?_ ?_
  rotate_left 2
  refine K1 6 ?_
  rotate_left
  refine K1 6 ?_
  rotate_left
  refine K1 7 ?_
  rotate_left
  refine K1 6 ?_
  rotate_left
  refine K1 6 ?_
  rotate_left
  refine B8 (i := 10) (j := 12) kr ?_ ?_
  rotate_left 2
  refine K1 6 ?_
  rotate_left
  refine K1 6 ?_
  rotate_left
  refine K1 6 ?_
  rotate_left
  refine K1 7 ?_
  rotate_left
  refine K1 6 ?_
  rotate_left
  refine K1 6 ?_
  rotate_left
  refine K1 6 ?_
  rotate_left
  refine B8 (i := 10) (j := 12) kr ?_ ?_
  rotate_left 2
  refine K1 6 ?_
  rotate_left
  refine K1 6 ?_
  rotate_left
  refine B8 (i := 10) (j := 12) kr ?_ ?_
  rotate_left 2
  refine K1 6 ?_
  rotate_left
  refine K1 6 ?_
  rotate_left
  refine K1 6 ?_
  rotate_left
  refine K1 6 ?_
  rotate_left
  refine B8 (i := 10) (j := 12) kr ?_ ?_
  rotate_left 2
  refine K1 6 ?_
  rotate_left
  refine K1 6 ?_
  rotate_left
  refine K1 6 ?_
  rotate_left
  refine K1 6 ?_
  rotate_left
  refine K1 6 ?_
  rotate_left
  refine K1 6 ?_
  rotate_left
  refine K1 7 ?_
  rotate_left
  refine K1 6 ?_
  rotate_left
  refine K1 6 ?_
  rotate_left
  refine K1 7 ?_
  rotate_left
  refine K1 6 ?_
  rotate_left
  refine K1 6 ?_
  rotate_left
  refine K1 6 ?_
  rotate_left
  refine K1 6 ?_
  rotate_left
  refine K1 7 ?_
  rotate_left
  refine K1 6 ?_
  rotate_left
  refine K1 6 ?_
  rotate_left
  refine K1 6 ?_
  rotate_left
  refine K1 6 ?_
  rotate_left
  refine K1 6 ?_
  rotate_left
  refine K1 6 ?_
  rotate_left
  all_goals first
   | refine H5 10 rfl rfl (fun _ _ => SameI.out) (K7 (E := Enc.int) Plain.int us_Is i8 rfl rfl rfl y5 om om dc) (fun p17 _ => ?_)
   | refine H5 12 rfl rfl (fun _ _ => SameI.out) (Nb [_] [_] us_Is i8 rfl rfl) (fun b19 _ => ?_)
   | (refine H5 7 rfl rfl (fun _ _ => SameI.out) (Nb [] [] us_Is i8 rfl rfl) (fun b14 _ => ?_); refine Ent.drop ?_)
   | (refine f8 ?_; refine o6 ?_; refine H5 6 rfl rfl (fun _ _ => SameI.out) (B1 (E := Enc.int) (ex := v) us_Is i8 rfl rfl rfl (Own.int i6v) rfl om om dc) (fun p13 _ => ?_))
   | (refine o6 ?_; refine H5 6 rfl rfl (fun _ _ => SameI.out) (B1 (E := Enc.int) (ex := v) us_Is i8 rfl rfl rfl (Own.int i6v) rfl om om dc) (fun p13 _ => ?_))
   | (refine o6 ?_; refine o6 ?_; refine H5 6 rfl rfl (fun _ _ => SameI.out) (B1 (E := Enc.int) (ex := v) us_Is i8 rfl rfl rfl (Own.int i6v) rfl om om dc) (fun p13 _ => ?_))
   | (refine o6 ?_; refine f8 ?_; refine H5 6 rfl rfl (fun _ _ => SameI.out) (B1 (E := Enc.int) (ex := v) us_Is i8 rfl rfl rfl (Own.int i6v) rfl om om dc) (fun p13 _ => ?_))
   | (refine f8 ?_; refine H5 6 rfl rfl (fun _ _ => SameI.out) (B1 (E := Enc.int) (ex := v) us_Is i8 rfl rfl rfl (Own.int i6v) rfl om om dc) (fun p13 _ => ?_))
   | (refine f8 ?_; refine f8 ?_; refine H5 6 rfl rfl (fun _ _ => SameI.out) (B1 (E := Enc.int) (ex := v) us_Is i8 rfl rfl rfl (Own.int i6v) rfl om om dc) (fun p13 _ => ?_))
   | skip
  refine K1 12 ?_
  rotate_left
  refine K1 10 ?_
  rotate_left
  refine K1 10 ?_
  rotate_left
  refine K1 12 ?_
  rotate_left
  refine K1 10 ?_
  rotate_left
  refine K1 10 ?_
  rotate_left
  refine K1 10 ?_
  rotate_left
  refine K1 10 ?_
  rotate_left
  refine K1 12 ?_
  rotate_left
  refine K1 10 ?_
  rotate_left
  refine K1 10 ?_
  rotate_left
  refine K1 10 ?_
  rotate_left
  refine K1 10 ?_
  rotate_left
  refine K1 10 ?_
  rotate_left
  refine K1 10 ?_
  rotate_left
  refine K1 12 ?_
  rotate_left
  refine K1 10 ?_
  rotate_left
  refine K1 10 ?_
  rotate_left
  refine K1 12 ?_
  rotate_left
  refine K1 10 ?_
  rotate_left
  refine K1 10 ?_
  rotate_left
  refine K1 10 ?_
  rotate_left
  refine K1 10 ?_
  rotate_left
  refine K1 12 ?_
  rotate_left
  refine K1 10 ?_
  rotate_left
  refine K1 10 ?_
  rotate_left
  refine K1 10 ?_
  rotate_left
  refine K1 10 ?_
  rotate_left
  refine K1 10 ?_
  rotate_left
  refine K1 10 ?_
  rotate_left
  refine K1 12 ?_
  rotate_left
  refine K1 10 ?_
  rotate_left
  refine K1 10 ?_
  rotate_left
  refine K1 10 ?_
  rotate_left
  refine K1 12 ?_
  rotate_left
  refine K1 10 ?_
  rotate_left
  refine K1 10 ?_
  rotate_left
  refine K1 10 ?_
  rotate_left
  refine K1 10 ?_
  rotate_left
  refine K1 10 ?_
  rotate_left
  refine K1 10 ?_
  rotate_left
  refine K1 10 ?_
  rotate_left
  refine K1 10 ?_
  rotate_left
  refine K1 10 ?_
  rotate_left
  refine K1 10 ?_
  rotate_left
  refine K1 10 ?_
  rotate_left
  refine K1 10 ?_
  rotate_left
  refine K1 10 ?_
  rotate_left
  refine K1 12 ?_
  rotate_left
  refine K1 10 ?_
  rotate_left
  refine K1 10 ?_
  rotate_left
  refine K1 12 ?_
  rotate_left
  refine K1 10 ?_
  rotate_left
  refine K1 10 ?_
  rotate_left
  refine K1 10 ?_
  rotate_left
  refine K1 10 ?_
  rotate_left
  refine K1 12 ?_
  rotate_left
  refine K1 10 ?_
  rotate_left
  refine K1 10 ?_
  rotate_left
  refine K1 10 ?_
  rotate_left
  refine K1 10 ?_
  rotate_left
  refine K1 10 ?_
  rotate_left
  refine K1 10 ?_
  rotate_left
  refine K1 12 ?_
  rotate_left
  refine K1 10 ?_
  rotate_left
  refine K1 10 ?_
  rotate_left
  refine K1 10 ?_
  rotate_left
  refine K1 10 ?_
  rotate_left
  refine K1 10 ?_
  rotate_left
  refine K1 10 ?_
  rotate_left
  refine K1 10 ?_
  rotate_left
  refine K1 10 ?_
  rotate_left
  refine K1 12 ?_
  rotate_left
  refine K1 10 ?_
  rotate_left
  refine K1 10 ?_
  rotate_left
  refine K1 10 ?_
  rotate_left
  refine K1 12 ?_
  rotate_left
  refine K1 10 ?_
  rotate_left
  refine K1 10 ?_
  rotate_left
  refine K1 10 ?_
  rotate_left
  refine K1 10 ?_
  rotate_left
  refine K1 10 ?_
  rotate_left
  refine K1 12 ?_
  rotate_left
  refine K1 10 ?_
  rotate_left
  refine K1 10 ?_
  rotate_left
  refine K1 10 ?_
  rotate_left
  refine K1 10 ?_
  rotate_left
  refine K1 10 ?_
  rotate_left
  refine K1 10 ?_
  rotate_left
  refine K1 10 ?_
  rotate_left
  refine K1 10 ?_
  rotate_left
  refine K1 10 ?_
  rotate_left
  refine K1 10 ?_
  rotate_left
  refine K1 10 ?_
  rotate_left
  refine K1 10 ?_
  rotate_left
  refine K1 10 ?_
  rotate_left
  refine K1 10 ?_
  rotate_left
  refine K1 10 ?_
  rotate_left
  refine K1 10 ?_
  rotate_left
  refine K1 10 ?_
  rotate_left
  refine K1 10 ?_
  rotate_left
  refine K1 10 ?_
  rotate_left
  refine K1 10 ?_
  rotate_left
  refine K1 10 ?_
  rotate_left
  refine K1 10 ?_
  rotate_left
  all_goals first
   | refine H5 12 rfl rfl (fun _ _ => SameI.out) (Nb [_] [_] us_Is i8 rfl rfl) (fun b19 _ => ?_)
   | refine H5 10 rfl rfl (fun _ _ => SameI.out) (K7 (E := Enc.int) Plain.int us_Is i8 rfl rfl rfl y5 om om dc) (fun p17 _ => ?_)
   | skip
  refine K1 13 ?_
  rotate_left
  refine K1 13 ?_
  rotate_left
  refine K1 13 ?_
  rotate_left
  refine K1 13 ?_
  rotate_left
  refine K1 13 ?_
  rotate_left
  refine K1 13 ?_
  rotate_left
  refine K1 13 ?_
  rotate_left
  refine K1 13 ?_
  rotate_left
  refine K1 13 ?_
  rotate_left
  refine K1 13 ?_
  rotate_left
  refine K1 13 ?_
  rotate_left
  refine K1 13 ?_
  rotate_left
  refine K1 13 ?_
  rotate_left
  refine K1 13 ?_
  rotate_left
  refine K1 13 ?_
  rotate_left
  refine K1 13 ?_
  rotate_left
  refine K1 13 ?_
  rotate_left
  refine K1 13 ?_
  rotate_left
  refine K1 13 ?_
  rotate_left
  refine K1 13 ?_
  rotate_left
  refine K1 13 ?_
  rotate_left
  refine K1 13 ?_
  rotate_left
  refine K1 13 ?_
  rotate_left
  refine K1 13 ?_
  rotate_left
  refine K1 13 ?_
  rotate_left
  refine K1 13 ?_
  rotate_left
  refine K1 13 ?_
  rotate_left
  refine K1 13 ?_
  rotate_left
  refine K1 13 ?_
  rotate_left
  refine K1 13 ?_
  rotate_left
  refine K1 13 ?_
  rotate_left
  refine K1 13 ?_
  rotate_left
  refine K1 13 ?_
  rotate_left
  refine K1 13 ?_
  rotate_left
  refine K1 13 ?_
  rotate_left
  refine K1 13 ?_
  rotate_left
  refine K1 13 ?_
  rotate_left
  refine K1 13 ?_
  rotate_left
  refine K1 13 ?_
  rotate_left
  refine K1 13 ?_
  rotate_left
  refine K1 13 ?_
  rotate_left
  refine K1 13 ?_
  rotate_left
  refine K1 13 ?_
  rotate_left
  refine K1 13 ?_
  rotate_left
  refine K1 13 ?_
  rotate_left
  refine K1 13 ?_
  rotate_left
  refine K1 13 ?_
  rotate_left
  refine K1 13 ?_
  rotate_left
  refine K1 13 ?_
  rotate_left
  refine K1 13 ?_
  rotate_left
  refine K1 13 ?_
  rotate_left
  refine K1 13 ?_
  rotate_left
  refine K1 13 ?_
  rotate_left
  refine K1 13 ?_
  rotate_left
  refine K1 13 ?_
  rotate_left
  refine K1 13 ?_
  rotate_left
  refine K1 13 ?_
  rotate_left
  refine K1 13 ?_
  rotate_left
  refine K1 13 ?_
  rotate_left
  refine K1 13 ?_
  rotate_left
  refine K1 13 ?_
  rotate_left
  refine K1 13 ?_
  rotate_left
  refine K1 13 ?_
  rotate_left
  refine K1 13 ?_
  rotate_left
  refine K1 13 ?_
  rotate_left
  refine K1 13 ?_
  rotate_left
  refine K1 13 ?_
  rotate_left
  refine K1 13 ?_
  rotate_left
  refine K1 13 ?_
  rotate_left
  refine K1 13 ?_
  rotate_left
  refine K1 13 ?_
  rotate_left
  refine K1 13 ?_
  rotate_left
  refine K1 13 ?_
  rotate_left
  refine K1 13 ?_
  rotate_left
  refine K1 13 ?_
  rotate_left
  refine K1 13 ?_
  rotate_left
  refine K1 13 ?_
  rotate_left
  refine K1 13 ?_
  rotate_left
  refine K1 13 ?_
  rotate_left
  refine K1 13 ?_
  rotate_left
  refine K1 13 ?_
  rotate_left
  refine K1 13 ?_
  rotate_left
  refine K1 13 ?_
  rotate_left
  refine K1 13 ?_
  rotate_left
  refine K1 13 ?_
  rotate_left
  refine K1 13 ?_
  rotate_left
  refine K1 13 ?_
  rotate_left
  refine K1 13 ?_
  rotate_left
  refine K1 13 ?_
  rotate_left
  refine K1 13 ?_
  rotate_left
  refine K1 13 ?_
  rotate_left
  refine K1 13 ?_
  rotate_left
  refine K1 13 ?_
  rotate_left
  refine K1 13 ?_
  rotate_left
  refine K1 13 ?_
  rotate_left
  refine K1 13 ?_
  rotate_left
  refine K1 13 ?_
  rotate_left
  refine K1 13 ?_
  rotate_left
  refine K1 13 ?_
  rotate_left
  refine K1 13 ?_
  rotate_left
  refine K1 13 ?_
  rotate_left
  refine K1 13 ?_
  rotate_left
  refine K1 13 ?_
  rotate_left
  refine K1 13 ?_
  rotate_left
  refine K1 13 ?_
  rotate_left
  all_goals first
   | (refine f8 ?_; refine H5 13 rfl rfl (fun _ _ => SameI.out) (B1 (E := Enc.int) (ex := x) us_Is i8 rfl rfl rfl (Own.int i6x) rfl om om dc) (fun p20 _ => ?_))
   | (refine f8 ?_; refine f8 ?_; refine H5 13 rfl rfl (fun _ _ => SameI.out) (B1 (E := Enc.int) (ex := x) us_Is i8 rfl rfl rfl (Own.int i6x) rfl om om dc) (fun p20 _ => ?_))
   | (refine o6 ?_; refine f8 ?_; refine H5 13 rfl rfl (fun _ _ => SameI.out) (B1 (E := Enc.int) (ex := x) us_Is i8 rfl rfl rfl (Own.int i6x) rfl om om dc) (fun p20 _ => ?_))
   | skip
  all_goals first
   | (refine T2 14 rfl rfl dc (J2 (pvs := [_, _]) (cs := [_, _]) ty_Binding pl_Binding rfl rfl) kr ?_; refine o6 ?_; refine T0 15 rfl rfl kr (fun h => by cases h) (Ns [_, _] ty_Binding rfl) (fun _ _ => ?_); refine a4e kr (v7 ?_); refine v7 ?_; refine v7 ?_; refine v7 ?_; exact P9 (p13, p20) trivial ⟨rfl, trivial⟩ (.refl _))
 ·obtain ⟨p13, p20⟩ := kM
  try dsimp only
  refine Et (E.ret (f8 (o6 (f8 (f8 ?_)))))
  exact a1L br rfl rfl (mS (mS m0)) ty_Binding rfl ((_, _, _), (_, _, _)) trivial rfl (J := _) (.refl _) (.inl rfl)
end Go.Proofs.YtdopeopehgdccaaGreat
