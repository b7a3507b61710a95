import Derived.Test.YtdopeopehgdccaaGreatT6
import Derived.Test.YtdopeopehgdccaaGreatEf
namespace Go.Proofs.YtdopeopehgdccaaGreat
open Go.RowKit
set_option linter.all false
set_option maxHeartbeats 2000000
attribute [local irreducible] Nop Yd Yp Ent Has Tr FnP FnP2 Src R6 a0d a0I a1c H6
theorem b1B {y6 : Option Addr} {D5 y7 : Nat} {j9 : List Int} {s4 : Option Addr} {u5 s5 : Nat} {f8 : List Int} {v : Int} {x : Int} (hb1 : j9.length ≤ 1000000) (hb2 : f8.length ≤ 1000000) : Tr Tryz.prog 248 [.agg #[.slice y6 D5 y7, .slice s4 u5 s5], .int .i64 v, .int .i64 x] (fun w L => Ro w L eIs [.slice y6 D5 y7] j9 ∧ Ro w L eIs [.slice s4 u5 s5] f8 ∧ I64 v ∧ I64 x) [] (κ := (Option Addr × Nat × Nat) × (Option Addr × Nat × Nat)) (fun k => True) (fun k => .agg #[.slice k.1.1 k.1.2.1 k.1.2.2, .slice k.2.1 k.2.2.1 k.2.2.2]) (fun k => [ow eIs [.slice k.1.1 k.1.2.1 k.1.2.2] (j9 ++ [v]), ow eIs [.slice k.2.1 k.2.2.1 k.2.2.2] (f8 ++ [x])]) := by
 refine n9 Tryz.func248 rfl (n := 22) rfl (by decide +kernel) bl (fr := [(0, .agg #[.slice y6 D5 y7, .slice s4 u5 s5]), (1, .int .i64 v), (2, .int .i64 x)]) rfl fun w L hR => ?_
 obtain ⟨E0, w4, i6v, i6x⟩ := hR
 obtain ⟨rfl, a0u⟩ := E0.slen
 obtain ⟨rfl, O3⟩ := w4.slen
 refine Ew Z2 (Est rfl (N.box (cs := [_, _]) rfl dc rfl) (fun b3 _ => (Est rfl (N.alloc ty_Binding dc) (fun b6 _ => (Eu (Eq_ (a5m (κ := (Option Addr × Nat) × (Option Addr × Nat)) (fun _ => True) (fun kM => [(6, .pointer (some ⟨b6, 0, none⟩))]) (fun kM => [pt b6 125 [.slice kM.1.1 (j9.length + 1) kM.1.2, .slice kM.2.1 (f8.length + 1) kM.2.2], ow eIs [.slice kM.2.1 (f8.length + 1) kM.2.2] (f8 ++ [x]), ow eIs [.slice kM.1.1 (j9.length + 1) kM.1.2] (j9 ++ [v]), pt b3 125 [.slice y6 j9.length y7, .slice s4 f8.length s5]]) ?_ (fun kM _ => ?_))))))))
 ·refine b1A [b6, b3] (fun j => !(Nat.beq j 15)) mixed (a1w 1 rfl rfl dc (j7 fo_Binding_0 ty_Is dc rfl) kr (b0Q 2 rfl rfl dc (a6c ty_Is rfl ((a3x.pt (mS m0) (by simp)).sub (cs' := [_]) 0 rfl) rfl) kr (a1w 4 rfl rfl dc (l3 rfl) kr (a1w 8 rfl rfl dc (j7 fo_Binding_1 ty_Is dc rfl) kr (b0Q 9 rfl rfl dc (a6c ty_Is rfl ((a3x.pt (mS m0) (by simp)).sub (cs' := [_]) 1 rfl) rfl) kr (a1w 11 rfl rfl dc (l3 rfl) kr (b5X (i := 0) (j := 5) (l := 7) (m := 12) kr ?_ ?_ ?_ ?_)))))))
  rotate_left 4
  all_goals first
   | (refine I8 0 rfl rfl (fun _ _ => SameI.out) (Nb [] [] us_Is i8 rfl rfl) (fun b7 _ => ?_); refine Ent.drop ?_)
   | refine I8 5 rfl rfl (fun _ _ => SameI.out) (Nb [_] [_] us_Is i8 rfl rfl) (fun b12 _ => ?_)
   | (refine I8 7 rfl rfl (fun _ _ => SameI.out) (Nb [] [] us_Is i8 rfl rfl) (fun b14 _ => ?_); refine Ent.drop ?_)
   | refine I8 12 rfl rfl (fun _ _ => SameI.out) (Nb [_] [_] us_Is i8 rfl rfl) (fun b19 _ => ?_)
   | skip
  refine b5X (i := 3) (j := 5) (l := 7) (m := 12) kr ?_ ?_ ?_ ?_
  rotate_left 4
  refine a1N (i := 0) (j := 7) (l := 12) kr ?_ ?_ ?_
  rotate_left 3
  refine a1N (i := 0) (j := 5) (l := 12) kr ?_ ?_ ?_
  rotate_left 3
  refine a1N (i := 0) (j := 5) (l := 7) kr ?_ ?_ ?_
  rotate_left 3
  all_goals first
   | refine I8 3 rfl rfl (fun _ _ => SameI.out) (O6 (E := Enc.int) Plain.int us_Is i8 rfl rfl rfl E0 om om dc) (fun p10 _ => ?_)
   | refine I8 5 rfl rfl (fun _ _ => SameI.out) (Nb [_] [_] us_Is i8 rfl rfl) (fun b12 _ => ?_)
   | (refine I8 7 rfl rfl (fun _ _ => SameI.out) (Nb [] [] us_Is i8 rfl rfl) (fun b14 _ => ?_); refine Ent.drop ?_)
   | refine I8 12 rfl rfl (fun _ _ => SameI.out) (Nb [_] [_] us_Is i8 rfl rfl) (fun b19 _ => ?_)
   | (refine I8 0 rfl rfl (fun _ _ => SameI.out) (Nb [] [] us_Is i8 rfl rfl) (fun b7 _ => ?_); refine Ent.drop ?_)
   | skip
  refine a1N (i := 5) (j := 7) (l := 12) kr ?_ ?_ ?_
  rotate_left 3
  refine a1N (i := 3) (j := 7) (l := 12) kr ?_ ?_ ?_
  rotate_left 3
  refine a1N (i := 3) (j := 5) (l := 12) kr ?_ ?_ ?_
  rotate_left 3
  refine a1N (i := 3) (j := 5) (l := 7) kr ?_ ?_ ?_
  rotate_left 3
  refine a1N (i := 3) (j := 7) (l := 12) kr ?_ ?_ ?_
  rotate_left 3
  refine C0 (i := 0) (j := 12) kr ?_ ?_
  rotate_left 2
  refine C0 (i := 0) (j := 7) kr ?_ ?_
  rotate_left 2
  refine a1N (i := 3) (j := 5) (l := 12) kr ?_ ?_ ?_
  rotate_left 3
  refine C0 (i := 0) (j := 12) kr ?_ ?_
  rotate_left 2
  refine C0 (i := 0) (j := 5) kr ?_ ?_
  rotate_left 2
  refine a1N (i := 3) (j := 5) (l := 7) kr ?_ ?_ ?_
  rotate_left 3
  refine C0 (i := 0) (j := 7) kr ?_ ?_
  rotate_left 2
  refine C0 (i := 0) (j := 5) kr ?_ ?_
  rotate_left 2
  all_goals first
   | refine I8 5 rfl rfl (fun _ _ => SameI.out) (Nb [_] [_] us_Is i8 rfl rfl) (fun b12 _ => ?_)
   | (refine I8 7 rfl rfl (fun _ _ => SameI.out) (Nb [] [] us_Is i8 rfl rfl) (fun b14 _ => ?_); refine Ent.drop ?_)
   | refine I8 12 rfl rfl (fun _ _ => SameI.out) (Nb [_] [_] us_Is i8 rfl rfl) (fun b19 _ => ?_)
   | refine I8 3 rfl rfl (fun _ _ => SameI.out) (O6 (E := Enc.int) Plain.int us_Is i8 rfl rfl rfl E0 om om dc) (fun p10 _ => ?_)
   | (refine I8 0 rfl rfl (fun _ _ => SameI.out) (Nb [] [] us_Is i8 rfl rfl) (fun b7 _ => ?_); refine Ent.drop ?_)
   | skip
  refine a1N (i := 6) (j := 7) (l := 12) kr ?_ ?_ ?_
  rotate_left 3
  refine C0 (i := 5) (j := 12) kr ?_ ?_
  rotate_left 2
  refine C0 (i := 5) (j := 7) kr ?_ ?_
  rotate_left 2
  refine a1N (i := 6) (j := 7) (l := 12) kr ?_ ?_ ?_
  rotate_left 3
  refine C0 (i := 3) (j := 12) kr ?_ ?_
  rotate_left 2
  refine C0 (i := 3) (j := 7) kr ?_ ?_
  rotate_left 2
  refine C0 (i := 5) (j := 12) kr ?_ ?_
  rotate_left 2
  refine C0 (i := 3) (j := 12) kr ?_ ?_
  rotate_left 2
  refine C0 (i := 3) (j := 5) kr ?_ ?_
  rotate_left 2
  refine C0 (i := 5) (j := 7) kr ?_ ?_
  rotate_left 2
  refine C0 (i := 3) (j := 7) kr ?_ ?_
  rotate_left 2
  refine C0 (i := 3) (j := 5) kr ?_ ?_
  rotate_left 2
  refine a1N (i := 6) (j := 7) (l := 12) kr ?_ ?_ ?_
  rotate_left 3
  refine C0 (i := 3) (j := 12) kr ?_ ?_
  rotate_left 2
  refine C0 (i := 3) (j := 7) kr ?_ ?_
  rotate_left 2
  refine C0 (i := 3) (j := 12) kr ?_ ?_
  rotate_left 2
  refine K1 0 ?_
  rotate_left
  refine C0 (i := 3) (j := 7) kr ?_ ?_
  rotate_left 2
  refine K1 0 ?_
  rotate_left
  refine C0 (i := 5) (j := 12) kr ?_ ?_
  rotate_left 2
  refine C0 (i := 3) (j := 12) kr ?_ ?_
  rotate_left 2
  refine C0 (i := 3) (j := 5) kr ?_ ?_
  rotate_left 2
  refine C0 (i := 3) (j := 12) kr ?_ ?_
  rotate_left 2
  refine K1 0 ?_
  rotate_left
  refine C0 (i := 3) (j := 5) kr ?_ ?_
  rotate_left 2
  refine K1 0 ?_
  rotate_left
  refine C0 (i := 5) (j := 7) kr ?_ ?_
  rotate_left 2
  refine C0 (i := 3) (j := 7) kr ?_ ?_
  rotate_left 2
  refine C0 (i := 3) (j := 5) kr ?_ ?_
  rotate_left 2
  refine C0 (i := 3) (j := 7) kr ?_ ?_
  rotate_left 2
  refine K1 0 ?_
  rotate_left
  refine C0 (i := 3) (j := 5) kr ?_ ?_
  rotate_left 2
  refine K1 0 ?_
  rotate_left
  all_goals first
   | (refine i7 ?_; refine I8 6 rfl rfl (fun _ _ => SameI.out) (D6 (E := Enc.int) (ex := v) us_Is i8 rfl rfl rfl (Own.int i6v) rfl om om dc) (fun p13 _ => ?_))
   | (refine I8 7 rfl rfl (fun _ _ => SameI.out) (Nb [] [] us_Is i8 rfl rfl) (fun b14 _ => ?_); refine Ent.drop ?_)
   | refine I8 12 rfl rfl (fun _ _ => SameI.out) (Nb [_] [_] us_Is i8 rfl rfl) (fun b19 _ => ?_)
   | refine I8 5 rfl rfl (fun _ _ => SameI.out) (Nb [_] [_] us_Is i8 rfl rfl) (fun b12 _ => ?_)
   | (refine i7 ?_; refine i7 ?_; refine I8 6 rfl rfl (fun _ _ => SameI.out) (D6 (E := Enc.int) (ex := v) us_Is i8 rfl rfl rfl (Own.int i6v) rfl om om dc) (fun p13 _ => ?_))
   | refine I8 3 rfl rfl (fun _ _ => SameI.out) (O6 (E := Enc.int) Plain.int us_Is i8 rfl rfl rfl E0 om om dc) (fun p10 _ => ?_)
   | (refine I8 0 rfl rfl (fun _ _ => SameI.out) (Nb [] [] us_Is i8 rfl rfl) (fun b7 _ => ?_); refine Ent.drop ?_)
   | skip
  refine C0 (i := 7) (j := 12) kr ?_ ?_
  rotate_left 2
  refine C0 (i := 6) (j := 12) kr ?_ ?_
  rotate_left 2
  refine C0 (i := 6) (j := 7) kr ?_ ?_
  rotate_left 2
  refine C0 (i := 6) (j := 12) kr ?_ ?_
  rotate_left 2
  refine K1 5 ?_
  rotate_left
  refine C0 (i := 6) (j := 7) kr ?_ ?_
  rotate_left 2
  refine K1 5 ?_
  rotate_left
  refine C0 (i := 7) (j := 12) kr ?_ ?_
  rotate_left 2
  refine C0 (i := 6) (j := 12) kr ?_ ?_
  rotate_left 2
  refine C0 (i := 6) (j := 7) kr ?_ ?_
  rotate_left 2
  refine C0 (i := 6) (j := 12) kr ?_ ?_
  rotate_left 2
  refine K1 3 ?_
  rotate_left
  refine C0 (i := 6) (j := 7) kr ?_ ?_
  rotate_left 2
  refine K1 3 ?_
  rotate_left
  refine C0 (i := 6) (j := 12) kr ?_ ?_
  rotate_left 2
  refine K1 5 ?_
  rotate_left
  refine C0 (i := 6) (j := 12) kr ?_ ?_
  rotate_left 2
  refine K1 3 ?_
  rotate_left
  refine K1 5 ?_
  rotate_left
  refine K1 3 ?_
  rotate_left
  refine C0 (i := 6) (j := 7) kr ?_ ?_
  rotate_left 2
  refine K1 5 ?_
  rotate_left
  refine C0 (i := 6) (j := 7) kr ?_ ?_
  rotate_left 2
  refine K1 3 ?_
  rotate_left
  refine K1 5 ?_
  rotate_left
  refine K1 3 ?_
  rotate_left
  refine C0 (i := 7) (j := 12) kr ?_ ?_
  rotate_left 2
  refine C0 (i := 6) (j := 12) kr ?_ ?_
  rotate_left 2
  refine C0 (i := 6) (j := 7) kr ?_ ?_
  rotate_left 2
  refine C0 (i := 6) (j := 12) kr ?_ ?_
  rotate_left 2
  refine K1 3 ?_
  rotate_left
  refine C0 (i := 6) (j := 7) kr ?_ ?_
  rotate_left 2
  refine K1 3 ?_
  rotate_left
  refine C0 (i := 6) (j := 12) kr ?_ ?_
  rotate_left 2
  refine K1 3 ?_
  rotate_left
  refine K1 3 ?_
  rotate_left
  refine C0 (i := 6) (j := 7) kr ?_ ?_
  rotate_left 2
  refine K1 3 ?_
  rotate_left
  refine K1 3 ?_
  rotate_left
  refine C0 (i := 6) (j := 12) kr ?_ ?_
  rotate_left 2
  refine K1 5 ?_
  rotate_left
  refine C0 (i := 6) (j := 12) kr ?_ ?_
  rotate_left 2
  refine K1 3 ?_
  rotate_left
  refine K1 5 ?_
  rotate_left
  refine K1 3 ?_
  rotate_left
  refine C0 (i := 6) (j := 12) kr ?_ ?_
  rotate_left 2
  refine K1 3 ?_
  rotate_left
  refine K1 3 ?_
  rotate_left
  refine K1 5 ?_
  rotate_left
  refine K1 3 ?_
  rotate_left
  refine K1 3 ?_
  rotate_left
  refine C0 (i := 6) (j := 7) kr ?_ ?_
  rotate_left 2
  refine K1 5 ?_
  rotate_left
  refine C0 (i := 6) (j := 7) kr ?_ ?_
  rotate_left 2
  refine K1 3 ?_
  rotate_left
  refine K1 5 ?_
  rotate_left
  refine K1 3 ?_
  rotate_left
  refine C0 (i := 6) (j := 7) kr ?_ ?_
  rotate_left 2
  refine K1 3 ?_
  rotate_left
  refine K1 3 ?_
  rotate_left
  refine K1 5 ?_
  rotate_left
  refine K1 3 ?_
  rotate_left
  refine K1 3 ?_
  rotate_left
  all_goals first
   | (refine I8 7 rfl rfl (fun _ _ => SameI.out) (Nb [] [] us_Is i8 rfl rfl) (fun b14 _ => ?_); refine Ent.drop ?_)
   | refine I8 12 rfl rfl (fun _ _ => SameI.out) (Nb [_] [_] us_Is i8 rfl rfl) (fun b19 _ => ?_)
   | (refine i7 ?_; refine I8 6 rfl rfl (fun _ _ => SameI.out) (D6 (E := Enc.int) (ex := v) us_Is i8 rfl rfl rfl (Own.int i6v) rfl om om dc) (fun p13 _ => ?_))
   | (refine i7 ?_; refine r5 ?_; refine I8 6 rfl rfl (fun _ _ => SameI.out) (D6 (E := Enc.int) (ex := v) us_Is i8 rfl rfl rfl (Own.int i6v) rfl om om dc) (fun p13 _ => ?_))
   | refine I8 5 rfl rfl (fun _ _ => SameI.out) (Nb [_] [_] us_Is i8 rfl rfl) (fun b12 _ => ?_)
   | (refine r5 ?_; refine I8 6 rfl rfl (fun _ _ => SameI.out) (D6 (E := Enc.int) (ex := v) us_Is i8 rfl rfl rfl (Own.int i6v) rfl om om dc) (fun p13 _ => ?_))
   | (refine i7 ?_; refine i7 ?_; refine I8 6 rfl rfl (fun _ _ => SameI.out) (D6 (E := Enc.int) (ex := v) us_Is i8 rfl rfl rfl (Own.int i6v) rfl om om dc) (fun p13 _ => ?_))
   | (refine r5 ?_; refine r5 ?_; refine I8 6 rfl rfl (fun _ _ => SameI.out) (D6 (E := Enc.int) (ex := v) us_Is i8 rfl rfl rfl (Own.int i6v) rfl om om dc) (fun p13 _ => ?_))
   | refine I8 3 rfl rfl (fun _ _ => SameI.out) (O6 (E := Enc.int) Plain.int us_Is i8 rfl rfl rfl E0 om om dc) (fun p10 _ => ?_)
   | (refine r5 ?_; refine i7 ?_; refine I8 6 rfl rfl (fun _ _ => SameI.out) (D6 (E := Enc.int) (ex := v) us_Is i8 rfl rfl rfl (Own.int i6v) rfl om om dc) (fun p13 _ => ?_))
   | skip
  refine C0 (i := 10) (j := 12) kr ?_ ?_
  rotate_left 2
  refine K1 7 ?_
  rotate_left
  refine C0 (i := 10) (j := 12) kr ?_ ?_
  rotate_left 2
  refine K1 6 ?_
  rotate_left
  refine K1 7 ?_
  rotate_left
  refine K1 6 ?_
  rotate_left
  refine C0 (i := 10) (j := 12) kr ?_ ?_
  rotate_left 2
  refine K1 6 ?_
  rotate_left
  refine K1 6 ?_
  rotate_left
  refine K1 7 ?_
  rotate_left
  refine K1 6 ?_
  rotate_left
  refine K1 6 ?_
  rotate_left
  refine C0 (i := 10) (j := 12) kr ?_ ?_
  rotate_left 2
  refine K1 7 ?_
  rotate_left
  refine C0 (i := 10) (j := 12) kr ?_ ?_
  rotate_left 2
  refine K1 6 ?_
  rotate_left
  refine K1 7 ?_
  rotate_left
  refine K1 6 ?_
  rotate_left
  refine C0 (i := 10) (j := 12) kr ?_ ?_
  rotate_left 2
  refine K1 6 ?_
  rotate_left
  refine K1 6 ?_
  rotate_left
  refine K1 7 ?_
  rotate_left
  refine K1 6 ?_
  rotate_left
  refine K1 6 ?_
  rotate_left
  refine C0 (i := 10) (j := 12) kr ?_ ?_
  rotate_left 2
  refine K1 6 ?_
  rotate_left
  refine K1 6 ?_
  rotate_left
  refine C0 (i := 10) (j := 12) kr ?_ ?_
  rotate_left 2
  refine K1 6 ?_
  rotate_left
  refine K1 6 ?_
  rotate_left
  refine K1 6 ?_
  rotate_left
  refine K1 6 ?_
  rotate_left
  refine K1 7 ?_
  rotate_left
  refine K1 6 ?_
  rotate_left
  refine K1 6 ?_
  rotate_left
  refine K1 7 ?_
  rotate_left
  refine K1 6 ?_
  rotate_left
  refine K1 6 ?_
  rotate_left
  refine K1 6 ?_
  rotate_left
  refine K1 6 ?_
  rotate_left
  refine C0 (i := 10) (j := 12) kr ?_ ?_
  rotate_left 2
  refine K1 7 ?_
  rotate_left
  refine C0 (i := 10) (j := 12) kr ?_ ?_
  rotate_left 2
  refine K1 6 ?_
  rotate_left
  refine K1 7 ?_
  rotate_left
  refine K1 6 ?_
  rotate_left
  refine C0 (i := 10) (j := 12) kr ?_ ?_
  rotate_left 2
  refine K1 6 ?_
  rotate_left
  refine K1 6 ?_
  rotate_left
  refine K1 7 ?_
  rotate_left
  refine K1 6 ?_
  rotate_left
  refine K1 6 ?_
  rotate_left
  refine C0 (i := 10) (j := 12) kr ?_ ?_
  rotate_left 2
  refine K1 6 ?_
  rotate_left
  refine K1 6 ?_
  rotate_left
  refine K1 6 ?_
  rotate_left
  refine K1 7 ?_
  rotate_left
  refine K1 6 ?_
  rotate_left
  refine K1 6 ?_
  rotate_left
  refine K1 6 ?_
  rotate_left
  refine C0 (i := 10) (j := 12) kr ?_ ?_
  rotate_left 2
  refine K1 6 ?_
  rotate_left
  refine K1 6 ?_
  rotate_left
  refine C0 (i := 10) (j := 12) kr ?_ ?_
  rotate_left 2
  refine K1 6 ?_
  rotate_left
  refine K1 6 ?_
  rotate_left
  refine K1 6 ?_
  rotate_left
  refine K1 6 ?_
  rotate_left
  refine C0 (i := 10) (j := 12) kr ?_ ?_
  rotate_left 2
  refine K1 6 ?_
  rotate_left
  refine K1 6 ?_
  rotate_left
  refine K1 6 ?_
  rotate_left
  refine K1 6 ?_
  rotate_left
  refine K1 6 ?_
  rotate_left
  refine K1 6 ?_
  rotate_left
  refine K1 7 ?_
  rotate_left
  refine K1 6 ?_
  rotate_left
  refine K1 6 ?_
  rotate_left
  refine K1 7 ?_
  rotate_left
  refine K1 6 ?_
  rotate_left
  refine K1 6 ?_
  rotate_left
  refine K1 6 ?_
  rotate_left
  refine K1 6 ?_
  rotate_left
  refine K1 7 ?_
  rotate_left
  refine K1 6 ?_
  rotate_left
  refine K1 6 ?_
  rotate_left
  refine K1 6 ?_
  rotate_left
  refine K1 6 ?_
  rotate_left
  refine K1 6 ?_
  rotate_left
  refine K1 6 ?_
  rotate_left
  all_goals first
   | refine I8 10 rfl rfl (fun _ _ => SameI.out) (O6 (E := Enc.int) Plain.int us_Is i8 rfl rfl rfl w4 om om dc) (fun p17 _ => ?_)
   | refine I8 12 rfl rfl (fun _ _ => SameI.out) (Nb [_] [_] us_Is i8 rfl rfl) (fun b19 _ => ?_)
   | (refine I8 7 rfl rfl (fun _ _ => SameI.out) (Nb [] [] us_Is i8 rfl rfl) (fun b14 _ => ?_); refine Ent.drop ?_)
   | (refine i7 ?_; refine r5 ?_; refine I8 6 rfl rfl (fun _ _ => SameI.out) (D6 (E := Enc.int) (ex := v) us_Is i8 rfl rfl rfl (Own.int i6v) rfl om om dc) (fun p13 _ => ?_))
   | (refine r5 ?_; refine I8 6 rfl rfl (fun _ _ => SameI.out) (D6 (E := Enc.int) (ex := v) us_Is i8 rfl rfl rfl (Own.int i6v) rfl om om dc) (fun p13 _ => ?_))
   | (refine r5 ?_; refine r5 ?_; refine I8 6 rfl rfl (fun _ _ => SameI.out) (D6 (E := Enc.int) (ex := v) us_Is i8 rfl rfl rfl (Own.int i6v) rfl om om dc) (fun p13 _ => ?_))
   | (refine r5 ?_; refine i7 ?_; refine I8 6 rfl rfl (fun _ _ => SameI.out) (D6 (E := Enc.int) (ex := v) us_Is i8 rfl rfl rfl (Own.int i6v) rfl om om dc) (fun p13 _ => ?_))
   | (refine i7 ?_; refine I8 6 rfl rfl (fun _ _ => SameI.out) (D6 (E := Enc.int) (ex := v) us_Is i8 rfl rfl rfl (Own.int i6v) rfl om om dc) (fun p13 _ => ?_))
   | (refine i7 ?_; refine i7 ?_; refine I8 6 rfl rfl (fun _ _ => SameI.out) (D6 (E := Enc.int) (ex := v) us_Is i8 rfl rfl rfl (Own.int i6v) rfl om om dc) (fun p13 _ => ?_))
   | skip
  refine K1 12 ?_
  rotate_left
  refine K1 10 ?_
  rotate_left
  refine K1 10 ?_
  rotate_left
  refine K1 12 ?_
  rotate_left
  refine K1 10 ?_
  rotate_left
  refine K1 10 ?_
  rotate_left
  refine K1 10 ?_
  rotate_left
  refine K1 10 ?_
  rotate_left
  refine K1 12 ?_
  rotate_left
  refine K1 10 ?_
  rotate_left
  refine K1 10 ?_
  rotate_left
  refine K1 10 ?_
  rotate_left
  refine K1 10 ?_
  rotate_left
  refine K1 10 ?_
  rotate_left
  refine K1 10 ?_
  rotate_left
  refine K1 12 ?_
  rotate_left
  refine K1 10 ?_
  rotate_left
  refine K1 10 ?_
  rotate_left
  refine K1 12 ?_
  rotate_left
  refine K1 10 ?_
  rotate_left
  refine K1 10 ?_
  rotate_left
  refine K1 10 ?_
  rotate_left
  refine K1 10 ?_
  rotate_left
  refine K1 12 ?_
  rotate_left
  refine K1 10 ?_
  rotate_left
  refine K1 10 ?_
  rotate_left
  refine K1 10 ?_
  rotate_left
  refine K1 10 ?_
  rotate_left
  refine K1 10 ?_
  rotate_left
  refine K1 10 ?_
  rotate_left
  refine K1 12 ?_
  rotate_left
  refine K1 10 ?_
  rotate_left
  refine K1 10 ?_
  rotate_left
  refine K1 10 ?_
  rotate_left
  refine K1 12 ?_
  rotate_left
  refine K1 10 ?_
  rotate_left
  refine K1 10 ?_
  rotate_left
  refine K1 10 ?_
  rotate_left
  refine K1 10 ?_
  rotate_left
  refine K1 10 ?_
  rotate_left
  refine K1 10 ?_
  rotate_left
  refine K1 10 ?_
  rotate_left
  refine K1 10 ?_
  rotate_left
  refine K1 10 ?_
  rotate_left
  refine K1 10 ?_
  rotate_left
  refine K1 10 ?_
  rotate_left
  refine K1 10 ?_
  rotate_left
  refine K1 10 ?_
  rotate_left
  refine K1 12 ?_
  rotate_left
  refine K1 10 ?_
  rotate_left
  refine K1 10 ?_
  rotate_left
  refine K1 12 ?_
  rotate_left
  refine K1 10 ?_
  rotate_left
  refine K1 10 ?_
  rotate_left
  refine K1 10 ?_
  rotate_left
  refine K1 10 ?_
  rotate_left
  refine K1 12 ?_
  rotate_left
  refine K1 10 ?_
  rotate_left
  refine K1 10 ?_
  rotate_left
  refine K1 10 ?_
  rotate_left
  refine K1 10 ?_
  rotate_left
  refine K1 10 ?_
  rotate_left
  refine K1 10 ?_
  rotate_left
  refine K1 12 ?_
  rotate_left
  refine K1 10 ?_
  rotate_left
  refine K1 10 ?_
  rotate_left
  refine K1 10 ?_
  rotate_left
  refine K1 10 ?_
  rotate_left
  refine K1 10 ?_
  rotate_left
  refine K1 10 ?_
  rotate_left
  refine K1 10 ?_
  rotate_left
  refine K1 10 ?_
  rotate_left
  refine K1 12 ?_
  rotate_left
  refine K1 10 ?_
  rotate_left
  refine K1 10 ?_
  rotate_left
  refine K1 10 ?_
  rotate_left
  refine K1 12 ?_
  rotate_left
  refine K1 10 ?_
  rotate_left
  refine K1 10 ?_
  rotate_left
  refine K1 10 ?_
  rotate_left
  refine K1 10 ?_
  rotate_left
  refine K1 10 ?_
  rotate_left
  refine K1 12 ?_
  rotate_left
  refine K1 10 ?_
  rotate_left
  refine K1 10 ?_
  rotate_left
  refine K1 10 ?_
  rotate_left
  refine K1 10 ?_
  rotate_left
  refine K1 10 ?_
  rotate_left
  refine K1 10 ?_
  rotate_left
  refine K1 10 ?_
  rotate_left
  refine K1 10 ?_
  rotate_left
  refine K1 10 ?_
  rotate_left
  refine K1 10 ?_
  rotate_left
  refine K1 10 ?_
  rotate_left
  refine K1 10 ?_
  rotate_left
  refine K1 10 ?_
  rotate_left
  refine K1 10 ?_
  rotate_left
  refine K1 10 ?_
  rotate_left
  refine K1 10 ?_
  rotate_left
  refine K1 10 ?_
  rotate_left
  refine K1 10 ?_
  rotate_left
  refine K1 10 ?_
  rotate_left
  refine K1 10 ?_
  rotate_left
  refine K1 10 ?_
  rotate_left
  refine K1 10 ?_
  rotate_left
  all_goals first
   | refine I8 12 rfl rfl (fun _ _ => SameI.out) (Nb [_] [_] us_Is i8 rfl rfl) (fun b19 _ => ?_)
   | refine I8 10 rfl rfl (fun _ _ => SameI.out) (O6 (E := Enc.int) Plain.int us_Is i8 rfl rfl rfl w4 om om dc) (fun p17 _ => ?_)
   | skip
  refine K1 13 ?_
  rotate_left
  refine K1 13 ?_
  rotate_left
  refine K1 13 ?_
  rotate_left
  refine K1 13 ?_
  rotate_left
  refine K1 13 ?_
  rotate_left
  refine K1 13 ?_
  rotate_left
  refine K1 13 ?_
  rotate_left
  refine K1 13 ?_
  rotate_left
  refine K1 13 ?_
  rotate_left
  refine K1 13 ?_
  rotate_left
  refine K1 13 ?_
  rotate_left
  refine K1 13 ?_
  rotate_left
  refine K1 13 ?_
  rotate_left
  refine K1 13 ?_
  rotate_left
  refine K1 13 ?_
  rotate_left
  refine K1 13 ?_
  rotate_left
  refine K1 13 ?_
  rotate_left
  refine K1 13 ?_
  rotate_left
  refine K1 13 ?_
  rotate_left
  refine K1 13 ?_
  rotate_left
  refine K1 13 ?_
  rotate_left
  refine K1 13 ?_
  rotate_left
  refine K1 13 ?_
  rotate_left
  refine K1 13 ?_
  rotate_left
  refine K1 13 ?_
  rotate_left
  refine K1 13 ?_
  rotate_left
  refine K1 13 ?_
  rotate_left
  refine K1 13 ?_
  rotate_left
  refine K1 13 ?_
  rotate_left
  refine K1 13 ?_
  rotate_left
  refine K1 13 ?_
  rotate_left
  refine K1 13 ?_
  rotate_left
  refine K1 13 ?_
  rotate_left
  refine K1 13 ?_
  rotate_left
  refine K1 13 ?_
  rotate_left
  refine K1 13 ?_
  rotate_left
  refine K1 13 ?_
  rotate_left
  refine K1 13 ?_
  rotate_left
  refine K1 13 ?_
  rotate_left
  refine K1 13 ?_
  rotate_left
  refine K1 13 ?_
  rotate_left
  refine K1 13 ?_
  rotate_left
  refine K1 13 ?_
  rotate_left
  refine K1 13 ?_
  rotate_left
  refine K1 13 ?_
  rotate_left
  refine K1 13 ?_
  rotate_left
  refine K1 13 ?_
  rotate_left
  refine K1 13 ?_
  rotate_left
  refine K1 13 ?_
  rotate_left
  refine K1 13 ?_
  rotate_left
  refine K1 13 ?_
  rotate_left
  refine K1 13 ?_
  rotate_left
  refine K1 13 ?_
  rotate_left
  refine K1 13 ?_
  rotate_left
  refine K1 13 ?_
  rotate_left
  refine K1 13 ?_
  rotate_left
  refine K1 13 ?_
  rotate_left
  refine K1 13 ?_
  rotate_left
  refine K1 13 ?_
  rotate_left
  refine K1 13 ?_
  rotate_left
  refine K1 13 ?_
  rotate_left
  refine K1 13 ?_
  rotate_left
  refine K1 13 ?_
  rotate_left
  refine K1 13 ?_
  rotate_left
  refine K1 13 ?_
  rotate_left
  refine K1 13 ?_
  rotate_left
  refine K1 13 ?_
  rotate_left
  refine K1 13 ?_
  rotate_left
  refine K1 13 ?_
  rotate_left
  refine K1 13 ?_
  rotate_left
  refine K1 13 ?_
  rotate_left
  refine K1 13 ?_
  rotate_left
  refine K1 13 ?_
  rotate_left
  refine K1 13 ?_
  rotate_left
  refine K1 13 ?_
  rotate_left
  refine K1 13 ?_
  rotate_left
  refine K1 13 ?_
  rotate_left
  refine K1 13 ?_
  rotate_left
  refine K1 13 ?_
  rotate_left
  refine K1 13 ?_
  rotate_left
  refine K1 13 ?_
  rotate_left
  refine K1 13 ?_
  rotate_left
  refine K1 13 ?_
  rotate_left
  refine K1 13 ?_
  rotate_left
  refine K1 13 ?_
  rotate_left
  refine K1 13 ?_
  rotate_left
  refine K1 13 ?_
  rotate_left
  refine K1 13 ?_
  rotate_left
  refine K1 13 ?_
  rotate_left
  refine K1 13 ?_
  rotate_left
  refine K1 13 ?_
  rotate_left
  refine K1 13 ?_
  rotate_left
  refine K1 13 ?_
  rotate_left
  refine K1 13 ?_
  rotate_left
  refine K1 13 ?_
  rotate_left
  refine K1 13 ?_
  rotate_left
  refine K1 13 ?_
  rotate_left
  refine K1 13 ?_
  rotate_left
  refine K1 13 ?_
  rotate_left
  refine K1 13 ?_
  rotate_left
  refine K1 13 ?_
  rotate_left
  refine K1 13 ?_
  rotate_left
  refine K1 13 ?_
  rotate_left
  refine K1 13 ?_
  rotate_left
  refine K1 13 ?_
  rotate_left
  all_goals first
   | (refine i7 ?_; refine I8 13 rfl rfl (fun _ _ => SameI.out) (D6 (E := Enc.int) (ex := x) us_Is i8 rfl rfl rfl (Own.int i6x) rfl om om dc) (fun p20 _ => ?_))
   | (refine i7 ?_; refine i7 ?_; refine I8 13 rfl rfl (fun _ _ => SameI.out) (D6 (E := Enc.int) (ex := x) us_Is i8 rfl rfl rfl (Own.int i6x) rfl om om dc) (fun p20 _ => ?_))
   | (refine r5 ?_; refine i7 ?_; refine I8 13 rfl rfl (fun _ _ => SameI.out) (D6 (E := Enc.int) (ex := x) us_Is i8 rfl rfl rfl (Own.int i6x) rfl om om dc) (fun p20 _ => ?_))
   | skip
  all_goals first
   | (refine a1w 14 rfl rfl dc (Q3 (pvs := [_, _]) (cs := [_, _]) ty_Binding pl_Binding rfl rfl) kr ?_; refine r5 ?_; refine a2q 15 rfl rfl kr (fun h => by cases h) (Ns [_, _] ty_Binding rfl) (fun _ _ => ?_); refine a8a kr (w7 ?_); refine w7 ?_; refine w7 ?_; refine w7 ?_; exact a1m (p13, p20) trivial ⟨rfl, trivial⟩ (.refl _))
 ·obtain ⟨p13, p20⟩ := kM
  try dsimp only
  refine Et (E.ret (i7 (r5 (i7 (i7 ?_)))))
  exact a2k br rfl rfl (mS (mS m0)) ty_Binding rfl ((_, _, _), (_, _, _)) trivial rfl (J := _) (.refl _) (.inl rfl)
end Go.Proofs.YtdopeopehgdccaaGreat
