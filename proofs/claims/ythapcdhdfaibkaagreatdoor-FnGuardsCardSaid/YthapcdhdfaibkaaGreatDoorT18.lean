import Derived.Test.YthapcdhdfaibkaaGreatDoorGa
namespace Go.Proofs.YthapcdhdfaibkaaGreatDoor
open Go.RowKit
set_option linter.all false
set_option maxHeartbeats 2000000
attribute [local irreducible] Nop Yd Yp Ent Has Tr FnP FnP2 Src M5 U1 V6 W3 G3
theorem b1D {D4 : Option Addr} {H1 D5 : Nat} {j9 : List Int} {y4 : Option Addr} {B6 y5 : Nat} {f8 : List Int} {v : Int} {x : Int} (hb1 : j9.length ≤ 1000000) (hb2 : f8.length ≤ 1000000) : Tr Tryz.prog 351 [.agg #[.slice D4 H1 D5, .slice y4 B6 y5], .int .i64 v, .int .i64 x] (fun w L => Ro w L eIs [.slice D4 H1 D5] j9 ∧ Ro w L eIs [.slice y4 B6 y5] f8 ∧ I64 v ∧ I64 x) [] (κ := (SL) × (SL)) (fun k => True) (fun k => .agg #[.slice k.1.1 k.1.2.1 k.1.2.2, .slice k.2.1 k.2.2.1 k.2.2.2]) (fun k => [ow eIs [.slice k.1.1 k.1.2.1 k.1.2.2] (j9 ++ [v]), ow eIs [.slice k.2.1 k.2.2.1 k.2.2.2] (f8 ++ [x])]) := by
 refine Ti3 Tryz.func351 22 rfl fun w L hR => ?_
 obtain ⟨C7, w9, i6v, i6x⟩ := hR
 obtain ⟨rfl, a0f⟩ := C7.slen
 obtain ⟨rfl, Q7⟩ := w9.slen
 refine Ew Z2<|Est rfl (N.box (cs := [_, _]) rfl dc rfl)<|fun b3 _ => Est rfl (N.alloc ty_Binding dc)<|fun b6 _ => Eu<|Eq_<|a1X (κ := (Option Addr × Nat) × (Option Addr × Nat)) (fun _ => True) (fun kM => [(6, .pointer<|some ⟨b6, 0, none⟩)]) (fun kM => [pt b6 114 [.slice kM.1.1 (j9.length + 1) kM.1.2, .slice kM.2.1 (f8.length + 1) kM.2.2], ow eIs [.slice kM.2.1 (f8.length + 1) kM.2.2]<|f8 ++ [x], ow eIs [.slice kM.1.1 (j9.length + 1) kM.1.2]<|j9 ++ [v], pt b3 114 [.slice D4 j9.length D5, .slice y4 f8.length y5]]) ?_<|fun kM _ => ?_
 ·refine S7 [b6, b3] (fun j => !(Nat.beq j 15)) mixed<|C1 1 rfl rfl dc (C2 fo_Binding_0 ty_Is dc rfl) kr<|a0a 2 rfl rfl dc (W9 ty_Is rfl ((S3.pt (mS m0) (by simp)).sub (cs' := [_]) 0 rfl) rfl) kr<|C1 4 rfl rfl dc (O5 rfl) kr<|C1 8 rfl rfl dc (C2 fo_Binding_1 ty_Is dc rfl) kr<|a0a 9 rfl rfl dc (W9 ty_Is rfl ((S3.pt (mS m0) (by simp)).sub (cs' := [_]) 1 rfl) rfl) kr<|C1 11 rfl rfl dc (O5 rfl) kr<|b6w (i := 0) (j := 5) (l := 7) (m := 12) kr ?_ ?_ ?_ ?_
  rotate_left 4
  all_goals first
   | (refine K6 0 rfl rfl (fun _ _ => SameI.out) (Nb [] [] us_Is i7 rfl rfl) (fun b7 _ => ?_); refine Ent.drop ?_)
   | refine K6 5 rfl rfl (fun _ _ => SameI.out) (Nb [_] [_] us_Is i7 rfl rfl) (fun b12 _ => ?_)
   | (refine K6 7 rfl rfl (fun _ _ => SameI.out) (Nb [] [] us_Is i7 rfl rfl) (fun b14 _ => ?_); refine Ent.drop ?_)
   | refine K6 12 rfl rfl (fun _ _ => SameI.out) (Nb [_] [_] us_Is i7 rfl rfl) (fun b19 _ => ?_)
   | skip
  refine b6w (i := 3) (j := 5) (l := 7) (m := 12) kr ?_ ?_ ?_ ?_
  rotate_left 4
  refine a1t (i := 0) (j := 7) (l := 12) kr ?_ ?_ ?_
  rotate_left 3
  refine a1t (i := 0) (j := 5) (l := 12) kr ?_ ?_ ?_
  rotate_left 3
  refine a1t (i := 0) (j := 5) (l := 7) kr ?_ ?_ ?_
  rotate_left 3
  all_goals first
   | refine K6 3 rfl rfl (fun _ _ => SameI.out) (R1 (E := Enc.int) Plain.int us_Is i7 rfl rfl rfl C7 om om dc) (fun p10 _ => ?_)
   | refine K6 5 rfl rfl (fun _ _ => SameI.out) (Nb [_] [_] us_Is i7 rfl rfl) (fun b12 _ => ?_)
   | (refine K6 7 rfl rfl (fun _ _ => SameI.out) (Nb [] [] us_Is i7 rfl rfl) (fun b14 _ => ?_); refine Ent.drop ?_)
   | refine K6 12 rfl rfl (fun _ _ => SameI.out) (Nb [_] [_] us_Is i7 rfl rfl) (fun b19 _ => ?_)
   | (refine K6 0 rfl rfl (fun _ _ => SameI.out) (Nb [] [] us_Is i7 rfl rfl) (fun b7 _ => ?_); refine Ent.drop ?_)
   | skip
  refine a1t (i := 5) (j := 7) (l := 12) kr ?_ ?_ ?_
  rotate_left 3
  refine a1t (i := 3) (j := 7) (l := 12) kr ?_ ?_ ?_
  rotate_left 3
  refine a1t (i := 3) (j := 5) (l := 12) kr ?_ ?_ ?_
  rotate_left 3
  refine a1t (i := 3) (j := 5) (l := 7) kr ?_ ?_ ?_
  rotate_left 3
  refine a1t (i := 3) (j := 7) (l := 12) kr ?_ ?_ ?_
  rotate_left 3
  refine C5 (i := 0) (j := 12) kr ?_ ?_
  rotate_left 2
  refine C5 (i := 0) (j := 7) kr ?_ ?_
  rotate_left 2
  refine a1t (i := 3) (j := 5) (l := 12) kr ?_ ?_ ?_
  rotate_left 3
  refine C5 (i := 0) (j := 12) kr ?_ ?_
  rotate_left 2
  refine C5 (i := 0) (j := 5) kr ?_ ?_
  rotate_left 2
  refine a1t (i := 3) (j := 5) (l := 7) kr ?_ ?_ ?_
  rotate_left 3
  refine C5 (i := 0) (j := 7) kr ?_ ?_
  rotate_left 2
  refine C5 (i := 0) (j := 5) kr ?_ ?_
  rotate_left 2
  all_goals first
   | refine K6 5 rfl rfl (fun _ _ => SameI.out) (Nb [_] [_] us_Is i7 rfl rfl) (fun b12 _ => ?_)
   | (refine K6 7 rfl rfl (fun _ _ => SameI.out) (Nb [] [] us_Is i7 rfl rfl) (fun b14 _ => ?_); refine Ent.drop ?_)
   | refine K6 12 rfl rfl (fun _ _ => SameI.out) (Nb [_] [_] us_Is i7 rfl rfl) (fun b19 _ => ?_)
   | refine K6 3 rfl rfl (fun _ _ => SameI.out) (R1 (E := Enc.int) Plain.int us_Is i7 rfl rfl rfl C7 om om dc) (fun p10 _ => ?_)
   | (refine K6 0 rfl rfl (fun _ _ => SameI.out) (Nb [] [] us_Is i7 rfl rfl) (fun b7 _ => ?_); refine Ent.drop ?_)
   | skip
  refine a1t (i := 6) (j := 7) (l := 12) kr ?_ ?_ ?_
  rotate_left 3
  refine C5 (i := 5) (j := 12) kr ?_ ?_
  rotate_left 2
  refine C5 (i := 5) (j := 7) kr ?_ ?_
  rotate_left 2
  refine a1t (i := 6) (j := 7) (l := 12) kr ?_ ?_ ?_
  rotate_left 3
  refine C5 (i := 3) (j := 12) kr ?_ ?_
  rotate_left 2
  refine C5 (i := 3) (j := 7) kr ?_ ?_
  rotate_left 2
  refine C5 (i := 5) (j := 12) kr ?_ ?_
  rotate_left 2
  refine C5 (i := 3) (j := 12) kr ?_ ?_
  rotate_left 2
  refine C5 (i := 3) (j := 5) kr ?_ ?_
  rotate_left 2
  refine C5 (i := 5) (j := 7) kr ?_ ?_
  rotate_left 2
  refine C5 (i := 3) (j := 7) kr ?_ ?_
  rotate_left 2
  refine C5 (i := 3) (j := 5) kr ?_ ?_
  rotate_left 2
  refine a1t (i := 6) (j := 7) (l := 12) kr ?_ ?_ ?_
  rotate_left 3
  refine C5 (i := 3) (j := 12) kr ?_ ?_
  rotate_left 2
  refine C5 (i := 3) (j := 7) kr ?_ ?_
  rotate_left 2
  refine C5 (i := 3) (j := 12) kr ?_ ?_
  rotate_left 2
  refine K1 0 ?_
  rotate_left
  refine C5 (i := 3) (j := 7) kr ?_ ?_
  rotate_left 2
  refine K1 0 ?_
  rotate_left
  refine C5 (i := 5) (j := 12) kr ?_ ?_
  rotate_left 2
  refine C5 (i := 3) (j := 12) kr ?_ ?_
  rotate_left 2
  refine C5 (i := 3) (j := 5) kr ?_ ?_
  rotate_left 2
  refine C5 (i := 3) (j := 12) kr ?_ ?_
  rotate_left 2
  refine K1 0 ?_
  rotate_left
  refine C5 (i := 3) (j := 5) kr ?_ ?_
  rotate_left 2
  refine K1 0 ?_
  rotate_left
  refine C5 (i := 5) (j := 7) kr ?_ ?_
  rotate_left 2
  refine C5 (i := 3) (j := 7) kr ?_ ?_
  rotate_left 2
  refine C5 (i := 3) (j := 5) kr ?_ ?_
  rotate_left 2
  refine C5 (i := 3) (j := 7) kr ?_ ?_
  rotate_left 2
  refine K1 0 ?_
  rotate_left
  refine C5 (i := 3) (j := 5) kr ?_ ?_
  rotate_left 2
  refine K1 0 ?_
  rotate_left
  all_goals first
   | (refine f5 ?_; refine K6 6 rfl rfl (fun _ _ => SameI.out) (B0 (E := Enc.int) (ex := v) us_Is i7 rfl rfl rfl (Own.int i6v) rfl om om dc) (fun p13 _ => ?_))
   | (refine K6 7 rfl rfl (fun _ _ => SameI.out) (Nb [] [] us_Is i7 rfl rfl) (fun b14 _ => ?_); refine Ent.drop ?_)
   | refine K6 12 rfl rfl (fun _ _ => SameI.out) (Nb [_] [_] us_Is i7 rfl rfl) (fun b19 _ => ?_)
   | refine K6 5 rfl rfl (fun _ _ => SameI.out) (Nb [_] [_] us_Is i7 rfl rfl) (fun b12 _ => ?_)
   | (refine f5 ?_; refine f5 ?_; refine K6 6 rfl rfl (fun _ _ => SameI.out) (B0 (E := Enc.int) (ex := v) us_Is i7 rfl rfl rfl (Own.int i6v) rfl om om dc) (fun p13 _ => ?_))
   | refine K6 3 rfl rfl (fun _ _ => SameI.out) (R1 (E := Enc.int) Plain.int us_Is i7 rfl rfl rfl C7 om om dc) (fun p10 _ => ?_)
   | (refine K6 0 rfl rfl (fun _ _ => SameI.out) (Nb [] [] us_Is i7 rfl rfl) (fun b7 _ => ?_); refine Ent.drop ?_)
   | skip
  refine C5 (i := 7) (j := 12) kr ?_ ?_
  rotate_left 2
  refine C5 (i := 6) (j := 12) kr ?_ ?_
  rotate_left 2
  refine C5 (i := 6) (j := 7) kr ?_ ?_
  rotate_left 2
  refine C5 (i := 6) (j := 12) kr ?_ ?_
  rotate_left 2
  refine K1 5 ?_
  rotate_left
  refine C5 (i := 6) (j := 7) kr ?_ ?_
  rotate_left 2
  refine K1 5 ?_
  rotate_left
  refine C5 (i := 7) (j := 12) kr ?_ ?_
  rotate_left 2
  refine C5 (i := 6) (j := 12) kr ?_ ?_
  rotate_left 2
  refine C5 (i := 6) (j := 7) kr ?_ ?_
  rotate_left 2
  refine C5 (i := 6) (j := 12) kr ?_ ?_
  rotate_left 2
  refine K1 3 ?_
  rotate_left
  refine C5 (i := 6) (j := 7) kr ?_ ?_
  rotate_left 2
  refine K1 3 ?_
  rotate_left
  refine C5 (i := 6) (j := 12) kr ?_ ?_
  rotate_left 2
  refine K1 5 ?_
  rotate_left
  refine C5 (i := 6) (j := 12) kr ?_ ?_
  rotate_left 2
  refine K1 3 ?_
  rotate_left
  refine K1 5 ?_
  rotate_left
  refine K1 3 ?_
  rotate_left
  refine C5 (i := 6) (j := 7) kr ?_ ?_
  rotate_left 2
  refine K1 5 ?_
  rotate_left
  refine C5 (i := 6) (j := 7) kr ?_ ?_
  rotate_left 2
  refine K1 3 ?_
  rotate_left
  refine K1 5 ?_
  rotate_left
  refine K1 3 ?_
  rotate_left
  refine C5 (i := 7) (j := 12) kr ?_ ?_
  rotate_left 2
  refine C5 (i := 6) (j := 12) kr ?_ ?_
  rotate_left 2
  refine C5 (i := 6) (j := 7) kr ?_ ?_
  rotate_left 2
  refine C5 (i := 6) (j := 12) kr ?_ ?_
  rotate_left 2
  refine K1 3 ?_
  rotate_left
  refine C5 (i := 6) (j := 7) kr ?_ ?_
  rotate_left 2
  refine K1 3 ?_
  rotate_left
  refine C5 (i := 6) (j := 12) kr ?_ ?_
  rotate_left 2
  refine K1 3 ?_
  rotate_left
  refine K1 3 ?_
  rotate_left
  refine C5 (i := 6) (j := 7) kr ?_ ?_
  rotate_left 2
  refine K1 3 ?_
  rotate_left
  refine K1 3 ?_
  rotate_left
  refine C5 (i := 6) (j := 12) kr ?_ ?_
  rotate_left 2
  refine K1 5 ?_
  rotate_left
  refine C5 (i := 6) (j := 12) kr ?_ ?_
  rotate_left 2
  refine K1 3 ?_
  rotate_left
  refine K1 5 ?_
  rotate_left
  refine K1 3 ?_
  rotate_left
  refine C5 (i := 6) (j := 12) kr ?_ ?_
  rotate_left 2
  refine K1 3 ?_
  rotate_left
  refine K1 3 ?_
  rotate_left
  refine K1 5 ?_
  rotate_left
  refine K1 3 ?_
  rotate_left
  refine K1 3 ?_
  rotate_left
  refine C5 (i := 6) (j := 7) kr ?_ ?_
  rotate_left 2
  refine K1 5 ?_
  rotate_left
  refine C5 (i := 6) (j := 7) kr ?_ ?_
  rotate_left 2
  refine K1 3 ?_
  rotate_left
  refine K1 5 ?_
  rotate_left
  refine K1 3 ?_
  rotate_left
  refine C5 (i := 6) (j := 7) kr ?_ ?_
  rotate_left 2
  refine K1 3 ?_
  rotate_left
  refine K1 3 ?_
  rotate_left
  refine K1 5 ?_
  rotate_left
  refine K1 3 ?_
  rotate_left
  refine K1 3 ?_
  rotate_left
  all_goals first
   | (refine K6 7 rfl rfl (fun _ _ => SameI.out) (Nb [] [] us_Is i7 rfl rfl) (fun b14 _ => ?_); refine Ent.drop ?_)
   | refine K6 12 rfl rfl (fun _ _ => SameI.out) (Nb [_] [_] us_Is i7 rfl rfl) (fun b19 _ => ?_)
   | (refine f5 ?_; refine K6 6 rfl rfl (fun _ _ => SameI.out) (B0 (E := Enc.int) (ex := v) us_Is i7 rfl rfl rfl (Own.int i6v) rfl om om dc) (fun p13 _ => ?_))
   | (refine f5 ?_; refine i8 ?_; refine K6 6 rfl rfl (fun _ _ => SameI.out) (B0 (E := Enc.int) (ex := v) us_Is i7 rfl rfl rfl (Own.int i6v) rfl om om dc) (fun p13 _ => ?_))
   | refine K6 5 rfl rfl (fun _ _ => SameI.out) (Nb [_] [_] us_Is i7 rfl rfl) (fun b12 _ => ?_)
   | (refine i8 ?_; refine K6 6 rfl rfl (fun _ _ => SameI.out) (B0 (E := Enc.int) (ex := v) us_Is i7 rfl rfl rfl (Own.int i6v) rfl om om dc) (fun p13 _ => ?_))
   | (refine f5 ?_; refine f5 ?_; refine K6 6 rfl rfl (fun _ _ => SameI.out) (B0 (E := Enc.int) (ex := v) us_Is i7 rfl rfl rfl (Own.int i6v) rfl om om dc) (fun p13 _ => ?_))
   | (refine i8 ?_; refine i8 ?_; refine K6 6 rfl rfl (fun _ _ => SameI.out) (B0 (E := Enc.int) (ex := v) us_Is i7 rfl rfl rfl (Own.int i6v) rfl om om dc) (fun p13 _ => ?_))
   | refine K6 3 rfl rfl (fun _ _ => SameI.out) (R1 (E := Enc.int) Plain.int us_Is i7 rfl rfl rfl C7 om om dc) (fun p10 _ => ?_)
   | (refine i8 ?_; refine f5 ?_; refine K6 6 rfl rfl (fun _ _ => SameI.out) (B0 (E := Enc.int) (ex := v) us_Is i7 rfl rfl rfl (Own.int i6v) rfl om om dc) (fun p13 _ => ?_))
   | skip
  refine C5 (i := 10) (j := 12) kr ?_ ?_
  rotate_left 2
  refine K1 7 ?_
  rotate_left
  refine C5 (i := 10) (j := 12) kr ?_ ?_
  rotate_left 2
  refine K1 6 ?_
  rotate_left
  refine K1 7 ?_
  rotate_left
  refine K1 6 ?_
  rotate_left
  refine C5 (i := 10) (j := 12) kr ?_ ?_
  rotate_left 2
  refine K1 6 ?_
  rotate_left
  refine K1 6 ?_
  rotate_left
  refine K1 7 ?_
  rotate_left
  refine K1 6 ?_
  rotate_left
  refine K1 6 ?_
  rotate_left
  refine C5 (i := 10) (j := 12) kr ?_ ?_
  rotate_left 2
  refine K1 7 ?_
  rotate_left
  refine C5 (i := 10) (j := 12) kr ?_ ?_
  rotate_left 2
  refine K1 6 ?_
  rotate_left
  refine K1 7 ?_
  rotate_left
  refine K1 6 ?_
  rotate_left
  refine C5 (i := 10) (j := 12) kr ?_ ?_
  rotate_left 2
  refine K1 6 ?_
  rotate_left
  refine K1 6 ?_
  rotate_left
  refine K1 7 ?_
  rotate_left
  refine K1 6 ?_
  rotate_left
  refine K1 6 ?_
  rotate_left
  refine C5 (i := 10) (j := 12) kr ?_ ?_
  rotate_left 2
  refine K1 6 ?_
  rotate_left
  refine K1 6 ?_
  rotate_left
  refine C5 (i := 10) (j := 12) kr ?_ ?_
  rotate_left 2
  refine K1 6 ?_
  rotate_left
  refine K1 6 ?_
  rotate_left
  refine K1 6 ?_
  rotate_left
  refine K1 6 ?_
  rotate_left
  refine K1 7 ?_
  rotate_left
  refine K1 6 ?_
  rotate_left
  refine K1 6 ?_
  rotate_left
  refine K1 7 ?_
  rotate_left
  refine K1 6 ?_
  rotate_left
  refine K1 6 ?_
  rotate_left
  refine K1 6 ?_
  rotate_left
  refine K1 6 ?_
  rotate_left
  refine C5 (i := 10) (j := 12) kr ?_ ?_
  rotate_left 2
  refine K1 7 ?_
  rotate_left
  refine C5 (i := 10) (j := 12) kr ?_ ?_
  rotate_left 2
  refine K1 6 ?_
  rotate_left
  refine K1 7 ?_
  rotate_left
  refine K1 6 ?_
  rotate_left
  refine C5 (i := 10) (j := 12) kr ?_ ?_
  rotate_left 2
  refine K1 6 ?_
  rotate_left
  refine K1 6 ?_
  rotate_left
  refine K1 7 ?_
  rotate_left
  refine K1 6 ?_
  rotate_left
  refine K1 6 ?_
  rotate_left
  refine C5 (i := 10) (j := 12) kr ?_ ?_
  rotate_left 2
  refine K1 6 ?_
  rotate_left
  refine K1 6 ?_
  rotate_left
  refine K1 6 ?_
  rotate_left
  refine K1 7 ?_
  rotate_left
  refine K1 6 ?_
  rotate_left
  refine K1 6 ?_
  rotate_left
  refine K1 6 ?_
  rotate_left
  refine C5 (i := 10) (j := 12) kr ?_ ?_
  rotate_left 2
  refine K1 6 ?_
  rotate_left
  refine K1 6 ?_
  rotate_left
  refine C5 (i := 10) (j := 12) kr ?_ ?_
  rotate_left 2
  refine K1 6 ?_
  rotate_left
  refine K1 6 ?_
  rotate_left
  refine K1 6 ?_
  rotate_left
  refine K1 6 ?_
  rotate_left
  refine C5 (i := 10) (j := 12) kr ?_ ?_
  rotate_left 2
  refine K1 6 ?_
  rotate_left
  refine K1 6 ?_
  rotate_left
  refine K1 6 ?_
  rotate_left
  refine K1 6 ?_
  rotate_left
  refine K1 6 ?_
  rotate_left
  refine K1 6 ?_
  rotate_left
  refine K1 7 ?_
  rotate_left
  refine K1 6 ?_
  rotate_left
  refine K1 6 ?_
  rotate_left
  refine K1 7 ?_
  rotate_left
  refine K1 6 ?_
  rotate_left
  refine K1 6 ?_
  rotate_left
  refine K1 6 ?_
  rotate_left
  refine K1 6 ?_
  rotate_left
  refine K1 7 ?_
  rotate_left
  refine K1 6 ?_
  rotate_left
  refine K1 6 ?_
  rotate_left
  refine K1 6 ?_
  rotate_left
  refine K1 6 ?_
  rotate_left
  refine K1 6 ?_
  rotate_left
  refine K1 6 ?_
  rotate_left
  all_goals first
   | refine K6 10 rfl rfl (fun _ _ => SameI.out) (R1 (E := Enc.int) Plain.int us_Is i7 rfl rfl rfl w9 om om dc) (fun p17 _ => ?_)
   | refine K6 12 rfl rfl (fun _ _ => SameI.out) (Nb [_] [_] us_Is i7 rfl rfl) (fun b19 _ => ?_)
   | (refine K6 7 rfl rfl (fun _ _ => SameI.out) (Nb [] [] us_Is i7 rfl rfl) (fun b14 _ => ?_); refine Ent.drop ?_)
   | (refine f5 ?_; refine i8 ?_; refine K6 6 rfl rfl (fun _ _ => SameI.out) (B0 (E := Enc.int) (ex := v) us_Is i7 rfl rfl rfl (Own.int i6v) rfl om om dc) (fun p13 _ => ?_))
   | (refine i8 ?_; refine K6 6 rfl rfl (fun _ _ => SameI.out) (B0 (E := Enc.int) (ex := v) us_Is i7 rfl rfl rfl (Own.int i6v) rfl om om dc) (fun p13 _ => ?_))
   | (refine i8 ?_; refine i8 ?_; refine K6 6 rfl rfl (fun _ _ => SameI.out) (B0 (E := Enc.int) (ex := v) us_Is i7 rfl rfl rfl (Own.int i6v) rfl om om dc) (fun p13 _ => ?_))
   | (refine i8 ?_; refine f5 ?_; refine K6 6 rfl rfl (fun _ _ => SameI.out) (B0 (E := Enc.int) (ex := v) us_Is i7 rfl rfl rfl (Own.int i6v) rfl om om dc) (fun p13 _ => ?_))
   | (refine f5 ?_; refine K6 6 rfl rfl (fun _ _ => SameI.out) (B0 (E := Enc.int) (ex := v) us_Is i7 rfl rfl rfl (Own.int i6v) rfl om om dc) (fun p13 _ => ?_))
   | (refine f5 ?_; refine f5 ?_; refine K6 6 rfl rfl (fun _ _ => SameI.out) (B0 (E := Enc.int) (ex := v) us_Is i7 rfl rfl rfl (Own.int i6v) rfl om om dc) (fun p13 _ => ?_))
   | skip
  refine K1 12 ?_
  rotate_left
  refine K1 10 ?_
  rotate_left
  refine K1 10 ?_
  rotate_left
  refine K1 12 ?_
  rotate_left
  refine K1 10 ?_
  rotate_left
  refine K1 10 ?_
  rotate_left
  refine K1 10 ?_
  rotate_left
  refine K1 10 ?_
  rotate_left
  refine K1 12 ?_
  rotate_left
  refine K1 10 ?_
  rotate_left
  refine K1 10 ?_
  rotate_left
  refine K1 10 ?_
  rotate_left
  refine K1 10 ?_
  rotate_left
  refine K1 10 ?_
  rotate_left
  refine K1 10 ?_
  rotate_left
  refine K1 12 ?_
  rotate_left
  refine K1 10 ?_
  rotate_left
  refine K1 10 ?_
  rotate_left
  refine K1 12 ?_
  rotate_left
  refine K1 10 ?_
  rotate_left
  refine K1 10 ?_
  rotate_left
  refine K1 10 ?_
  rotate_left
  refine K1 10 ?_
  rotate_left
  refine K1 12 ?_
  rotate_left
  refine K1 10 ?_
  rotate_left
  refine K1 10 ?_
  rotate_left
  refine K1 10 ?_
  rotate_left
  refine K1 10 ?_
  rotate_left
  refine K1 10 ?_
  rotate_left
  refine K1 10 ?_
  rotate_left
  refine K1 12 ?_
  rotate_left
  refine K1 10 ?_
  rotate_left
  refine K1 10 ?_
  rotate_left
  refine K1 10 ?_
  rotate_left
  refine K1 12 ?_
  rotate_left
  refine K1 10 ?_
  rotate_left
  refine K1 10 ?_
  rotate_left
  refine K1 10 ?_
  rotate_left
  refine K1 10 ?_
  rotate_left
  refine K1 10 ?_
  rotate_left
  refine K1 10 ?_
  rotate_left
  refine K1 10 ?_
  rotate_left
  refine K1 10 ?_
  rotate_left
  refine K1 10 ?_
  rotate_left
  refine K1 10 ?_
  rotate_left
  refine K1 10 ?_
  rotate_left
  refine K1 10 ?_
  rotate_left
  refine K1 10 ?_
  rotate_left
  refine K1 12 ?_
  rotate_left
  refine K1 10 ?_
  rotate_left
  refine K1 10 ?_
  rotate_left
  refine K1 12 ?_
  rotate_left
  refine K1 10 ?_
  rotate_left
  refine K1 10 ?_
  rotate_left
  refine K1 10 ?_
  rotate_left
  refine K1 10 ?_
  rotate_left
  refine K1 12 ?_
  rotate_left
  refine K1 10 ?_
  rotate_left
  refine K1 10 ?_
  rotate_left
  refine K1 10 ?_
  rotate_left
  refine K1 10 ?_
  rotate_left
  refine K1 10 ?_
  rotate_left
  refine K1 10 ?_
  rotate_left
  refine K1 12 ?_
  rotate_left
  refine K1 10 ?_
  rotate_left
  refine K1 10 ?_
  rotate_left
  refine K1 10 ?_
  rotate_left
  refine K1 10 ?_
  rotate_left
  refine K1 10 ?_
  rotate_left
  refine K1 10 ?_
  rotate_left
  refine K1 10 ?_
  rotate_left
  refine K1 10 ?_
  rotate_left
  refine K1 12 ?_
  rotate_left
  refine K1 10 ?_
  rotate_left
  refine K1 10 ?_
  rotate_left
  refine K1 10 ?_
  rotate_left
  refine K1 12 ?_
  rotate_left
  refine K1 10 ?_
  rotate_left
  refine K1 10 ?_
  rotate_left
  refine K1 10 ?_
  rotate_left
  refine K1 10 ?_
  rotate_left
  refine K1 10 ?_
  rotate_left
  refine K1 12 ?_
  rotate_left
  refine K1 10 ?_
  rotate_left
  refine K1 10 ?_
  rotate_left
  refine K1 10 ?_
  rotate_left
  refine K1 10 ?_
  rotate_left
  refine K1 10 ?_
  rotate_left
  refine K1 10 ?_
  rotate_left
  refine K1 10 ?_
  rotate_left
  refine K1 10 ?_
  rotate_left
  refine K1 10 ?_
  rotate_left
  refine K1 10 ?_
  rotate_left
  refine K1 10 ?_
  rotate_left
  refine K1 10 ?_
  rotate_left
  refine K1 10 ?_
  rotate_left
  refine K1 10 ?_
  rotate_left
  refine K1 10 ?_
  rotate_left
  refine K1 10 ?_
  rotate_left
  refine K1 10 ?_
  rotate_left
  refine K1 10 ?_
  rotate_left
  refine K1 10 ?_
  rotate_left
  refine K1 10 ?_
  rotate_left
  refine K1 10 ?_
  rotate_left
  refine K1 10 ?_
  rotate_left
  all_goals first
   | refine K6 12 rfl rfl (fun _ _ => SameI.out) (Nb [_] [_] us_Is i7 rfl rfl) (fun b19 _ => ?_)
   | refine K6 10 rfl rfl (fun _ _ => SameI.out) (R1 (E := Enc.int) Plain.int us_Is i7 rfl rfl rfl w9 om om dc) (fun p17 _ => ?_)
   | skip
  refine K1 13 ?_
  rotate_left
  refine K1 13 ?_
  rotate_left
  refine K1 13 ?_
  rotate_left
  refine K1 13 ?_
  rotate_left
  refine K1 13 ?_
  rotate_left
  refine K1 13 ?_
  rotate_left
  refine K1 13 ?_
  rotate_left
  refine K1 13 ?_
  rotate_left
  refine K1 13 ?_
  rotate_left
  refine K1 13 ?_
  rotate_left
  refine K1 13 ?_
  rotate_left
  refine K1 13 ?_
  rotate_left
  refine K1 13 ?_
  rotate_left
  refine K1 13 ?_
  rotate_left
  refine K1 13 ?_
  rotate_left
  refine K1 13 ?_
  rotate_left
  refine K1 13 ?_
  rotate_left
  refine K1 13 ?_
  rotate_left
  refine K1 13 ?_
  rotate_left
  refine K1 13 ?_
  rotate_left
  refine K1 13 ?_
  rotate_left
  refine K1 13 ?_
  rotate_left
  refine K1 13 ?_
  rotate_left
  refine K1 13 ?_
  rotate_left
  refine K1 13 ?_
  rotate_left
  refine K1 13 ?_
  rotate_left
  refine K1 13 ?_
  rotate_left
  refine K1 13 ?_
  rotate_left
  refine K1 13 ?_
  rotate_left
  refine K1 13 ?_
  rotate_left
  refine K1 13 ?_
  rotate_left
  refine K1 13 ?_
  rotate_left
  refine K1 13 ?_
  rotate_left
  refine K1 13 ?_
  rotate_left
  refine K1 13 ?_
  rotate_left
  refine K1 13 ?_
  rotate_left
  refine K1 13 ?_
  rotate_left
  refine K1 13 ?_
  rotate_left
  refine K1 13 ?_
  rotate_left
  refine K1 13 ?_
  rotate_left
  refine K1 13 ?_
  rotate_left
  refine K1 13 ?_
  rotate_left
  refine K1 13 ?_
  rotate_left
  refine K1 13 ?_
  rotate_left
  refine K1 13 ?_
  rotate_left
  refine K1 13 ?_
  rotate_left
  refine K1 13 ?_
  rotate_left
  refine K1 13 ?_
  rotate_left
  refine K1 13 ?_
  rotate_left
  refine K1 13 ?_
  rotate_left
  refine K1 13 ?_
  rotate_left
  refine K1 13 ?_
  rotate_left
  refine K1 13 ?_
  rotate_left
  refine K1 13 ?_
  rotate_left
  refine K1 13 ?_
  rotate_left
  refine K1 13 ?_
  rotate_left
  refine K1 13 ?_
  rotate_left
  refine K1 13 ?_
  rotate_left
  refine K1 13 ?_
  rotate_left
  refine K1 13 ?_
  rotate_left
  refine K1 13 ?_
  rotate_left
  refine K1 13 ?_
  rotate_left
  refine K1 13 ?_
  rotate_left
  refine K1 13 ?_
  rotate_left
  refine K1 13 ?_
  rotate_left
  refine K1 13 ?_
  rotate_left
  refine K1 13 ?_
  rotate_left
  refine K1 13 ?_
  rotate_left
  refine K1 13 ?_
  rotate_left
  refine K1 13 ?_
  rotate_left
  refine K1 13 ?_
  rotate_left
  refine K1 13 ?_
  rotate_left
  refine K1 13 ?_
  rotate_left
  refine K1 13 ?_
  rotate_left
  refine K1 13 ?_
  rotate_left
  refine K1 13 ?_
  rotate_left
  refine K1 13 ?_
  rotate_left
  refine K1 13 ?_
  rotate_left
  refine K1 13 ?_
  rotate_left
  refine K1 13 ?_
  rotate_left
  refine K1 13 ?_
  rotate_left
  refine K1 13 ?_
  rotate_left
  refine K1 13 ?_
  rotate_left
  refine K1 13 ?_
  rotate_left
  refine K1 13 ?_
  rotate_left
  refine K1 13 ?_
  rotate_left
  refine K1 13 ?_
  rotate_left
  refine K1 13 ?_
  rotate_left
  refine K1 13 ?_
  rotate_left
  refine K1 13 ?_
  rotate_left
  refine K1 13 ?_
  rotate_left
  refine K1 13 ?_
  rotate_left
  refine K1 13 ?_
  rotate_left
  refine K1 13 ?_
  rotate_left
  refine K1 13 ?_
  rotate_left
  refine K1 13 ?_
  rotate_left
  refine K1 13 ?_
  rotate_left
  refine K1 13 ?_
  rotate_left
  refine K1 13 ?_
  rotate_left
  refine K1 13 ?_
  rotate_left
  refine K1 13 ?_
  rotate_left
  refine K1 13 ?_
  rotate_left
  refine K1 13 ?_
  rotate_left
  refine K1 13 ?_
  rotate_left
  refine K1 13 ?_
  rotate_left
  all_goals first
   | (refine f5 ?_; refine K6 13 rfl rfl (fun _ _ => SameI.out) (B0 (E := Enc.int) (ex := x) us_Is i7 rfl rfl rfl (Own.int i6x) rfl om om dc) (fun p20 _ => ?_))
   | (refine f5 ?_; refine f5 ?_; refine K6 13 rfl rfl (fun _ _ => SameI.out) (B0 (E := Enc.int) (ex := x) us_Is i7 rfl rfl rfl (Own.int i6x) rfl om om dc) (fun p20 _ => ?_))
   | (refine i8 ?_; refine f5 ?_; refine K6 13 rfl rfl (fun _ _ => SameI.out) (B0 (E := Enc.int) (ex := x) us_Is i7 rfl rfl rfl (Own.int i6x) rfl om om dc) (fun p20 _ => ?_))
   | skip
  all_goals first
   | (refine C1 14 rfl rfl dc (M4 (pvs := [_, _]) (cs := [_, _]) ty_Binding pl_Binding rfl rfl) kr ?_; refine i8 ?_; refine G2 15 rfl rfl kr (fun h => by cases h) (Ns [_, _] ty_Binding rfl) (fun _ _ => ?_); refine U6 kr (a4G ?_); refine a4G ?_; refine a4G ?_; refine a4G ?_; exact U4 (p13, p20) trivial ⟨rfl, trivial⟩ (.refl _))
 ·obtain ⟨p13, p20⟩ := kM
  try dsimp only
  refine Et<|E.ret<|f5<|i8<|f5<|f5<|S0 br rfl rfl (mS<|mS m0) ty_Binding rfl ((_, _, _), (_, _, _)) trivial rfl (J := _) (.refl _)<|.inl rfl
end Go.Proofs.YthapcdhdfaibkaaGreatDoor
