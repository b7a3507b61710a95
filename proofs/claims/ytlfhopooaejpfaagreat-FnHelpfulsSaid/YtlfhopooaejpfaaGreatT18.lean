import Derived.Test.YtlfhopooaejpfaaGreatT6
import Derived.Test.YtlfhopooaejpfaaGreatEn
namespace Go.Proofs.YtlfhopooaejpfaaGreat
open Go.RowKit
set_option linter.all false
set_option maxHeartbeats 2000000
attribute [local irreducible] Nop Yd Yp Ent Has Tr FnP FnP2 Src o6 d7 O0 a0h H2
theorem a6Y {E3 : Option Addr} {G7 s4 : Nat} {j8 : List Int} {y8 : Option Addr} {B8 y7 : Nat} {f8 : List Int} {v : Int} {x : Int} (hb1 : j8.length ≤ 1000000) (hb2 : f8.length ≤ 1000000) : Tr Tryz.prog 161 [.agg #[.slice E3 G7 s4, .slice y8 B8 y7], .int .i64 v, .int .i64 x] (fun w L => Ro w L eIs [.slice E3 G7 s4] j8 ∧ Ro w L eIs [.slice y8 B8 y7] f8 ∧ I64 v ∧ I64 x) [] (κ := (Option Addr × Nat × Nat) × (Option Addr × Nat × Nat)) (fun k => True) (fun k => .agg #[.slice k.1.1 k.1.2.1 k.1.2.2, .slice k.2.1 k.2.2.1 k.2.2.2]) (fun k => [ow eIs [.slice k.1.1 k.1.2.1 k.1.2.2] (j8 ++ [v]), ow eIs [.slice k.2.1 k.2.2.1 k.2.2.2] (f8 ++ [x])]) := by
 refine Tr.intro Tryz.func161 rfl (n := 22) rfl (by decide +kernel) bl (fr := [(0, .agg #[.slice E3 G7 s4, .slice y8 B8 y7]), (1, .int .i64 v), (2, .int .i64 x)]) rfl fun w L hR => ?_
 obtain ⟨G8, C6, i6v, i6x⟩ := hR
 obtain ⟨rfl, a1n⟩ := G8.slen
 obtain ⟨rfl, S9⟩ := C6.slen
 refine Ew Z2 (Est rfl (N.box (cs := [_, _]) rfl dc rfl) (fun b3 _ => (Est rfl (N.alloc ty_Binding dc) (fun b6 _ => (Eu (Eq_ (a3V (κ := (Option Addr × Nat) × (Option Addr × Nat)) (fun _ => True) (fun kM => [(6, .pointer (some ⟨b6, 0, none⟩))]) (fun kM => [pt b6 78 [.slice kM.1.1 (j8.length + 1) kM.1.2, .slice kM.2.1 (f8.length + 1) kM.2.2], ow eIs [.slice kM.2.1 (f8.length + 1) kM.2.2] (f8 ++ [x]), ow eIs [.slice kM.1.1 (j8.length + 1) kM.1.2] (j8 ++ [v]), pt b3 78 [.slice E3 j8.length s4, .slice y8 f8.length y7]]) ?_ (fun kM _ => ?_))))))))
 ·refine U8 [b6, b3] (fun j => !(Nat.beq j 15)) mixed (E9 1 rfl rfl dc (i8 fo_Binding_0 ty_Is dc rfl) kr (a1b 2 rfl rfl dc (V3 ty_Is rfl ((W6.pt (mS m0) (by simp)).sub (cs' := [_]) 0 rfl) rfl) kr (E9 4 rfl rfl dc (k6 rfl) kr (E9 8 rfl rfl dc (i8 fo_Binding_1 ty_Is dc rfl) kr (a1b 9 rfl rfl dc (V3 ty_Is rfl ((W6.pt (mS m0) (by simp)).sub (cs' := [_]) 1 rfl) rfl) kr (E9 11 rfl rfl dc (k6 rfl) kr (b6S (i := 0) (j := 5) (l := 7) (m := 12) kr ?_ ?_ ?_ ?_)))))))
  rotate_left 4
  all_goals first
   | (refine I7 0 rfl rfl (fun _ _ => SameI.out) (Nb [] [] us_Is f5 rfl rfl) (fun b7 _ => ?_); refine Ent.drop ?_)
   | refine I7 5 rfl rfl (fun _ _ => SameI.out) (Nb [_] [_] us_Is f5 rfl rfl) (fun b12 _ => ?_)
   | (refine I7 7 rfl rfl (fun _ _ => SameI.out) (Nb [] [] us_Is f5 rfl rfl) (fun b14 _ => ?_); refine Ent.drop ?_)
   | refine I7 12 rfl rfl (fun _ _ => SameI.out) (Nb [_] [_] us_Is f5 rfl rfl) (fun b19 _ => ?_)
   | skip
  refine b6S (i := 3) (j := 5) (l := 7) (m := 12) kr ?_ ?_ ?_ ?_
  rotate_left 4
  refine a1p (i := 0) (j := 7) (l := 12) kr ?_ ?_ ?_
  rotate_left 3
  refine a1p (i := 0) (j := 5) (l := 12) kr ?_ ?_ ?_
  rotate_left 3
  refine a1p (i := 0) (j := 5) (l := 7) kr ?_ ?_ ?_
  rotate_left 3
  all_goals first
   | refine I7 3 rfl rfl (fun _ _ => SameI.out) (P8 (E := Enc.int) Plain.int us_Is f5 rfl rfl rfl G8 om om dc) (fun p10 _ => ?_)
   | refine I7 5 rfl rfl (fun _ _ => SameI.out) (Nb [_] [_] us_Is f5 rfl rfl) (fun b12 _ => ?_)
   | (refine I7 7 rfl rfl (fun _ _ => SameI.out) (Nb [] [] us_Is f5 rfl rfl) (fun b14 _ => ?_); refine Ent.drop ?_)
   | refine I7 12 rfl rfl (fun _ _ => SameI.out) (Nb [_] [_] us_Is f5 rfl rfl) (fun b19 _ => ?_)
   | (refine I7 0 rfl rfl (fun _ _ => SameI.out) (Nb [] [] us_Is f5 rfl rfl) (fun b7 _ => ?_); refine Ent.drop ?_)
   | skip
  refine a1p (i := 5) (j := 7) (l := 12) kr ?_ ?_ ?_
  rotate_left 3
  refine a1p (i := 3) (j := 7) (l := 12) kr ?_ ?_ ?_
  rotate_left 3
  refine a1p (i := 3) (j := 5) (l := 12) kr ?_ ?_ ?_
  rotate_left 3
  refine a1p (i := 3) (j := 5) (l := 7) kr ?_ ?_ ?_
  rotate_left 3
  refine a1p (i := 3) (j := 7) (l := 12) kr ?_ ?_ ?_
  rotate_left 3
  refine D4 (i := 0) (j := 12) kr ?_ ?_
  rotate_left 2
  refine D4 (i := 0) (j := 7) kr ?_ ?_
  rotate_left 2
  refine a1p (i := 3) (j := 5) (l := 12) kr ?_ ?_ ?_
  rotate_left 3
  refine D4 (i := 0) (j := 12) kr ?_ ?_
  rotate_left 2
  refine D4 (i := 0) (j := 5) kr ?_ ?_
  rotate_left 2
  refine a1p (i := 3) (j := 5) (l := 7) kr ?_ ?_ ?_
  rotate_left 3
  refine D4 (i := 0) (j := 7) kr ?_ ?_
  rotate_left 2
  refine D4 (i := 0) (j := 5) kr ?_ ?_
  rotate_left 2
  all_goals first
   | refine I7 5 rfl rfl (fun _ _ => SameI.out) (Nb [_] [_] us_Is f5 rfl rfl) (fun b12 _ => ?_)
   | (refine I7 7 rfl rfl (fun _ _ => SameI.out) (Nb [] [] us_Is f5 rfl rfl) (fun b14 _ => ?_); refine Ent.drop ?_)
   | refine I7 12 rfl rfl (fun _ _ => SameI.out) (Nb [_] [_] us_Is f5 rfl rfl) (fun b19 _ => ?_)
   | refine I7 3 rfl rfl (fun _ _ => SameI.out) (P8 (E := Enc.int) Plain.int us_Is f5 rfl rfl rfl G8 om om dc) (fun p10 _ => ?_)
   | (refine I7 0 rfl rfl (fun _ _ => SameI.out) (Nb [] [] us_Is f5 rfl rfl) (fun b7 _ => ?_); refine Ent.drop ?_)
   | skip
  refine a1p (i := 6) (j := 7) (l := 12) kr ?_ ?_ ?_
  rotate_left 3
  refine D4 (i := 5) (j := 12) kr ?_ ?_
  rotate_left 2
  refine D4 (i := 5) (j := 7) kr ?_ ?_
  rotate_left 2
  refine a1p (i := 6) (j := 7) (l := 12) kr ?_ ?_ ?_
  rotate_left 3
  refine D4 (i := 3) (j := 12) kr ?_ ?_
  rotate_left 2
  refine D4 (i := 3) (j := 7) kr ?_ ?_
  rotate_left 2
  refine D4 (i := 5) (j := 12) kr ?_ ?_
  rotate_left 2
  refine D4 (i := 3) (j := 12) kr ?_ ?_
  rotate_left 2
  refine D4 (i := 3) (j := 5) kr ?_ ?_
  rotate_left 2
  refine D4 (i := 5) (j := 7) kr ?_ ?_
  rotate_left 2
  refine D4 (i := 3) (j := 7) kr ?_ ?_
  rotate_left 2
  refine D4 (i := 3) (j := 5) kr ?_ ?_
  rotate_left 2
  refine a1p (i := 6) (j := 7) (l := 12) kr ?_ ?_ ?_
  rotate_left 3
  refine D4 (i := 3) (j := 12) kr ?_ ?_
  rotate_left 2
  refine D4 (i := 3) (j := 7) kr ?_ ?_
  rotate_left 2
  refine D4 (i := 3) (j := 12) kr ?_ ?_
  rotate_left 2
  refine K1 0 ?_
  rotate_left
  refine D4 (i := 3) (j := 7) kr ?_ ?_
  rotate_left 2
  refine K1 0 ?_
  rotate_left
  refine D4 (i := 5) (j := 12) kr ?_ ?_
  rotate_left 2
  refine D4 (i := 3) (j := 12) kr ?_ ?_
  rotate_left 2
  refine D4 (i := 3) (j := 5) kr ?_ ?_
  rotate_left 2
  refine D4 (i := 3) (j := 12) kr ?_ ?_
  rotate_left 2
  refine K1 0 ?_
  rotate_left
  refine D4 (i := 3) (j := 5) kr ?_ ?_
  rotate_left 2
  refine K1 0 ?_
  rotate_left
  refine D4 (i := 5) (j := 7) kr ?_ ?_
  rotate_left 2
  refine D4 (i := 3) (j := 7) kr ?_ ?_
  rotate_left 2
  refine D4 (i := 3) (j := 5) kr ?_ ?_
  rotate_left 2
  refine D4 (i := 3) (j := 7) kr ?_ ?_
  rotate_left 2
  refine K1 0 ?_
  rotate_left
  refine D4 (i := 3) (j := 5) kr ?_ ?_
  rotate_left 2
  refine K1 0 ?_
  rotate_left
  all_goals first
   | (refine d8 ?_; refine I7 6 rfl rfl (fun _ _ => SameI.out) (B2 (E := Enc.int) (ex := v) us_Is f5 rfl rfl rfl (Own.int i6v) rfl om om dc) (fun p13 _ => ?_))
   | (refine I7 7 rfl rfl (fun _ _ => SameI.out) (Nb [] [] us_Is f5 rfl rfl) (fun b14 _ => ?_); refine Ent.drop ?_)
   | refine I7 12 rfl rfl (fun _ _ => SameI.out) (Nb [_] [_] us_Is f5 rfl rfl) (fun b19 _ => ?_)
   | refine I7 5 rfl rfl (fun _ _ => SameI.out) (Nb [_] [_] us_Is f5 rfl rfl) (fun b12 _ => ?_)
   | (refine d8 ?_; refine d8 ?_; refine I7 6 rfl rfl (fun _ _ => SameI.out) (B2 (E := Enc.int) (ex := v) us_Is f5 rfl rfl rfl (Own.int i6v) rfl om om dc) (fun p13 _ => ?_))
   | refine I7 3 rfl rfl (fun _ _ => SameI.out) (P8 (E := Enc.int) Plain.int us_Is f5 rfl rfl rfl G8 om om dc) (fun p10 _ => ?_)
   | (refine I7 0 rfl rfl (fun _ _ => SameI.out) (Nb [] [] us_Is f5 rfl rfl) (fun b7 _ => ?_); refine Ent.drop ?_)
   | skip
  refine D4 (i := 7) (j := 12) kr ?_ ?_
  rotate_left 2
  refine D4 (i := 6) (j := 12) kr ?_ ?_
  rotate_left 2
  refine D4 (i := 6) (j := 7) kr ?_ ?_
  rotate_left 2
  refine D4 (i := 6) (j := 12) kr ?_ ?_
  rotate_left 2
  refine K1 5 ?_
  rotate_left
  refine D4 (i := 6) (j := 7) kr ?_ ?_
  rotate_left 2
  refine K1 5 ?_
  rotate_left
  refine D4 (i := 7) (j := 12) kr ?_ ?_
  rotate_left 2
  refine D4 (i := 6) (j := 12) kr ?_ ?_
  rotate_left 2
  refine D4 (i := 6) (j := 7) kr ?_ ?_
  rotate_left 2
  refine D4 (i := 6) (j := 12) kr ?_ ?_
  rotate_left 2
  refine K1 3 ?_
  rotate_left
  refine D4 (i := 6) (j := 7) kr ?_ ?_
  rotate_left 2
  refine K1 3 ?_
  rotate_left
  refine D4 (i := 6) (j := 12) kr ?_ ?_
  rotate_left 2
  refine K1 5 ?_
  rotate_left
  refine D4 (i := 6) (j := 12) kr ?_ ?_
  rotate_left 2
  refine K1 3 ?_
  rotate_left
  refine K1 5 ?_
  rotate_left
  refine K1 3 ?_
  rotate_left
  refine D4 (i := 6) (j := 7) kr ?_ ?_
  rotate_left 2
  refine K1 5 ?_
  rotate_left
  refine D4 (i := 6) (j := 7) kr ?_ ?_
  rotate_left 2
  refine K1 3 ?_
  rotate_left
  refine K1 5 ?_
  rotate_left
  refine K1 3 ?_
  rotate_left
  refine D4 (i := 7) (j := 12) kr ?_ ?_
  rotate_left 2
  refine D4 (i := 6) (j := 12) kr ?_ ?_
  rotate_left 2
  refine D4 (i := 6) (j := 7) kr ?_ ?_
  rotate_left 2
  refine D4 (i := 6) (j := 12) kr ?_ ?_
  rotate_left 2
  refine K1 3 ?_
  rotate_left
  refine D4 (i := 6) (j := 7) kr ?_ ?_
  rotate_left 2
  refine K1 3 ?_
  rotate_left
  refine D4 (i := 6) (j := 12) kr ?_ ?_
  rotate_left 2
  refine K1 3 ?_
  rotate_left
  refine K1 3 ?_
  rotate_left
  refine D4 (i := 6) (j := 7) kr ?_ ?_
  rotate_left 2
  refine K1 3 ?_
  rotate_left
  refine K1 3 ?_
  rotate_left
  refine D4 (i := 6) (j := 12) kr ?_ ?_
  rotate_left 2
  refine K1 5 ?_
  rotate_left
  refine D4 (i := 6) (j := 12) kr ?_ ?_
  rotate_left 2
  refine K1 3 ?_
  rotate_left
  refine K1 5 ?_
  rotate_left
  refine K1 3 ?_
  rotate_left
  refine D4 (i := 6) (j := 12) kr ?_ ?_
  rotate_left 2
  refine K1 3 ?_
  rotate_left
  refine K1 3 ?_
  rotate_left
  refine K1 5 ?_
  rotate_left
  refine K1 3 ?_
  rotate_left
  refine K1 3 ?_
  rotate_left
  refine D4 (i := 6) (j := 7) kr ?_ ?_
  rotate_left 2
  refine K1 5 ?_
  rotate_left
  refine D4 (i := 6) (j := 7) kr ?_ ?_
  rotate_left 2
  refine K1 3 ?_
  rotate_left
  refine K1 5 ?_
  rotate_left
  refine K1 3 ?_
  rotate_left
  refine D4 (i := 6) (j := 7) kr ?_ ?_
  rotate_left 2
  refine K1 3 ?_
  rotate_left
  refine K1 3 ?_
  rotate_left
  refine K1 5 ?_
  rotate_left
  refine K1 3 ?_
  rotate_left
  refine K1 3 ?_
  rotate_left
  all_goals first
   | (refine I7 7 rfl rfl (fun _ _ => SameI.out) (Nb [] [] us_Is f5 rfl rfl) (fun b14 _ => ?_); refine Ent.drop ?_)
   | refine I7 12 rfl rfl (fun _ _ => SameI.out) (Nb [_] [_] us_Is f5 rfl rfl) (fun b19 _ => ?_)
   | (refine d8 ?_; refine I7 6 rfl rfl (fun _ _ => SameI.out) (B2 (E := Enc.int) (ex := v) us_Is f5 rfl rfl rfl (Own.int i6v) rfl om om dc) (fun p13 _ => ?_))
   | (refine d8 ?_; refine j7 ?_; refine I7 6 rfl rfl (fun _ _ => SameI.out) (B2 (E := Enc.int) (ex := v) us_Is f5 rfl rfl rfl (Own.int i6v) rfl om om dc) (fun p13 _ => ?_))
   | refine I7 5 rfl rfl (fun _ _ => SameI.out) (Nb [_] [_] us_Is f5 rfl rfl) (fun b12 _ => ?_)
   | (refine j7 ?_; refine I7 6 rfl rfl (fun _ _ => SameI.out) (B2 (E := Enc.int) (ex := v) us_Is f5 rfl rfl rfl (Own.int i6v) rfl om om dc) (fun p13 _ => ?_))
   | (refine d8 ?_; refine d8 ?_; refine I7 6 rfl rfl (fun _ _ => SameI.out) (B2 (E := Enc.int) (ex := v) us_Is f5 rfl rfl rfl (Own.int i6v) rfl om om dc) (fun p13 _ => ?_))
   | (refine j7 ?_; refine j7 ?_; refine I7 6 rfl rfl (fun _ _ => SameI.out) (B2 (E := Enc.int) (ex := v) us_Is f5 rfl rfl rfl (Own.int i6v) rfl om om dc) (fun p13 _ => ?_))
   | refine I7 3 rfl rfl (fun _ _ => SameI.out) (P8 (E := Enc.int) Plain.int us_Is f5 rfl rfl rfl G8 om om dc) (fun p10 _ => ?_)
   | (refine j7 ?_; refine d8 ?_; refine I7 6 rfl rfl (fun _ _ => SameI.out) (B2 (E := Enc.int) (ex := v) us_Is f5 rfl rfl rfl (Own.int i6v) rfl om om dc) (fun p13 _ => ?_))
   | skip
  refine D4 (i := 10) (j := 12) kr ?_ ?_
  rotate_left 2
  refine K1 7 ?_
  rotate_left
  refine D4 (i := 10) (j := 12) kr ?_ ?_
  rotate_left 2
  refine K1 6 ?_
  rotate_left
  refine K1 7 ?_
  rotate_left
  refine K1 6 ?_
  rotate_left
  refine D4 (i := 10) (j := 12) kr ?_ ?_
  rotate_left 2
  refine K1 6 ?_
  rotate_left
  refine K1 6 ?_
  rotate_left
  refine K1 7 ?_
  rotate_left
  refine K1 6 ?_
  rotate_left
  refine K1 6 ?_
  rotate_left
  refine D4 (i := 10) (j := 12) kr ?_ ?_
  rotate_left 2
  refine K1 7 ?_
  rotate_left
  refine D4 (i := 10) (j := 12) kr ?_ ?_
  rotate_left 2
  refine K1 6 ?_
  rotate_left
  refine K1 7 ?_
  rotate_left
  refine K1 6 ?_
  rotate_left
  refine D4 (i := 10) (j := 12) kr ?_ ?_
  rotate_left 2
  refine K1 6 ?_
  rotate_left
  refine K1 6 ?_
  rotate_left
  refine K1 7 ?_
  rotate_left
  refine K1 6 ?_
  rotate_left
  refine K1 6 ?_
  rotate_left
  refine D4 (i := 10) (j := 12) kr ?_ ?_
  rotate_left 2
  refine K1 6 ?_
  rotate_left
  refine K1 6 ?_
  rotate_left
  refine D4 (i := 10) (j := 12) kr ?_ ?_
  rotate_left 2
  refine K1 6 ?_
  rotate_left
  refine K1 6 ?_
  rotate_left
  refine K1 6 ?_
  rotate_left
  refine K1 6 ?_
  rotate_left
  refine K1 7 ?_
  rotate_left
  refine K1 6 ?_
  rotate_left
  refine K1 6 ?_
  rotate_left
  refine K1 7 ?_
  rotate_left
  refine K1 6 ?_
  rotate_left
  refine K1 6 ?_
  rotate_left
  refine K1 6 ?_
  rotate_left
  refine K1 6 ?_
  rotate_left
  refine D4 (i := 10) (j := 12) kr ?_ ?_
  rotate_left 2
  refine K1 7 ?_
  rotate_left
  refine D4 (i := 10) (j := 12) kr ?_ ?_
  rotate_left 2
  refine K1 6 ?_
  rotate_left
  refine K1 7 ?_
  rotate_left
  refine K1 6 ?_
  rotate_left
  refine D4 (i := 10) (j := 12) kr ?_ ?_
  rotate_left 2
  refine K1 6 ?_
  rotate_left
  refine K1 6 ?_
  rotate_left
  refine K1 7 ?_
  rotate_left
  refine K1 6 ?_
  rotate_left
  refine K1 6 ?_
  rotate_left
  refine D4 (i := 10) (j := 12) kr ?_ ?_
  rotate_left 2
  refine K1 6 ?_
  rotate_left
  refine K1 6 ?_
  rotate_left
  refine K1 6 ?_
  rotate_left
  refine K1 7 ?_
  rotate_left
  refine K1 6 ?_
  rotate_left
  refine K1 6 ?_
  rotate_left
  refine K1 6 ?_
  rotate_left
  refine D4 (i := 10) (j := 12) kr ?_ ?_
  rotate_left 2
  refine K1 6 ?_
  rotate_left
  refine K1 6 ?_
  rotate_left
  refine D4 (i := 10) (j := 12) kr ?_ ?_
  rotate_left 2
  refine K1 6 ?_
  rotate_left
  refine K1 6 ?_
  rotate_left
  refine K1 6 ?_
  rotate_left
  refine K1 6 ?_
  rotate_left
  refine D4 (i := 10) (j := 12) kr ?_ ?_
  rotate_left 2
  refine K1 6 ?_
  rotate_left
  refine K1 6 ?_
  rotate_left
  refine K1 6 ?_
  rotate_left
  refine K1 6 ?_
  rotate_left
  refine K1 6 ?_
  rotate_left
  refine K1 6 ?_
  rotate_left
  refine K1 7 ?_
  rotate_left
  refine K1 6 ?_
  rotate_left
  refine K1 6 ?_
  rotate_left
  refine K1 7 ?_
  rotate_left
  refine K1 6 ?_
  rotate_left
  refine K1 6 ?_
  rotate_left
  refine K1 6 ?_
  rotate_left
  refine K1 6 ?_
  rotate_left
  refine K1 7 ?_
  rotate_left
  refine K1 6 ?_
  rotate_left
  refine K1 6 ?_
  rotate_left
  refine K1 6 ?_
  rotate_left
  refine K1 6 ?_
  rotate_left
  refine K1 6 ?_
  rotate_left
  refine K1 6 ?_
  rotate_left
  all_goals first
   | refine I7 10 rfl rfl (fun _ _ => SameI.out) (P8 (E := Enc.int) Plain.int us_Is f5 rfl rfl rfl C6 om om dc) (fun p17 _ => ?_)
   | refine I7 12 rfl rfl (fun _ _ => SameI.out) (Nb [_] [_] us_Is f5 rfl rfl) (fun b19 _ => ?_)
   | (refine I7 7 rfl rfl (fun _ _ => SameI.out) (Nb [] [] us_Is f5 rfl rfl) (fun b14 _ => ?_); refine Ent.drop ?_)
   | (refine d8 ?_; refine j7 ?_; refine I7 6 rfl rfl (fun _ _ => SameI.out) (B2 (E := Enc.int) (ex := v) us_Is f5 rfl rfl rfl (Own.int i6v) rfl om om dc) (fun p13 _ => ?_))
   | (refine j7 ?_; refine I7 6 rfl rfl (fun _ _ => SameI.out) (B2 (E := Enc.int) (ex := v) us_Is f5 rfl rfl rfl (Own.int i6v) rfl om om dc) (fun p13 _ => ?_))
   | (refine j7 ?_; refine j7 ?_; refine I7 6 rfl rfl (fun _ _ => SameI.out) (B2 (E := Enc.int) (ex := v) us_Is f5 rfl rfl rfl (Own.int i6v) rfl om om dc) (fun p13 _ => ?_))
   | (refine j7 ?_; refine d8 ?_; refine I7 6 rfl rfl (fun _ _ => SameI.out) (B2 (E := Enc.int) (ex := v) us_Is f5 rfl rfl rfl (Own.int i6v) rfl om om dc) (fun p13 _ => ?_))
   | (refine d8 ?_; refine I7 6 rfl rfl (fun _ _ => SameI.out) (B2 (E := Enc.int) (ex := v) us_Is f5 rfl rfl rfl (Own.int i6v) rfl om om dc) (fun p13 _ => ?_))
   | (refine d8 ?_; refine d8 ?_; refine I7 6 rfl rfl (fun _ _ => SameI.out) (B2 (E := Enc.int) (ex := v) us_Is f5 rfl rfl rfl (Own.int i6v) rfl om om dc) (fun p13 _ => ?_))
   | skip
  refine K1 12 ?_
  rotate_left
  refine K1 10 ?_
  rotate_left
  refine K1 10 ?_
  rotate_left
  refine K1 12 ?_
  rotate_left
  refine K1 10 ?_
  rotate_left
  refine K1 10 ?_
  rotate_left
  refine K1 10 ?_
  rotate_left
  refine K1 10 ?_
  rotate_left
  refine K1 12 ?_
  rotate_left
  refine K1 10 ?_
  rotate_left
  refine K1 10 ?_
  rotate_left
  refine K1 10 ?_
  rotate_left
  refine K1 10 ?_
  rotate_left
  refine K1 10 ?_
  rotate_left
  refine K1 10 ?_
  rotate_left
  refine K1 12 ?_
  rotate_left
  refine K1 10 ?_
  rotate_left
  refine K1 10 ?_
  rotate_left
  refine K1 12 ?_
  rotate_left
  refine K1 10 ?_
  rotate_left
  refine K1 10 ?_
  rotate_left
  refine K1 10 ?_
  rotate_left
  refine K1 10 ?_
  rotate_left
  refine K1 12 ?_
  rotate_left
  refine K1 10 ?_
  rotate_left
  refine K1 10 ?_
  rotate_left
  refine K1 10 ?_
  rotate_left
  refine K1 10 ?_
  rotate_left
  refine K1 10 ?_
  rotate_left
  refine K1 10 ?_
  rotate_left
  refine K1 12 ?_
  rotate_left
  refine K1 10 ?_
  rotate_left
  refine K1 10 ?_
  rotate_left
  refine K1 10 ?_
  rotate_left
  refine K1 12 ?_
  rotate_left
  refine K1 10 ?_
  rotate_left
  refine K1 10 ?_
  rotate_left
  refine K1 10 ?_
  rotate_left
  refine K1 10 ?_
  rotate_left
  refine K1 10 ?_
  rotate_left
  refine K1 10 ?_
  rotate_left
  refine K1 10 ?_
  rotate_left
  refine K1 10 ?_
  rotate_left
  refine K1 10 ?_
  rotate_left
  refine K1 10 ?_
  rotate_left
  refine K1 10 ?_
  rotate_left
  refine K1 10 ?_
  rotate_left
  refine K1 10 ?_
  rotate_left
  refine K1 12 ?_
  rotate_left
  refine K1 10 ?_
  rotate_left
  refine K1 10 ?_
  rotate_left
  refine K1 12 ?_
  rotate_left
  refine K1 10 ?_
  rotate_left
  refine K1 10 ?_
  rotate_left
  refine K1 10 ?_
  rotate_left
  refine K1 10 ?_
  rotate_left
  refine K1 12 ?_
  rotate_left
  refine K1 10 ?_
  rotate_left
  refine K1 10 ?_
  rotate_left
  refine K1 10 ?_
  rotate_left
  refine K1 10 ?_
  rotate_left
  refine K1 10 ?_
  rotate_left
  refine K1 10 ?_
  rotate_left
  refine K1 12 ?_
  rotate_left
  refine K1 10 ?_
  rotate_left
  refine K1 10 ?_
  rotate_left
  refine K1 10 ?_
  rotate_left
  refine K1 10 ?_
  rotate_left
  refine K1 10 ?_
  rotate_left
  refine K1 10 ?_
  rotate_left
  refine K1 10 ?_
  rotate_left
  refine K1 10 ?_
  rotate_left
  refine K1 12 ?_
  rotate_left
  refine K1 10 ?_
  rotate_left
  refine K1 10 ?_
  rotate_left
  refine K1 10 ?_
  rotate_left
  refine K1 12 ?_
  rotate_left
  refine K1 10 ?_
  rotate_left
  refine K1 10 ?_
  rotate_left
  refine K1 10 ?_
  rotate_left
  refine K1 10 ?_
  rotate_left
  refine K1 10 ?_
  rotate_left
  refine K1 12 ?_
  rotate_left
  refine K1 10 ?_
  rotate_left
  refine K1 10 ?_
  rotate_left
  refine K1 10 ?_
  rotate_left
  refine K1 10 ?_
  rotate_left
  refine K1 10 ?_
  rotate_left
  refine K1 10 ?_
  rotate_left
  refine K1 10 ?_
  rotate_left
  refine K1 10 ?_
  rotate_left
  refine K1 10 ?_
  rotate_left
  refine K1 10 ?_
  rotate_left
  refine K1 10 ?_
  rotate_left
  refine K1 10 ?_
  rotate_left
  refine K1 10 ?_
  rotate_left
  refine K1 10 ?_
  rotate_left
  refine K1 10 ?_
  rotate_left
  refine K1 10 ?_
  rotate_left
  refine K1 10 ?_
  rotate_left
  refine K1 10 ?_
  rotate_left
  refine K1 10 ?_
  rotate_left
  refine K1 10 ?_
  rotate_left
  refine K1 10 ?_
  rotate_left
  refine K1 10 ?_
  rotate_left
  all_goals first
   | refine I7 12 rfl rfl (fun _ _ => SameI.out) (Nb [_] [_] us_Is f5 rfl rfl) (fun b19 _ => ?_)
   | refine I7 10 rfl rfl (fun _ _ => SameI.out) (P8 (E := Enc.int) Plain.int us_Is f5 rfl rfl rfl C6 om om dc) (fun p17 _ => ?_)
   | skip
  refine K1 13 ?_
  rotate_left
  refine K1 13 ?_
  rotate_left
  refine K1 13 ?_
  rotate_left
  refine K1 13 ?_
  rotate_left
  refine K1 13 ?_
  rotate_left
  refine K1 13 ?_
  rotate_left
  refine K1 13 ?_
  rotate_left
  refine K1 13 ?_
  rotate_left
  refine K1 13 ?_
  rotate_left
  refine K1 13 ?_
  rotate_left
  refine K1 13 ?_
  rotate_left
  refine K1 13 ?_
  rotate_left
  refine K1 13 ?_
  rotate_left
  refine K1 13 ?_
  rotate_left
  refine K1 13 ?_
  rotate_left
  refine K1 13 ?_
  rotate_left
  refine K1 13 ?_
  rotate_left
  refine K1 13 ?_
  rotate_left
  refine K1 13 ?_
  rotate_left
  refine K1 13 ?_
  rotate_left
  refine K1 13 ?_
  rotate_left
  refine K1 13 ?_
  rotate_left
  refine K1 13 ?_
  rotate_left
  refine K1 13 ?_
  rotate_left
  refine K1 13 ?_
  rotate_left
  refine K1 13 ?_
  rotate_left
  refine K1 13 ?_
  rotate_left
  refine K1 13 ?_
  rotate_left
  refine K1 13 ?_
  rotate_left
  refine K1 13 ?_
  rotate_left
  refine K1 13 ?_
  rotate_left
  refine K1 13 ?_
  rotate_left
  refine K1 13 ?_
  rotate_left
  refine K1 13 ?_
  rotate_left
  refine K1 13 ?_
  rotate_left
  refine K1 13 ?_
  rotate_left
  refine K1 13 ?_
  rotate_left
  refine K1 13 ?_
  rotate_left
  refine K1 13 ?_
  rotate_left
  refine K1 13 ?_
  rotate_left
  refine K1 13 ?_
  rotate_left
  refine K1 13 ?_
  rotate_left
  refine K1 13 ?_
  rotate_left
  refine K1 13 ?_
  rotate_left
  refine K1 13 ?_
  rotate_left
  refine K1 13 ?_
  rotate_left
  refine K1 13 ?_
  rotate_left
  refine K1 13 ?_
  rotate_left
  refine K1 13 ?_
  rotate_left
  refine K1 13 ?_
  rotate_left
  refine K1 13 ?_
  rotate_left
  refine K1 13 ?_
  rotate_left
  refine K1 13 ?_
  rotate_left
  refine K1 13 ?_
  rotate_left
  refine K1 13 ?_
  rotate_left
  refine K1 13 ?_
  rotate_left
  refine K1 13 ?_
  rotate_left
  refine K1 13 ?_
  rotate_left
  refine K1 13 ?_
  rotate_left
  refine K1 13 ?_
  rotate_left
  refine K1 13 ?_
  rotate_left
  refine K1 13 ?_
  rotate_left
  refine K1 13 ?_
  rotate_left
  refine K1 13 ?_
  rotate_left
  refine K1 13 ?_
  rotate_left
  refine K1 13 ?_
  rotate_left
  refine K1 13 ?_
  rotate_left
  refine K1 13 ?_
  rotate_left
  refine K1 13 ?_
  rotate_left
  refine K1 13 ?_
  rotate_left
  refine K1 13 ?_
  rotate_left
  refine K1 13 ?_
  rotate_left
  refine K1 13 ?_
  rotate_left
  refine K1 13 ?_
  rotate_left
  refine K1 13 ?_
  rotate_left
  refine K1 13 ?_
  rotate_left
  refine K1 13 ?_
  rotate_left
  refine K1 13 ?_
  rotate_left
  refine K1 13 ?_
  rotate_left
  refine K1 13 ?_
  rotate_left
  refine K1 13 ?_
  rotate_left
  refine K1 13 ?_
  rotate_left
  refine K1 13 ?_
  rotate_left
  refine K1 13 ?_
  rotate_left
  refine K1 13 ?_
  rotate_left
  refine K1 13 ?_
  rotate_left
  refine K1 13 ?_
  rotate_left
  refine K1 13 ?_
  rotate_left
  refine K1 13 ?_
  rotate_left
  refine K1 13 ?_
  rotate_left
  refine K1 13 ?_
  rotate_left
  refine K1 13 ?_
  rotate_left
  refine K1 13 ?_
  rotate_left
  refine K1 13 ?_
  rotate_left
  refine K1 13 ?_
  rotate_left
  refine K1 13 ?_
  rotate_left
  refine K1 13 ?_
  rotate_left
  refine K1 13 ?_
  rotate_left
  refine K1 13 ?_
  rotate_left
  refine K1 13 ?_
  rotate_left
  refine K1 13 ?_
  rotate_left
  refine K1 13 ?_
  rotate_left
  refine K1 13 ?_
  rotate_left
  refine K1 13 ?_
  rotate_left
  refine K1 13 ?_
  rotate_left
  all_goals first
   | (refine d8 ?_; refine I7 13 rfl rfl (fun _ _ => SameI.out) (B2 (E := Enc.int) (ex := x) us_Is f5 rfl rfl rfl (Own.int i6x) rfl om om dc) (fun p20 _ => ?_))
   | (refine d8 ?_; refine d8 ?_; refine I7 13 rfl rfl (fun _ _ => SameI.out) (B2 (E := Enc.int) (ex := x) us_Is f5 rfl rfl rfl (Own.int i6x) rfl om om dc) (fun p20 _ => ?_))
   | (refine j7 ?_; refine d8 ?_; refine I7 13 rfl rfl (fun _ _ => SameI.out) (B2 (E := Enc.int) (ex := x) us_Is f5 rfl rfl rfl (Own.int i6x) rfl om om dc) (fun p20 _ => ?_))
   | skip
  all_goals first
   | (refine E9 14 rfl rfl dc (I3 (pvs := [_, _]) (cs := [_, _]) ty_Binding pl_Binding rfl rfl) kr ?_; refine j7 ?_; refine F8 15 rfl rfl kr (fun h => by cases h) (Ns [_, _] ty_Binding rfl) (fun _ _ => ?_); refine V1 kr (o2 ?_); refine o2 ?_; refine o2 ?_; refine o2 ?_; exact S4 (p13, p20) trivial ⟨rfl, trivial⟩ (.refl _))
 ·obtain ⟨p13, p20⟩ := kM
  try dsimp only
  refine Et (E.ret (d8 (j7 (d8 (d8 ?_)))))
  exact O7 br rfl rfl (mS (mS m0)) ty_Binding rfl ((_, _, _), (_, _, _)) trivial rfl (J := _) (.refl _) (.inl rfl)
end Go.Proofs.YtlfhopooaejpfaaGreat
