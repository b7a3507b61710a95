import Derived.Test.YtfnbilpemdgkkaaGreatDoorT6
import Derived.Test.YtfnbilpemdgkkaaGreatDoorEf
namespace Go.Proofs.YtfnbilpemdgkkaaGreatDoor
open Go.RowKit
set_option linter.all false
set_option maxHeartbeats 2000000
attribute [local irreducible] Nop Yd Yp Ent Has Tr FnP FnP2 Src J8 P6 S7 U6 E7
theorem a4e {u9 : Option Addr} {y5 u7 : Nat} {d8 : List Int} {n8 : Option Addr} {r7 n0 : Nat} {d4 : List Int} {v : Int} {x : Int} (hb1 : d8.length ≤ 1000000) (hb2 : d4.length ≤ 1000000) : Tr Tryz.prog 80 [.agg #[.slice u9 y5 u7, .slice n8 r7 n0], .int .i64 v, .int .i64 x] (fun w L => Ro w L eIs [.slice u9 y5 u7] d8 ∧ Ro w L eIs [.slice n8 r7 n0] d4 ∧ I64 v ∧ I64 x) [] (κ := (Option Addr × Nat × Nat) × (Option Addr × Nat × Nat)) (fun k => True) (fun k => .agg #[.slice k.1.1 k.1.2.1 k.1.2.2, .slice k.2.1 k.2.2.1 k.2.2.2]) (fun k => [ow eIs [.slice k.1.1 k.1.2.1 k.1.2.2] (d8 ++ [v]), ow eIs [.slice k.2.1 k.2.2.1 k.2.2.2] (d4 ++ [x])]) := by
 refine Tr.intro Tryz.func80 rfl (n := 22) rfl (by decide +kernel) bl (fr := [(0, .agg #[.slice u9 y5 u7, .slice n8 r7 n0]), (1, .int .i64 v), (2, .int .i64 x)]) rfl fun w L hR => ?_
 obtain ⟨y4, t6, i6v, i6x⟩ := hR
 obtain ⟨rfl, N9⟩ := y4.slen
 obtain ⟨rfl, H0⟩ := t6.slen
 refine Ew Z2 (Est rfl (N.box (cs := [_, _]) rfl dc rfl) (fun b3 _ => (Est rfl (N.alloc ty_Binding dc) (fun b6 _ => (Eu (Eq_ (a1M (κ := (Option Addr × Nat) × (Option Addr × Nat)) (fun _ => True) (fun kM => [(6, .pointer (some ⟨b6, 0, none⟩))]) (fun kM => [pt b6 36 [.slice kM.1.1 (d8.length + 1) kM.1.2, .slice kM.2.1 (d4.length + 1) kM.2.2], ow eIs [.slice kM.2.1 (d4.length + 1) kM.2.2] (d4 ++ [x]), ow eIs [.slice kM.1.1 (d8.length + 1) kM.1.2] (d8 ++ [v]), pt b3 36 [.slice u9 d8.length u7, .slice n8 d4.length n0]]) ?_ (fun kM _ => ?_))))))))
 ·refine H1 [b6, b3] (fun j => !(Nat.beq j 15)) mixed (B1 1 rfl rfl dc (f9 fo_Binding_0 ty_Is dc rfl) kr (O1 2 rfl rfl dc (I7 ty_Is rfl ((F6.pt (mS m0) (by simp)).sub (cs' := [_]) 0 rfl) rfl) kr (B1 4 rfl rfl dc (i0 rfl) kr (B1 8 rfl rfl dc (f9 fo_Binding_1 ty_Is dc rfl) kr (O1 9 rfl rfl dc (I7 ty_Is rfl ((F6.pt (mS m0) (by simp)).sub (cs' := [_]) 1 rfl) rfl) kr (B1 11 rfl rfl dc (i0 rfl) kr (a7t (i := 0) (j := 5) (l := 7) (m := 12) kr ?_ ?_ ?_ ?_)))))))
  rotate_left 4
  all_goals first
   | (refine B8 0 rfl rfl (fun _ _ => SameI.out) (Nb [] [] us_Is d9 rfl rfl) (fun b7 _ => ?_); refine Ent.drop ?_)
   | refine B8 5 rfl rfl (fun _ _ => SameI.out) (Nb [_] [_] us_Is d9 rfl rfl) (fun b12 _ => ?_)
   | (refine B8 7 rfl rfl (fun _ _ => SameI.out) (Nb [] [] us_Is d9 rfl rfl) (fun b14 _ => ?_); refine Ent.drop ?_)
   | refine B8 12 rfl rfl (fun _ _ => SameI.out) (Nb [_] [_] us_Is d9 rfl rfl) (fun b19 _ => ?_)
   | skip
  refine a7t (i := 3) (j := 5) (l := 7) (m := 12) kr ?_ ?_ ?_ ?_
  rotate_left 4
  refine O0 (i := 0) (j := 7) (l := 12) kr ?_ ?_ ?_
  rotate_left 3
  refine O0 (i := 0) (j := 5) (l := 12) kr ?_ ?_ ?_
  rotate_left 3
  refine O0 (i := 0) (j := 5) (l := 7) kr ?_ ?_ ?_
  rotate_left 3
  all_goals first
   | refine B8 3 rfl rfl (fun _ _ => SameI.out) (E0 (E := Enc.int) Plain.int us_Is d9 rfl rfl rfl y4 om om dc) (fun p10 _ => ?_)
   | refine B8 5 rfl rfl (fun _ _ => SameI.out) (Nb [_] [_] us_Is d9 rfl rfl) (fun b12 _ => ?_)
   | (refine B8 7 rfl rfl (fun _ _ => SameI.out) (Nb [] [] us_Is d9 rfl rfl) (fun b14 _ => ?_); refine Ent.drop ?_)
   | refine B8 12 rfl rfl (fun _ _ => SameI.out) (Nb [_] [_] us_Is d9 rfl rfl) (fun b19 _ => ?_)
   | (refine B8 0 rfl rfl (fun _ _ => SameI.out) (Nb [] [] us_Is d9 rfl rfl) (fun b7 _ => ?_); refine Ent.drop ?_)
   | skip
  refine O0 (i := 5) (j := 7) (l := 12) kr ?_ ?_ ?_
  rotate_left 3
  refine O0 (i := 3) (j := 7) (l := 12) kr ?_ ?_ ?_
  rotate_left 3
  refine O0 (i := 3) (j := 5) (l := 12) kr ?_ ?_ ?_
  rotate_left 3
  refine O0 (i := 3) (j := 5) (l := 7) kr ?_ ?_ ?_
  rotate_left 3
  refine O0 (i := 3) (j := 7) (l := 12) kr ?_ ?_ ?_
  rotate_left 3
  refine r9 (i := 0) (j := 12) kr ?_ ?_
  rotate_left 2
  refine r9 (i := 0) (j := 7) kr ?_ ?_
  rotate_left 2
  refine O0 (i := 3) (j := 5) (l := 12) kr ?_ ?_ ?_
  rotate_left 3
  refine r9 (i := 0) (j := 12) kr ?_ ?_
  rotate_left 2
  refine r9 (i := 0) (j := 5) kr ?_ ?_
  rotate_left 2
  refine O0 (i := 3) (j := 5) (l := 7) kr ?_ ?_ ?_
  rotate_left 3
  refine r9 (i := 0) (j := 7) kr ?_ ?_
  rotate_left 2
  refine r9 (i := 0) (j := 5) kr ?_ ?_
  rotate_left 2
  all_goals first
   | refine B8 5 rfl rfl (fun _ _ => SameI.out) (Nb [_] [_] us_Is d9 rfl rfl) (fun b12 _ => ?_)
   | (refine B8 7 rfl rfl (fun _ _ => SameI.out) (Nb [] [] us_Is d9 rfl rfl) (fun b14 _ => ?_); refine Ent.drop ?_)
   | refine B8 12 rfl rfl (fun _ _ => SameI.out) (Nb [_] [_] us_Is d9 rfl rfl) (fun b19 _ => ?_)
   | refine B8 3 rfl rfl (fun _ _ => SameI.out) (E0 (E := Enc.int) Plain.int us_Is d9 rfl rfl rfl y4 om om dc) (fun p10 _ => ?_)
   | (refine B8 0 rfl rfl (fun _ _ => SameI.out) (Nb [] [] us_Is d9 rfl rfl) (fun b7 _ => ?_); refine Ent.drop ?_)
   | skip
  refine O0 (i := 6) (j := 7) (l := 12) kr ?_ ?_ ?_
  rotate_left 3
  refine r9 (i := 5) (j := 12) kr ?_ ?_
  rotate_left 2
  refine r9 (i := 5) (j := 7) kr ?_ ?_
  rotate_left 2
  refine O0 (i := 6) (j := 7) (l := 12) kr ?_ ?_ ?_
  rotate_left 3
  refine r9 (i := 3) (j := 12) kr ?_ ?_
  rotate_left 2
  refine r9 (i := 3) (j := 7) kr ?_ ?_
  rotate_left 2
  refine r9 (i := 5) (j := 12) kr ?_ ?_
  rotate_left 2
  refine r9 (i := 3) (j := 12) kr ?_ ?_
  rotate_left 2
  refine r9 (i := 3) (j := 5) kr ?_ ?_
  rotate_left 2
  refine r9 (i := 5) (j := 7) kr ?_ ?_
  rotate_left 2
  refine r9 (i := 3) (j := 7) kr ?_ ?_
  rotate_left 2
  refine r9 (i := 3) (j := 5) kr ?_ ?_
  rotate_left 2
  refine O0 (i := 6) (j := 7) (l := 12) kr ?_ ?_ ?_
  rotate_left 3
  refine r9 (i := 3) (j := 12) kr ?_ ?_
  rotate_left 2
  refine r9 (i := 3) (j := 7) kr ?_ ?_
  rotate_left 2
  refine r9 (i := 3) (j := 12) kr ?_ ?_
  rotate_left 2
  refine K1 0 ?_
  rotate_left
  refine r9 (i := 3) (j := 7) kr ?_ ?_
  rotate_left 2
  refine K1 0 ?_
  rotate_left
  refine r9 (i := 5) (j := 12) kr ?_ ?_
  rotate_left 2
  refine r9 (i := 3) (j := 12) kr ?_ ?_
  rotate_left 2
  refine r9 (i := 3) (j := 5) kr ?_ ?_
  rotate_left 2
  refine r9 (i := 3) (j := 12) kr ?_ ?_
  rotate_left 2
  refine K1 0 ?_
  rotate_left
  refine r9 (i := 3) (j := 5) kr ?_ ?_
  rotate_left 2
  refine K1 0 ?_
  rotate_left
  refine r9 (i := 5) (j := 7) kr ?_ ?_
  rotate_left 2
  refine r9 (i := 3) (j := 7) kr ?_ ?_
  rotate_left 2
  refine r9 (i := 3) (j := 5) kr ?_ ?_
  rotate_left 2
  refine r9 (i := 3) (j := 7) kr ?_ ?_
  rotate_left 2
  refine K1 0 ?_
  rotate_left
  refine r9 (i := 3) (j := 5) kr ?_ ?_
  rotate_left 2
  refine K1 0 ?_
  rotate_left
  all_goals first
   | (refine d7 ?_; refine B8 6 rfl rfl (fun _ _ => SameI.out) (u4 (E := Enc.int) (ex := v) us_Is d9 rfl rfl rfl (Own.int i6v) rfl om om dc) (fun p13 _ => ?_))
   | (refine B8 7 rfl rfl (fun _ _ => SameI.out) (Nb [] [] us_Is d9 rfl rfl) (fun b14 _ => ?_); refine Ent.drop ?_)
   | refine B8 12 rfl rfl (fun _ _ => SameI.out) (Nb [_] [_] us_Is d9 rfl rfl) (fun b19 _ => ?_)
   | refine B8 5 rfl rfl (fun _ _ => SameI.out) (Nb [_] [_] us_Is d9 rfl rfl) (fun b12 _ => ?_)
   | (refine d7 ?_; refine d7 ?_; refine B8 6 rfl rfl (fun _ _ => SameI.out) (u4 (E := Enc.int) (ex := v) us_Is d9 rfl rfl rfl (Own.int i6v) rfl om om dc) (fun p13 _ => ?_))
   | refine B8 3 rfl rfl (fun _ _ => SameI.out) (E0 (E := Enc.int) Plain.int us_Is d9 rfl rfl rfl y4 om om dc) (fun p10 _ => ?_)
   | (refine B8 0 rfl rfl (fun _ _ => SameI.out) (Nb [] [] us_Is d9 rfl rfl) (fun b7 _ => ?_); refine Ent.drop ?_)
   | skip
  refine r9 (i := 7) (j := 12) kr ?_ ?_
  rotate_left 2
  refine r9 (i := 6) (j := 12) kr ?_ ?_
  rotate_left 2
  refine r9 (i := 6) (j := 7) kr ?_ ?_
  rotate_left 2
  refine r9 (i := 6) (j := 12) kr ?_ ?_
  rotate_left 2
  refine K1 5 ?_
  rotate_left
  refine r9 (i := 6) (j := 7) kr ?_ ?_
  rotate_left 2
  refine K1 5 ?_
  rotate_left
  refine r9 (i := 7) (j := 12) kr ?_ ?_
  rotate_left 2
  refine r9 (i := 6) (j := 12) kr ?_ ?_
  rotate_left 2
  refine r9 (i := 6) (j := 7) kr ?_ ?_
  rotate_left 2
  refine r9 (i := 6) (j := 12) kr ?_ ?_
  rotate_left 2
  refine K1 3 ?_
  rotate_left
  refine r9 (i := 6) (j := 7) kr ?_ ?_
  rotate_left 2
  refine K1 3 ?_
  rotate_left
  refine r9 (i := 6) (j := 12) kr ?_ ?_
  rotate_left 2
  refine K1 5 ?_
  rotate_left
  refine r9 (i := 6) (j := 12) kr ?_ ?_
  rotate_left 2
  refine K1 3 ?_
  rotate_left
  refine K1 5 ?_
  rotate_left
  refine K1 3 ?_
  rotate_left
  refine r9 (i := 6) (j := 7) kr ?_ ?_
  rotate_left 2
  refine K1 5 ?_
  rotate_left
  refine r9 (i := 6) (j := 7) kr ?_ ?_
  rotate_left 2
  refine K1 3 ?_
  rotate_left
  refine K1 5 ?_
  rotate_left
  refine K1 3 ?_
  rotate_left
  refine r9 (i := 7) (j := 12) kr ?_ ?_
  rotate_left 2
  refine r9 (i := 6) (j := 12) kr ?_ ?_
  rotate_left 2
  refine r9 (i := 6) (j := 7) kr ?_ ?_
  rotate_left 2
  refine r9 (i := 6) (j := 12) kr ?_ ?_
  rotate_left 2
  refine K1 3 ?_
  rotate_left
  refine r9 (i := 6) (j := 7) kr ?_ ?_
  rotate_left 2
  refine K1 3 ?_
  rotate_left
  refine r9 (i := 6) (j := 12) kr ?_ ?_
  rotate_left 2
  refine K1 3 ?_
  rotate_left
  refine K1 3 ?_
  rotate_left
  refine r9 (i := 6) (j := 7) kr ?_ ?_
  rotate_left 2
  refine K1 3 ?_
  rotate_left
  refine K1 3 ?_
  rotate_left
  refine r9 (i := 6) (j := 12) kr ?_ ?_
  rotate_left 2
  refine K1 5 ?_
  rotate_left
  refine r9 (i := 6) (j := 12) kr ?_ ?_
  rotate_left 2
  refine K1 3 ?_
  rotate_left
  refine K1 5 ?_
  rotate_left
  refine K1 3 ?_
  rotate_left
  refine r9 (i := 6) (j := 12) kr ?_ ?_
  rotate_left 2
  refine K1 3 ?_
  rotate_left
  refine K1 3 ?_
  rotate_left
  refine K1 5 ?_
  rotate_left
  refine K1 3 ?_
  rotate_left
  refine K1 3 ?_
  rotate_left
  refine r9 (i := 6) (j := 7) kr ?_ ?_
  rotate_left 2
  refine K1 5 ?_
  rotate_left
  refine r9 (i := 6) (j := 7) kr ?_ ?_
  rotate_left 2
  refine K1 3 ?_
  rotate_left
  refine K1 5 ?_
  rotate_left
  refine K1 3 ?_
  rotate_left
  refine r9 (i := 6) (j := 7) kr ?_ ?_
  rotate_left 2
  refine K1 3 ?_
  rotate_left
  refine K1 3 ?_
  rotate_left
  refine K1 5 ?_
  rotate_left
  refine K1 3 ?_
  rotate_left
  refine K1 3 ?_
  rotate_left
  all_goals first
   | (refine B8 7 rfl rfl (fun _ _ => SameI.out) (Nb [] [] us_Is d9 rfl rfl) (fun b14 _ => ?_); refine Ent.drop ?_)
   | refine B8 12 rfl rfl (fun _ _ => SameI.out) (Nb [_] [_] us_Is d9 rfl rfl) (fun b19 _ => ?_)
   | (refine d7 ?_; refine B8 6 rfl rfl (fun _ _ => SameI.out) (u4 (E := Enc.int) (ex := v) us_Is d9 rfl rfl rfl (Own.int i6v) rfl om om dc) (fun p13 _ => ?_))
   | (refine d7 ?_; refine g9 ?_; refine B8 6 rfl rfl (fun _ _ => SameI.out) (u4 (E := Enc.int) (ex := v) us_Is d9 rfl rfl rfl (Own.int i6v) rfl om om dc) (fun p13 _ => ?_))
   | refine B8 5 rfl rfl (fun _ _ => SameI.out) (Nb [_] [_] us_Is d9 rfl rfl) (fun b12 _ => ?_)
   | (refine g9 ?_; refine B8 6 rfl rfl (fun _ _ => SameI.out) (u4 (E := Enc.int) (ex := v) us_Is d9 rfl rfl rfl (Own.int i6v) rfl om om dc) (fun p13 _ => ?_))
   | (refine d7 ?_; refine d7 ?_; refine B8 6 rfl rfl (fun _ _ => SameI.out) (u4 (E := Enc.int) (ex := v) us_Is d9 rfl rfl rfl (Own.int i6v) rfl om om dc) (fun p13 _ => ?_))
   | (refine g9 ?_; refine g9 ?_; refine B8 6 rfl rfl (fun _ _ => SameI.out) (u4 (E := Enc.int) (ex := v) us_Is d9 rfl rfl rfl (Own.int i6v) rfl om om dc) (fun p13 _ => ?_))
   | refine B8 3 rfl rfl (fun _ _ => SameI.out) (E0 (E := Enc.int) Plain.int us_Is d9 rfl rfl rfl y4 om om dc) (fun p10 _ => ?_)
   | (refine g9 ?_; refine d7 ?_; refine B8 6 rfl rfl (fun _ _ => SameI.out) (u4 (E := Enc.int) (ex := v) us_Is d9 rfl rfl rfl (Own.int i6v) rfl om om dc) (fun p13 _ => ?_))
   | skip
  refine r9 (i := 10) (j := 12) kr ?_ ?_
  rotate_left 2
  refine K1 7 ?_
  rotate_left
  refine r9 (i := 10) (j := 12) kr ?_ ?_
  rotate_left 2
  refine K1 6 ?_
  rotate_left
  refine K1 7 ?_
  rotate_left
  refine K1 6 ?_
  rotate_left
  refine r9 (i := 10) (j := 12) kr ?_ ?_
  rotate_left 2
  refine K1 6 ?_
  rotate_left
  refine K1 6 ?_
  rotate_left
  refine K1 7 ?_
  rotate_left
  refine K1 6 ?_
  rotate_left
  refine K1 6 ?_
  rotate_left
  refine r9 (i := 10) (j := 12) kr ?_ ?_
  rotate_left 2
  refine K1 7 ?_
  rotate_left
  refine r9 (i := 10) (j := 12) kr ?_ ?_
  rotate_left 2
  refine K1 6 ?_
  rotate_left
  refine K1 7 ?_
  rotate_left
  refine K1 6 ?_
  rotate_left
  refine r9 (i := 10) (j := 12) kr ?_ ?_
  rotate_left 2
  refine K1 6 ?_
  rotate_left
  refine K1 6 ?_
  rotate_left
  refine K1 7 ?_
  rotate_left
  refine K1 6 ?_
  rotate_left
  refine K1 6 ?_
  rotate_left
  refine r9 (i := 10) (j := 12) kr ?_ ?_
  rotate_left 2
  refine K1 6 ?_
  rotate_left
  refine K1 6 ?_
  rotate_left
  refine r9 (i := 10) (j := 12) kr ?_ ?_
  rotate_left 2
  refine K1 6 ?_
  rotate_left
  refine K1 6 ?_
  rotate_left
  refine K1 6 ?_
  rotate_left
  refine K1 6 ?_
  rotate_left
  refine K1 7 ?_
  rotate_left
  refine K1 6 ?_
  rotate_left
  refine K1 6 ?_
  rotate_left
  refine K1 7 ?_
  rotate_left
  refine K1 6 ?_
  rotate_left
  refine K1 6 ?_
  rotate_left
  refine K1 6 ?_
  rotate_left
  refine K1 6 ?_
  rotate_left
  refine r9 (i := 10) (j := 12) kr ?_ ?_
  rotate_left 2
  refine K1 7 ?_
  rotate_left
  refine r9 (i := 10) (j := 12) kr ?_ ?_
  rotate_left 2
  refine K1 6 ?_
  rotate_left
  refine K1 7 ?_
  rotate_left
  refine K1 6 ?_
  rotate_left
  refine r9 (i := 10) (j := 12) kr ?_ ?_
  rotate_left 2
  refine K1 6 ?_
  rotate_left
  refine K1 6 ?_
  rotate_left
  refine K1 7 ?_
  rotate_left
  refine K1 6 ?_
  rotate_left
  refine K1 6 ?_
  rotate_left
  refine r9 (i := 10) (j := 12) kr ?_ ?_
  rotate_left 2
  refine K1 6 ?_
  rotate_left
  refine K1 6 ?_
  rotate_left
  refine K1 6 ?_
  rotate_left
  refine K1 7 ?_
  rotate_left
  refine K1 6 ?_
  rotate_left
  refine K1 6 ?_
  rotate_left
  refine K1 6 ?_
  rotate_left
  refine r9 (i := 10) (j := 12) kr ?_ ?_
  rotate_left 2
  refine K1 6 ?_
  rotate_left
  refine K1 6 ?_
  rotate_left
  refine r9 (i := 10) (j := 12) kr ?_ ?_
  rotate_left 2
  refine K1 6 ?_
  rotate_left
  refine K1 6 ?_
  rotate_left
  refine K1 6 ?_
  rotate_left
  refine K1 6 ?_
  rotate_left
  refine r9 (i := 10) (j := 12) kr ?_ ?_
  rotate_left 2
  refine K1 6 ?_
  rotate_left
  refine K1 6 ?_
  rotate_left
  refine K1 6 ?_
  rotate_left
  refine K1 6 ?_
  rotate_left
  refine K1 6 ?_
  rotate_left
  refine K1 6 ?_
  rotate_left
  refine K1 7 ?_
  rotate_left
  refine K1 6 ?_
  rotate_left
  refine K1 6 ?_
  rotate_left
  refine K1 7 ?_
  rotate_left
  refine K1 6 ?_
  rotate_left
  refine K1 6 ?_
  rotate_left
  refine K1 6 ?_
  rotate_left
  refine K1 6 ?_
  rotate_left
  refine K1 7 ?_
  rotate_left
  refine K1 6 ?_
  rotate_left
  refine K1 6 ?_
  rotate_left
  refine K1 6 ?_
  rotate_left
  refine K1 6 ?_
  rotate_left
  refine K1 6 ?_
  rotate_left
  refine K1 6 ?_
  rotate_left
  all_goals first
   | refine B8 10 rfl rfl (fun _ _ => SameI.out) (E0 (E := Enc.int) Plain.int us_Is d9 rfl rfl rfl t6 om om dc) (fun p17 _ => ?_)
   | refine B8 12 rfl rfl (fun _ _ => SameI.out) (Nb [_] [_] us_Is d9 rfl rfl) (fun b19 _ => ?_)
   | (refine B8 7 rfl rfl (fun _ _ => SameI.out) (Nb [] [] us_Is d9 rfl rfl) (fun b14 _ => ?_); refine Ent.drop ?_)
   | (refine d7 ?_; refine g9 ?_; refine B8 6 rfl rfl (fun _ _ => SameI.out) (u4 (E := Enc.int) (ex := v) us_Is d9 rfl rfl rfl (Own.int i6v) rfl om om dc) (fun p13 _ => ?_))
   | (refine g9 ?_; refine B8 6 rfl rfl (fun _ _ => SameI.out) (u4 (E := Enc.int) (ex := v) us_Is d9 rfl rfl rfl (Own.int i6v) rfl om om dc) (fun p13 _ => ?_))
   | (refine g9 ?_; refine g9 ?_; refine B8 6 rfl rfl (fun _ _ => SameI.out) (u4 (E := Enc.int) (ex := v) us_Is d9 rfl rfl rfl (Own.int i6v) rfl om om dc) (fun p13 _ => ?_))
   | (refine g9 ?_; refine d7 ?_; refine B8 6 rfl rfl (fun _ _ => SameI.out) (u4 (E := Enc.int) (ex := v) us_Is d9 rfl rfl rfl (Own.int i6v) rfl om om dc) (fun p13 _ => ?_))
   | (refine d7 ?_; refine B8 6 rfl rfl (fun _ _ => SameI.out) (u4 (E := Enc.int) (ex := v) us_Is d9 rfl rfl rfl (Own.int i6v) rfl om om dc) (fun p13 _ => ?_))
   | (refine d7 ?_; refine d7 ?_; refine B8 6 rfl rfl (fun _ _ => SameI.out) (u4 (E := Enc.int) (ex := v) us_Is d9 rfl rfl rfl (Own.int i6v) rfl om om dc) (fun p13 _ => ?_))
   | skip
  refine K1 12 ?_
  rotate_left
  refine K1 10 ?_
  rotate_left
  refine K1 10 ?_
  rotate_left
  refine K1 12 ?_
  rotate_left
  refine K1 10 ?_
  rotate_left
  refine K1 10 ?_
  rotate_left
  refine K1 10 ?_
  rotate_left
  refine K1 10 ?_
  rotate_left
  refine K1 12 ?_
  rotate_left
  refine K1 10 ?_
  rotate_left
  refine K1 10 ?_
  rotate_left
  refine K1 10 ?_
  rotate_left
  refine K1 10 ?_
  rotate_left
  refine K1 10 ?_
  rotate_left
  refine K1 10 ?_
  rotate_left
  refine K1 12 ?_
  rotate_left
  refine K1 10 ?_
  rotate_left
  refine K1 10 ?_
  rotate_left
  refine K1 12 ?_
  rotate_left
  refine K1 10 ?_
  rotate_left
  refine K1 10 ?_
  rotate_left
  refine K1 10 ?_
  rotate_left
  refine K1 10 ?_
  rotate_left
  refine K1 12 ?_
  rotate_left
  refine K1 10 ?_
  rotate_left
  refine K1 10 ?_
  rotate_left
  refine K1 10 ?_
  rotate_left
  refine K1 10 ?_
  rotate_left
  refine K1 10 ?_
  rotate_left
  refine K1 10 ?_
  rotate_left
  refine K1 12 ?_
  rotate_left
  refine K1 10 ?_
  rotate_left
  refine K1 10 ?_
  rotate_left
  refine K1 10 ?_
  rotate_left
  refine K1 12 ?_
  rotate_left
  refine K1 10 ?_
  rotate_left
  refine K1 10 ?_
  rotate_left
  refine K1 10 ?_
  rotate_left
  refine K1 10 ?_
  rotate_left
  refine K1 10 ?_
  rotate_left
  refine K1 10 ?_
  rotate_left
  refine K1 10 ?_
  rotate_left
  refine K1 10 ?_
  rotate_left
  refine K1 10 ?_
  rotate_left
  refine K1 10 ?_
  rotate_left
  refine K1 10 ?_
  rotate_left
  refine K1 10 ?_
  rotate_left
  refine K1 10 ?_
  rotate_left
  refine K1 12 ?_
  rotate_left
  refine K1 10 ?_
  rotate_left
  refine K1 10 ?_
  rotate_left
  refine K1 12 ?_
  rotate_left
  refine K1 10 ?_
  rotate_left
  refine K1 10 ?_
  rotate_left
  refine K1 10 ?_
  rotate_left
  refine K1 10 ?_
  rotate_left
  refine K1 12 ?_
  rotate_left
  refine K1 10 ?_
  rotate_left
  refine K1 10 ?_
  rotate_left
  refine K1 10 ?_
  rotate_left
  refine K1 10 ?_
  rotate_left
  refine K1 10 ?_
  rotate_left
  refine K1 10 ?_
  rotate_left
  refine K1 12 ?_
  rotate_left
  refine K1 10 ?_
  rotate_left
  refine K1 10 ?_
  rotate_left
  refine K1 10 ?_
  rotate_left
  refine K1 10 ?_
  rotate_left
  refine K1 10 ?_
  rotate_left
  refine K1 10 ?_
  rotate_left
  refine K1 10 ?_
  rotate_left
  refine K1 10 ?_
  rotate_left
  refine K1 12 ?_
  rotate_left
  refine K1 10 ?_
  rotate_left
  refine K1 10 ?_
  rotate_left
  refine K1 10 ?_
  rotate_left
  refine K1 12 ?_
  rotate_left
  refine K1 10 ?_
  rotate_left
  refine K1 10 ?_
  rotate_left
  refine K1 10 ?_
  rotate_left
  refine K1 10 ?_
  rotate_left
  refine K1 10 ?_
  rotate_left
  refine K1 12 ?_
  rotate_left
  refine K1 10 ?_
  rotate_left
  refine K1 10 ?_
  rotate_left
  refine K1 10 ?_
  rotate_left
  refine K1 10 ?_
  rotate_left
  refine K1 10 ?_
  rotate_left
  refine K1 10 ?_
  rotate_left
  refine K1 10 ?_
  rotate_left
  refine K1 10 ?_
  rotate_left
  refine K1 10 ?_
  rotate_left
  refine K1 10 ?_
  rotate_left
  refine K1 10 ?_
  rotate_left
  refine K1 10 ?_
  rotate_left
  refine K1 10 ?_
  rotate_left
  refine K1 10 ?_
  rotate_left
  refine K1 10 ?_
  rotate_left
  refine K1 10 ?_
  rotate_left
  refine K1 10 ?_
  rotate_left
  refine K1 10 ?_
  rotate_left
  refine K1 10 ?_
  rotate_left
  refine K1 10 ?_
  rotate_left
  refine K1 10 ?_
  rotate_left
  refine K1 10 ?_
  rotate_left
  all_goals first
   | refine B8 12 rfl rfl (fun _ _ => SameI.out) (Nb [_] [_] us_Is d9 rfl rfl) (fun b19 _ => ?_)
   | refine B8 10 rfl rfl (fun _ _ => SameI.out) (E0 (E := Enc.int) Plain.int us_Is d9 rfl rfl rfl t6 om om dc) (fun p17 _ => ?_)
   | skip
  refine K1 13 ?_
  rotate_left
  refine K1 13 ?_
  rotate_left
  refine K1 13 ?_
  rotate_left
  refine K1 13 ?_
  rotate_left
  refine K1 13 ?_
  rotate_left
  refine K1 13 ?_
  rotate_left
  refine K1 13 ?_
  rotate_left
  refine K1 13 ?_
  rotate_left
  refine K1 13 ?_
  rotate_left
  refine K1 13 ?_
  rotate_left
  refine K1 13 ?_
  rotate_left
  refine K1 13 ?_
  rotate_left
  refine K1 13 ?_
  rotate_left
  refine K1 13 ?_
  rotate_left
  refine K1 13 ?_
  rotate_left
  refine K1 13 ?_
  rotate_left
  refine K1 13 ?_
  rotate_left
  refine K1 13 ?_
  rotate_left
  refine K1 13 ?_
  rotate_left
  refine K1 13 ?_
  rotate_left
  refine K1 13 ?_
  rotate_left
  refine K1 13 ?_
  rotate_left
  refine K1 13 ?_
  rotate_left
  refine K1 13 ?_
  rotate_left
  refine K1 13 ?_
  rotate_left
  refine K1 13 ?_
  rotate_left
  refine K1 13 ?_
  rotate_left
  refine K1 13 ?_
  rotate_left
  refine K1 13 ?_
  rotate_left
  refine K1 13 ?_
  rotate_left
  refine K1 13 ?_
  rotate_left
  refine K1 13 ?_
  rotate_left
  refine K1 13 ?_
  rotate_left
  refine K1 13 ?_
  rotate_left
  refine K1 13 ?_
  rotate_left
  refine K1 13 ?_
  rotate_left
  refine K1 13 ?_
  rotate_left
  refine K1 13 ?_
  rotate_left
  refine K1 13 ?_
  rotate_left
  refine K1 13 ?_
  rotate_left
  refine K1 13 ?_
  rotate_left
  refine K1 13 ?_
  rotate_left
  refine K1 13 ?_
  rotate_left
  refine K1 13 ?_
  rotate_left
  refine K1 13 ?_
  rotate_left
  refine K1 13 ?_
  rotate_left
  refine K1 13 ?_
  rotate_left
  refine K1 13 ?_
  rotate_left
  refine K1 13 ?_
  rotate_left
  refine K1 13 ?_
  rotate_left
  refine K1 13 ?_
  rotate_left
  refine K1 13 ?_
  rotate_left
  refine K1 13 ?_
  rotate_left
  refine K1 13 ?_
  rotate_left
  refine K1 13 ?_
  rotate_left
  refine K1 13 ?_
  rotate_left
  refine K1 13 ?_
  rotate_left
  refine K1 13 ?_
  rotate_left
  refine K1 13 ?_
  rotate_left
  refine K1 13 ?_
  rotate_left
  refine K1 13 ?_
  rotate_left
  refine K1 13 ?_
  rotate_left
  refine K1 13 ?_
  rotate_left
  refine K1 13 ?_
  rotate_left
  refine K1 13 ?_
  rotate_left
  refine K1 13 ?_
  rotate_left
  refine K1 13 ?_
  rotate_left
  refine K1 13 ?_
  rotate_left
  refine K1 13 ?_
  rotate_left
  refine K1 13 ?_
  rotate_left
  refine K1 13 ?_
  rotate_left
  refine K1 13 ?_
  rotate_left
  refine K1 13 ?_
  rotate_left
  refine K1 13 ?_
  rotate_left
  refine K1 13 ?_
  rotate_left
  refine K1 13 ?_
  rotate_left
  refine K1 13 ?_
  rotate_left
  refine K1 13 ?_
  rotate_left
  refine K1 13 ?_
  rotate_left
  refine K1 13 ?_
  rotate_left
  refine K1 13 ?_
  rotate_left
  refine K1 13 ?_
  rotate_left
  refine K1 13 ?_
  rotate_left
  refine K1 13 ?_
  rotate_left
  refine K1 13 ?_
  rotate_left
  refine K1 13 ?_
  rotate_left
  refine K1 13 ?_
  rotate_left
  refine K1 13 ?_
  rotate_left
  refine K1 13 ?_
  rotate_left
  refine K1 13 ?_
  rotate_left
  refine K1 13 ?_
  rotate_left
  refine K1 13 ?_
  rotate_left
  refine K1 13 ?_
  rotate_left
  refine K1 13 ?_
  rotate_left
  refine K1 13 ?_
  rotate_left
  refine K1 13 ?_
  rotate_left
  refine K1 13 ?_
  rotate_left
  refine K1 13 ?_
  rotate_left
  refine K1 13 ?_
  rotate_left
  refine K1 13 ?_
  rotate_left
  refine K1 13 ?_
  rotate_left
  refine K1 13 ?_
  rotate_left
  refine K1 13 ?_
  rotate_left
  refine K1 13 ?_
  rotate_left
  refine K1 13 ?_
  rotate_left
  all_goals first
   | (refine d7 ?_; refine B8 13 rfl rfl (fun _ _ => SameI.out) (u4 (E := Enc.int) (ex := x) us_Is d9 rfl rfl rfl (Own.int i6x) rfl om om dc) (fun p20 _ => ?_))
   | (refine d7 ?_; refine d7 ?_; refine B8 13 rfl rfl (fun _ _ => SameI.out) (u4 (E := Enc.int) (ex := x) us_Is d9 rfl rfl rfl (Own.int i6x) rfl om om dc) (fun p20 _ => ?_))
   | (refine g9 ?_; refine d7 ?_; refine B8 13 rfl rfl (fun _ _ => SameI.out) (u4 (E := Enc.int) (ex := x) us_Is d9 rfl rfl rfl (Own.int i6x) rfl om om dc) (fun p20 _ => ?_))
   | skip
  all_goals first
   | (refine B1 14 rfl rfl dc (E3 (pvs := [_, _]) (cs := [_, _]) ty_Binding pl_Binding rfl rfl) kr ?_; refine g9 ?_; refine B6 15 rfl rfl kr (fun h => by cases h) (Ns [_, _] ty_Binding rfl) (fun _ _ => ?_); refine I5 kr (l4 ?_); refine l4 ?_; refine l4 ?_; refine l4 ?_; exact P8 (p13, p20) trivial ⟨rfl, trivial⟩ (.refl _))
 ·obtain ⟨p13, p20⟩ := kM
  try dsimp only
  refine Et (E.ret (d7 (g9 (d7 (d7 ?_)))))
  exact J7 br rfl rfl (mS (mS m0)) ty_Binding rfl ((_, _, _), (_, _, _)) trivial rfl (J := _) (.refl _) (.inl rfl)
end Go.Proofs.YtfnbilpemdgkkaaGreatDoor
