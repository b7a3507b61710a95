import Derived.Test.YtbedienpleiamaaGreatT6
import Derived.Test.YtbedienpleiamaaGreatEf
namespace Go.Proofs.YtbedienpleiamaaGreat
open Go.RowKit
set_option linter.all false
set_option maxHeartbeats 2000000
attribute [local irreducible] Nop Yd Yp Ent Has Tr FnP FnP2 Src O1 S7 W5 X5 I0
theorem a2N {w7 : Option Addr} {B1 w6 : Nat} {f7 : List Int} {s6 : Option Addr} {u4 s5 : Nat} {d9 : List Int} {v : Int} {x : Int} (hb1 : f7.length ≤ 1000000) (hb2 : d9.length ≤ 1000000) : Tr Tryz.prog 64 [.agg #[.slice w7 B1 w6, .slice s6 u4 s5], .int .i64 v, .int .i64 x] (fun w L => Ro w L eIs [.slice w7 B1 w6] f7 ∧ Ro w L eIs [.slice s6 u4 s5] d9 ∧ I64 v ∧ I64 x) [] (κ := (Option Addr × Nat × Nat) × (Option Addr × Nat × Nat)) (fun k => True) (fun k => .agg #[.slice k.1.1 k.1.2.1 k.1.2.2, .slice k.2.1 k.2.2.1 k.2.2.2]) (fun k => [ow eIs [.slice k.1.1 k.1.2.1 k.1.2.2] (f7 ++ [v]), ow eIs [.slice k.2.1 k.2.2.1 k.2.2.2] (d9 ++ [x])]) := by
 refine Tr.intro Tryz.func64 rfl (n := 22) rfl (by decide +kernel) bl (fr := [(0, .agg #[.slice w7 B1 w6, .slice s6 u4 s5]), (1, .int .i64 v), (2, .int .i64 x)]) rfl fun w L hR => ?_
 obtain ⟨y8, u9, i6v, i6x⟩ := hR
 obtain ⟨rfl, P1⟩ := y8.slen
 obtain ⟨rfl, I7⟩ := u9.slen
 refine Ew Z2 (Est rfl (N.box (cs := [_, _]) rfl dc rfl) (fun b3 _ => (Est rfl (N.alloc ty_Binding dc) (fun b6 _ => (Eu (Eq_ (L5 (κ := (Option Addr × Nat) × (Option Addr × Nat)) (fun _ => True) (fun kM => [(6, .pointer (some ⟨b6, 0, none⟩))]) (fun kM => [pt b6 39 [.slice kM.1.1 (f7.length + 1) kM.1.2, .slice kM.2.1 (d9.length + 1) kM.2.2], ow eIs [.slice kM.2.1 (d9.length + 1) kM.2.2] (d9 ++ [x]), ow eIs [.slice kM.1.1 (f7.length + 1) kM.1.2] (f7 ++ [v]), pt b3 39 [.slice w7 f7.length w6, .slice s6 d9.length s5]]) ?_ (fun kM _ => ?_))))))))
 ·refine D5 [b6, b3] (fun j => !(Nat.beq j 15)) mixed (t8 1 rfl rfl dc (i0 fo_Binding_0 ty_Is dc rfl) kr (G1 2 rfl rfl dc (K4 ty_Is rfl ((D7.pt (mS m0) (by simp)).sub (cs' := [_]) 0 rfl) rfl) kr (t8 4 rfl rfl dc (i8 rfl) kr (t8 8 rfl rfl dc (i0 fo_Binding_1 ty_Is dc rfl) kr (G1 9 rfl rfl dc (K4 ty_Is rfl ((D7.pt (mS m0) (by simp)).sub (cs' := [_]) 1 rfl) rfl) kr (t8 11 rfl rfl dc (i8 rfl) kr (a9b (i := 0) (j := 5) (l := 7) (m := 12) kr ?_ ?_ ?_ ?_)))))))
  rotate_left 4
  all_goals first
   | (refine D3 0 rfl rfl (fun _ _ => SameI.out) (Nb [] [] us_Is f6 rfl rfl) (fun b7 _ => ?_); refine Ent.drop ?_)
   | refine D3 5 rfl rfl (fun _ _ => SameI.out) (Nb [_] [_] us_Is f6 rfl rfl) (fun b12 _ => ?_)
   | (refine D3 7 rfl rfl (fun _ _ => SameI.out) (Nb [] [] us_Is f6 rfl rfl) (fun b14 _ => ?_); refine Ent.drop ?_)
   | refine D3 12 rfl rfl (fun _ _ => SameI.out) (Nb [_] [_] us_Is f6 rfl rfl) (fun b19 _ => ?_)
   | skip
  refine a9b (i := 3) (j := 5) (l := 7) (m := 12) kr ?_ ?_ ?_ ?_
  rotate_left 4
  refine U0 (i := 0) (j := 7) (l := 12) kr ?_ ?_ ?_
  rotate_left 3
  refine U0 (i := 0) (j := 5) (l := 12) kr ?_ ?_ ?_
  rotate_left 3
  refine U0 (i := 0) (j := 5) (l := 7) kr ?_ ?_ ?_
  rotate_left 3
  all_goals first
   | refine D3 3 rfl rfl (fun _ _ => SameI.out) (G9 (E := Enc.int) Plain.int us_Is f6 rfl rfl rfl y8 om om dc) (fun p10 _ => ?_)
   | refine D3 5 rfl rfl (fun _ _ => SameI.out) (Nb [_] [_] us_Is f6 rfl rfl) (fun b12 _ => ?_)
   | (refine D3 7 rfl rfl (fun _ _ => SameI.out) (Nb [] [] us_Is f6 rfl rfl) (fun b14 _ => ?_); refine Ent.drop ?_)
   | refine D3 12 rfl rfl (fun _ _ => SameI.out) (Nb [_] [_] us_Is f6 rfl rfl) (fun b19 _ => ?_)
   | (refine D3 0 rfl rfl (fun _ _ => SameI.out) (Nb [] [] us_Is f6 rfl rfl) (fun b7 _ => ?_); refine Ent.drop ?_)
   | skip
  refine U0 (i := 5) (j := 7) (l := 12) kr ?_ ?_ ?_
  rotate_left 3
  refine U0 (i := 3) (j := 7) (l := 12) kr ?_ ?_ ?_
  rotate_left 3
  refine U0 (i := 3) (j := 5) (l := 12) kr ?_ ?_ ?_
  rotate_left 3
  refine U0 (i := 3) (j := 5) (l := 7) kr ?_ ?_ ?_
  rotate_left 3
  refine U0 (i := 3) (j := 7) (l := 12) kr ?_ ?_ ?_
  rotate_left 3
  refine x4 (i := 0) (j := 12) kr ?_ ?_
  rotate_left 2
  refine x4 (i := 0) (j := 7) kr ?_ ?_
  rotate_left 2
  refine U0 (i := 3) (j := 5) (l := 12) kr ?_ ?_ ?_
  rotate_left 3
  refine x4 (i := 0) (j := 12) kr ?_ ?_
  rotate_left 2
  refine x4 (i := 0) (j := 5) kr ?_ ?_
  rotate_left 2
  refine U0 (i := 3) (j := 5) (l := 7) kr ?_ ?_ ?_
  rotate_left 3
  refine x4 (i := 0) (j := 7) kr ?_ ?_
  rotate_left 2
  refine x4 (i := 0) (j := 5) kr ?_ ?_
  rotate_left 2
  all_goals first
   | refine D3 5 rfl rfl (fun _ _ => SameI.out) (Nb [_] [_] us_Is f6 rfl rfl) (fun b12 _ => ?_)
   | (refine D3 7 rfl rfl (fun _ _ => SameI.out) (Nb [] [] us_Is f6 rfl rfl) (fun b14 _ => ?_); refine Ent.drop ?_)
   | refine D3 12 rfl rfl (fun _ _ => SameI.out) (Nb [_] [_] us_Is f6 rfl rfl) (fun b19 _ => ?_)
   | refine D3 3 rfl rfl (fun _ _ => SameI.out) (G9 (E := Enc.int) Plain.int us_Is f6 rfl rfl rfl y8 om om dc) (fun p10 _ => ?_)
   | (refine D3 0 rfl rfl (fun _ _ => SameI.out) (Nb [] [] us_Is f6 rfl rfl) (fun b7 _ => ?_); refine Ent.drop ?_)
   | skip
  refine U0 (i := 6) (j := 7) (l := 12) kr ?_ ?_ ?_
  rotate_left 3
  refine x4 (i := 5) (j := 12) kr ?_ ?_
  rotate_left 2
  refine x4 (i := 5) (j := 7) kr ?_ ?_
  rotate_left 2
  refine U0 (i := 6) (j := 7) (l := 12) kr ?_ ?_ ?_
  rotate_left 3
  refine x4 (i := 3) (j := 12) kr ?_ ?_
  rotate_left 2
  refine x4 (i := 3) (j := 7) kr ?_ ?_
  rotate_left 2
  refine x4 (i := 5) (j := 12) kr ?_ ?_
  rotate_left 2
  refine x4 (i := 3) (j := 12) kr ?_ ?_
  rotate_left 2
  refine x4 (i := 3) (j := 5) kr ?_ ?_
  rotate_left 2
  refine x4 (i := 5) (j := 7) kr ?_ ?_
  rotate_left 2
  refine x4 (i := 3) (j := 7) kr ?_ ?_
  rotate_left 2
  refine x4 (i := 3) (j := 5) kr ?_ ?_
  rotate_left 2
  refine U0 (i := 6) (j := 7) (l := 12) kr ?_ ?_ ?_
  rotate_left 3
  refine x4 (i := 3) (j := 12) kr ?_ ?_
  rotate_left 2
  refine x4 (i := 3) (j := 7) kr ?_ ?_
  rotate_left 2
  refine x4 (i := 3) (j := 12) kr ?_ ?_
  rotate_left 2
  refine K1 0 ?_
  rotate_left
  refine x4 (i := 3) (j := 7) kr ?_ ?_
  rotate_left 2
  refine K1 0 ?_
  rotate_left
  refine x4 (i := 5) (j := 12) kr ?_ ?_
  rotate_left 2
  refine x4 (i := 3) (j := 12) kr ?_ ?_
  rotate_left 2
  refine x4 (i := 3) (j := 5) kr ?_ ?_
  rotate_left 2
  refine x4 (i := 3) (j := 12) kr ?_ ?_
  rotate_left 2
  refine K1 0 ?_
  rotate_left
  refine x4 (i := 3) (j := 5) kr ?_ ?_
  rotate_left 2
  refine K1 0 ?_
  rotate_left
  refine x4 (i := 5) (j := 7) kr ?_ ?_
  rotate_left 2
  refine x4 (i := 3) (j := 7) kr ?_ ?_
  rotate_left 2
  refine x4 (i := 3) (j := 5) kr ?_ ?_
  rotate_left 2
  refine x4 (i := 3) (j := 7) kr ?_ ?_
  rotate_left 2
  refine K1 0 ?_
  rotate_left
  refine x4 (i := 3) (j := 5) kr ?_ ?_
  rotate_left 2
  refine K1 0 ?_
  rotate_left
  all_goals first
   | (refine d7 ?_; refine D3 6 rfl rfl (fun _ _ => SameI.out) (v7 (E := Enc.int) (ex := v) us_Is f6 rfl rfl rfl (Own.int i6v) rfl om om dc) (fun p13 _ => ?_))
   | (refine D3 7 rfl rfl (fun _ _ => SameI.out) (Nb [] [] us_Is f6 rfl rfl) (fun b14 _ => ?_); refine Ent.drop ?_)
   | refine D3 12 rfl rfl (fun _ _ => SameI.out) (Nb [_] [_] us_Is f6 rfl rfl) (fun b19 _ => ?_)
   | refine D3 5 rfl rfl (fun _ _ => SameI.out) (Nb [_] [_] us_Is f6 rfl rfl) (fun b12 _ => ?_)
   | (refine d7 ?_; refine d7 ?_; refine D3 6 rfl rfl (fun _ _ => SameI.out) (v7 (E := Enc.int) (ex := v) us_Is f6 rfl rfl rfl (Own.int i6v) rfl om om dc) (fun p13 _ => ?_))
   | refine D3 3 rfl rfl (fun _ _ => SameI.out) (G9 (E := Enc.int) Plain.int us_Is f6 rfl rfl rfl y8 om om dc) (fun p10 _ => ?_)
   | (refine D3 0 rfl rfl (fun _ _ => SameI.out) (Nb [] [] us_Is f6 rfl rfl) (fun b7 _ => ?_); refine Ent.drop ?_)
   | skip
  refine x4 (i := 7) (j := 12) kr ?_ ?_
  rotate_left 2
  refine x4 (i := 6) (j := 12) kr ?_ ?_
  rotate_left 2
  refine x4 (i := 6) (j := 7) kr ?_ ?_
  rotate_left 2
  refine x4 (i := 6) (j := 12) kr ?_ ?_
  rotate_left 2
  refine K1 5 ?_
  rotate_left
  refine x4 (i := 6) (j := 7) kr ?_ ?_
  rotate_left 2
  refine K1 5 ?_
  rotate_left
  refine x4 (i := 7) (j := 12) kr ?_ ?_
  rotate_left 2
  refine x4 (i := 6) (j := 12) kr ?_ ?_
  rotate_left 2
  refine x4 (i := 6) (j := 7) kr ?_ ?_
  rotate_left 2
  refine x4 (i := 6) (j := 12) kr ?_ ?_
  rotate_left 2
  refine K1 3 ?_
  rotate_left
  refine x4 (i := 6) (j := 7) kr ?_ ?_
  rotate_left 2
  refine K1 3 ?_
  rotate_left
  refine x4 (i := 6) (j := 12) kr ?_ ?_
  rotate_left 2
  refine K1 5 ?_
  rotate_left
  refine x4 (i := 6) (j := 12) kr ?_ ?_
  rotate_left 2
  refine K1 3 ?_
  rotate_left
  refine K1 5 ?_
  rotate_left
  refine K1 3 ?_
  rotate_left
  refine x4 (i := 6) (j := 7) kr ?_ ?_
  rotate_left 2
  refine K1 5 ?_
  rotate_left
  refine x4 (i := 6) (j := 7) kr ?_ ?_
  rotate_left 2
  refine K1 3 ?_
  rotate_left
  refine K1 5 ?_
  rotate_left
  refine K1 3 ?_
  rotate_left
  refine x4 (i := 7) (j := 12) kr ?_ ?_
  rotate_left 2
  refine x4 (i := 6) (j := 12) kr ?_ ?_
  rotate_left 2
  refine x4 (i := 6) (j := 7) kr ?_ ?_
  rotate_left 2
  refine x4 (i := 6) (j := 12) kr ?_ ?_
  rotate_left 2
  refine K1 3 ?_
  rotate_left
  refine x4 (i := 6) (j := 7) kr ?_ ?_
  rotate_left 2
  refine K1 3 ?_
  rotate_left
  refine x4 (i := 6) (j := 12) kr ?_ ?_
  rotate_left 2
  refine K1 3 ?_
  rotate_left
  refine K1 3 ?_
  rotate_left
  refine x4 (i := 6) (j := 7) kr ?_ ?_
  rotate_left 2
  refine K1 3 ?_
  rotate_left
  refine K1 3 ?_
  rotate_left
  refine x4 (i := 6) (j := 12) kr ?_ ?_
  rotate_left 2
  refine K1 5 ?_
  rotate_left
  refine x4 (i := 6) (j := 12) kr ?_ ?_
  rotate_left 2
  refine K1 3 ?_
  rotate_left
  refine K1 5 ?_
  rotate_left
  refine K1 3 ?_
  rotate_left
  refine x4 (i := 6) (j := 12) kr ?_ ?_
  rotate_left 2
  refine K1 3 ?_
  rotate_left
  refine K1 3 ?_
  rotate_left
  refine K1 5 ?_
  rotate_left
  refine K1 3 ?_
  rotate_left
  refine K1 3 ?_
  rotate_left
  refine x4 (i := 6) (j := 7) kr ?_ ?_
  rotate_left 2
  refine K1 5 ?_
  rotate_left
  refine x4 (i := 6) (j := 7) kr ?_ ?_
  rotate_left 2
  refine K1 3 ?_
  rotate_left
  refine K1 5 ?_
  rotate_left
  refine K1 3 ?_
  rotate_left
  refine x4 (i := 6) (j := 7) kr ?_ ?_
  rotate_left 2
  refine K1 3 ?_
  rotate_left
  refine K1 3 ?_
  rotate_left
  refine K1 5 ?_
  rotate_left
  refine K1 3 ?_
  rotate_left
  refine K1 3 ?_
  rotate_left
  all_goals first
   | (refine D3 7 rfl rfl (fun _ _ => SameI.out) (Nb [] [] us_Is f6 rfl rfl) (fun b14 _ => ?_); refine Ent.drop ?_)
   | refine D3 12 rfl rfl (fun _ _ => SameI.out) (Nb [_] [_] us_Is f6 rfl rfl) (fun b19 _ => ?_)
   | (refine d7 ?_; refine D3 6 rfl rfl (fun _ _ => SameI.out) (v7 (E := Enc.int) (ex := v) us_Is f6 rfl rfl rfl (Own.int i6v) rfl om om dc) (fun p13 _ => ?_))
   | (refine d7 ?_; refine g9 ?_; refine D3 6 rfl rfl (fun _ _ => SameI.out) (v7 (E := Enc.int) (ex := v) us_Is f6 rfl rfl rfl (Own.int i6v) rfl om om dc) (fun p13 _ => ?_))
   | refine D3 5 rfl rfl (fun _ _ => SameI.out) (Nb [_] [_] us_Is f6 rfl rfl) (fun b12 _ => ?_)
   | (refine g9 ?_; refine D3 6 rfl rfl (fun _ _ => SameI.out) (v7 (E := Enc.int) (ex := v) us_Is f6 rfl rfl rfl (Own.int i6v) rfl om om dc) (fun p13 _ => ?_))
   | (refine d7 ?_; refine d7 ?_; refine D3 6 rfl rfl (fun _ _ => SameI.out) (v7 (E := Enc.int) (ex := v) us_Is f6 rfl rfl rfl (Own.int i6v) rfl om om dc) (fun p13 _ => ?_))
   | (refine g9 ?_; refine g9 ?_; refine D3 6 rfl rfl (fun _ _ => SameI.out) (v7 (E := Enc.int) (ex := v) us_Is f6 rfl rfl rfl (Own.int i6v) rfl om om dc) (fun p13 _ => ?_))
   | refine D3 3 rfl rfl (fun _ _ => SameI.out) (G9 (E := Enc.int) Plain.int us_Is f6 rfl rfl rfl y8 om om dc) (fun p10 _ => ?_)
   | (refine g9 ?_; refine d7 ?_; refine D3 6 rfl rfl (fun _ _ => SameI.out) (v7 (E := Enc.int) (ex := v) us_Is f6 rfl rfl rfl (Own.int i6v) rfl om om dc) (fun p13 _ => ?_))
   | skip
  refine x4 (i := 10) (j := 12) kr ?_ ?_
  rotate_left 2
  refine K1 7 ?_
  rotate_left
  refine x4 (i := 10) (j := 12) kr ?_ ?_
  rotate_left 2
  refine K1 6 ?_
  rotate_left
  refine K1 7 ?_
  rotate_left
  refine K1 6 ?_
  rotate_left
  refine x4 (i := 10) (j := 12) kr ?_ ?_
  rotate_left 2
  refine K1 6 ?_
  rotate_left
  refine K1 6 ?_
  rotate_left
  refine K1 7 ?_
  rotate_left
  refine K1 6 ?_
  rotate_left
  refine K1 6 ?_
  rotate_left
  refine x4 (i := 10) (j := 12) kr ?_ ?_
  rotate_left 2
  refine K1 7 ?_
  rotate_left
  refine x4 (i := 10) (j := 12) kr ?_ ?_
  rotate_left 2
  refine K1 6 ?_
  rotate_left
  refine K1 7 ?_
  rotate_left
  refine K1 6 ?_
  rotate_left
  refine x4 (i := 10) (j := 12) kr ?_ ?_
  rotate_left 2
  refine K1 6 ?_
  rotate_left
  refine K1 6 ?_
  rotate_left
  refine K1 7 ?_
  rotate_left
  refine K1 6 ?_
  rotate_left
  refine K1 6 ?_
  rotate_left
  refine x4 (i := 10) (j := 12) kr ?_ ?_
  rotate_left 2
  refine K1 6 ?_
  rotate_left
  refine K1 6 ?_
  rotate_left
  refine x4 (i := 10) (j := 12) kr ?_ ?_
  rotate_left 2
  refine K1 6 ?_
  rotate_left
  refine K1 6 ?_
  rotate_left
  refine K1 6 ?_
  rotate_left
  refine K1 6 ?_
  rotate_left
  refine K1 7 ?_
  rotate_left
  refine K1 6 ?_
  rotate_left
  refine K1 6 ?_
  rotate_left
  refine K1 7 ?_
  rotate_left
  refine K1 6 ?_
  rotate_left
  refine K1 6 ?_
  rotate_left
  refine K1 6 ?_
  rotate_left
  refine K1 6 ?_
  rotate_left
  refine x4 (i := 10) (j := 12) kr ?_ ?_
  rotate_left 2
  refine K1 7 ?_
  rotate_left
  refine x4 (i := 10) (j := 12) kr ?_ ?_
  rotate_left 2
  refine K1 6 ?_
  rotate_left
  refine K1 7 ?_
  rotate_left
  refine K1 6 ?_
  rotate_left
  refine x4 (i := 10) (j := 12) kr ?_ ?_
  rotate_left 2
  refine K1 6 ?_
  rotate_left
  refine K1 6 ?_
  rotate_left
  refine K1 7 ?_
  rotate_left
  refine K1 6 ?_
  rotate_left
  refine K1 6 ?_
  rotate_left
  refine x4 (i := 10) (j := 12) kr ?_ ?_
  rotate_left 2
  refine K1 6 ?_
  rotate_left
  refine K1 6 ?_
  rotate_left
  refine K1 6 ?_
  rotate_left
  refine K1 7 ?_
  rotate_left
  refine K1 6 ?_
  rotate_left
  refine K1 6 ?_
  rotate_left
  refine K1 6 ?_
  rotate_left
  refine x4 (i := 10) (j := 12) kr ?_ ?_
  rotate_left 2
  refine K1 6 ?_
  rotate_left
  refine K1 6 ?_
  rotate_left
  refine x4 (i := 10) (j := 12) kr ?_ ?_
  rotate_left 2
  refine K1 6 ?_
  rotate_left
  refine K1 6 ?_
  rotate_left
  refine K1 6 ?_
  rotate_left
  refine K1 6 ?_
  rotate_left
  refine x4 (i := 10) (j := 12) kr ?_ ?_
  rotate_left 2
  refine K1 6 ?_
  rotate_left
  refine K1 6 ?_
  rotate_left
  refine K1 6 ?_
  rotate_left
  refine K1 6 ?_
  rotate_left
  refine K1 6 ?_
  rotate_left
  refine K1 6 ?_
  rotate_left
  refine K1 7 ?_
  rotate_left
  refine K1 6 ?_
  rotate_left
  refine K1 6 ?_
  rotate_left
  refine K1 7 ?_
  rotate_left
  refine K1 6 ?_
  rotate_left
  refine K1 6 ?_
  rotate_left
  refine K1 6 ?_
  rotate_left
  refine K1 6 ?_
  rotate_left
  refine K1 7 ?_
  rotate_left
  refine K1 6 ?_
  rotate_left
  refine K1 6 ?_
  rotate_left
  refine K1 6 ?_
  rotate_left
  refine K1 6 ?_
  rotate_left
  refine K1 6 ?_
  rotate_left
  refine K1 6 ?_
  rotate_left
  all_goals first
   | refine D3 10 rfl rfl (fun _ _ => SameI.out) (G9 (E := Enc.int) Plain.int us_Is f6 rfl rfl rfl u9 om om dc) (fun p17 _ => ?_)
   | refine D3 12 rfl rfl (fun _ _ => SameI.out) (Nb [_] [_] us_Is f6 rfl rfl) (fun b19 _ => ?_)
   | (refine D3 7 rfl rfl (fun _ _ => SameI.out) (Nb [] [] us_Is f6 rfl rfl) (fun b14 _ => ?_); refine Ent.drop ?_)
   | (refine d7 ?_; refine g9 ?_; refine D3 6 rfl rfl (fun _ _ => SameI.out) (v7 (E := Enc.int) (ex := v) us_Is f6 rfl rfl rfl (Own.int i6v) rfl om om dc) (fun p13 _ => ?_))
   | (refine g9 ?_; refine D3 6 rfl rfl (fun _ _ => SameI.out) (v7 (E := Enc.int) (ex := v) us_Is f6 rfl rfl rfl (Own.int i6v) rfl om om dc) (fun p13 _ => ?_))
   | (refine g9 ?_; refine g9 ?_; refine D3 6 rfl rfl (fun _ _ => SameI.out) (v7 (E := Enc.int) (ex := v) us_Is f6 rfl rfl rfl (Own.int i6v) rfl om om dc) (fun p13 _ => ?_))
   | (refine g9 ?_; refine d7 ?_; refine D3 6 rfl rfl (fun _ _ => SameI.out) (v7 (E := Enc.int) (ex := v) us_Is f6 rfl rfl rfl (Own.int i6v) rfl om om dc) (fun p13 _ => ?_))
   | (refine d7 ?_; refine D3 6 rfl rfl (fun _ _ => SameI.out) (v7 (E := Enc.int) (ex := v) us_Is f6 rfl rfl rfl (Own.int i6v) rfl om om dc) (fun p13 _ => ?_))
   | (refine d7 ?_; refine d7 ?_; refine D3 6 rfl rfl (fun _ _ => SameI.out) (v7 (E := Enc.int) (ex := v) us_Is f6 rfl rfl rfl (Own.int i6v) rfl om om dc) (fun p13 _ => ?_))
   | skip
  refine K1 12 ?_
  rotate_left
  refine K1 10 ?_
  rotate_left
  refine K1 10 ?_
  rotate_left
  refine K1 12 ?_
  rotate_left
  refine K1 10 ?_
  rotate_left
  refine K1 10 ?_
  rotate_left
  refine K1 10 ?_
  rotate_left
  refine K1 10 ?_
  rotate_left
  refine K1 12 ?_
  rotate_left
  refine K1 10 ?_
  rotate_left
  refine K1 10 ?_
  rotate_left
  refine K1 10 ?_
  rotate_left
  refine K1 10 ?_
  rotate_left
  refine K1 10 ?_
  rotate_left
  refine K1 10 ?_
  rotate_left
  refine K1 12 ?_
  rotate_left
  refine K1 10 ?_
  rotate_left
  refine K1 10 ?_
  rotate_left
  refine K1 12 ?_
  rotate_left
  refine K1 10 ?_
  rotate_left
  refine K1 10 ?_
  rotate_left
  refine K1 10 ?_
  rotate_left
  refine K1 10 ?_
  rotate_left
  refine K1 12 ?_
  rotate_left
  refine K1 10 ?_
  rotate_left
  refine K1 10 ?_
  rotate_left
  refine K1 10 ?_
  rotate_left
  refine K1 10 ?_
  rotate_left
  refine K1 10 ?_
  rotate_left
  refine K1 10 ?_
  rotate_left
  refine K1 12 ?_
  rotate_left
  refine K1 10 ?_
  rotate_left
  refine K1 10 ?_
  rotate_left
  refine K1 10 ?_
  rotate_left
  refine K1 12 ?_
  rotate_left
  refine K1 10 ?_
  rotate_left
  refine K1 10 ?_
  rotate_left
  refine K1 10 ?_
  rotate_left
  refine K1 10 ?_
  rotate_left
  refine K1 10 ?_
  rotate_left
  refine K1 10 ?_
  rotate_left
  refine K1 10 ?_
  rotate_left
  refine K1 10 ?_
  rotate_left
  refine K1 10 ?_
  rotate_left
  refine K1 10 ?_
  rotate_left
  refine K1 10 ?_
  rotate_left
  refine K1 10 ?_
  rotate_left
  refine K1 10 ?_
  rotate_left
  refine K1 12 ?_
  rotate_left
  refine K1 10 ?_
  rotate_left
  refine K1 10 ?_
  rotate_left
  refine K1 12 ?_
  rotate_left
  refine K1 10 ?_
  rotate_left
  refine K1 10 ?_
  rotate_left
  refine K1 10 ?_
  rotate_left
  refine K1 10 ?_
  rotate_left
  refine K1 12 ?_
  rotate_left
  refine K1 10 ?_
  rotate_left
  refine K1 10 ?_
  rotate_left
  refine K1 10 ?_
  rotate_left
  refine K1 10 ?_
  rotate_left
  refine K1 10 ?_
  rotate_left
  refine K1 10 ?_
  rotate_left
  refine K1 12 ?_
  rotate_left
  refine K1 10 ?_
  rotate_left
  refine K1 10 ?_
  rotate_left
  refine K1 10 ?_
  rotate_left
  refine K1 10 ?_
  rotate_left
  refine K1 10 ?_
  rotate_left
  refine K1 10 ?_
  rotate_left
  refine K1 10 ?_
  rotate_left
  refine K1 10 ?_
  rotate_left
  refine K1 12 ?_
  rotate_left
  refine K1 10 ?_
  rotate_left
  refine K1 10 ?_
  rotate_left
  refine K1 10 ?_
  rotate_left
  refine K1 12 ?_
  rotate_left
  refine K1 10 ?_
  rotate_left
  refine K1 10 ?_
  rotate_left
  refine K1 10 ?_
  rotate_left
  refine K1 10 ?_
  rotate_left
  refine K1 10 ?_
  rotate_left
  refine K1 12 ?_
  rotate_left
  refine K1 10 ?_
  rotate_left
  refine K1 10 ?_
  rotate_left
  refine K1 10 ?_
  rotate_left
  refine K1 10 ?_
  rotate_left
  refine K1 10 ?_
  rotate_left
  refine K1 10 ?_
  rotate_left
  refine K1 10 ?_
  rotate_left
  refine K1 10 ?_
  rotate_left
  refine K1 10 ?_
  rotate_left
  refine K1 10 ?_
  rotate_left
  refine K1 10 ?_
  rotate_left
  refine K1 10 ?_
  rotate_left
  refine K1 10 ?_
  rotate_left
  refine K1 10 ?_
  rotate_left
  refine K1 10 ?_
  rotate_left
  refine K1 10 ?_
  rotate_left
  refine K1 10 ?_
  rotate_left
  refine K1 10 ?_
  rotate_left
  refine K1 10 ?_
  rotate_left
  refine K1 10 ?_
  rotate_left
  refine K1 10 ?_
  rotate_left
  refine K1 10 ?_
  rotate_left
  all_goals first
   | refine D3 12 rfl rfl (fun _ _ => SameI.out) (Nb [_] [_] us_Is f6 rfl rfl) (fun b19 _ => ?_)
   | refine D3 10 rfl rfl (fun _ _ => SameI.out) (G9 (E := Enc.int) Plain.int us_Is f6 rfl rfl rfl u9 om om dc) (fun p17 _ => ?_)
   | skip
  refine K1 13 ?_
  rotate_left
  refine K1 13 ?_
  rotate_left
  refine K1 13 ?_
  rotate_left
  refine K1 13 ?_
  rotate_left
  refine K1 13 ?_
  rotate_left
  refine K1 13 ?_
  rotate_left
  refine K1 13 ?_
  rotate_left
  refine K1 13 ?_
  rotate_left
  refine K1 13 ?_
  rotate_left
  refine K1 13 ?_
  rotate_left
  refine K1 13 ?_
  rotate_left
  refine K1 13 ?_
  rotate_left
  refine K1 13 ?_
  rotate_left
  refine K1 13 ?_
  rotate_left
  refine K1 13 ?_
  rotate_left
  refine K1 13 ?_
  rotate_left
  refine K1 13 ?_
  rotate_left
  refine K1 13 ?_
  rotate_left
  refine K1 13 ?_
  rotate_left
  refine K1 13 ?_
  rotate_left
  refine K1 13 ?_
  rotate_left
  refine K1 13 ?_
  rotate_left
  refine K1 13 ?_
  rotate_left
  refine K1 13 ?_
  rotate_left
  refine K1 13 ?_
  rotate_left
  refine K1 13 ?_
  rotate_left
  refine K1 13 ?_
  rotate_left
  refine K1 13 ?_
  rotate_left
  refine K1 13 ?_
  rotate_left
  refine K1 13 ?_
  rotate_left
  refine K1 13 ?_
  rotate_left
  refine K1 13 ?_
  rotate_left
  refine K1 13 ?_
  rotate_left
  refine K1 13 ?_
  rotate_left
  refine K1 13 ?_
  rotate_left
  refine K1 13 ?_
  rotate_left
  refine K1 13 ?_
  rotate_left
  refine K1 13 ?_
  rotate_left
  refine K1 13 ?_
  rotate_left
  refine K1 13 ?_
  rotate_left
  refine K1 13 ?_
  rotate_left
  refine K1 13 ?_
  rotate_left
  refine K1 13 ?_
  rotate_left
  refine K1 13 ?_
  rotate_left
  refine K1 13 ?_
  rotate_left
  refine K1 13 ?_
  rotate_left
  refine K1 13 ?_
  rotate_left
  refine K1 13 ?_
  rotate_left
  refine K1 13 ?_
  rotate_left
  refine K1 13 ?_
  rotate_left
  refine K1 13 ?_
  rotate_left
  refine K1 13 ?_
  rotate_left
  refine K1 13 ?_
  rotate_left
  refine K1 13 ?_
  rotate_left
  refine K1 13 ?_
  rotate_left
  refine K1 13 ?_
  rotate_left
  refine K1 13 ?_
  rotate_left
  refine K1 13 ?_
  rotate_left
  refine K1 13 ?_
  rotate_left
  refine K1 13 ?_
  rotate_left
  refine K1 13 ?_
  rotate_left
  refine K1 13 ?_
  rotate_left
  refine K1 13 ?_
  rotate_left
  refine K1 13 ?_
  rotate_left
  refine K1 13 ?_
  rotate_left
  refine K1 13 ?_
  rotate_left
  refine K1 13 ?_
  rotate_left
  refine K1 13 ?_
  rotate_left
  refine K1 13 ?_
  rotate_left
  refine K1 13 ?_
  rotate_left
  refine K1 13 ?_
  rotate_left
  refine K1 13 ?_
  rotate_left
  refine K1 13 ?_
  rotate_left
  refine K1 13 ?_
  rotate_left
  refine K1 13 ?_
  rotate_left
  refine K1 13 ?_
  rotate_left
  refine K1 13 ?_
  rotate_left
  refine K1 13 ?_
  rotate_left
  refine K1 13 ?_
  rotate_left
  refine K1 13 ?_
  rotate_left
  refine K1 13 ?_
  rotate_left
  refine K1 13 ?_
  rotate_left
  refine K1 13 ?_
  rotate_left
  refine K1 13 ?_
  rotate_left
  refine K1 13 ?_
  rotate_left
  refine K1 13 ?_
  rotate_left
  refine K1 13 ?_
  rotate_left
  refine K1 13 ?_
  rotate_left
  refine K1 13 ?_
  rotate_left
  refine K1 13 ?_
  rotate_left
  refine K1 13 ?_
  rotate_left
  refine K1 13 ?_
  rotate_left
  refine K1 13 ?_
  rotate_left
  refine K1 13 ?_
  rotate_left
  refine K1 13 ?_
  rotate_left
  refine K1 13 ?_
  rotate_left
  refine K1 13 ?_
  rotate_left
  refine K1 13 ?_
  rotate_left
  refine K1 13 ?_
  rotate_left
  refine K1 13 ?_
  rotate_left
  refine K1 13 ?_
  rotate_left
  refine K1 13 ?_
  rotate_left
  refine K1 13 ?_
  rotate_left
  refine K1 13 ?_
  rotate_left
  refine K1 13 ?_
  rotate_left
  all_goals first
   | (refine d7 ?_; refine D3 13 rfl rfl (fun _ _ => SameI.out) (v7 (E := Enc.int) (ex := x) us_Is f6 rfl rfl rfl (Own.int i6x) rfl om om dc) (fun p20 _ => ?_))
   | (refine d7 ?_; refine d7 ?_; refine D3 13 rfl rfl (fun _ _ => SameI.out) (v7 (E := Enc.int) (ex := x) us_Is f6 rfl rfl rfl (Own.int i6x) rfl om om dc) (fun p20 _ => ?_))
   | (refine g9 ?_; refine d7 ?_; refine D3 13 rfl rfl (fun _ _ => SameI.out) (v7 (E := Enc.int) (ex := x) us_Is f6 rfl rfl rfl (Own.int i6x) rfl om om dc) (fun p20 _ => ?_))
   | skip
  all_goals first
   | (refine t8 14 rfl rfl dc (E9 (pvs := [_, _]) (cs := [_, _]) ty_Binding pl_Binding rfl rfl) kr ?_; refine g9 ?_; refine x2 15 rfl rfl kr (fun h => by cases h) (Ns [_, _] ty_Binding rfl) (fun _ _ => ?_); refine E8 kr (l3 ?_); refine l3 ?_; refine l3 ?_; refine l3 ?_; exact E3 (p13, p20) trivial ⟨rfl, trivial⟩ (.refl _))
 ·obtain ⟨p13, p20⟩ := kM
  try dsimp only
  refine Et (E.ret (d7 (g9 (d7 (d7 ?_)))))
  exact H8 br rfl rfl (mS (mS m0)) ty_Binding rfl ((_, _, _), (_, _, _)) trivial rfl (J := _) (.refl _) (.inl rfl)
end Go.Proofs.YtbedienpleiamaaGreat
