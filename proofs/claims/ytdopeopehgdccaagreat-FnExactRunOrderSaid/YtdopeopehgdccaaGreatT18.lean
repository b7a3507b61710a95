import Derived.Test.YtdopeopehgdccaaGreatBs
import Derived.Test.YtdopeopehgdccaaGreatT6
import Derived.Test.YtdopeopehgdccaaGreatBd
import Derived.Test.YtdopeopehgdccaaGreatBe
import Derived.Test.YtdopeopehgdccaaGreatEf
namespace Go.Proofs.YtdopeopehgdccaaGreat
open Go.RowKit
set_option linter.all false
set_option maxHeartbeats 2000000
attribute [local irreducible] Nop Yd Yp Ent Has Tr FnP FnP2 Src M5 V6 Y1 a0b D2
theorem a6J {w3 : Option Addr} {y7 v8 : Nat} {j4 : List Int} {l4 : Option Addr} {o2 l3 : Nat} {f9 : List Int} {v : Int} {x : Int} (hb1 : j4.length ≤ 1000000) (hb2 : f9.length ≤ 1000000) : Tr Tryz.prog 248 [.agg #[.slice w3 y7 v8, .slice l4 o2 l3], .int .i64 v, .int .i64 x] (fun w L => Ro w L eIs [.slice w3 y7 v8] j4 ∧ Ro w L eIs [.slice l4 o2 l3] f9 ∧ I64 v ∧ I64 x) [] (κ := (Option Addr × Nat × Nat) × (Option Addr × Nat × Nat)) (fun k => True) (fun k => .agg #[.slice k.1.1 k.1.2.1 k.1.2.2, .slice k.2.1 k.2.2.1 k.2.2.2]) (fun k => [ow eIs [.slice k.1.1 k.1.2.1 k.1.2.2] (j4 ++ [v]), ow eIs [.slice k.2.1 k.2.2.1 k.2.2.2] (f9 ++ [x])]) := by
 refine Tr.intro Tryz.func248 rfl (n := 22) rfl (by decide +kernel) bl (fr := [(0, .agg #[.slice w3 y7 v8, .slice l4 o2 l3]), (1, .int .i64 v), (2, .int .i64 x)]) rfl fun w L hR => ?_
 obtain ⟨B0, r6, i6v, i6x⟩ := hR
 obtain ⟨rfl, W3⟩ := B0.slen
 obtain ⟨rfl, G7⟩ := r6.slen
 refine Ew Z2 (Est rfl (N.box (cs := [_, _]) rfl dc rfl) (fun b3 _ => (Est rfl (N.alloc ty_Binding dc) (fun b6 _ => (Eu (Eq_ (E.mid (κ := (Option Addr × Nat) × (Option Addr × Nat)) (fun _ => True) (fun kM => [(6, .pointer (some ⟨b6, 0, none⟩))]) (fun kM => [pt b6 125 [.slice kM.1.1 (j4.length + 1) kM.1.2, .slice kM.2.1 (f9.length + 1) kM.2.2], ow eIs [.slice kM.2.1 (f9.length + 1) kM.2.2] (f9 ++ [x]), ow eIs [.slice kM.1.1 (j4.length + 1) kM.1.2] (j4 ++ [v]), pt b3 125 [.slice w3 j4.length v8, .slice l4 f9.length l3]]) ?_ (fun kM _ => ?_))))))))
 ·refine D.Kregion [b6, b3] (fun j => !(Nat.beq j 15)) mixed (D.Kyp 1 rfl rfl dc (Y.fld fo_Binding_0 ty_Is dc rfl) kr (D.Ky 2 rfl rfl dc (Y.ldK1 ty_Is rfl ((a0B.pt (mS m0) (by simp)).sub (cs' := [_]) 0 rfl) rfl) kr (D.Kyp 4 rfl rfl dc (Y.mv rfl) kr (D.Kyp 8 rfl rfl dc (Y.fld fo_Binding_1 ty_Is dc rfl) kr (D.Ky 9 rfl rfl dc (Y.ldK1 ty_Is rfl ((a0B.pt (mS m0) (by simp)).sub (cs' := [_]) 1 rfl) rfl) kr (D.Kyp 11 rfl rfl dc (Y.mv rfl) kr (D.Kch4 (i := 0) (j := 5) (l := 7) (m := 12) kr ?_ ?_ ?_ ?_)))))))
  rotate_left 4
  all_goals first
   | (refine D.Kpk 0 rfl rfl (fun _ _ => SameI.out) (N.bsl (pvs := []) (cs := []) us_Is f8 rfl dc dc (o8 rfl rfl) rfl dc) (fun b7 _ => ?_); refine Ent.drop ?_)
   | refine D.Kpk 5 rfl rfl (fun _ _ => SameI.out) (N.bsl (pvs := [_]) (cs := [_]) us_Is f8 rfl dc dc (o8 rfl rfl) rfl dc) (fun b12 _ => ?_)
   | (refine D.Kpk 7 rfl rfl (fun _ _ => SameI.out) (N.bsl (pvs := []) (cs := []) us_Is f8 rfl dc dc (o8 rfl rfl) rfl dc) (fun b14 _ => ?_); refine Ent.drop ?_)
   | refine D.Kpk 12 rfl rfl (fun _ _ => SameI.out) (N.bsl (pvs := [_]) (cs := [_]) us_Is f8 rfl dc dc (o8 rfl rfl) rfl dc) (fun b19 _ => ?_)
   | skip
  refine D.Kch4 (i := 3) (j := 5) (l := 7) (m := 12) kr ?_ ?_ ?_ ?_
  rotate_left 4
  refine D.Kch3 (i := 0) (j := 7) (l := 12) kr ?_ ?_ ?_
  rotate_left 3
  refine D.Kch3 (i := 0) (j := 5) (l := 12) kr ?_ ?_ ?_
  rotate_left 3
  refine D.Kch3 (i := 0) (j := 5) (l := 7) kr ?_ ?_ ?_
  rotate_left 3
  all_goals first
   | refine D.Kpk 3 rfl rfl (fun _ _ => SameI.out) (N.pushR0 (E := Enc.int) Plain.int us_Is f8 rfl rfl rfl B0 om om dc) (fun p10 _ => ?_)
   | refine D.Kpk 5 rfl rfl (fun _ _ => SameI.out) (N.bsl (pvs := [_]) (cs := [_]) us_Is f8 rfl dc dc (o8 rfl rfl) rfl dc) (fun b12 _ => ?_)
   | (refine D.Kpk 7 rfl rfl (fun _ _ => SameI.out) (N.bsl (pvs := []) (cs := []) us_Is f8 rfl dc dc (o8 rfl rfl) rfl dc) (fun b14 _ => ?_); refine Ent.drop ?_)
   | refine D.Kpk 12 rfl rfl (fun _ _ => SameI.out) (N.bsl (pvs := [_]) (cs := [_]) us_Is f8 rfl dc dc (o8 rfl rfl) rfl dc) (fun b19 _ => ?_)
   | (refine D.Kpk 0 rfl rfl (fun _ _ => SameI.out) (N.bsl (pvs := []) (cs := []) us_Is f8 rfl dc dc (o8 rfl rfl) rfl dc) (fun b7 _ => ?_); refine Ent.drop ?_)
   | skip
  refine D.Kch3 (i := 5) (j := 7) (l := 12) kr ?_ ?_ ?_
  rotate_left 3
  refine D.Kch3 (i := 3) (j := 7) (l := 12) kr ?_ ?_ ?_
  rotate_left 3
  refine D.Kch3 (i := 3) (j := 5) (l := 12) kr ?_ ?_ ?_
  rotate_left 3
  refine D.Kch3 (i := 3) (j := 5) (l := 7) kr ?_ ?_ ?_
  rotate_left 3
  refine D.Kch3 (i := 3) (j := 7) (l := 12) kr ?_ ?_ ?_
  rotate_left 3
  refine D.Kch2 (i := 0) (j := 12) kr ?_ ?_
  rotate_left 2
  refine D.Kch2 (i := 0) (j := 7) kr ?_ ?_
  rotate_left 2
  refine D.Kch3 (i := 3) (j := 5) (l := 12) kr ?_ ?_ ?_
  rotate_left 3
  refine D.Kch2 (i := 0) (j := 12) kr ?_ ?_
  rotate_left 2
  refine D.Kch2 (i := 0) (j := 5) kr ?_ ?_
  rotate_left 2
  refine D.Kch3 (i := 3) (j := 5) (l := 7) kr ?_ ?_ ?_
  rotate_left 3
  refine D.Kch2 (i := 0) (j := 7) kr ?_ ?_
  rotate_left 2
  refine D.Kch2 (i := 0) (j := 5) kr ?_ ?_
  rotate_left 2
  all_goals first
   | refine D.Kpk 5 rfl rfl (fun _ _ => SameI.out) (N.bsl (pvs := [_]) (cs := [_]) us_Is f8 rfl dc dc (o8 rfl rfl) rfl dc) (fun b12 _ => ?_)
   | (refine D.Kpk 7 rfl rfl (fun _ _ => SameI.out) (N.bsl (pvs := []) (cs := []) us_Is f8 rfl dc dc (o8 rfl rfl) rfl dc) (fun b14 _ => ?_); refine Ent.drop ?_)
   | refine D.Kpk 12 rfl rfl (fun _ _ => SameI.out) (N.bsl (pvs := [_]) (cs := [_]) us_Is f8 rfl dc dc (o8 rfl rfl) rfl dc) (fun b19 _ => ?_)
   | refine D.Kpk 3 rfl rfl (fun _ _ => SameI.out) (N.pushR0 (E := Enc.int) Plain.int us_Is f8 rfl rfl rfl B0 om om dc) (fun p10 _ => ?_)
   | (refine D.Kpk 0 rfl rfl (fun _ _ => SameI.out) (N.bsl (pvs := []) (cs := []) us_Is f8 rfl dc dc (o8 rfl rfl) rfl dc) (fun b7 _ => ?_); refine Ent.drop ?_)
   | skip
  refine D.Kch3 (i := 6) (j := 7) (l := 12) kr ?_ ?_ ?_
  rotate_left 3
  refine D.Kch2 (i := 5) (j := 12) kr ?_ ?_
  rotate_left 2
  refine D.Kch2 (i := 5) (j := 7) kr ?_ ?_
  rotate_left 2
  refine D.Kch3 (i := 6) (j := 7) (l := 12) kr ?_ ?_ ?_
  rotate_left 3
  refine D.Kch2 (i := 3) (j := 12) kr ?_ ?_
  rotate_left 2
  refine D.Kch2 (i := 3) (j := 7) kr ?_ ?_
  rotate_left 2
  refine D.Kch2 (i := 5) (j := 12) kr ?_ ?_
  rotate_left 2
  refine D.Kch2 (i := 3) (j := 12) kr ?_ ?_
  rotate_left 2
  refine D.Kch2 (i := 3) (j := 5) kr ?_ ?_
  rotate_left 2
  refine D.Kch2 (i := 5) (j := 7) kr ?_ ?_
  rotate_left 2
  refine D.Kch2 (i := 3) (j := 7) kr ?_ ?_
  rotate_left 2
  refine D.Kch2 (i := 3) (j := 5) kr ?_ ?_
  rotate_left 2
  refine D.Kch3 (i := 6) (j := 7) (l := 12) kr ?_ ?_ ?_
  rotate_left 3
  refine D.Kch2 (i := 3) (j := 12) kr ?_ ?_
  rotate_left 2
  refine D.Kch2 (i := 3) (j := 7) kr ?_ ?_
  rotate_left 2
  refine D.Kch2 (i := 3) (j := 12) kr ?_ ?_
  rotate_left 2
  refine K1 0 ?_
  rotate_left
  refine D.Kch2 (i := 3) (j := 7) kr ?_ ?_
  rotate_left 2
  refine K1 0 ?_
  rotate_left
  refine D.Kch2 (i := 5) (j := 12) kr ?_ ?_
  rotate_left 2
  refine D.Kch2 (i := 3) (j := 12) kr ?_ ?_
  rotate_left 2
  refine D.Kch2 (i := 3) (j := 5) kr ?_ ?_
  rotate_left 2
  refine D.Kch2 (i := 3) (j := 12) kr ?_ ?_
  rotate_left 2
  refine K1 0 ?_
  rotate_left
  refine D.Kch2 (i := 3) (j := 5) kr ?_ ?_
  rotate_left 2
  refine K1 0 ?_
  rotate_left
  refine D.Kch2 (i := 5) (j := 7) kr ?_ ?_
  rotate_left 2
  refine D.Kch2 (i := 3) (j := 7) kr ?_ ?_
  rotate_left 2
  refine D.Kch2 (i := 3) (j := 5) kr ?_ ?_
  rotate_left 2
  refine D.Kch2 (i := 3) (j := 7) kr ?_ ?_
  rotate_left 2
  refine K1 0 ?_
  rotate_left
  refine D.Kch2 (i := 3) (j := 5) kr ?_ ?_
  rotate_left 2
  refine K1 0 ?_
  rotate_left
  all_goals first
   | (refine Ent.p1 ?_; refine D.Kpk 6 rfl rfl (fun _ _ => SameI.out) (N.push (E := Enc.int) (ex := v) us_Is f8 rfl rfl rfl (Own.int i6v) rfl om om dc) (fun p13 _ => ?_))
   | (refine D.Kpk 7 rfl rfl (fun _ _ => SameI.out) (N.bsl (pvs := []) (cs := []) us_Is f8 rfl dc dc (o8 rfl rfl) rfl dc) (fun b14 _ => ?_); refine Ent.drop ?_)
   | refine D.Kpk 12 rfl rfl (fun _ _ => SameI.out) (N.bsl (pvs := [_]) (cs := [_]) us_Is f8 rfl dc dc (o8 rfl rfl) rfl dc) (fun b19 _ => ?_)
   | refine D.Kpk 5 rfl rfl (fun _ _ => SameI.out) (N.bsl (pvs := [_]) (cs := [_]) us_Is f8 rfl dc dc (o8 rfl rfl) rfl dc) (fun b12 _ => ?_)
   | (refine Ent.p1 ?_; refine Ent.p1 ?_; refine D.Kpk 6 rfl rfl (fun _ _ => SameI.out) (N.push (E := Enc.int) (ex := v) us_Is f8 rfl rfl rfl (Own.int i6v) rfl om om dc) (fun p13 _ => ?_))
   | refine D.Kpk 3 rfl rfl (fun _ _ => SameI.out) (N.pushR0 (E := Enc.int) Plain.int us_Is f8 rfl rfl rfl B0 om om dc) (fun p10 _ => ?_)
   | (refine D.Kpk 0 rfl rfl (fun _ _ => SameI.out) (N.bsl (pvs := []) (cs := []) us_Is f8 rfl dc dc (o8 rfl rfl) rfl dc) (fun b7 _ => ?_); refine Ent.drop ?_)
   | skip
  refine D.Kch2 (i := 7) (j := 12) kr ?_ ?_
  rotate_left 2
  refine D.Kch2 (i := 6) (j := 12) kr ?_ ?_
  rotate_left 2
  refine D.Kch2 (i := 6) (j := 7) kr ?_ ?_
  rotate_left 2
  refine D.Kch2 (i := 6) (j := 12) kr ?_ ?_
  rotate_left 2
  refine K1 5 ?_
  rotate_left
  refine D.Kch2 (i := 6) (j := 7) kr ?_ ?_
  rotate_left 2
  refine K1 5 ?_
  rotate_left
  refine D.Kch2 (i := 7) (j := 12) kr ?_ ?_
  rotate_left 2
  refine D.Kch2 (i := 6) (j := 12) kr ?_ ?_
  rotate_left 2
  refine D.Kch2 (i := 6) (j := 7) kr ?_ ?_
  rotate_left 2
  refine D.Kch2 (i := 6) (j := 12) kr ?_ ?_
  rotate_left 2
  refine K1 3 ?_
  rotate_left
  refine D.Kch2 (i := 6) (j := 7) kr ?_ ?_
  rotate_left 2
  refine K1 3 ?_
  rotate_left
  refine D.Kch2 (i := 6) (j := 12) kr ?_ ?_
  rotate_left 2
  refine K1 5 ?_
  rotate_left
  refine D.Kch2 (i := 6) (j := 12) kr ?_ ?_
  rotate_left 2
  refine K1 3 ?_
  rotate_left
  refine K1 5 ?_
  rotate_left
  refine K1 3 ?_
  rotate_left
  refine D.Kch2 (i := 6) (j := 7) kr ?_ ?_
  rotate_left 2
  refine K1 5 ?_
  rotate_left
  refine D.Kch2 (i := 6) (j := 7) kr ?_ ?_
  rotate_left 2
  refine K1 3 ?_
  rotate_left
  refine K1 5 ?_
  rotate_left
  refine K1 3 ?_
  rotate_left
  refine D.Kch2 (i := 7) (j := 12) kr ?_ ?_
  rotate_left 2
  refine D.Kch2 (i := 6) (j := 12) kr ?_ ?_
  rotate_left 2
  refine D.Kch2 (i := 6) (j := 7) kr ?_ ?_
  rotate_left 2
  refine D.Kch2 (i := 6) (j := 12) kr ?_ ?_
  rotate_left 2
  refine K1 3 ?_
  rotate_left
  refine D.Kch2 (i := 6) (j := 7) kr ?_ ?_
  rotate_left 2
  refine K1 3 ?_
  rotate_left
  refine D.Kch2 (i := 6) (j := 12) kr ?_ ?_
  rotate_left 2
  refine K1 3 ?_
  rotate_left
  refine K1 3 ?_
  rotate_left
  refine D.Kch2 (i := 6) (j := 7) kr ?_ ?_
  rotate_left 2
  refine K1 3 ?_
  rotate_left
  refine K1 3 ?_
  rotate_left
  refine D.Kch2 (i := 6) (j := 12) kr ?_ ?_
  rotate_left 2
  refine K1 5 ?_
  rotate_left
  refine D.Kch2 (i := 6) (j := 12) kr ?_ ?_
  rotate_left 2
  refine K1 3 ?_
  rotate_left
  refine K1 5 ?_
  rotate_left
  refine K1 3 ?_
  rotate_left
  refine D.Kch2 (i := 6) (j := 12) kr ?_ ?_
  rotate_left 2
  refine K1 3 ?_
  rotate_left
  refine K1 3 ?_
  rotate_left
  refine K1 5 ?_
  rotate_left
  refine K1 3 ?_
  rotate_left
  refine K1 3 ?_
  rotate_left
  refine D.Kch2 (i := 6) (j := 7) kr ?_ ?_
  rotate_left 2
  refine K1 5 ?_
  rotate_left
  refine D.Kch2 (i := 6) (j := 7) kr ?_ ?_
  rotate_left 2
  refine K1 3 ?_
  rotate_left
  refine K1 5 ?_
  rotate_left
  refine K1 3 ?_
  rotate_left
  refine D.Kch2 (i := 6) (j := 7) kr ?_ ?_
  rotate_left 2
  refine K1 3 ?_
  rotate_left
  refine K1 3 ?_
  rotate_left
  refine K1 5 ?_
  rotate_left
  refine K1 3 ?_
  rotate_left
  refine K1 3 ?_
  rotate_left
  all_goals first
   | (refine D.Kpk 7 rfl rfl (fun _ _ => SameI.out) (N.bsl (pvs := []) (cs := []) us_Is f8 rfl dc dc (o8 rfl rfl) rfl dc) (fun b14 _ => ?_); refine Ent.drop ?_)
   | refine D.Kpk 12 rfl rfl (fun _ _ => SameI.out) (N.bsl (pvs := [_]) (cs := [_]) us_Is f8 rfl dc dc (o8 rfl rfl) rfl dc) (fun b19 _ => ?_)
   | (refine Ent.p1 ?_; refine D.Kpk 6 rfl rfl (fun _ _ => SameI.out) (N.push (E := Enc.int) (ex := v) us_Is f8 rfl rfl rfl (Own.int i6v) rfl om om dc) (fun p13 _ => ?_))
   | (refine Ent.p1 ?_; refine Ent.p2 ?_; refine D.Kpk 6 rfl rfl (fun _ _ => SameI.out) (N.push (E := Enc.int) (ex := v) us_Is f8 rfl rfl rfl (Own.int i6v) rfl om om dc) (fun p13 _ => ?_))
   | refine D.Kpk 5 rfl rfl (fun _ _ => SameI.out) (N.bsl (pvs := [_]) (cs := [_]) us_Is f8 rfl dc dc (o8 rfl rfl) rfl dc) (fun b12 _ => ?_)
   | (refine Ent.p2 ?_; refine D.Kpk 6 rfl rfl (fun _ _ => SameI.out) (N.push (E := Enc.int) (ex := v) us_Is f8 rfl rfl rfl (Own.int i6v) rfl om om dc) (fun p13 _ => ?_))
   | (refine Ent.p1 ?_; refine Ent.p1 ?_; refine D.Kpk 6 rfl rfl (fun _ _ => SameI.out) (N.push (E := Enc.int) (ex := v) us_Is f8 rfl rfl rfl (Own.int i6v) rfl om om dc) (fun p13 _ => ?_))
   | (refine Ent.p2 ?_; refine Ent.p2 ?_; refine D.Kpk 6 rfl rfl (fun _ _ => SameI.out) (N.push (E := Enc.int) (ex := v) us_Is f8 rfl rfl rfl (Own.int i6v) rfl om om dc) (fun p13 _ => ?_))
   | refine D.Kpk 3 rfl rfl (fun _ _ => SameI.out) (N.pushR0 (E := Enc.int) Plain.int us_Is f8 rfl rfl rfl B0 om om dc) (fun p10 _ => ?_)
   | (refine Ent.p2 ?_; refine Ent.p1 ?_; refine D.Kpk 6 rfl rfl (fun _ _ => SameI.out) (N.push (E := Enc.int) (ex := v) us_Is f8 rfl rfl rfl (Own.int i6v) rfl om om dc) (fun p13 _ => ?_))
   | skip
  refine D.Kch2 (i := 10) (j := 12) kr ?_ ?_
  rotate_left 2
  refine K1 7 ?_
  rotate_left
  refine D.Kch2 (i := 10) (j := 12) kr ?_ ?_
  rotate_left 2
  refine K1 6 ?_
  rotate_left
  refine K1 7 ?_
  rotate_left
  refine K1 6 ?_
  rotate_left
  refine D.Kch2 (i := 10) (j := 12) kr ?_ ?_
  rotate_left 2
  refine K1 6 ?_
  rotate_left
  refine K1 6 ?_
  rotate_left
  refine K1 7 ?_
  rotate_left
  refine K1 6 ?_
  rotate_left
  refine K1 6 ?_
  rotate_left
  refine D.Kch2 (i := 10) (j := 12) kr ?_ ?_
  rotate_left 2
  refine K1 7 ?_
  rotate_left
  refine D.Kch2 (i := 10) (j := 12) kr ?_ ?_
  rotate_left 2
  refine K1 6 ?_
  rotate_left
  refine K1 7 ?_
  rotate_left
  refine K1 6 ?_
  rotate_left
  refine D.Kch2 (i := 10) (j := 12) kr ?_ ?_
  rotate_left 2
  refine K1 6 ?_
  rotate_left
  refine K1 6 ?_
  rotate_left
  refine K1 7 ?_
  rotate_left
  refine K1 6 ?_
  rotate_left
  refine K1 6 ?_
  rotate_left
  refine D.Kch2 (i := 10) (j := 12) kr ?_ ?_
  rotate_left 2
  refine K1 6 ?_
  rotate_left
  refine K1 6 ?_
  rotate_left
  refine D.Kch2 (i := 10) (j := 12) kr ?_ ?_
  rotate_left 2
  refine K1 6 ?_
  rotate_left
  refine K1 6 ?_
  rotate_left
  refine K1 6 ?_
  rotate_left
  refine K1 6 ?_
  rotate_left
  refine K1 7 ?_
  rotate_left
  refine K1 6 ?_
  rotate_left
  refine K1 6 ?_
  rotate_left
  refine K1 7 ?_
  rotate_left
  refine K1 6 ?_
  rotate_left
  refine K1 6 ?_
  rotate_left
  refine K1 6 ?_
  rotate_left
  refine K1 6 ?_
  rotate_left
  refine D.Kch2 (i := 10) (j := 12) kr ?_ ?_
  rotate_left 2
  refine K1 7 ?_
  rotate_left
  refine D.Kch2 (i := 10) (j := 12) kr ?_ ?_
  rotate_left 2
  refine K1 6 ?_
  rotate_left
  refine K1 7 ?_
  rotate_left
  refine K1 6 ?_
  rotate_left
  refine D.Kch2 (i := 10) (j := 12) kr ?_ ?_
  rotate_left 2
  refine K1 6 ?_
  rotate_left
  refine K1 6 ?_
  rotate_left
  refine K1 7 ?_
  rotate_left
  refine K1 6 ?_
  rotate_left
  refine K1 6 ?_
  rotate_left
  refine D.Kch2 (i := 10) (j := 12) kr ?_ ?_
  rotate_left 2
  refine K1 6 ?_
  rotate_left
  refine K1 6 ?_
  rotate_left
  refine K1 6 ?_
  rotate_left
  refine K1 7 ?_
  rotate_left
  refine K1 6 ?_
  rotate_left
  refine K1 6 ?_
  rotate_left
  refine K1 6 ?_
  rotate_left
  refine D.Kch2 (i := 10) (j := 12) kr ?_ ?_
  rotate_left 2
  refine K1 6 ?_
  rotate_left
  refine K1 6 ?_
  rotate_left
  refine D.Kch2 (i := 10) (j := 12) kr ?_ ?_
  rotate_left 2
  refine K1 6 ?_
  rotate_left
  refine K1 6 ?_
  rotate_left
  refine K1 6 ?_
  rotate_left
  refine K1 6 ?_
  rotate_left
  refine D.Kch2 (i := 10) (j := 12) kr ?_ ?_
  rotate_left 2
  refine K1 6 ?_
  rotate_left
  refine K1 6 ?_
  rotate_left
  refine K1 6 ?_
  rotate_left
  refine K1 6 ?_
  rotate_left
  refine K1 6 ?_
  rotate_left
  refine K1 6 ?_
  rotate_left
  refine K1 7 ?_
  rotate_left
  refine K1 6 ?_
  rotate_left
  refine K1 6 ?_
  rotate_left
  refine K1 7 ?_
  rotate_left
  refine K1 6 ?_
  rotate_left
  refine K1 6 ?_
  rotate_left
  refine K1 6 ?_
  rotate_left
  refine K1 6 ?_
  rotate_left
  refine K1 7 ?_
  rotate_left
  refine K1 6 ?_
  rotate_left
  refine K1 6 ?_
  rotate_left
  refine K1 6 ?_
  rotate_left
  refine K1 6 ?_
  rotate_left
  refine K1 6 ?_
  rotate_left
  refine K1 6 ?_
  rotate_left
  all_goals first
   | refine D.Kpk 10 rfl rfl (fun _ _ => SameI.out) (N.pushR0 (E := Enc.int) Plain.int us_Is f8 rfl rfl rfl r6 om om dc) (fun p17 _ => ?_)
   | refine D.Kpk 12 rfl rfl (fun _ _ => SameI.out) (N.bsl (pvs := [_]) (cs := [_]) us_Is f8 rfl dc dc (o8 rfl rfl) rfl dc) (fun b19 _ => ?_)
   | (refine D.Kpk 7 rfl rfl (fun _ _ => SameI.out) (N.bsl (pvs := []) (cs := []) us_Is f8 rfl dc dc (o8 rfl rfl) rfl dc) (fun b14 _ => ?_); refine Ent.drop ?_)
   | (refine Ent.p1 ?_; refine Ent.p2 ?_; refine D.Kpk 6 rfl rfl (fun _ _ => SameI.out) (N.push (E := Enc.int) (ex := v) us_Is f8 rfl rfl rfl (Own.int i6v) rfl om om dc) (fun p13 _ => ?_))
   | (refine Ent.p2 ?_; refine D.Kpk 6 rfl rfl (fun _ _ => SameI.out) (N.push (E := Enc.int) (ex := v) us_Is f8 rfl rfl rfl (Own.int i6v) rfl om om dc) (fun p13 _ => ?_))
   | (refine Ent.p2 ?_; refine Ent.p2 ?_; refine D.Kpk 6 rfl rfl (fun _ _ => SameI.out) (N.push (E := Enc.int) (ex := v) us_Is f8 rfl rfl rfl (Own.int i6v) rfl om om dc) (fun p13 _ => ?_))
   | (refine Ent.p2 ?_; refine Ent.p1 ?_; refine D.Kpk 6 rfl rfl (fun _ _ => SameI.out) (N.push (E := Enc.int) (ex := v) us_Is f8 rfl rfl rfl (Own.int i6v) rfl om om dc) (fun p13 _ => ?_))
   | (refine Ent.p1 ?_; refine D.Kpk 6 rfl rfl (fun _ _ => SameI.out) (N.push (E := Enc.int) (ex := v) us_Is f8 rfl rfl rfl (Own.int i6v) rfl om om dc) (fun p13 _ => ?_))
   | (refine Ent.p1 ?_; refine Ent.p1 ?_; refine D.Kpk 6 rfl rfl (fun _ _ => SameI.out) (N.push (E := Enc.int) (ex := v) us_Is f8 rfl rfl rfl (Own.int i6v) rfl om om dc) (fun p13 _ => ?_))
   | skip
  refine K1 12 ?_
  rotate_left
  refine K1 10 ?_
  rotate_left
  refine K1 10 ?_
  rotate_left
  refine K1 12 ?_
  rotate_left
  refine K1 10 ?_
  rotate_left
  refine K1 10 ?_
  rotate_left
  refine K1 10 ?_
  rotate_left
  refine K1 10 ?_
  rotate_left
  refine K1 12 ?_
  rotate_left
  refine K1 10 ?_
  rotate_left
  refine K1 10 ?_
  rotate_left
  refine K1 10 ?_
  rotate_left
  refine K1 10 ?_
  rotate_left
  refine K1 10 ?_
  rotate_left
  refine K1 10 ?_
  rotate_left
  refine K1 12 ?_
  rotate_left
  refine K1 10 ?_
  rotate_left
  refine K1 10 ?_
  rotate_left
  refine K1 12 ?_
  rotate_left
  refine K1 10 ?_
  rotate_left
  refine K1 10 ?_
  rotate_left
  refine K1 10 ?_
  rotate_left
  refine K1 10 ?_
  rotate_left
  refine K1 12 ?_
  rotate_left
  refine K1 10 ?_
  rotate_left
  refine K1 10 ?_
  rotate_left
  refine K1 10 ?_
  rotate_left
  refine K1 10 ?_
  rotate_left
  refine K1 10 ?_
  rotate_left
  refine K1 10 ?_
  rotate_left
  refine K1 12 ?_
  rotate_left
  refine K1 10 ?_
  rotate_left
  refine K1 10 ?_
  rotate_left
  refine K1 10 ?_
  rotate_left
  refine K1 12 ?_
  rotate_left
  refine K1 10 ?_
  rotate_left
  refine K1 10 ?_
  rotate_left
  refine K1 10 ?_
  rotate_left
  refine K1 10 ?_
  rotate_left
  refine K1 10 ?_
  rotate_left
  refine K1 10 ?_
  rotate_left
  refine K1 10 ?_
  rotate_left
  refine K1 10 ?_
  rotate_left
  refine K1 10 ?_
  rotate_left
  refine K1 10 ?_
  rotate_left
  refine K1 10 ?_
  rotate_left
  refine K1 10 ?_
  rotate_left
  refine K1 10 ?_
  rotate_left
  refine K1 12 ?_
  rotate_left
  refine K1 10 ?_
  rotate_left
  refine K1 10 ?_
  rotate_left
  refine K1 12 ?_
  rotate_left
  refine K1 10 ?_
  rotate_left
  refine K1 10 ?_
  rotate_left
  refine K1 10 ?_
  rotate_left
  refine K1 10 ?_
  rotate_left
  refine K1 12 ?_
  rotate_left
  refine K1 10 ?_
  rotate_left
  refine K1 10 ?_
  rotate_left
  refine K1 10 ?_
  rotate_left
  refine K1 10 ?_
  rotate_left
  refine K1 10 ?_
  rotate_left
  refine K1 10 ?_
  rotate_left
  refine K1 12 ?_
  rotate_left
  refine K1 10 ?_
  rotate_left
  refine K1 10 ?_
  rotate_left
  refine K1 10 ?_
  rotate_left
  refine K1 10 ?_
  rotate_left
  refine K1 10 ?_
  rotate_left
  refine K1 10 ?_
  rotate_left
  refine K1 10 ?_
  rotate_left
  refine K1 10 ?_
  rotate_left
  refine K1 12 ?_
  rotate_left
  refine K1 10 ?_
  rotate_left
  refine K1 10 ?_
  rotate_left
  refine K1 10 ?_
  rotate_left
  refine K1 12 ?_
  rotate_left
  refine K1 10 ?_
  rotate_left
  refine K1 10 ?_
  rotate_left
  refine K1 10 ?_
  rotate_left
  refine K1 10 ?_
  rotate_left
  refine K1 10 ?_
  rotate_left
  refine K1 12 ?_
  rotate_left
  refine K1 10 ?_
  rotate_left
  refine K1 10 ?_
  rotate_left
  refine K1 10 ?_
  rotate_left
  refine K1 10 ?_
  rotate_left
  refine K1 10 ?_
  rotate_left
  refine K1 10 ?_
  rotate_left
  refine K1 10 ?_
  rotate_left
  refine K1 10 ?_
  rotate_left
  refine K1 10 ?_
  rotate_left
  refine K1 10 ?_
  rotate_left
  refine K1 10 ?_
  rotate_left
  refine K1 10 ?_
  rotate_left
  refine K1 10 ?_
  rotate_left
  refine K1 10 ?_
  rotate_left
  refine K1 10 ?_
  rotate_left
  refine K1 10 ?_
  rotate_left
  refine K1 10 ?_
  rotate_left
  refine K1 10 ?_
  rotate_left
  refine K1 10 ?_
  rotate_left
  refine K1 10 ?_
  rotate_left
  refine K1 10 ?_
  rotate_left
  refine K1 10 ?_
  rotate_left
  all_goals first
   | refine D.Kpk 12 rfl rfl (fun _ _ => SameI.out) (N.bsl (pvs := [_]) (cs := [_]) us_Is f8 rfl dc dc (o8 rfl rfl) rfl dc) (fun b19 _ => ?_)
   | refine D.Kpk 10 rfl rfl (fun _ _ => SameI.out) (N.pushR0 (E := Enc.int) Plain.int us_Is f8 rfl rfl rfl r6 om om dc) (fun p17 _ => ?_)
   | skip
  refine K1 13 ?_
  rotate_left
  refine K1 13 ?_
  rotate_left
  refine K1 13 ?_
  rotate_left
  refine K1 13 ?_
  rotate_left
  refine K1 13 ?_
  rotate_left
  refine K1 13 ?_
  rotate_left
  refine K1 13 ?_
  rotate_left
  refine K1 13 ?_
  rotate_left
  refine K1 13 ?_
  rotate_left
  refine K1 13 ?_
  rotate_left
  refine K1 13 ?_
  rotate_left
  refine K1 13 ?_
  rotate_left
  refine K1 13 ?_
  rotate_left
  refine K1 13 ?_
  rotate_left
  refine K1 13 ?_
  rotate_left
  refine K1 13 ?_
  rotate_left
  refine K1 13 ?_
  rotate_left
  refine K1 13 ?_
  rotate_left
  refine K1 13 ?_
  rotate_left
  refine K1 13 ?_
  rotate_left
  refine K1 13 ?_
  rotate_left
  refine K1 13 ?_
  rotate_left
  refine K1 13 ?_
  rotate_left
  refine K1 13 ?_
  rotate_left
  refine K1 13 ?_
  rotate_left
  refine K1 13 ?_
  rotate_left
  refine K1 13 ?_
  rotate_left
  refine K1 13 ?_
  rotate_left
  refine K1 13 ?_
  rotate_left
  refine K1 13 ?_
  rotate_left
  refine K1 13 ?_
  rotate_left
  refine K1 13 ?_
  rotate_left
  refine K1 13 ?_
  rotate_left
  refine K1 13 ?_
  rotate_left
  refine K1 13 ?_
  rotate_left
  refine K1 13 ?_
  rotate_left
  refine K1 13 ?_
  rotate_left
  refine K1 13 ?_
  rotate_left
  refine K1 13 ?_
  rotate_left
  refine K1 13 ?_
  rotate_left
  refine K1 13 ?_
  rotate_left
  refine K1 13 ?_
  rotate_left
  refine K1 13 ?_
  rotate_left
  refine K1 13 ?_
  rotate_left
  refine K1 13 ?_
  rotate_left
  refine K1 13 ?_
  rotate_left
  refine K1 13 ?_
  rotate_left
  refine K1 13 ?_
  rotate_left
  refine K1 13 ?_
  rotate_left
  refine K1 13 ?_
  rotate_left
  refine K1 13 ?_
  rotate_left
  refine K1 13 ?_
  rotate_left
  refine K1 13 ?_
  rotate_left
  refine K1 13 ?_
  rotate_left
  refine K1 13 ?_
  rotate_left
  refine K1 13 ?_
  rotate_left
  refine K1 13 ?_
  rotate_left
  refine K1 13 ?_
  rotate_left
  refine K1 13 ?_
  rotate_left
  refine K1 13 ?_
  rotate_left
  refine K1 13 ?_
  rotate_left
  refine K1 13 ?_
  rotate_left
  refine K1 13 ?_
  rotate_left
  refine K1 13 ?_
  rotate_left
  refine K1 13 ?_
  rotate_left
  refine K1 13 ?_
  rotate_left
  refine K1 13 ?_
  rotate_left
  refine K1 13 ?_
  rotate_left
  refine K1 13 ?_
  rotate_left
  refine K1 13 ?_
  rotate_left
  refine K1 13 ?_
  rotate_left
  refine K1 13 ?_
  rotate_left
  refine K1 13 ?_
  rotate_left
  refine K1 13 ?_
  rotate_left
  refine K1 13 ?_
  rotate_left
  refine K1 13 ?_
  rotate_left
  refine K1 13 ?_
  rotate_left
  refine K1 13 ?_
  rotate_left
  refine K1 13 ?_
  rotate_left
  refine K1 13 ?_
  rotate_left
  refine K1 13 ?_
  rotate_left
  refine K1 13 ?_
  rotate_left
  refine K1 13 ?_
  rotate_left
  refine K1 13 ?_
  rotate_left
  refine K1 13 ?_
  rotate_left
  refine K1 13 ?_
  rotate_left
  refine K1 13 ?_
  rotate_left
  refine K1 13 ?_
  rotate_left
  refine K1 13 ?_
  rotate_left
  refine K1 13 ?_
  rotate_left
  refine K1 13 ?_
  rotate_left
  refine K1 13 ?_
  rotate_left
  refine K1 13 ?_
  rotate_left
  refine K1 13 ?_
  rotate_left
  refine K1 13 ?_
  rotate_left
  refine K1 13 ?_
  rotate_left
  refine K1 13 ?_
  rotate_left
  refine K1 13 ?_
  rotate_left
  refine K1 13 ?_
  rotate_left
  refine K1 13 ?_
  rotate_left
  refine K1 13 ?_
  rotate_left
  refine K1 13 ?_
  rotate_left
  refine K1 13 ?_
  rotate_left
  refine K1 13 ?_
  rotate_left
  refine K1 13 ?_
  rotate_left
  all_goals first
   | (refine Ent.p1 ?_; refine D.Kpk 13 rfl rfl (fun _ _ => SameI.out) (N.push (E := Enc.int) (ex := x) us_Is f8 rfl rfl rfl (Own.int i6x) rfl om om dc) (fun p20 _ => ?_))
   | (refine Ent.p1 ?_; refine Ent.p1 ?_; refine D.Kpk 13 rfl rfl (fun _ _ => SameI.out) (N.push (E := Enc.int) (ex := x) us_Is f8 rfl rfl rfl (Own.int i6x) rfl om om dc) (fun p20 _ => ?_))
   | (refine Ent.p2 ?_; refine Ent.p1 ?_; refine D.Kpk 13 rfl rfl (fun _ _ => SameI.out) (N.push (E := Enc.int) (ex := x) us_Is f8 rfl rfl rfl (Own.int i6x) rfl om om dc) (fun p20 _ => ?_))
   | skip
  all_goals first
   | (refine D.Kyp 14 rfl rfl dc (Y.bld (pvs := [_, _]) (cs := [_, _]) ty_Binding pl_Binding rfl rfl) kr ?_; refine Ent.p2 ?_; refine D.Kst 15 rfl rfl kr (fun h => by cases h) (N.sto (vs := [_, _]) (cs' := [_, _]) ty_Binding rfl rfl rfl rfl rfl bl rfl) (fun _ _ => ?_); refine D.Kdone kr (Ent.p3 ?_); refine Ent.p3 ?_; refine Ent.p3 ?_; refine Ent.p3 ?_; exact E.mdn (p13, p20) trivial ⟨rfl, trivial⟩ (.refl _))
 ·obtain ⟨p13, p20⟩ := kM
  try dsimp only
  refine Et (E.ret (Ent.p1 (Ent.p2 (Ent.p1 (Ent.p1 ?_)))))
  exact F.c1 br rfl rfl (mS (mS m0)) ty_Binding rfl ((_, _, _), (_, _, _)) trivial rfl (J := _) (.refl _) (.inl rfl)
end Go.Proofs.YtdopeopehgdccaaGreat
