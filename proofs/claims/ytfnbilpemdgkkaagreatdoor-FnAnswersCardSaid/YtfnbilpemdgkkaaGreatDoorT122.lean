import Derived.Test.YtfnbilpemdgkkaaGreatDoorT121
import Derived.Test.YtfnbilpemdgkkaaGreatDoorHe
import Derived.Test.YtfnbilpemdgkkaaGreatDoorHd
namespace Go.Proofs.YtfnbilpemdgkkaaGreatDoor
open Go.RowKit
set_option linter.all false
set_option maxHeartbeats 2000000
attribute [local irreducible] Nop Yd Yp Ent Has Tr FnP FnP2 Src J8 P6 S7 U6 E7
variable {m_code c_code : Nat} {a_code : Option Addr}
theorem a6y {code : List UInt8} : Tr Tryz.prog 5 [.slice a_code m_code c_code] (fun w L => Ro w L J3 [.slice a_code m_code c_code] code) [] (κ := Unit) (fun k => True) (fun k => .bool (decide (1048576 < (code.length : Int)))) (fun k => []) := by
 refine Tr.intro Tryz.func5 rfl (n := 6) rfl (by decide +kernel) bl (fr := [(0, .slice a_code m_code c_code)]) rfl fun w L hR => ?_
 have hcode := hR
 obtain ⟨rfl, lcode⟩ := hcode.slen
 refine Ew Z1 (Ei rfl (Ev Z4 (Em rfl (Ey rfl ((Y.len us_U8s rfl).yd) (Ey rfl ((Y.gtr rfl rfl).yd) (Ei rfl ?_))))))
 exact Eu (E.ret (Fb rfl rfl (by simp_all)))
theorem a0R {code : List UInt8} (hcl : code.length ≤ 1048576) : Tr Tryz.prog 6 [.slice a_code m_code c_code] (fun w L => Ro w L J3 [.slice a_code m_code c_code] code) [] (κ := (List Int) × (List Int) × (List (Int × List Int)) × (List (Int × List Int)) × (Option Addr × Nat × Nat) × (Option Addr × Nat × Nat) × (Option Addr × Nat × Nat) × Option Addr × Nat × Nat) (fun k => (1 ≤ k.1.length ∧ k.1.length ≤ 4) ∧ dQ dT 3 3 k.2.1 k.2.2.1 ∧ k.2.2.2.1.length ≤ 9 ∧ ∀ f ∈ k.2.2.2.1, 1 ≤ f.2.length ∧ f.2.length ≤ 4) (fun k => .tuple #[.slice k.2.2.2.2.1.1 k.2.2.2.2.1.2.1 k.2.2.2.2.1.2.2, .agg #[.slice k.2.2.2.2.2.1.1 k.2.2.2.2.2.1.2.1 k.2.2.2.2.2.1.2.2, .slice k.2.2.2.2.2.2.1.1 k.2.2.2.2.2.2.1.2.1 k.2.2.2.2.2.2.1.2.2], .slice k.2.2.2.2.2.2.2.1 k.2.2.2.2.2.2.2.2.1 k.2.2.2.2.2.2.2.2.2]) (fun k => [ow eIs [.slice k.2.2.2.2.1.1 k.2.2.2.2.1.2.1 k.2.2.2.2.1.2.2] k.1, ow eIs [.slice k.2.2.2.2.2.1.1 k.2.2.2.2.2.1.2.1 k.2.2.2.2.2.1.2.2] k.2.1, ow C2 [.slice k.2.2.2.2.2.2.1.1 k.2.2.2.2.2.2.1.2.1 k.2.2.2.2.2.2.1.2.2] k.2.2.1, ow B9 [.slice k.2.2.2.2.2.2.2.1 k.2.2.2.2.2.2.2.2.1 k.2.2.2.2.2.2.2.2.2] k.2.2.2.1]) := by
 refine Tr.intro Tryz.func6 rfl (n := 18) rfl (by decide +kernel) bl (fr := [(0, .slice a_code m_code c_code)]) rfl fun w L hR => ?_
 have hcode := hR
 obtain ⟨rfl, lcode⟩ := hcode.slen
 refine Ew Z3 (Ei rfl (Est rfl (N.alloc ty_Query dc) (fun b3 _ => (Ei rfl (Ev Z11 (Em rfl (Est rfl (N.call (N5 fc) rfl rfl rfl dc rfl (fun w Lp hA => hA.ro hcode)) (fun b10 _ => ?_))))))))
 have hbs := hcode
 refine Est rfl (N.call (pre := [_]) a1b rfl rfl rfl dc rfl (fun w Lp hA => hA.ro hbs)) (fun k11 o11 => ?_)
 obtain ⟨xs11, hq11, aq11, fl11, ⟨a11_0, m11_0, c11_0⟩, ⟨a11_1, m11_1, c11_1⟩, ⟨a11_2, m11_2, c11_2⟩, ⟨a11_3, m11_3, c11_3⟩⟩ := k11
 replace o11 : (1 ≤ xs11.length ∧ xs11.length ≤ 4) ∧ dQ dT 3 3 hq11 aq11 ∧ fl11.length ≤ 9 ∧ ∀ f ∈ fl11, 1 ≤ f.2.length ∧ f.2.length ≤ 4 := o11
 try (conv => arg 4; dsimp only)
 try (conv => arg 5; dsimp only [List.cons_append, List.nil_append, List.append_nil])
 refine f0 m0 fun e11_0 l11_0 => ?_
 subst e11_0
 refine f0 (mS m0) fun e11_1 l11_1 => ?_
 subst e11_1
 refine f0 (mS (mS m0)) fun e11_2 l11_2 => ?_
 subst e11_2
 refine f0 (mS (mS (mS m0))) fun e11_3 l11_3 => ?_
 subst e11_3
 refine Em rfl (Ey rfl ((Y.ext rfl rfl).yd) (Ey rfl ((Y.ext rfl rfl).yd) (Ey rfl ((Y.ext rfl rfl).yd) (Est rfl (N.alloc ty_Query dc) (fun b6 _ => (Ei rfl (Est rfl (Ns [_, _] ty_Query rfl) (fun _ _ => (Ei rfl (Eu (Eq_ (D.region (fun j => !(Nat.beq j 4)) mixed (Dyp 0 rfl (i0 rfl) (Dy 1 rfl (o1 (cs := [_, _]) ty_Query rfl (Has.pt m0) rfl) (Dyp 2 rfl (i0 rfl) (Dyp 3 rfl (D8 rfl) (p9 (t7 4 rfl rfl kr (fun h => by cases h) (Ns [_, _] ty_Query rfl) (fun _ _ => (Dyp 5 rfl (D8 rfl) ?_))))))))))))))))))))
 refine o0 kr (Et (E.ret (B7 (B7 (B7 (B7 (l4 (l4 (l4 (l4 ?_))))))))))
 exact a5u br rfl rfl rfl rfl (mS (mS (mS (mS m0)))) ty_Query rfl (xs11, hq11, aq11, fl11, (_, _, _), (_, _, _), (_, _, _), (_, _, _)) (show (1 ≤ xs11.length ∧ xs11.length ≤ 4) ∧ dQ dT 3 3 hq11 aq11 ∧ fl11.length ≤ 9 ∧ ∀ f ∈ fl11, 1 ≤ f.2.length ∧ f.2.length ≤ 4 from by exact o11) rfl (J := _) (.refl _) (.inl rfl)
end Go.Proofs.YtfnbilpemdgkkaaGreatDoor
