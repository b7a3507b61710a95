import Derived.Test.YtfnagmokplpnjaaGreatT36
import Derived.Test.YtfnagmokplpnjaaGreatT35
import Derived.Test.YtfnagmokplpnjaaGreatT11
import Derived.Test.YtfnagmokplpnjaaGreatT9
import Derived.Test.YtfnagmokplpnjaaGreatDy
import Derived.Test.YtfnagmokplpnjaaGreatBn
namespace Go.Proofs.YtfnagmokplpnjaaGreat
open Go.RowKit
set_option linter.unusedVariables false
set_option linter.unusedSimpArgs false
set_option maxHeartbeats 2000000
attribute [local irreducible] Nop Yd Yp Ent Has Tr FnP FnP2 Src listsF opnF opn1 opnR chainB
theorem t_impl_matches {a_l : Option Addr} {m_l c_l : Nat} {l : List (Int × List Int × Int × Int × Int)} {a_facts : Option Addr} {m_facts c_facts : Nat} {facts : List (Int × List Int)} {a_Method : Int} {a_a_Values : Option Addr} {m_a_Values c_a_Values : Nat} {a_Values : List Int} (hma : 0 ≤ a_Method ∧ a_Method.toNat < l.length) (hv : (atM l a_Method).2.1.length ≤ a_Values.length) (hif : ∀ f ∈ facts, f.1 = (atM l a_Method).1 → ∀ i ∈ (atM l a_Method).2.1, 0 ≤ i ∧ i < f.2.length) (hfl : facts.length ≤ 1048576) (hfe : ∀ f ∈ facts, f.2.length ≤ 1048576) : Tr Tryz.prog 155 [.slice a_l m_l c_l, .slice a_facts m_facts c_facts, .agg #[.int .i64 a_Method, .slice a_a_Values m_a_Values c_a_Values]] (fun w L => Ro w L eMethods [.slice a_l m_l c_l] l ∧ Ro w L eFacts [.slice a_facts m_facts c_facts] facts ∧ I64 a_Method ∧ Ro w L eIs [.slice a_a_Values m_a_Values c_a_Values] a_Values) [] (κ := Option Addr × Nat × Nat) (fun k => True) (fun k => .slice k.1 k.2.1 k.2.2) (fun k => [ow eFacts [.slice k.1 k.2.1 k.2.2] (facts.filter (fitsF (atM l a_Method) a_Values))]) := by
  refine Tr.intro Tryz.func155 rfl (n := 17) rfl (by decide +kernel) (Nat.le_of_ble_eq_true rfl) (fr := [(0, .slice a_l m_l c_l), (1, .slice a_facts m_facts c_facts), (2, .agg #[.int .i64 a_Method, .slice a_a_Values m_a_Values c_a_Values])]) rfl fun w L hR => ?_
  obtain ⟨hl, hfacts, i6a_Method, ha_Values⟩ := hR
  obtain ⟨rfl, ll⟩ := hl.slen
  obtain ⟨rfl, lfacts⟩ := hfacts.slen
  obtain ⟨rfl, la_Values⟩ := ha_Values.slen
  rw [atM_get hma.2] at hv hif
  refine E.seq (E.region (l := [0, 1]) rfl (E.st rfl rfl (N.box (cs := [_, _]) rfl (by decide) rfl) (fun b5 _ => (E.y rfl rfl (by decide) ((Y.as rfl).yd) (E.nil (E.thn (E.seq (E.region (l := [0, 1, 2, 3, 4, 5, 6]) rfl (E.y rfl rfl (by decide) ((Y.mv rfl).yd) (E.y rfl rfl (by decide) ((Y.fld fo_Access_0 ty_I (by decide) rfl).yd) (E.y rfl rfl (by decide) (Y.ld1 ty_I rfl ((Has.pt m0).sub (cs' := [_]) 0 rfl) rfl) ?_)))))))))))
  obtain ⟨eb11, eo11, ec11, ea11, er11, el11, eh11⟩ := hl.elem a_Method.toNat (by omega)
  obtain ⟨xa11_0, xc11_0, rfl, ei11_0, xh11_0, ei11_2, ei11_3, ei11_4⟩ := Ro.pMethod er11
  have := xh11_0.slen.2
  refine E.y rfl rfl (by decide) ((Y.ix us_Methods ty_Method rfl ea11 rfl a_Method.toNat (by omega) (by omega)).yd) (E.y rfl rfl (by decide) (Y.ldS (cs := [_, _, _, _, _]) ty_Method rfl (eh11 _) rfl) (E.st rfl rfl (N.alloc ty_Method (by decide)) (fun b7 _ => (E.st rfl rfl (N.sto (vs := [_, _, _, _, _]) (cs' := [_, _, _, _, _]) ty_Method rfl rfl rfl rfl rfl (Nat.le_of_ble_eq_true rfl) rfl) (fun _ _ => (E.nil (E.thn (E.seq (E.region (l := [0, 1, 2, 3, 4]) rfl (E.y rfl rfl (by decide) ((Y.mv rfl).yd) (E.st rfl rfl (N.call (t_impl_copyFacts (by first | omega | assumption) hfe) rfl rfl rfl (by decide) rfl (fun w Lp hA => hA.ro hfacts)) (fun k14 _ => ?_))))))))))))
  obtain ⟨a14, m14, c14⟩ := k14
  refine Ent.lenow m0 fun e14 l14 => ?_
  subst e14
  refine E.y rfl rfl (by decide) ((Y.fn (vs := [_, _]) rfl).yd) (E.st rfl rfl (N.call (pre := [_]) (t_DeleteFunc_Fact (del := (fun z => !fitsF l[a_Method.toNat] a_Values z)) (D_del := (fun z => (l[a_Method.toNat].2.1.length ≤ a_Values.length) ∧ (z.1 = l[a_Method.toNat].1 → ∀ i ∈ l[a_Method.toNat].2.1, 0 ≤ i ∧ i < z.2.length))) (by exact fun f hf => ⟨hv, hif f hf⟩)) rfl rfl rfl (by decide) rfl (fun w Lp hA => FnP.ofFact (RR := fun w L => RoPt w L b7 [.int .i64 l[a_Method.toNat].1, .slice xa11_0 l[a_Method.toNat].2.1.length xc11_0, .int .i64 l[a_Method.toNat].2.2.1, .int .i64 l[a_Method.toNat].2.2.2.1, .int .i64 l[a_Method.toNat].2.2.2.2] ∧ I64 l[a_Method.toNat].1 ∧ Ro w L eIs [.slice xa11_0 l[a_Method.toNat].2.1.length xc11_0] l[a_Method.toNat].2.1 ∧ I64 l[a_Method.toNat].2.2.1 ∧ I64 l[a_Method.toNat].2.2.2.1 ∧ I64 l[a_Method.toNat].2.2.2.2 ∧ RoPt w L b5 [.int .i64 a_Method, .slice a_a_Values a_Values.length c_a_Values] ∧ I64 a_Method ∧ Ro w L eIs [.slice a_a_Values a_Values.length c_a_Values] a_Values) (D := (fun z => (l[a_Method.toNat].2.1.length ≤ a_Values.length) ∧ (z.1 = l[a_Method.toNat].1 → ∀ i ∈ l[a_Method.toNat].2.1, 0 ≤ i ∧ i < z.2.length))) (fun hd => t_impl_matches_1 hd.1 hd.2) (fun w' hk => ⟨(hA.pt m0).keep hk, ei11_0, (hA.ro xh11_0).keep hk, ei11_2, ei11_3, ei11_4, (hA.pt (mS m0)).keep hk, i6a_Method, (hA.ro ha_Values).keep hk⟩))) (fun k16 _ => ?_))
  obtain ⟨a16, m16, c16⟩ := k16
  refine Ent.lenow m0 fun e16 l16 => ?_
  subst e16
  refine E.y rfl rfl (by decide) ((Y.as rfl).yd) (E.nil (E.thn (E.ret (Ent.cv (congrArg (ow eFacts [_]) (show _ = facts.filter (fitsF (atM l a_Method) a_Values) by rw [atM_get hma.2]; exact filter_nn)) ?_))))
  exact F.r1 (Back.refl _ _) rfl rfl (_, _, _) trivial rfl (J := _) (.refl _) (.inl rfl)
end Go.Proofs.YtfnagmokplpnjaaGreat
