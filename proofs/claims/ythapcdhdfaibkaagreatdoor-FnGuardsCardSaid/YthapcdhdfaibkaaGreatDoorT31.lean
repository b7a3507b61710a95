import Derived.Test.YthapcdhdfaibkaaGreatDoorT6
section
namespace Go.Proofs.YthapcdhdfaibkaaGreatDoor
open Go.RowKit
set_option linter.all false
section
variable {P : Program} {n : Nat} {w0 : World} {L0 : List Nat} {fr : Fr} {H : List HP}
end
end Go.Proofs.YthapcdhdfaibkaaGreatDoor
end
section
namespace Go.Proofs.YthapcdhdfaibkaaGreatDoor
open Go.RowKit
set_option linter.all false
section
variable {P : Program} {Q : Exit → Act → World → Prop} {n : Nat} {w0 : World} {L0 : List Nat} {fr : Fr} {H R : List HP} {d : Nat} {ty : TypeId} {pos : String} {af : Array Edge} {g : Option (Nat × Bool)}
theorem b3o {T e : TypeId} {agg : Bool} {k : Nat} {z : List Value} {by' : Nat} {x y : Operand} {gb M C i off : Nat} {cs vs cs' : List Value} {v : Value} (ht : TyOk P T agg k z by') (hx : ev fr x = some (.pointer (some ⟨gb, off, none⟩))) (hoff : off = i * k) (hy : ev fr y = some v) (hv : v.cells = vs.toArray) (hl : vs.length = k) (h1 : ∀ u ∈ vs, u.oneCell' = true) (hi : i < M) (hcs : cs.take (i * k) ++ vs ++ cs.drop (i * k + k) = cs') :
    Nop P Q n w0 L0 fr (row e k (some ⟨gb, 0, none⟩) M C cs :: R) ⟨none, .store T x y, ty, pos, af, g⟩ false (κ := Unit) (fun _ => fr) (fun _ => row e k (some ⟨gb, 0, none⟩) M C cs' :: R) (fun _ => True) := fun K hK a w ha hw => by
  subst hcs; subst hoff
  obtain ⟨L, ⟨L1, L2, rfl, hrow, hR⟩, hn, hst⟩ := hw
  obtain ⟨hlc, ⟨_, h0, _⟩ | ⟨g', cur, hg', hg, hmc, hcm, hsz, htake, rfl⟩⟩ := hrow
  · omega
  cases hg'
  have hik : i * k + k ≤ M * k := by rw [← Nat.succ_mul]; exact Nat.mul_le_mul_right _ hi
  have hMc : M * k ≤ cur.size := by rw [hsz]; exact Nat.mul_le_mul_right _ hmc
  have hrun := a2c (P := P) ht hv hl h1 hg (off := i * k) (by rw [hl]; omega)
  have hrow' : (row e k (some ⟨gb, 0, none⟩) M C (cs.take (i * k) ++ vs ++ cs.drop (i * k + k))).holds (w.setRow gb (cur.toList.take (i * k) ++ vs ++ cur.toList.drop (i * k + vs.length)).toArray) [gb] := by
    refine ⟨?_, .inr ⟨gb, _, rfl, setRow_heap w gb cur _ e _ hg, hmc, hcm, ?_, ?_, rfl⟩⟩
    · simp only [List.length_append, List.length_take, List.length_drop, hl, hlc]; omega
    · simp only [List.size_toArray, List.length_append, List.length_take, List.length_drop, Array.length_toList, hl]; omega
    · rw [show (cur.toList.take (i * k) ++ vs ++ cur.toList.drop (i * k + vs.length)).toArray.toList = cur.toList.take (i * k) ++ vs ++ cur.toList.drop (i * k + vs.length) from rfl, hl, ← htake]
      rw [List.take_append, List.take_append]
      simp only [List.length_append, List.length_take, Array.length_toList, hl]
      rw [List.take_of_length_le (l := List.take (i * k) cur.toList) (by simp; omega), List.take_of_length_le (l := vs) (by omega)]
      congr 1
      · rw [List.take_take, Nat.min_eq_left (by omega)]
      · rw [List.drop_take]; congr 1; rw [Nat.min_eq_left (by omega)]
  obtain ⟨k1, k2, k3⟩ := hst.call hn hR.inh (Step.setRow (Array.getElem?_eq_some_iff.1 hg).1) (List.nodup_append.1 hn).1
  simp only [Oper.wp, execOp, ha.ev hx, ha.ev hy, Sem.run_bind, hrun, Result.andThen_ok, Sem.run_pure, Oper.upon_skip]
  exact hK () trivial w _ _ ha ⟨[gb] ++ L2, ⟨[gb], L2, rfl, hrow', hR.stable k3⟩, k2, k1⟩ (by simp)
end
theorem At.els1 {α : Type} {E : Enc α} {w0 w : World} {L0 Lp : List Nat} {pre rest : List HP} {c1 : List Value} {x : α} (hA : At w0 L0 pre rest w Lp) (hm : els E c1 [x] ∈ rest) : Ro w Lp E c1 x := by
  obtain ⟨⟨Lr, h1, h2, h3, h4⟩⟩ := hA
  obtain ⟨L', ⟨d1, d2, M1, M2, rfl, rfl, r1, rfl, rfl⟩, r2⟩ := h2.mem hm
  rw [List.append_nil] at r2 ⊢
  obtain ⟨L'', r3, r4⟩ := E.ro r1
  exact ⟨L'', r4, fun b hb hp => (List.nodup_append.1 h3).2.2 b hp b (r2 b<|r3 b hb) rfl⟩
section
variable {n : Nat} {w0 : World} {L0 : List Nat} {fr : Fr} {R : List HP} {G : Act → World → Prop} {α : Type} {E : Enc α} {xs ys : List α} {cs c1 c2 : List Value}
theorem a1G (h : ∀ c1 c2, cs = c1 ++ c2 → c1.length = xs.length * E.k → Ent n w0 L0 fr (els E c1 xs :: els E c2 ys :: R) G) : Ent n w0 L0 fr (els E cs (xs ++ ys) :: R) G := fun ac w h1 h2 => by
  obtain ⟨L, ⟨L1, LR, rfl, g1, hR⟩, hn, hst⟩ := h2
  obtain ⟨c1, c2, M1, M2, rfl, rfl, e1, e2⟩ := D8.split g1
  have ea : (M1 ++ M2) ++ LR = M1 ++ (M2 ++ LR) := by simp
  rw [ea] at hn hst
  exact h c1 c2 rfl e1.len ac w h1 ⟨M1 ++ (M2 ++ LR), ⟨M1, M2 ++ LR, rfl, e1, M2, LR, rfl, e2, hR⟩, hn, hst⟩
theorem a9g (h : Ent n w0 L0 fr (els E (c1 ++ c2) (xs ++ ys) :: R) G) : Ent n w0 L0 fr (els E c1 xs :: els E c2 ys :: R) G := fun ac w h1 h2 => by
  obtain ⟨L, ⟨M1, L1, rfl, e1, M2, LR, rfl, e2, hR⟩, hn, hst⟩ := h2
  have ea : M1 ++ (M2 ++ LR) = (M1 ++ M2) ++ LR := by simp
  rw [ea] at hn hst
  exact h ac w h1 ⟨(M1 ++ M2) ++ LR, ⟨M1 ++ M2, LR, rfl, D8.app e1 e2, hR⟩, hn, hst⟩
end
structure DfI (k M i j : Nat) (cur kc rc : List Value) : Prop where
  len : cur.length = M * k
  lt : i < j
  le : j ≤ M
  kl : kc.length = i * k
  k1 : cur.take (i * k) = kc
  r1 : cur.drop (j * k) = rc
theorem DfI.skip {k M i j : Nat} {cur kc c1 c2 : List Value} (h : DfI k M i j cur kc (c1 ++ c2)) (hj : j < M) (hc : c1.length = k) : DfI k M i (j + 1) cur kc c2 := by
  refine ⟨h.len, by have := h.lt; omega, hj, h.kl, h.k1, ?_⟩
  have e : cur.drop ((j + 1) * k) = (cur.drop (j * k)).drop k := by rw [List.drop_drop, Nat.succ_mul]
  rw [e, h.r1, ← hc, List.drop_left]
theorem DfI.put {k M i j : Nat} {cur kc c1 c2 : List Value} (h : DfI k M i j cur kc (c1 ++ c2)) (hj : j < M) (hc : c1.length = k) : DfI k M (i + 1) (j + 1) (cur.take (i * k) ++ c1 ++ cur.drop (i * k + k)) (kc ++ c1) c2 := by
  have hlt := h.lt
  have h2 : i * k + k ≤ j * k := by rw [← Nat.succ_mul]; exact Nat.mul_le_mul_right _ hlt
  have h3 : j * k + k ≤ M * k := by rw [← Nat.succ_mul]; exact Nat.mul_le_mul_right _ hj
  have hl := h.len
  have hs := h.skip hj hc
  have l1 : (cur.take (i * k) ++ c1).length = (i + 1) * k := by rw [List.length_append, List.length_take, hc, Nat.succ_mul]; omega
  refine ⟨?_, by omega, hj, ?_, ?_, ?_⟩
  · simp only [List.length_append, List.length_take, List.length_drop, hc]; omega
  · rw [List.length_append, h.kl, hc, Nat.succ_mul]
  · rw [← l1, List.take_left, h.k1]
  · rw [← hs.r1, List.drop_append, l1, (show (cur.take (i * k) ++ c1).drop ((j + 1) * k) = [] from List.drop_eq_nil_of_le (by rw [l1]; exact Nat.mul_le_mul_right _ (by omega))), List.nil_append, List.drop_drop]
    congr 1
    have h4 : (i + 1) * k ≤ (j + 1) * k := Nat.mul_le_mul_right _ (by omega)
    have h5 : (i + 1) * k = i * k + k := Nat.succ_mul _ _
    have h6 : (j + 1) * k = j * k + k := Nat.succ_mul _ _
    omega
theorem a9h {k M i : Nat} {cs c1 c2 c3 : List Value} (hl : cs.length = M * k) (hi : i < M) (e : cs = c1 ++ (c2 ++ c3)) (h1 : c1.length = i * k) (h2 : c2.length = k) : DfI k M i (i + 1) cs c1 c3 := by
  subst e
  refine ⟨hl, by omega, hi, h1, by rw [← h1, List.take_left], ?_⟩
  rw [← List.append_assoc, Nat.succ_mul, ← h1, ← h2, ← List.length_append, List.drop_left]
theorem K9 {α : Type} {s : List α} {p : α → Bool} {j : Nat} (h : j < s.length) : (s.take (j + 1)).filter p = if p s[j] then (s.take j).filter p ++ [s[j]] else (s.take j).filter p := by
  rw [List.take_succ_eq_append_getElem h, List.filter_append]
  cases hp : p s[j] <;> simp [hp]
theorem a4s {α : Type} {s : List α} {p : α → Bool} {i : Nat} (h : J0 p s = (i : Int)) : i < s.length ∧ (∀ hi : i < s.length, p s[i] = true) ∧ (s.take i).filter (fun x => !p x) = s.take i ∧ (s.take (i + 1)).filter (fun x => !p x) = s.take i := by
  have h0 : ¬ J0 p s < 0 := by omega
  have h1 := a7H h0
  have ha : s.any p = true := by
    by_cases q : s.any p = true
    · exact q
    · exact absurd (a9Z.2 (by simpa using q)) h0
  have hf : (s.findIdx p : Int) = (i : Int) := by rw [← h, J0, if_pos ha]
  have hf' : s.findIdx p = i := by omega
  have hi : i < s.length := by omega
  have hp : p s[i] = true := by subst hf'; exact List.findIdx_getElem
  have h3 : (s.take i).filter (fun x => !p x) = s.take i := by
    rw [List.filter_eq_self]
    intro x hx
    obtain ⟨q, hq, rfl⟩ := List.mem_take_iff_getElem.1 hx
    have := List.not_of_lt_findIdx (p := p) (xs := s) (i := q) (by omega)
    simpa using this
  refine ⟨hi, fun _ => hp, h3, ?_⟩
  rw [K9 hi, if_neg (by simp [hp]), h3]
theorem a5l {α : Type} {s : List α} {p : α → Bool} (h : J0 p s < 0) : s.filter (fun x => !p x) = s := by
  rw [List.filter_eq_self]
  intro x hx
  have := a9Z.1 h
  rw [List.any_eq_false] at this
  simpa using this x hx
end Go.Proofs.YthapcdhdfaibkaaGreatDoor
end
section
namespace Go.Proofs.YthapcdhdfaibkaaGreatDoor
open Go.RowKit
set_option linter.all false
set_option maxHeartbeats 2000000
attribute [local irreducible] Nop Yd Yp Ent Has Tr FnP FnP2 Src M5 U1 V6 W3 G3
theorem a6P {a_s : Option Addr} {m_s c_s : Nat} {s : List (List Int × List Int)} {f_g : FuncId} {f_c : List Value} {D_f : (List Int × List Int) → Prop} {f : (List Int × List Int) → Bool} (hD_f : ∀ x ∈ s, D_f x) : Tr Tryz.prog 194 [.slice a_s m_s c_s, .func (.func f_g) #[] f_c.toArray] (fun w L => Ro w L s9 [.slice a_s m_s c_s] s ∧ FnP Tryz.prog w L f_g f_c B7 a0P D_f f) [] (κ := Unit) (fun k => True) (fun k => .int .i64 (J0 f s)) (fun k => []) := by
 refine Ti2 Tryz.func194 19 rfl fun w L hR => ?_
 obtain ⟨hs, hf⟩ := hR
 obtain ⟨rfl, ls⟩ := hs.slen
 refine Ew Z1<|Ei rfl<|Eu<|Eq_<|Ew Z3<|Em rfl<|Yln us_Bindings rfl<|Em rfl<|Eu<|E.block<|Lo (κ := Nat) (fun g => g ≤ s.length ∧ ∀ x ∈ s.take g, f x = false) (fun g => [(0, .slice a_s s.length c_s), (1, .func (.func f_g) #[] f_c.toArray), (7, .int .i64 (↑s.length : Int)), (8, .int .i64 (g : Int))]) (fun g => []) (fun g => s.length - g) 0 ⟨by omega, by simp⟩<|fun g pg => ?_
 obtain ⟨pk, pa⟩ := pg
 refine Ew Z1<|Ylt rfl<|l3 (fun q9 => ?_)<|fun q9 => ?_
 ·refine Eu<|Eq_<|Ct<|Eq_<|E.block<|Ew Z2<|Em rfl<|Ei rfl<|Ev Z6<|Em rfl<|Em rfl<|Em rfl ?_
  obtain ⟨eb14, eo14, ec14, ea14, er14, el14, eh14⟩ := hs.elem g om
  obtain ⟨xa14_0, xc14_0, xa14_1, xc14_1, rfl, xh14_0, xh14_1⟩ := a0K er14
  have := xh14_0.slen.2
  have := xh14_1.slen.2
  refine Ix us_Bindings ty_Binding rfl ea14 g rfl om<|Ey rfl (k7 (cs := [_, _]) ty_Binding rfl (eh14 _) rfl)<|Est rfl (N.fn (cs := [_, _]) hf rfl rfl rfl dc (fun w Lp hA => a7N (x := s[g]) (hA.ro xh14_0)<|hA.ro xh14_1)<|hD_f _<|List.getElem_mem om)<|fun _ _ => Ent.b (fun q16 => ?_)<|fun q16 => ?_
  ·refine Eu<|r6 rfl<|Ew Z2<|Em rfl<|Ei rfl<|Eu<|E.ret<|u6<|i9<|i9<|u6<|i9<|Fg rfl rfl () (congrArg (Value.int .i64) (by first | exact Q4 om pa q16 | exact P1 om pa)) rfl
  ·refine Eu<|r7 rfl<|v8<|o6<|Et<|Ez Z2<|Yad rfl om om<|Em rfl ?_
   exact Eu<|t7 br (g + 1) rs (.refl _) ⟨by omega, U7 om pa q16⟩ om
 ·refine Eu<|Eq_<|r7 rfl<|E.exit<|l4<|l4<|w8<|Et<|Ew Z1<|Ei rfl<|Eu<|E.ret<|Fg rfl rfl () (congrArg (Value.int .i64) (by first | exact Q4 om pa q16 | exact P1 om pa)) rfl
end Go.Proofs.YthapcdhdfaibkaaGreatDoor
end
section
namespace Go.Proofs.YthapcdhdfaibkaaGreatDoor
open Go.RowKit
set_option linter.all false
set_option maxHeartbeats 2000000
attribute [local irreducible] Nop Yd Yp Ent Has Tr FnP FnP2 Src
theorem a6s {a_s : Option Addr} {m_s c_s : Nat} {s : List (List Int × List Int)} {del_g : FuncId} {del_c : List Value} {D_del : (List Int × List Int) → Prop} {del : (List Int × List Int) → Bool} (hD_del : ∀ x ∈ s, D_del x) : Tr Tryz.prog 74 [.slice a_s m_s c_s, .func (.func del_g) #[] del_c.toArray] (fun w L => FnP Tryz.prog w L del_g del_c B7 a0P D_del del) [ow s9 [.slice a_s m_s c_s] s] (κ := SL) (fun k => True) (fun k => .slice k.1 k.2.1 k.2.2) (fun k => [ow s9 [.slice k.1 k.2.1 k.2.2] (s.filter (fun x => !del x))]) := by
 refine Ti2 Tryz.func74 42 rfl fun w L hR => ?_
 have hdel := hR
 refine r8 m0 ?_
 rintro rfl ls
 refine Ew Z1<|Ei rfl ?_
 refine Ev Z4<|Em rfl ?_
 refine Em rfl ?_
 refine E0 rfl (a6P (f := del) (D_f := D_del) hD_del) rfl (fun hA => ⟨hA.ow m0, hA.fn hdel⟩) ?_
 refine Ei rfl ?_
 have hrg := a0G (p := del) (s := s)
 refine Eu<|Eq_<|Ew Z2<|Em rfl ?_
 refine Yeq rfl<|l3 (fun q12 => ?_)<|fun q12 => ?_
 ·refine Eu<|r6 rfl<|Ew Z2<|Em rfl ?_
  refine Ei rfl ?_
  refine Eu<|E.ret<|i9<|g9 (congrArg (ow s9 [_]) (show _ = s.filter (fun x => !del x) from (a5l om).symm)) ?_
  exact Fg rfl rfl (_, _, _) rfl rfl
 ·obtain ⟨i0, hi0⟩ : ∃ i0 : Nat, J0 del s = (i0 : Int) := ⟨(J0 del s).toNat, by omega⟩
  obtain ⟨f1, f2, f3, f4⟩ := a4s hi0
  refine Eu<|Cf<|Eq_<|Ew Z3<|Em rfl ?_
  refine Yad rfl om om ?_
  refine Ei rfl ?_
  refine Eu<|E.block<|a3H fun cs hcs => ?_
  replace hcs : cs.length = s.length * 2 := hcs
  show Ent _ _ _ _ (row tBinding 2 a_s s.length c_s cs :: _) _
  refine a3F m0 fun hms => ?_
  refine a2R m0 om fun sb hsb _ => ?_
  subst hsb
  refine f5 ?_
  have hsp : s = s.take i0 ++ ([s[i0]] ++ s.drop (i0 + 1)) := by
   rw [List.singleton_append, ← List.drop_eq_getElem_cons f1, List.take_append_drop]
  refine g9 (congrArg (els B7 cs) hsp) ?_
  refine a1G fun ka kb hab hka => ?_
  refine f5 ?_
  refine a1G fun kb1 kb2 hb12 hkb => ?_
  subst hb12
  refine Ent.drop ?_
  replace hka : ka.length = i0 * 2 := by rw [hka, List.length_take, Nat.min_eq_left om]; rfl
  replace hkb : kb1.length = 2 := hkb
  have hinit := a9h (k := 2) hcs f1 hab hka hkb
  refine f5 ?_
  refine g9 (congrArg (els B7 ka) f4.symm) ?_
  refine f5 ?_
  refine E.loop (κ := Nat × Nat × List Value × List Value × List Value) (fun g => DfI 2 s.length g.2.1 g.1 g.2.2.1 g.2.2.2.1 g.2.2.2.2 ∧ g.2.1 = ((s.take g.1).filter (fun x => !del x)).length) (fun g => [(0, .slice (some ⟨sb, 0, none⟩) s.length c_s), (1, .func (.func del_g) #[] del_c.toArray), (5, .int .i64 (g.2.1 : Int)), (6, .int .i64 (g.1 : Int))]) (fun g => [els B7 g.2.2.2.2<|s.drop g.1, els B7 g.2.2.2.1<|(s.take g.1).filter (fun x => !del x), row tBinding 2 (some ⟨sb, 0, none⟩) s.length c_s g.2.2.1]) (fun g => s.length - g.1) (i0 + 1, i0, cs, ka, kb2) ⟨hinit, by rw [f4, List.length_take, Nat.min_eq_left om]⟩ ⟨rfl, rfl, frI hi0, frI om, trivial⟩ (.refl _)<|fun g pg => ?_
  obtain ⟨j, i, cur, kc, rc⟩ := g
  try dsimp only at pg
  obtain ⟨hI, hi⟩ := pg
  try dsimp only
  have hlt := hI.lt
  have hle := hI.le
  refine Eq_<|Ew Z4<|Em rfl ?_
  refine Em rfl ?_
  refine Yln us_Bindings rfl ?_
  refine Ylt rfl<|l3 (fun q19 => ?_)<|fun q19 => ?_
  ·have hj : j < s.length := by omega
   have hd : s.drop j = [s[j]] ++ s.drop (j + 1) := by rw [List.drop_eq_getElem_cons hj]; rfl
   refine g9 (congrArg (els B7 rc) hd) ?_
   refine a1G fun c1 c2 hc hc1 => ?_
   subst hc
   replace hc1 : c1.length = 2 := hc1
   refine a2h m0 fun h1e => ?_
   refine Eu<|Ct<|Eq_<|E.block<|Ew Z6<|Em rfl ?_
   refine Em rfl ?_
   refine Ix us_Bindings ty_Binding rfl rfl j rfl hj ?_
   refine Ey rfl (k7 (cs := c1) ty_Binding rfl (show Has _ _ _ sb (0 + j * 2) c1 from by rw [Nat.zero_add]; exact a2S (mS<|mS<|mS m0) j (rest := c2) hI.r1) hc1) ?_
   refine Est rfl (N.alloc ty_Binding dc)<|fun b7 _ => ?_
   refine Est rfl (a8d (vs := c1) (cs' := c1) ty_Binding rfl rfl rfl hc1 (List.all_eq_true.2 h1e) bl (by simp))<|fun _ _ => ?_
   refine Ev Z4<|Em rfl ?_
   refine Ey rfl (k7 (cs := c1) ty_Binding rfl (Has.pt m0) hc1) ?_
   refine Est rfl (N.fn (cs := c1) hdel rfl rfl rfl dc (fun w Lp hA => hA.els1<|mS m0)<|hD_del _<|List.getElem_mem hj)<|fun _ _ => Ent.b (fun q28 => ?_)<|fun q28 => ?_
   ·refine Yno true rfl ?_
    refine Eu<|r7 rfl<|v8<|o6<|Et<|Ez Z3<|Em rfl ?_
    refine Yad rfl om om ?_
    refine Ei rfl ?_
    have hK : (s.take (j + 1)).filter (fun x => !del x) = (s.take j).filter (fun x => !del x) := by rw [K9 hj, if_neg (by simp [q28])]
    refine Eu<|Ent.drop ?_
    refine Ent.drop ?_
    refine f5 ?_
    refine g9 (congrArg (els B7 kc) hK.symm) ?_
    refine f5 ?_
    exact Ea (j + 1, i, cur, kc, c2) ⟨hI.skip hj hc1, by rw [hK]; exact hi⟩
   ·refine Yno false rfl ?_
    refine Eu<|r6 rfl<|Ew Z5<|Em rfl ?_
    refine Em rfl ?_
    refine Ey rfl (k7 (cs := c1) ty_Binding rfl (Has.pt m0) hc1) ?_
    refine Ix us_Bindings ty_Binding rfl rfl i rfl om ?_
    refine s4 ?_
    refine Est rfl (b3o (i := i) (vs := c1) ty_Binding rfl (Nat.zero_add _) rfl rfl hc1 h1e om rfl)<|fun _ _ => ?_
    refine Eu<|Ez Z3<|Em rfl ?_
    refine Yad rfl om om ?_
    refine Ei rfl ?_
    refine En<|o6<|Et<|Ez Z3<|Em rfl ?_
    refine Yad rfl om om ?_
    refine Ei rfl ?_
    have hK : (s.take (j + 1)).filter (fun x => !del x) = (s.take j).filter (fun x => !del x) ++ [s[j]] := by rw [K9 hj, if_pos (by simp [q28])]
    refine Eu<|f5 ?_
    refine Ent.drop ?_
    refine f5 ?_
    refine a4G ?_
    refine a9g ?_
    refine g9 (congrArg (els B7<|kc ++ c1) hK.symm) ?_
    refine i8 ?_
    exact Ea (j + 1, i + 1, cur.take (i * 2) ++ c1 ++ cur.drop (i * 2 + 2), kc ++ c1, c2) ⟨hI.put hj hc1, by rw [hK, List.length_append, ← hi]; rfl⟩
  ·obtain rfl : j = s.length := by omega
   refine Ent.drop ?_
   refine Eu<|r7 rfl<|E.exit<|l4<|l4<|w8<|Et<|Ew Z4<|Em rfl ?_
   refine Em rfl ?_
   refine Ey rfl ((a0t (l := i) us_Bindings ty_Binding rfl rfl om om).yd) ?_
   refine f5 ?_
   refine Est rfl (b4X (p := i) (q := s.length - i) us_Bindings ty_Binding (by simp [Value.oneCell']) rfl rfl om om om rfl)<|fun _ _ => ?_
   refine Ev Z4<|Em rfl ?_
   refine Em rfl ?_
   refine Ey rfl ((a3Q (h := i) us_Bindings ty_Binding rfl rfl om).yd) ?_
   refine Ei rfl ?_
   refine g9 (congrArg (row tBinding 2 (some ⟨sb, 0, none⟩) i c_s) hI.k1) ?_
   refine Eu<|E.ret<|a2p (E := B7) hi mx ?_
   refine g9 (congrArg (ow s9 [_]) (show _ = s.filter (fun x => !del x) from by rw [List.take_length])) ?_
   exact Fg rfl rfl (_, _, _) rfl rfl
end Go.Proofs.YthapcdhdfaibkaaGreatDoor
end
