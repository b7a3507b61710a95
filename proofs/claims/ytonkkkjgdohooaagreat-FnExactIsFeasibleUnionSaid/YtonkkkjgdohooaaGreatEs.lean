import Derived.Test.YtonkkkjgdohooaaGreatBu
import Derived.Test.YtonkkkjgdohooaaGreatDt
namespace Go.Proofs.YtonkkkjgdohooaaGreat
open Go.RowKit
set_option linter.unusedVariables false
set_option linter.unusedSimpArgs false
abbrev QT := List Int × List (Int × List Int)
abbrev QB := (Option Addr × Nat × Nat) × Option Addr × Nat × Nat
def dQ : QT := ([], [])
def dB : QB := ((none, 0, 0), none, 0, 0)
def selL {α : Type} (d : α) (xs : List α) (is : List Nat) : List α := is.map fun i => xs.getD i d
def nowL {α : Type} (d : α) (xs : List α) (is : List Nat) (n : Nat) : List α := selL d xs is ++ xs.drop n
def delL {α : Type} (d : α) (xs : List α) (is : List Nat) (n : Nat) : List α := selL d xs is ++ xs.drop (n + 1)
section
variable {α : Type} {d : α} {xs : List α} {is : List Nat} {n : Nat}
theorem selL_len : (selL d xs is).length = is.length := by simp [selL]
theorem now_get (h : n < xs.length) : (nowL d xs is n)[is.length]? = some xs[n] := by
  unfold nowL
  rw [List.getElem?_append_right (by rw [selL_len]; omega), selL_len, Nat.sub_self, List.drop_eq_getElem_cons h]; rfl
theorem now_len : (nowL d xs is n).length = is.length + (xs.length - n) := by simp [nowL, selL_len]
theorem now_del : (nowL d xs is n).take is.length ++ (nowL d xs is n).drop (is.length + 1) = delL d xs is n := by
  unfold nowL delL
  have h1 : (selL d xs is).length = is.length := selL_len
  rw [← h1, List.take_left', List.drop_append, List.drop_eq_nil_of_le (by omega), List.nil_append, show (selL d xs is).length + 1 - (selL d xs is).length = 1 from by omega, List.drop_drop]
  rfl
theorem now_del3 : (nowL d xs is n).take is.length ++ (nowL d xs is n).drop (((is.length : Int)) + 1).toNat = delL d xs is n := by rw [show (((is.length : Int)) + 1).toNat = is.length + 1 from by omega, now_del]
theorem now_era3 : (nowL d xs is n).eraseIdx is.length = delL d xs is n := by rw [List.eraseIdx_eq_take_drop_succ, now_del]
theorem now_no (h : n < xs.length) : nowL d xs is n = nowL d xs (is ++ [n]) (n + 1) := by
  unfold nowL selL
  rw [List.map_append, List.append_assoc, List.drop_eq_getElem_cons h]
  simp [List.getD, h]
theorem era_step {k g : Nat} (h : g < xs.length) : (xs.take (g + 1)).eraseIdx k = (xs.take g).eraseIdx k ++ (if g = k then [] else [xs[g]]) := by
  rw [List.take_succ_eq_append_getElem h]
  have hl : (xs.take g).length = g := by simp; omega
  rcases Nat.lt_trichotomy g k with hk | hk | hk
  · rw [List.eraseIdx_of_length_le (by simp; omega), List.eraseIdx_of_length_le (by omega), if_neg (by omega)]
  · subst hk
    rw [if_pos rfl, List.append_nil, List.eraseIdx_append_of_length_le (by omega), List.eraseIdx_of_length_le (l := xs.take g) (by omega), hl, Nat.sub_self]
    simp
  · rw [if_neg (by omega), List.eraseIdx_append_of_lt_length (by omega)]
theorem era_s1 {k g : Nat} {i : Int} (h : g < xs.length) (hk : ¬ (g : Int) = i) (hi : k = i.toNat) (hi0 : 0 ≤ i) : (xs.take g).eraseIdx k ++ [xs[g]] = (xs.take (g + 1)).eraseIdx k := by
  rw [era_step h, if_neg (by omega)]
theorem era_s0 {k g : Nat} {i : Int} (h : g < xs.length) (hk : (g : Int) = i) (hi : k = i.toNat) : (xs.take g).eraseIdx k = (xs.take (g + 1)).eraseIdx k := by
  rw [era_step h, if_pos (by omega), List.append_nil]
end
def mSel (s : List Int) (u : List QT) : Nat → List Nat
  | 0 => []
  | n + 1 => cond (conIn s (delL dQ u (mSel s u n) n) (u.getD n dQ)) (mSel s u n) (mSel s u n ++ [n])
def mnuF (s : List Int) (u : List QT) : List QT := cond (okUnion s u) (nowL dQ u (mSel s u u.length) u.length) u
section
variable {s : List Int} {u : List QT} {n g : Nat}
theorem mSel_lt : ∀ {n : Nat}, ∀ i ∈ mSel s u n, i < n
  | 0, i, h => by cases h
  | n + 1, i, h => by
    rw [mSel] at h
    cases hc : conIn s (delL dQ u (mSel s u n) n) (u.getD n dQ)
    · rw [hc] at h
      rcases List.mem_append.1 h with h | h
      · exact Nat.lt_succ_of_lt (mSel_lt i h)
      · simp at h; omega
    · rw [hc] at h; exact Nat.lt_succ_of_lt (mSel_lt i h)
theorem mSel_len : (mSel s u n).length ≤ n := by
  induction n with
  | zero => exact Nat.le_refl _
  | succ n ih =>
    rw [mSel]
    cases conIn s (delL dQ u (mSel s u n) n) (u.getD n dQ)
    · simp; omega
    · simp only [cond_true]; omega
theorem mSel_yes (h : n < u.length) (hc : conIn s (delL dQ u (mSel s u n) n) u[n] = true) : mSel s u (n + 1) = mSel s u n := by
  rw [mSel, show u.getD n dQ = u[n] from by simp [List.getD, h], hc]; rfl
theorem mSel_no (h : n < u.length) (hc : conIn s (delL dQ u (mSel s u n) n) u[n] = false) : mSel s u (n + 1) = mSel s u n ++ [n] := by
  rw [mSel, show u.getD n dQ = u[n] from by simp [List.getD, h], hc]; rfl
theorem mn_y {α : Type} {d : α} {xs : List α} (h : n < u.length) (hc : conIn s (delL dQ u (mSel s u n) n) u[n] = true) : delL d xs (mSel s u n) n = nowL d xs (mSel s u (n + 1)) (n + 1) := by rw [mSel_yes h hc]; rfl
theorem mn_n {α : Type} {d : α} {xs : List α} (h : n < u.length) (hx : n < xs.length) (hc : conIn s (delL dQ u (mSel s u n) n) u[n] = false) : nowL d xs (mSel s u n) n = nowL d xs (mSel s u (n + 1)) (n + 1) := by rw [mSel_no h hc, now_no hx]
theorem mn_iy (h : n < u.length) (hc : conIn s (delL dQ u (mSel s u n) n) u[n] = true) : ((mSel s u n).length : Int) = ((mSel s u (n + 1)).length : Int) := by rw [mSel_yes h hc]
theorem mn_in (h : n < u.length) (hc : conIn s (delL dQ u (mSel s u n) n) u[n] = false) : ((mSel s u n).length : Int) + 1 = ((mSel s u (n + 1)).length : Int) := by rw [mSel_no h hc]; simp
theorem mn_end (hu : okUnion s u = true) (h : ¬ n < u.length) (hn : n ≤ u.length) : nowL dQ u (mSel s u n) n = mnuF s u := by
  rw [mnuF, hu, show n = u.length from by omega]; rfl
theorem mn_bad (hu : okUnion s u = false) : u = mnuF s u := by rw [mnuF, hu]; rfl
theorem now_mem {α : Type} {d : α} {xs : List α} {is : List Nat} (hi : ∀ i ∈ is, i < xs.length) {x : α} (hx : x ∈ nowL d xs is n) : x ∈ xs := by
  unfold nowL selL at hx
  rcases List.mem_append.1 hx with hx | hx
  · obtain ⟨i, h1, rfl⟩ := List.mem_map.1 hx
    have h2 := hi i h1
    simp only [List.getD, List.getElem?_eq_getElem h2, Option.getD_some]
    exact List.getElem_mem h2
  · exact List.mem_of_mem_drop hx
theorem del_mem {α : Type} {d : α} {xs : List α} {is : List Nat} (hi : ∀ i ∈ is, i < xs.length) {x : α} (hx : x ∈ delL d xs is n) : x ∈ xs := now_mem (n := n + 1) hi hx
theorem mnu_mem {q : QT} (h : q ∈ mnuF s u) : q ∈ u := by
  rw [mnuF] at h
  cases hu : okUnion s u
  · rw [hu] at h; exact h
  · rw [hu] at h; exact now_mem (fun i hi => mSel_lt i hi) h
theorem mnu_len : (mnuF s u).length ≤ u.length := by
  rw [mnuF]
  cases okUnion s u
  · exact Nat.le_refl _
  · simp only [cond_true, now_len]
    have := mSel_len (s := s) (u := u) (n := u.length)
    omega
end
/-! ### lists as they stand -/
section
variable {α β : Type} {E : Enc α} {f : β → List Value} {w : World} {L : List Nat} {ys : List β} {xs : List α} {d : β} {d' : α} {is : List Nat} {n : Nat}
theorem Bor.now (h : Bor w L E f ys xs) (hi : ∀ i ∈ is, i < ys.length) : Bor w L E f (nowL d ys is n) (nowL d' xs is n) := Bor.app (Bor.sel d d' h hi) (Bor.drop n h)
theorem Bor.del (h : Bor w L E f ys xs) (hi : ∀ i ∈ is, i < ys.length) : Bor w L E f (delL d ys is n) (delL d' xs is n) := Bor.app (Bor.sel d d' h hi) (Bor.drop (n + 1) h)
theorem Elems.subl (hf : ∀ y, (f y).length = E.k) {zs' zs : List (β × α)} (h : zs'.Sublist zs) : ∀ {L : List Nat}, Elems E w ((zs.map fun z => z.1).flatMap f) (zs.map fun z => z.2) L true → ∃ L', L'.Sublist L ∧ Elems E w ((zs'.map fun z => z.1).flatMap f) (zs'.map fun z => z.2) L' true := by
  induction h with
  | slnil => intro L hL; exact ⟨L, List.Sublist.refl _, hL⟩
  | cons a _ ih =>
    rintro L ⟨c1, c2, L1, L2, h1, rfl, h3, h4⟩
    simp only [List.map_cons, List.flatMap_cons] at h1
    obtain ⟨e1, e2⟩ := List.append_inj h1 ((hf a.1).trans (E.len h3).symm)
    subst e2
    obtain ⟨L', k1, k2⟩ := ih h4
    exact ⟨L', k1.trans (List.sublist_append_right _ _), k2⟩
  | cons_cons a _ ih =>
    rintro L ⟨c1, c2, L1, L2, h1, rfl, h3, h4⟩
    simp only [List.map_cons, List.flatMap_cons] at h1
    obtain ⟨e1, e2⟩ := List.append_inj h1 ((hf a.1).trans (E.len h3).symm)
    subst e1; subst e2
    obtain ⟨L', k1, k2⟩ := ih h4
    exact ⟨L1 ++ L', (List.Sublist.refl L1).append k1, _, _, L1, L', by simp only [List.map_cons, List.flatMap_cons], rfl, h3, k2⟩
theorem sel_subl {γ : Type} {s : List Int} {u : List QT} {zs : List γ} {d : γ} : ∀ {n : Nat}, n ≤ zs.length → (selL d zs (mSel s u n)).Sublist (zs.take n)
  | 0, _ => by simp [mSel, selL]
  | n + 1, h => by
    have ih := sel_subl (d := d) (zs := zs) (s := s) (u := u) (n := n) (by omega)
    rw [List.take_succ_eq_append_getElem (by omega), mSel]
    cases conIn s (delL dQ u (mSel s u n) n) (u.getD n dQ)
    · simp only [cond_false]
      unfold selL at *
      rw [List.map_append]
      refine ih.append ?_
      simp [List.getD, show n < zs.length from by omega]
    · exact ih.trans (List.sublist_append_left _ _)
theorem now_subl {γ : Type} {s : List Int} {u : List QT} {zs : List γ} {d : γ} (hn : n ≤ zs.length) : (nowL d zs (mSel s u n) n).Sublist zs := by
  have h := (sel_subl (d := d) (zs := zs) (s := s) (u := u) hn).append (List.Sublist.refl (zs.drop n))
  rwa [List.take_append_drop] at h
theorem now_map {γ : Type} {g : α → γ} {d : α} (hi : ∀ i ∈ is, i < xs.length) : (nowL d xs is n).map g = nowL (g d) (xs.map g) is n := by
  unfold nowL selL
  rw [List.map_append, List.map_map, List.map_drop]
  congr 1
  refine List.map_congr_left fun i h => ?_
  have := hi i h
  simp [List.getD, this]
variable {k : Nat} {w0 : World} {L0 : List Nat} {fr : Fr} {H R : List HP} {G : Act → World → Prop}
/-- what is left of a list owns its part -/
theorem Ent.elsNow {s : List Int} {u : List QT} (hf : ∀ y, (f y).length = E.k) (hl : ys.length = xs.length) (hn : n ≤ xs.length) (h : Ent k w0 L0 fr (els E ((nowL d ys (mSel s u n) n).flatMap f) (nowL d' xs (mSel s u n) n) :: R) G) : Ent k w0 L0 fr (els E (ys.flatMap f) xs :: R) G := fun a w h1 h2 => by
  refine h a w h1 (Hp.turnL (A := [els E (ys.flatMap f) xs]) (A' := [_]) (R := R) h2 ?_)
  rintro L ⟨L1, L2, rfl, h3, h4⟩ hN
  rw [Sep] at h4; subst h4
  have e1 : (ys.zip xs).map (fun z => z.1) = ys := by rw [show (fun z : β × α => z.1) = Prod.fst from rfl, List.map_fst_zip (by omega)]
  have e2 : (ys.zip xs).map (fun z => z.2) = xs := by rw [show (fun z : β × α => z.2) = Prod.snd from rfl, List.map_snd_zip (by omega)]
  have h3' : Elems E w (((ys.zip xs).map fun z => z.1).flatMap f) ((ys.zip xs).map fun z => z.2) L1 true := by rw [e1, e2]; exact h3
  have hz : (ys.zip xs).length = xs.length := by rw [List.length_zip]; omega
  obtain ⟨L', k1, k2⟩ := Elems.subl hf (now_subl (d := (d, d')) (s := s) (u := u) (n := n) (by omega)) h3'
  rw [now_map (fun i hi => by have := mSel_lt i hi; omega), now_map (fun i hi => by have := mSel_lt i hi; omega), e1, e2] at k2
  have hs : ∀ b ∈ L', b ∈ L1 ++ [] := fun b hb => by simp [k1.mem hb]
  refine ⟨L' ++ [], ⟨L', [], rfl, k2, rfl⟩, ?_, ⟨rfl, rfl, rfl, Nat.le_refl _, fun _ _ _ => rfl, fun b hb => .inl (hs b (by simpa using hb))⟩⟩
  simp only [List.append_nil] at hN ⊢
  exact hN.sublist k1
end
theorem now_set {γ : Type} {d : γ} {xs : List γ} {is : List Nat} {n : Nat} (h : n < xs.length) : (nowL d xs is n).set is.length xs[n] = nowL d xs is n := by
  have h1 := now_get (d := d) (is := is) h
  obtain ⟨h2, h3⟩ := List.getElem?_eq_some_iff.1 h1
  rw [← h3, List.set_getElem_self]
theorem union_lenh {u : List (List Int × List (Int × List Int))} {n : Nat} (h : totL (fun x => x.1.length + totL (fun x => x.2.length) x.2) u ≤ n) : ∀ q ∈ u, q.1.length ≤ n := fun q hq => Nat.le_trans (Nat.le_add_right _ _) (tot_mem h q hq)
end Go.Proofs.YtonkkkjgdohooaaGreat
