/- Owned lists: how they are made, appended to, stored into; owned things that from now on are only read. -/
import Derived.Test.YtnagfcajnbkdoaaFb
namespace Go.Proofs.Ytnagfcajnbkdoaa
open Go.RowKit
set_option linter.unusedVariables false

/-- the assertions 'pre' make up one owned x -/
def Own {α : Type} (pre : List HP) (E : Enc α) (cs : List Value) (x : α) : Prop := ∀ w L, Sep pre w L → E.rep w cs x L true
section
variable {α β : Type} {E : Enc α} {F : Enc β} {A B : List HP} {cs c1 c2 : List Value} {x : α}
theorem Own.ow : Own [ow E cs x] E cs x := fun w L ⟨L1, L2, h1, h2, h3⟩ => by
  rw [Sep] at h3; subst h3; rw [h1, List.append_nil]; exact h2
theorem Own.int {x : Int} (h : I64 x) : Own [] Enc.int [.int .i64 x] x := fun w L hL => ⟨rfl, h, hL⟩
theorem Own.bool {x : Bool} : Own [] Enc.bool [.bool x] x := fun w L hL => ⟨rfl, hL⟩
theorem Own.pair {x : α × β} (h1 : Own A E c1 x.1) (h2 : Own B F c2 x.2) : Own (A ++ B) (Enc.pair E F) (c1 ++ c2) x := fun w L h => by
  obtain ⟨L1, L2, rfl, h3, h4⟩ := Sep.append.1 h
  exact ⟨c1, c2, L1, L2, rfl, rfl, h1 _ _ h3, h2 _ _ h4⟩
theorem Own.nil {e : TypeId} {a : Option Addr} : Own [] (Enc.sl e E) [.slice a 0 0] [] := fun w L hL => by
  rw [Sep] at hL; subst hL
  exact ⟨a, 0, 0, [], [], [], rfl, rfl, Nat.zero_le _, rfl, ⟨rfl, rfl⟩, by simp [row]⟩
/-- a row whose elements own nothing -/
theorem Own.row {e : TypeId} {a : Option Addr} {m c : Nat} {ccs : List Value} {xs : List α} (hm : m = xs.length) (hl : m ≤ maxLen) (hx : ∀ w, Elems E w ccs xs [] true) : Own [row e E.k a m c ccs] (Enc.sl e E) [.slice a m c] xs := fun w L ⟨L1, L2, h1, h2, h3⟩ => by
  rw [Sep] at h3; subst h3; rw [h1]
  exact ⟨a, m, c, ccs, L1, [], rfl, hm, hl, rfl, hx w, h2⟩
theorem Own.row1 {e : TypeId} {a : Option Addr} {c : Nat} (h : Own A E cs x) : Own (Go.Proofs.Ytnagfcajnbkdoaa.row e E.k a 1 c cs :: A) (Enc.sl e E) [.slice a 1 c] [x] := fun w L ⟨L1, L2, h1, h2, h3⟩ =>
  ⟨a, 1, c, cs, L1, L2, rfl, rfl, by decide, h1, Elems.single (h _ _ h3), h2⟩
theorem Own.row0 {e : TypeId} {a : Option Addr} : Own [Go.Proofs.Ytnagfcajnbkdoaa.row e E.k a 0 0 []] (Enc.sl e E) [.slice a 0 0] [] := Own.row rfl (Nat.zero_le _) fun w => ⟨rfl, rfl⟩
theorem elems_zero {z : List Value} {zx : α} (hz : Own [] E z zx) (m : Nat) (w : World) : Elems E w (reps m z) (List.replicate m zx) [] true := by
  induction m with
  | zero => exact ⟨rfl, rfl⟩
  | succ m ih => exact ⟨z, reps m z, [], [], rfl, rfl, hz w [] rfl, ih⟩
theorem Own.made {e : TypeId} {a : Option Addr} {m c : Nat} {z : List Value} {zx : α} (hz : Own [] E z zx) (hl : m ≤ maxLen) : Own [Go.Proofs.Ytnagfcajnbkdoaa.row e E.k a m c (reps m z)] (Enc.sl e E) [.slice a m c] (List.replicate m zx) :=
  Own.row (by simp) hl (elems_zero hz m)
theorem Own.ints {e : TypeId} {a : Option Addr} {m c : Nat} {xs : List Int} (hm : m = xs.length) (hl : m ≤ maxLen) (hx : ∀ x ∈ xs, I64 x) : Own [Go.Proofs.Ytnagfcajnbkdoaa.row e 1 a m c (ints xs)] (Enc.sl e Enc.int) [.slice a m c] xs :=
  Own.row (E := Enc.int) hm hl fun w => Elems.ints.2 ⟨rfl, hx, rfl⟩
end
/-- elements without memory of their own -/
def Plain {α : Type} (E : Enc α) : Prop := ∀ w cs x L, E.rep w cs x L false → E.rep w cs x [] true
theorem Plain.int : Plain Enc.int := fun w cs x L h => ⟨h.1, h.2.1, rfl⟩
theorem Plain.bool : Plain Enc.bool := fun w cs x L h => ⟨h.1, rfl⟩
theorem Plain.pair {α β : Type} {E : Enc α} {F : Enc β} (h1 : Plain E) (h2 : Plain F) : Plain (Enc.pair E F) := fun w cs x L ⟨c1, c2, L1, L2, e1, e2, g1, g2⟩ =>
  ⟨c1, c2, [], [], e1, rfl, h1 _ _ _ _ g1, h2 _ _ _ _ g2⟩
theorem Plain.elems {α : Type} {E : Enc α} (h : Plain E) {w : World} : ∀ {xs : List α} {cs : List Value} {L : List Nat}, Elems E w cs xs L false → Elems E w cs xs [] true
  | [], _, _, hx => ⟨hx.1, rfl⟩
  | x :: xs, _, _, ⟨c1, c2, L1, L2, e1, e2, g1, g2⟩ => ⟨c1, c2, [], [], e1, rfl, h _ _ _ _ g1, h.elems g2⟩

section
variable {w0 w : World} {L0 : List Nat} {A A' H R : List HP}
theorem Hp.turnL {w' : World} (h : Hp w0 L0 (A ++ R) w) (ht : ∀ L, Sep A w L → L.Nodup → ∃ L', Sep A' w' L' ∧ L'.Nodup ∧ Step w L w' L') : Hp w0 L0 (A' ++ R) w' := by
  obtain ⟨L, hs, hn, hst⟩ := h
  obtain ⟨L1, L2, rfl, h1, h2⟩ := Sep.append.1 hs
  obtain ⟨L', h3, h4, h5⟩ := ht L1 h1 (List.nodup_append.1 hn).1
  obtain ⟨k1, k2, k3⟩ := hst.call hn h2.inh h5 h4
  exact ⟨L' ++ L2, Sep.append.2 ⟨L', L2, rfl, h3, h2.stable k3⟩, k2, k1⟩
theorem Hp.mkow {α : Type} {E : Enc α} {cs : List Value} {x : α} (hO : Own A E cs x) (h : Hp w0 L0 (A ++ R) w) : Hp w0 L0 (ow E cs x :: R) w := by
  refine h.turnL (A' := [ow E cs x]) fun L hL hn => ⟨L, ⟨L, [], by simp, hO _ _ hL, rfl⟩, hn, Step.refl _ _⟩
end
section
variable {n : Nat} {w0 : World} {L0 : List Nat} {fr : Fr} {A H R : List HP} {G : Act → World → Prop}
/-- fold owned parts into one -/
theorem Ent.mkow {α : Type} {E : Enc α} {cs : List Value} {x : α} (hO : Own A E cs x) (hH : H = A ++ R) (h : Ent n w0 L0 fr (ow E cs x :: R) G) : Ent n w0 L0 fr H G := fun a w h1 h2 => h a w h1 (Hp.mkow hO (hH ▸ h2))
/-- one assertion for another -/
theorem Ent.cv {B C : HP} (he : B = C) (h : Ent n w0 L0 fr (C :: R) G) : Ent n w0 L0 fr (B :: R) G := he ▸ h
/-- from here on A is only read -/
theorem Ent.rebase (hH : H = A ++ R) (h : ∀ w1 L1, Back w1 L1 w0 L0 → At w0 L0 R A w1 L1 → Ent n w1 L1 fr R G) : Ent n w0 L0 fr H G := fun a w h1 h2 => by
  subst hH
  obtain ⟨L, hs, hn, hst⟩ := h2
  obtain ⟨LA, LR, rfl, hA, hR⟩ := Sep.append.1 hs
  have hperm : (LA ++ LR).Perm (LR ++ LA) := List.perm_append_comm
  have hst' : Step w0 L0 w (LR ++ LA) := ⟨hst.os, hst.tape, hst.output, hst.size, hst.keep, fun b hb => hst.sub b (hperm.mem_iff.2 hb)⟩
  refine h w LR ?_ ⟨⟨LA, hR, hA, hperm.nodup_iff.1 hn, hst'⟩⟩ a w h1 ⟨LR, hR, (List.nodup_append.1 hn).2.1, Step.refl _ _⟩
  rintro X w' ⟨L', k1, k2, k3⟩
  refine ⟨L', k1, k2, ⟨k3.os.trans hst.os, k3.tape.trans hst.tape, k3.output.trans hst.output, Nat.le_trans hst.size k3.size, fun b hb h0 => ?_, fun b hb => ?_⟩⟩
  · refine (k3.keep b (Nat.lt_of_lt_of_le hb hst.size) fun hp => ?_).trans (hst.keep b hb h0)
    rcases hst.sub b (by simp [hp]) with h3 | h3
    · exact h0 h3
    · omega
  · rcases k3.sub b hb with h3 | h3
    · exact hst.sub b (by simp [h3])
    · exact .inr (Nat.le_trans hst.size h3)
end
theorem set_take {α : Type} {s : List α} {d : α} {g n : Nat} (h : g < s.length) (hn : n = s.length) : (s.take g ++ List.replicate (n - g) d).set g s[g] = s.take (g + 1) ++ List.replicate (n - (g + 1)) d := by
  subst hn
  rw [List.set_append, if_neg (by rw [List.length_take]; omega), List.length_take, Nat.min_eq_left (by omega), Nat.sub_self, List.take_succ_eq_append_getElem h, List.append_assoc]
  congr 1
  rw [show s.length - g = (s.length - (g + 1)) + 1 from by omega, List.replicate_succ]; rfl
/-- what the row of an owned list is -/
theorem ow_sl {α : Type} {e : TypeId} {E : Enc α} {a : Option Addr} {m c : Nat} {xs : List α} {w : World} {L : List Nat} (h : (ow (Enc.sl e E) [.slice a m c] xs).holds w L) :
    ∃ ccs L1 L2, L = L1 ++ L2 ∧ m = xs.length ∧ m ≤ maxLen ∧ Elems E w ccs xs L2 true ∧ (row e E.k a m c ccs).holds w L1 := by
  obtain ⟨a', m', c', ccs, L1, L2, h1, h2, h3, h4, h5, h6⟩ := h
  simp only [List.cons.injEq, Value.slice.injEq, and_true] at h1
  obtain ⟨rfl, rfl, rfl⟩ := h1
  exact ⟨ccs, L1, L2, h4, h2, h3, h5, h6⟩
theorem Ent.lenow {α : Type} {e : TypeId} {E : Enc α} {a : Option Addr} {m c : Nat} {xs : List α} {n : Nat} {w0 : World} {L0 : List Nat} {fr : Fr} {H : List HP} {G : Act → World → Prop} (hm : ow (Enc.sl e E) [.slice a m c] xs ∈ H)
    (h : m = xs.length → m ≤ 9223372036854775807 → Ent n w0 L0 fr H G) : Ent n w0 L0 fr H G := fun ac w h1 h2 => by
  obtain ⟨L, hL⟩ := h2.mem hm
  obtain ⟨_, _, _, _, g1, g2, _, _⟩ := ow_sl hL
  exact h g1 g2 ac w h1 h2
section
variable {P : Program} {Q : Exit → Act → World → Prop} {n : Nat} {w0 : World} {L0 : List Nat} {fr : Fr} {H R pre : List HP} {d : Nat} {ty : TypeId} {pos : String} {af : Array Edge} {g : Option (Nat × Bool)}
theorem grow_core {α : Type} {E : Enc α} {e : TypeId} {a' : Option Addr} {m c' m2 : Nat} {xs ys : List α} {ccs news : List Value} {w w' : World} {L1 L1' L2 Ly : List Nat}
    (hm : m = xs.length) (hys : m2 = ys.length) (hl : m + m2 ≤ maxLen) (hx : Elems E w ccs xs L2 true) (hy : Elems E w news ys Ly true) (hn : (L1 ++ (L2 ++ Ly)).Nodup) (r2 : (row e E.k a' (m + m2) c' (ccs ++ news)).holds w' L1') (r3 : L1'.Nodup) (r4 : Step w L1 w' L1') :
    (ow (Enc.sl e E) [.slice a' (m + m2) c'] (xs ++ ys)).holds w' (L1' ++ (L2 ++ Ly)) ∧ (L1' ++ (L2 ++ Ly)).Nodup ∧ Step w (L1 ++ (L2 ++ Ly)) w' (L1' ++ (L2 ++ Ly)) := by
  have hlt : ∀ b ∈ L2 ++ Ly, b < w.heap.size := (hx.app hy).inh
  have hstep : Step w (L1 ++ (L2 ++ Ly)) w (L1 ++ (L2 ++ Ly)) := Step.refl _ _
  obtain ⟨k1, k2, k3⟩ := hstep.call hn hlt r4 r3
  exact ⟨⟨a', m + m2, c', ccs ++ news, L1', L2 ++ Ly, rfl, by simp [hm, hys], hl, rfl, (hx.app hy).stable k3, r2⟩, k2, k1⟩
theorem Step.sublist {w w' : World} {L L1 L2 : List Nat} (h : Step w L w' L1) (hs : ∀ b ∈ L2, b ∈ L1) : Step w L w' L2 := ⟨h.os, h.tape, h.output, h.size, h.keep, fun b hb => h.sub b (hs b hb)⟩
/-- append(s, ...) onto an owned list, the new elements' cells known, what they own in 'pre' -/
theorem N.pushG {α : Type} {E : Enc α} {T e : TypeId} {agg : Bool} {k m m2 c : Nat} {z : List Value} {by' : Nat} {x y : Operand} {ad a2 : Option Addr} {c2 : Nat} {xs ys : List α} (hT : P.underlying T = some (.slice e)) (ht : TyOk P e agg k z by') (hk : k = E.k)
    (hx : ev fr x = some (.slice ad m c)) (hy : ev fr y = some (.slice a2 m2 c2)) (hH : H = ow (Enc.sl e E) [.slice ad m c] xs :: (pre ++ R)) (hm2 : m2 = ys.length)
    (hO : ∀ w, Hp w0 L0 H w → ∀ L, Sep pre w L → L.Nodup → ∃ news Ly, Elems E w news ys Ly true ∧ (∀ b ∈ Ly, b ∈ L) ∧ Ly.Nodup ∧ ((m2 = 0 ∧ news = []) ∨ ∃ b o, a2 = some ⟨b, o, none⟩ ∧ CellsAt w b o news))
    (h63 : m + m2 ≤ 9223372036854775807) (hbytes : (m + m2) * by' ≤ 140737488355328) (hd : d < n) :
    Nop P Q n w0 L0 fr H ⟨some d, .call ⟨.builtin .append, #[x, y], #[T, T]⟩, ty, pos, af, g⟩ false (κ := Option Addr × Nat) (fun p => (d, .slice p.1 (m + m2) p.2) :: fr) (fun p => ow (Enc.sl e E) [.slice p.1 (m + m2) p.2] (xs ++ ys) :: R) (fun _ => True) := fun K hK a w ha hw => by
  subst hk
  have hw' := hw
  rw [hH] at hw'
  obtain ⟨L, ⟨Lo, Lq, rfl, ho, hq⟩, hn, hst⟩ := hw'
  obtain ⟨Lp, LR, rfl, hp, hR⟩ := Sep.append.1 hq
  obtain ⟨ccs, L1, L2, rfl, g1, g2, g3, g4⟩ := ow_sl ho
  have hnp : Lp.Nodup := (List.nodup_append.1 (List.nodup_append.1 hn).2.1).1
  obtain ⟨news, Ly, hy1, hy2, hy3, hsrc⟩ := hO w hw Lp hp hnp
  obtain ⟨a', c', w', L1', r1, r2, r3, r4, -⟩ := run_append_any (P := P) (ty := ty) (c2 := c2) hT ht E.pos g4 hsrc (by rw [hy1.len, hm2]) hy1.one h63 hbytes
  have hnn : ((L1 ++ (L2 ++ Ly)) ++ LR).Nodup := by
    simp only [List.nodup_append] at hn ⊢
    obtain ⟨⟨n1, n2, n3⟩, ⟨n4, n5, n6⟩, n7⟩ := hn
    refine ⟨⟨n1, ⟨n2, hy3, fun a ha b hb e => ?_⟩, fun a ha b hb e => ?_⟩, n5, fun a ha b hb e => ?_⟩
    · exact n7 a (by simp [ha]) b (by simp [hy2 b hb]) e
    · rcases List.mem_append.1 hb with hb | hb
      · exact n3 a ha b hb e
      · exact n7 a (by simp [ha]) b (by simp [hy2 b hb]) e
    · simp only [List.mem_append] at ha
      rcases ha with ha | ha | ha
      · exact n7 a (by simp [ha]) b (by simp [hb]) e
      · exact n7 a (by simp [ha]) b (by simp [hb]) e
      · exact n6 a (hy2 a ha) b hb e
  have hst' : Step w0 L0 w ((L1 ++ (L2 ++ Ly)) ++ LR) := hst.sublist fun b hb => by
    simp only [List.mem_append] at hb ⊢
    rcases hb with (hb | hb | hb) | hb
    · exact .inl (.inl hb)
    · exact .inl (.inr hb)
    · exact .inr (.inl (hy2 b hb))
    · exact .inr (.inr hb)
  obtain ⟨d1, d2, d3⟩ := grow_core g1 hm2 h63 g3 hy1 (List.nodup_append.1 hnn).1 r2 r3 r4
  obtain ⟨k1, k2, k3⟩ := hst'.call hnn hR.inh d3 d2
  have hrun : (execOp a.eval ⟨some d, .call ⟨.builtin .append, #[x, y], #[T, T]⟩, ty, pos, af, g⟩).run P w = .ok (.value (.slice a' (m + m2) c')) w' := by
    simp only [execOp, resolve, ha.ev hx, ha.ev hy, List.map_toArray, List.map_cons, List.map_nil, Sem.run_bind, Sem.run_pure, Result.andThen_ok, invoke, builtin, r1]
  rw [Oper.wp, hrun]
  exact hK (a', c') trivial w _ _ (ha.put hd _) ⟨_, ⟨_, LR, rfl, d1, hR.stable k3⟩, k2, k1⟩ (by simp)
/-- append(s, x): the one element lies in a row of its own (a slice literal), what it owns in 'pre' -/
theorem N.push {α : Type} {E : Enc α} {T e e2 : TypeId} {agg : Bool} {k m c : Nat} {z : List Value} {by' : Nat} {x y : Operand} {ad a2 : Option Addr} {c2 : Nat} {xs : List α} {ce : List Value} {ex : α} (hT : P.underlying T = some (.slice e)) (ht : TyOk P e agg k z by') (hk : k = E.k)
    (hx : ev fr x = some (.slice ad m c)) (hy : ev fr y = some (.slice a2 1 c2)) (hO : Own pre E ce ex) (hH : H = ow (Enc.sl e E) [.slice ad m c] xs :: row e2 k a2 1 c2 ce :: (pre ++ R)) (h63 : m + 1 ≤ 9223372036854775807) (hbytes : (m + 1) * by' ≤ 140737488355328) (hd : d < n) :
    Nop P Q n w0 L0 fr H ⟨some d, .call ⟨.builtin .append, #[x, y], #[T, T]⟩, ty, pos, af, g⟩ false (κ := Option Addr × Nat) (fun p => (d, .slice p.1 (m + 1) p.2) :: fr) (fun p => ow (Enc.sl e E) [.slice p.1 (m + 1) p.2] (xs ++ [ex]) :: R) (fun _ => True) := by
  subst hH
  refine N.pushG (pre := row e2 k a2 1 c2 ce :: pre) hT ht hk hx hy rfl rfl (fun w hw L hL hn => ?_) h63 hbytes hd
  obtain ⟨Ls, Lp, rfl, hr, hp⟩ := hL
  have hrep := hO w Lp hp
  refine ⟨ce, Lp, Elems.single hrep, fun b hb => by simp [hb], (List.nodup_append.1 hn).2.1, ?_⟩
  obtain ⟨L', h0, h1⟩ := hw.mem (mS m0)
  rcases h1 with ⟨_, h2, _⟩ | ⟨g', cur, h2, h3, h4, h5, h6, h7, _⟩
  · cases h2
  · exact .inr ⟨g', 0, h2, Has.row h2 (mS m0) w hw⟩
/-- append(s, t...) with an owned t, which is used up -/
theorem N.pushO {α : Type} {E : Enc α} {T e : TypeId} {agg : Bool} {k m m2 c : Nat} {z : List Value} {by' : Nat} {x y : Operand} {ad a2 : Option Addr} {c2 : Nat} {xs ys : List α} (hT : P.underlying T = some (.slice e)) (ht : TyOk P e agg k z by') (hk : k = E.k)
    (hx : ev fr x = some (.slice ad m c)) (hy : ev fr y = some (.slice a2 m2 c2)) (hH : H = ow (Enc.sl e E) [.slice ad m c] xs :: ow (Enc.sl e E) [.slice a2 m2 c2] ys :: R) (hm2 : m2 = ys.length) (h63 : m + m2 ≤ 9223372036854775807) (hbytes : (m + m2) * by' ≤ 140737488355328) (hd : d < n) :
    Nop P Q n w0 L0 fr H ⟨some d, .call ⟨.builtin .append, #[x, y], #[T, T]⟩, ty, pos, af, g⟩ false (κ := Option Addr × Nat) (fun p => (d, .slice p.1 (m + m2) p.2) :: fr) (fun p => ow (Enc.sl e E) [.slice p.1 (m + m2) p.2] (xs ++ ys) :: R) (fun _ => True) := by
  subst hH
  refine N.pushG (pre := [ow (Enc.sl e E) [.slice a2 m2 c2] ys]) hT ht hk hx hy rfl hm2 (fun w hw L hL hn => ?_) h63 hbytes hd
  obtain ⟨Ls, Lp, rfl, hr, hp⟩ := hL
  rw [Sep] at hp; subst hp
  obtain ⟨ccs, L1, L2, rfl, g1, g2, g3, g4⟩ := ow_sl hr
  refine ⟨ccs, L2, g3, fun b hb => by simp [hb], ?_, ?_⟩
  · rw [List.append_nil] at hn; exact (List.nodup_append.1 hn).2.1
  · obtain ⟨h0, h1⟩ := g4
    rcases h1 with ⟨_, h2, _⟩ | ⟨g', cur, h2, h3, h4, h5, h6, h7, _⟩
    · exact .inl ⟨h2, List.eq_nil_of_length_eq_zero (by rw [h0, h2, Nat.zero_mul])⟩
    · refine .inr ⟨g', 0, h2, fun j v hj => ?_⟩
      rw [← h7, List.getElem?_take] at hj
      split at hj
      · simpa [World.cell?, h3] using hj
      · cases hj
/-- append(s, t...) where t is only read and its elements own nothing -/
theorem N.pushR {α : Type} {E : Enc α} {T e e2 : TypeId} {agg : Bool} {k m m2 c : Nat} {z : List Value} {by' : Nat} {x y : Operand} {ad a2 : Option Addr} {c2 : Nat} {xs ys : List α} (hE : Plain E) (hT : P.underlying T = some (.slice e)) (ht : TyOk P e agg k z by') (hk : k = E.k)
    (hx : ev fr x = some (.slice ad m c)) (hy : ev fr y = some (.slice a2 m2 c2)) (hr : Ro w0 L0 (Enc.sl e2 E) [.slice a2 m2 c2] ys) (hH : H = ow (Enc.sl e E) [.slice ad m c] xs :: R) (h63 : m + m2 ≤ 9223372036854775807) (hbytes : (m + m2) * by' ≤ 140737488355328) (hd : d < n) :
    Nop P Q n w0 L0 fr H ⟨some d, .call ⟨.builtin .append, #[x, y], #[T, T]⟩, ty, pos, af, g⟩ false (κ := Option Addr × Nat) (fun p => (d, .slice p.1 (m + m2) p.2) :: fr) (fun p => ow (Enc.sl e E) [.slice p.1 (m + m2) p.2] (xs ++ ys) :: R) (fun _ => True) := by
  subst hH
  obtain ⟨ccs, ⟨Lc, h1⟩, h2, h3⟩ := hr.src
  refine N.pushG (pre := []) hT ht hk hx hy rfl hr.slen.1 (fun w hw L hL hn => ?_) h63 hbytes hd
  refine ⟨ccs, [], ?_, by simp, by simp, (h3 _).imp id fun ⟨b, o, k1, k2⟩ => ⟨b, o, k1, k2 w hw⟩⟩
  have := hE.elems h1
  exact this.stable (by simp)
/-- append(s, t...) where t is owned by somebody else here, and its elements own nothing -/
theorem N.pushW {α : Type} {E : Enc α} {T e e2 : TypeId} {agg : Bool} {k m m2 c : Nat} {z : List Value} {by' : Nat} {x y : Operand} {ad a2 : Option Addr} {c2 : Nat} {xs ys : List α} (hE : Plain E) (hT : P.underlying T = some (.slice e)) (ht : TyOk P e agg k z by') (hk : k = E.k)
    (hx : ev fr x = some (.slice ad m c)) (hy : ev fr y = some (.slice a2 m2 c2)) (hr : ow (Enc.sl e2 E) [.slice a2 m2 c2] ys ∈ R) (hH : H = ow (Enc.sl e E) [.slice ad m c] xs :: R) (hm2 : m2 = ys.length) (h63 : m + m2 ≤ 9223372036854775807) (hbytes : (m + m2) * by' ≤ 140737488355328) (hd : d < n) :
    Nop P Q n w0 L0 fr H ⟨some d, .call ⟨.builtin .append, #[x, y], #[T, T]⟩, ty, pos, af, g⟩ false (κ := Option Addr × Nat) (fun p => (d, .slice p.1 (m + m2) p.2) :: fr) (fun p => ow (Enc.sl e E) [.slice p.1 (m + m2) p.2] (xs ++ ys) :: R) (fun _ => True) := by
  subst hH
  refine N.pushG (pre := []) hT ht hk hx hy rfl hm2 (fun w hw L hL hn => ?_) h63 hbytes hd
  obtain ⟨L', hL'⟩ := hw.mem (mS hr)
  obtain ⟨ccs, L1, L2, rfl, g1, g2, g3, g4⟩ := ow_sl hL'
  obtain ⟨L3, k1, k2⟩ := g3.ro
  refine ⟨ccs, [], hE.elems k2, by simp, by simp, ?_⟩
  obtain ⟨h0, h1⟩ := g4
  rcases h1 with ⟨_, h2, _⟩ | ⟨g', cur, h2, h3, h4, h5, h6, h7, _⟩
  · exact .inl ⟨h2, List.eq_nil_of_length_eq_zero (by rw [h0, h2, Nat.zero_mul])⟩
  · refine .inr ⟨g', 0, h2, fun j v hj => ?_⟩
    rw [← h7, List.getElem?_take] at hj
    split at hj
    · simpa [World.cell?, h3] using hj
    · cases hj
/-- s[j] = x on an owned list -/
theorem Elems.set {α : Type} {E : Enc α} {w : World} {xs : List α} {ccs ce : List Value} {L Lx : List Nat} {x : α} {j : Nat} (h : Elems E w ccs xs L true) (hj : j < xs.length) (hx : E.rep w ce x Lx true) (hn : (L ++ Lx).Nodup) :
    ∃ L', Elems E w (ccs.take (j * E.k) ++ ce ++ ccs.drop (j * E.k + E.k)) (xs.set j x) L' true ∧ (∀ b ∈ L', b ∈ L ++ Lx) ∧ L'.Nodup := by
  have hxs : xs = xs.take j ++ (xs[j] :: xs.drop (j + 1)) := by simp
  rw [hxs] at h
  obtain ⟨c1, c2, L1, L2, rfl, rfl, h1, d1, d2, M1, M2, rfl, rfl, h2, h3⟩ := h.split
  have hl1 : c1.length = j * E.k := by rw [h1.len, List.length_take, Nat.min_eq_left (by omega)]
  have hl2 := E.len h2
  refine ⟨L1 ++ (Lx ++ M2), ?_, fun b hb => ?_, ?_⟩
  · rw [List.set_eq_take_append_cons_drop, if_pos hj]
    have e1 : (c1 ++ (d1 ++ d2)).take (j * E.k) = c1 := by rw [← hl1, List.take_left]
    have e2 : (c1 ++ (d1 ++ d2)).drop (j * E.k + E.k) = d2 := by rw [← hl1, ← hl2, ← List.append_assoc, ← List.length_append, List.drop_left]
    rw [e1, e2, List.append_assoc]
    exact h1.app ⟨ce, d2, Lx, M2, rfl, rfl, hx, h3⟩
  · simp only [List.mem_append] at hb ⊢
    rcases hb with hb | hb | hb
    · exact .inl (.inl hb)
    · exact .inr hb
    · exact .inl (.inr (.inr hb))
  · simp only [List.nodup_append, List.mem_append] at hn ⊢
    obtain ⟨⟨n1, ⟨n2, n3, n4⟩, n5⟩, n6, n7⟩ := hn
    exact ⟨n1, ⟨n6, n3, fun a ha b hb e => n7 b (.inr (.inr hb)) a ha e.symm⟩, fun a ha b hb e => hb.elim (fun hb => n7 a (.inl ha) b hb e) (fun hb => n5 a ha b (.inr hb) e)⟩
theorem N.set {α : Type} {E : Enc α} {T e : TypeId} {agg : Bool} {k m c : Nat} {z : List Value} {by' : Nat} {x y : Operand} {b off j : Nat} {v : Value} {xs : List α} {ce : List Value} {ex : α} {ad : Option Addr} (ht : TyOk P T agg k z by') (hk : k = E.k) (hx : ev fr x = some (.pointer (some ⟨b, off, none⟩))) (hy : ev fr y = some v)
    (hv : v.cells = ce.toArray) (hO : Own pre E ce ex) (had : ad = some ⟨b, 0, none⟩) (hoff : off = j * k) (hH : H = ow (Enc.sl e E) [.slice ad m c] xs :: (pre ++ R)) (hj : j < xs.length) :
    Nop P Q n w0 L0 fr H ⟨none, .store T x y, ty, pos, af, g⟩ false (κ := Unit) (fun _ => fr) (fun _ => ow (Enc.sl e E) [.slice ad m c] (xs.set j ex) :: R) (fun _ => True) := fun K hK a w ha hw => by
  subst hk; subst hoff
  have hw' := hw
  rw [hH] at hw'
  obtain ⟨L, ⟨Lo, Lq, rfl, ho, hq⟩, hn, hst⟩ := hw'
  obtain ⟨Lp, LR, rfl, hp, hR⟩ := Sep.append.1 hq
  obtain ⟨ccs, L1, L2, rfl, g1, g2, g3, hlen, g4⟩ := ow_sl ho
  have hrep := hO w Lp hp
  have hpos := E.pos
  have hjm : j * E.k + E.k ≤ m * E.k := by rw [← Nat.succ_mul]; exact Nat.mul_le_mul_right _ (by omega)
  rcases g4 with ⟨rfl, rfl, rfl⟩ | ⟨g', cur, h2, hb, h4, h5, h6, h7, rfl⟩
  · omega
  rw [had] at h2; cases h2
  have hcl : m * E.k ≤ cur.size := by rw [h6]; exact Nat.mul_le_mul_right _ h4
  have hrun := run_storeVar (P := P) ht hv (E.len hrep) (E.one hrep) hb (off := j * E.k) (by rw [E.len hrep]; omega)
  have hnn : (L2 ++ Lp).Nodup ∧ b ∉ L2 ∧ b ∉ Lp := by
    simp only [List.nodup_append, List.mem_append, List.mem_singleton] at hn ⊢
    obtain ⟨⟨n1, n2, n3⟩, ⟨n4, n5, n6⟩, n7⟩ := hn
    exact ⟨⟨n2, n4, fun x hx y hy e => n7 x (.inr hx) y (.inl hy) e⟩, fun h => n3 b rfl b h rfl, fun h => n7 b (.inl rfl) b (.inl h) rfl⟩
  obtain ⟨L', e1, e2, e3⟩ := g3.set (j := j) (by omega) hrep hnn.1
  have hbL : b ∉ L' := fun h => by rcases List.mem_append.1 (e2 b h) with h | h; (exact hnn.2.1 h); (exact hnn.2.2 h)
  have hLn : (([b] ++ L') ++ LR).Nodup := by
    simp only [List.nodup_append, List.mem_append, List.mem_singleton] at hn ⊢
    obtain ⟨⟨n1, n2, n3⟩, ⟨n4, n5, n6⟩, n7⟩ := hn
    refine ⟨⟨by simp, e3, fun x hx y hy e => hbL (by rw [← hx, e]; exact hy)⟩, n5, fun x hx y hy e => ?_⟩
    rcases hx with hx | hx
    · exact n7 x (.inl hx) y (.inr hy) e
    · rcases List.mem_append.1 (e2 x hx) with h | h
      · exact n7 x (.inr h) y (.inr hy) e
      · exact n6 x h y hy e
  have hst' : Step w0 L0 w (([b] ++ L') ++ LR) := hst.sublist fun x hx => by
    simp only [List.mem_append, List.mem_singleton] at hx ⊢
    rcases hx with (hx | hx) | hx
    · exact .inl (.inl hx)
    · rcases List.mem_append.1 (e2 x hx) with h | h
      · exact .inl (.inr h)
      · exact .inr (.inl h)
    · exact .inr (.inr hx)
  have hblt := (Array.getElem?_eq_some_iff.1 hb).1
  have hstep : Step w ([b] ++ L') (w.setRow b (cur.toList.take (j * E.k) ++ ce ++ cur.toList.drop (j * E.k + ce.length)).toArray) ([b] ++ L') :=
    ⟨rfl, rfl, rfl, by simp [World.setRow], fun x _ hx => setRow_other w b x _ (fun h => hx (by simp [h])), fun x hx => .inl hx⟩
  obtain ⟨k1, k2, k3⟩ := hst'.call hLn hR.inh hstep (List.nodup_append.1 hLn).1
  simp only [Oper.wp, execOp, ha.ev hx, ha.ev hy, Sem.run_bind, hrun, Result.andThen_ok, Sem.run_pure, Oper.upon_skip]
  refine hK () trivial w _ _ ha ⟨_, ⟨[b] ++ L', LR, rfl, ⟨ad, m, c, ccs.take (j * E.k) ++ ce ++ ccs.drop (j * E.k + E.k), [b], L', rfl, by simp [g1], g2, rfl, ?_, ?_⟩, hR.stable k3⟩, k2, k1⟩ (by simp)
  · exact e1.stable fun x hx => setRow_other w b x _ (fun h => hbL (h ▸ hx))
  · have hcel := E.len hrep
    refine ⟨by simp; omega, .inr ⟨b, _, had, setRow_heap w b _ _ _ _ hb, h4, h5, by simp; omega, ?_, rfl⟩⟩
    rw [← h7, hcel]
    rw [List.take_append, List.take_append]
    simp only [List.length_append, List.length_take, Array.length_toList, hcel]
    rw [List.take_of_length_le (l := List.take (j * E.k) cur.toList) (by simp; omega), List.take_of_length_le (l := ce) (by omega)]
    congr 1
    · rw [List.take_take, Nat.min_eq_left (by omega)]
    · rw [List.drop_take]; congr 1; rw [Nat.min_eq_left (by omega)]
end
theorem Has.owI {e : TypeId} {b m c : Nat} {xs : List Int} {w0 : World} {L0 : List Nat} {H : List HP} (hm : ow (Enc.sl e Enc.int) [.slice (some ⟨b, 0, none⟩) m c] xs ∈ H) (i : Nat) {x : Int} (hx : xs[i]? = some x) : Has w0 L0 H b (0 + i * 1) [.int .i64 x] := fun w h => by
  obtain ⟨L, hL⟩ := h.mem hm
  obtain ⟨ccs, L1, L2, _, g1, g2, g3, h0, g4⟩ := ow_sl hL
  obtain ⟨hi, rfl⟩ := List.getElem?_eq_some_iff.1 hx
  obtain ⟨hc, _, _⟩ := Elems.ints.1 g3
  rcases g4 with ⟨_, h, _⟩ | ⟨g, cur, h2, h3, h4, h5, h6, h7, _⟩
  · omega
  · cases h2
    intro j v hj
    match j, hj with
    | 0, hj =>
      simp at hj; subst hj
      have : (ccs : List Value)[i]? = some (.int .i64 xs[i]) := by rw [hc]; simp [Go.Proofs.Ytnagfcajnbkdoaa.ints, hi]
      rw [← h7, List.getElem?_take] at this
      split at this
      · simpa [World.cell?, h3] using this
      · cases this
/-- one of a tuple -/
theorem Y.ext {P : Program} {n : Nat} {fr : Fr} {x : Operand} {i : Nat} {vs : Array Value} {v : Value} (hx : ev fr x = some (.tuple vs)) (hv : vs[i]? = some v) : Yp P n fr (.extract x i) v := fun a h w' d t p af g => by
  obtain ⟨h1, h2⟩ := Array.getElem?_eq_some_iff.1 hv
  simp [execOp, h.ev hx, Instr.extract, h1, h2]
end Go.Proofs.Ytnagfcajnbkdoaa
