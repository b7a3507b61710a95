import Derived.Test.YthapcdhdfaibkaaGreatDoorEa
section
namespace Go.Proofs.YthapcdhdfaibkaaGreatDoor
open Go.RowKit
set_option linter.unusedVariables false
set_option linter.unusedSimpArgs false
def a1f (d4 : List Rul) (F : List Fct) : List Fct → List Value → List Value
 | [], _ => []
 | f :: M, cs => [.int .i64 (X4 d4 F f), .int .i64 0, .slice none 0 0] ++ (cs.take 2 ++ a1f d4 F M (cs.drop 2))
theorem a8u {d4 : List Rul} {F : List Fct} : ∀ {M : List Fct} {cs : List Value} {i : Nat} (h : i < M.length), a1f d4 F (M.take i) cs ++ ([.int .i64 (X4 d4 F M[i]), .int .i64 0, .slice none 0 0] ++ (cs.drop (i * 2)).take 2) = a1f d4 F (M.take (i + 1)) cs
 | [], _, i, h => absurd h (by simp)
 | f :: M, cs, 0, _ => by simp [a1f]
 | f :: M, cs, i + 1, h => by
  have h1 := a8u (d4 := d4) (F := F) (M := M) (cs := cs.drop 2) (i := i) (by simpa using h)
  rw [List.drop_drop] at h1
  simp only [List.take_succ_cons, a1f, List.getElem_cons_succ, List.append_assoc]
  rw [← h1, show (i + 1) * 2 = 2 + i * 2 by omega]
  try simp only [List.append_assoc]
theorem b0d {d4 : List Rul} {F : List Fct} (hr : d4.length ≤ 4) {w : World} : ∀ {M : List Fct} {cs : List Value} {L : List Nat}, C0 C9 w cs M L true → C0 S8 w (a1f d4 F M cs) (M.map (lnR d4 F)) L true
 | [], _, _, h => ⟨rfl, h.2⟩
 | f :: M, _, _, ⟨c1, c2, L1, L2, h1, h2, h3, h4⟩ => by
  have hl : c1.length = 2 := C9.len h3
  have e1 : (c1 ++ c2).take 2 = c1 := by rw [← hl, List.take_left]
  have e2 : (c1 ++ c2).drop 2 = c2 := by rw [← hl, List.drop_left]
  subst h1; subst h2
  refine ⟨[.int .i64 (X4 d4 F f), .int .i64 0, .slice none 0 0] ++ c1, a1f d4 F M c2, L1, L2, by rw [a1f, e1, e2, List.append_assoc], rfl, ?_, b0d hr h4⟩
  exact ⟨[.int .i64 (X4 d4 F f)], [.int .i64 0, .slice none 0 0] ++ c1, [], L1, rfl, rfl, ⟨rfl, b0f hr, rfl⟩,
   [.int .i64 0, .slice none 0 0], c1, [], L1, rfl, rfl, ⟨[.int .i64 0], [.slice none 0 0], [], [], rfl, rfl, ⟨rfl, (show I64 0 from by unfold I64; omega), rfl⟩, (Own.nil (E := Enc.int) (e := tI) (a := none)) w [] rfl⟩, h3⟩
section
variable {n : Nat} {w0 w : World} {L0 Lp : List Nat} {fr : Fr} {H R pre rest : List HP} {G : Act → World → Prop} {a : Option Addr} {m c i : Nat} {cs oc mc : List Value} {xs M F : List Fct} {xs0 : List Lin} {d4 : List Rul}
theorem b4I (hr : d4.length ≤ 4) (hi : M.length ≤ i) (hm : m = xs0.length + M.length) (hl : m ≤ maxLen) (h : Ent n w0 L0 fr (ow B6 [.slice a m c] (xs0 ++ M.map (lnR d4 F)) :: R) G) :
  Ent n w0 L0 fr (row tLine 5 a m c (oc ++ a1f d4 F (M.take i) mc) :: els S8 oc xs0 :: els C9 mc M :: R) G := fun ac w h1 h2 => by
 rw [List.take_of_length_le hi] at h2
 obtain ⟨L, ⟨L1, Lq, rfl, g4, L2, Lq2, rfl, g2, L3, LR, rfl, g3, hR⟩, hn, hst⟩ := h2
 have e1 : L1 ++ (L2 ++ (L3 ++ LR)) = (L1 ++ (L2 ++ L3)) ++ LR := by simp
 rw [e1] at hn hst
 exact h ac w h1 ⟨(L1 ++ (L2 ++ L3)) ++ LR, ⟨L1 ++ (L2 ++ L3), LR, rfl, ⟨a, m, c, oc ++ a1f d4 F M mc, L1, L2 ++ L3, rfl, by simp [hm], hl, rfl, g2.app (b0d hr g3), g4⟩, hR⟩, hn, hst⟩
theorem b5b {i : Nat} {u v : Value} (h : (cs.drop (i * 2)).take 2 = [u, v]) : cs.drop (i * 2) = [u, v] ++ (cs.drop (i * 2)).drop 2 := by rw [← h, List.take_append_drop]
theorem b2s {w : World} {ce : List Value} {x : Fct} {L : List Nat} {o : Bool} (h : C9.rep w ce x L o) : ∃ ea ec, ce = [.int .i64 x.1, .slice ea x.2.length ec] ∧ I64 x.1 ∧ ∃ L', (∀ b ∈ L', b ∈ L) ∧ eIs.rep w [.slice ea x.2.length ec] x.2 L' o := by
 obtain ⟨c1, c2, L1, L2, rfl, rfl, ⟨rfl, h1, _⟩, h2⟩ := h
 have h2' := h2
 obtain ⟨a', m', c', ccs, M1, M2, e1, e2, _⟩ := h2'
 subst e1; subst e2
 exact ⟨a', c', rfl, h1, L2, fun b hb => by simp [hb], h2⟩
theorem Ent.elsF (i : Nat) (hm : els C9 cs xs ∈ H) (hi : i < xs.length) (h : ∀ ea ec er, cs.drop (i * 2) = [.int .i64 xs[i].1, .slice ea xs[i].2.length ec] ++ er → I64 xs[i].1 → Ent n w0 L0 fr H G) : Ent n w0 L0 fr H G := fun ac w h1 h2 => by
 obtain ⟨L, hL⟩ := h2.mem hm
 obtain ⟨L', _, g2⟩ := C0.get hL i hi
 obtain ⟨ea, ec, e1, e2, _⟩ := b2s g2
 exact h ea ec _ (b5b e1) e2 ac w h1 h2
theorem At.elsF (hA : At w0 L0 pre rest w Lp) (hm : els C9 cs xs ∈ rest) {i : Nat} (hi : i < xs.length) {x : Int} {ea : Option Addr} {k ec : Nat} {er : List Value} (he : cs.drop (i * 2) = [.int .i64 x, .slice ea k ec] ++ er) : Ro w Lp eIs [.slice ea k ec] xs[i].2 := by
 obtain ⟨⟨Lr, h1, h2, h3, h4⟩⟩ := hA
 obtain ⟨L', r1, r2⟩ := h2.mem hm
 obtain ⟨L'', r3, r4⟩ := C0.ro r1
 obtain ⟨L3, r5, r6⟩ := C0.get r4 i hi
 obtain ⟨ea', ec', e1, _, L4, r7, r8⟩ := b2s r6
 have e2 : (cs.drop (i * C9.k)).take C9.k = [.int .i64 x, .slice ea k ec] := by
  show (cs.drop (i * 2)).take 2 = _
  rw [he]; rfl
 rw [e2] at e1
 simp only [List.cons.injEq, Value.slice.injEq, and_true] at e1
 obtain ⟨_, rfl, rfl, rfl⟩ := e1
 exact ⟨L4, r8, fun b hb hp => (List.nodup_append.1 h3).2.2 b hp b (r2 b (r3 b (r5 b (r7 b hb)))) rfl⟩
theorem a7h {e : TypeId} {k : Nat} (hm : row e k a m c cs ∈ H) (hlt : 0 < m) (h : ∀ b, a = some ⟨b, 0, none⟩ → Ent n w0 L0 fr H G) : Ent n w0 L0 fr H G := fun ac w h1 h2 => by
 obtain ⟨L, hL⟩ := h2.mem hm
 obtain ⟨_, g4⟩ := hL
 rcases g4 with ⟨_, h0, _⟩ | ⟨g, cur, h3, _⟩
 ·omega
 ·exact h g h3 ac w h1 h2
theorem a9K {a : Option Addr} {m c : Nat} {xs : List Int} {w : World} {L : List Nat} (h : (ow eIs [.slice a m c] xs).holds w L) : m = xs.length ∧ (∀ x ∈ xs, I64 x) ∧ ∃ L1, (row tI 1 a m c (ints xs)).holds w L1 ∧ ∀ b ∈ L1, b ∈ L := by
 obtain ⟨ccs, L1, L2, rfl, g1, _, g3, g4⟩ := a1L h
 obtain ⟨rfl, h1, _⟩ := C0.ints.1 g3
 exact ⟨g1, h1, L1, g4, fun b hb => by simp [hb]⟩
theorem b2M {a : Option Addr} {m c : Nat} {xs : List Int} (j : Nat) (hm : ow eIs [.slice a m c] xs ∈ H) (hj : j < xs.length) (h : I64 xs[j] → Ent n w0 L0 fr H G) : Ent n w0 L0 fr H G := fun ac w h1 h2 => by
 obtain ⟨L, hL⟩ := h2.mem hm
 exact h ((a9K hL).2.1 _ (List.getElem_mem hj)) ac w h1 h2
theorem b1U {a : Option Addr} {m c g j : Nat} {xs : List Int} (ha : a = some ⟨g, 0, none⟩) (hm : Go.Proofs.YthapcdhdfaibkaaGreatDoor.ow eIs [.slice a m c] xs ∈ H) (hj : j < xs.length) : Has w0 L0 H g (0 + j * 1) [.int .i64 xs[j]] := fun w h => by
 obtain ⟨L', hL⟩ := h.mem hm
 obtain ⟨g1, _, L1, g4, _⟩ := a9K hL
 obtain ⟨_, g5⟩ := g4
 rcases g5 with ⟨_, h0, _⟩ | ⟨g', cur, h2, h3, h4, h5, h6, h7, _⟩
 ·omega
 rw [ha] at h2; cases h2
 intro i v hi
 have hi0 : i = 0 ∧ v = .int .i64 xs[j] := by
  rcases i with _ | i
  ·simp at hi; exact ⟨rfl, hi.symm⟩
  ·simp at hi
 obtain ⟨rfl, rfl⟩ := hi0
 have h8 : (ints xs)[j]? = some (.int .i64 xs[j]) := by simp [Go.Proofs.YthapcdhdfaibkaaGreatDoor.ints, hj]
 rw [← h7, List.getElem?_take] at h8
 split at h8
 ·simpa [World.cell?, h3] using h8
 ·cases h8
theorem a8p {e : TypeId} {k g p : Nat} {news rest : List Value} (ha : a = some ⟨g, 0, none⟩) (hm : Go.Proofs.YthapcdhdfaibkaaGreatDoor.row e k a m c cs ∈ H) (h : cs.drop (p * k) = news ++ rest) : Has w0 L0 H g (0 + p * k) news := by
 subst ha; rw [Nat.zero_add]; exact a6f hm p h
end
end Go.Proofs.YthapcdhdfaibkaaGreatDoor
end
section
namespace Go.Proofs.YthapcdhdfaibkaaGreatDoor
open Go.RowKit
set_option linter.unusedVariables false
section
variable {n : Nat} {w0 : World} {L0 : List Nat} {fr : Fr} {H R : List HP} {G : Act → World → Prop} {α : Type} {E : Enc α} {e : TypeId} {a : Option Addr} {m c : Nat} {xs : List α} {cs : List Value}
theorem b4V (hm : ow (Enc.sl e E) [.slice a m c] xs ∈ H) (h : m ≤ c → Ent n w0 L0 fr H G) : Ent n w0 L0 fr H G := fun ac w h1 h2 => by
 obtain ⟨L, hL⟩ := h2.mem hm
 obtain ⟨ccs, L1, L2, _, g1, g2, _, _, g4⟩ := a1L hL
 rcases g4 with ⟨_, h0, _⟩ | ⟨g, cur, h3, h4, h5, _⟩
 ·exact h (by omega) ac w h1 h2
 ·exact h h5 ac w h1 h2
theorem b2f (k : Nat) (h : Ent n w0 L0 fr (els E (cs.take (k * E.k)) (xs.take k) :: R) G) (hk : k ≤ xs.length) : Ent n w0 L0 fr (els E cs xs :: R) G := fun ac w h1 h2 => by
 obtain ⟨L, ⟨L1, LR, rfl, g3, hR⟩, hn, hst⟩ := h2
 have hx : xs = xs.take k ++ xs.drop k := (List.take_append_drop k xs).symm
 have g3' : C0 E w cs xs L1 true := g3
 rw [hx] at g3'
 obtain ⟨c1, c2, M1, M2, rfl, rfl, e1, e2⟩ := C0.split g3'
 have hl : c1.length = k * E.k := by rw [e1.len, List.length_take, Nat.min_eq_left hk]
 have ec : (c1 ++ c2).take (k * E.k) = c1 := by rw [← hl, List.take_left]
 refine h ac w h1 ⟨M1 ++ LR, ⟨M1, LR, rfl, by rw [ec]; exact e1, hR⟩, ?_, hst.sublist fun b hb => ?_⟩
 ·simp only [List.nodup_append] at hn ⊢
  exact ⟨hn.1.1, hn.2.1, fun a ha b hb => hn.2.2 a (by simp [ha]) b hb⟩
 ·rcases List.mem_append.1 hb with hb | hb <;> simp [hb]
theorem b4R (k : Nat) (hk : k ≤ xs.length) (hm : m = xs.length) (hl : m ≤ 9223372036854775807) (h : Ent n w0 L0 fr (ow (Enc.sl e E) [.slice a k c] (xs.take k) :: R) G) : Ent n w0 L0 fr (ow (Enc.sl e E) [.slice a m c] xs :: R) G :=
 a3s fun ccs _ => Ent.shr (m' := k) (by omega) (d9 (b2f k (d9 (a3u (by simp; omega) (by unfold maxLen; omega) h)) hk))
end
-- the first line of a fact
theorem b6q {α : Type} {p : α → Bool} {X : List α} {k : Nat} (h : M6 p X = (k : Int)) : k < X.length := by
 unfold M6 at h
 split at h
 ·rename_i ha
  have h1 : X.findIdx p < X.length := List.findIdx_lt_length_of_exists (by simpa using ha)
  omega
 ·omega
theorem b5k {s : List Int} {u : UU} (hu : uInv s u) {x : Lin} (hx : x ∈ u.2.2.2) : x.2.1.2.length ≤ 3 ∧ x.2.2.2.length ≤ 3 := ⟨hu.n.acc x hx, H3 (hu.n.ok x hx)⟩
def a5L (X : List Lin) (f : Fct) : Int := M6 (fun x => decide (J2 x.2.2 f = 0)) X
def a0u (s : List Int) (l : List Mth) (d4 : List Rul) (a8 : List Fct) (d6 : List Int) (f : Fct) : Bool := E7 s l d4 a8 && decide (0 ≤ a5L (B2 l d4 a8 d6).2.2.2 f)
def N9 (s : List Int) (l : List Mth) (d4 : List Rul) (a8 : List Fct) (d6 : List Int) (f : Fct) : List Lin := if a0u s l d4 a8 d6 f then (B2 l d4 a8 d6).2.2.2.take ((a5L (B2 l d4 a8 d6).2.2.2 f).toNat + 1) else []
attribute [local irreducible] B2
section
variable {s : List Int} {l : List Mth} {d4 : List Rul} {a8 : List Fct} {d6 : List Int} {f : Fct} {g : Nat}
theorem I7 (h : E7 s l d4 a8 = false) : [] = N9 s l d4 a8 d6 f ∧ false = a0u s l d4 a8 d6 f := by simp [N9, a0u, h]
theorem a1U (h : E7 s l d4 a8 = true) {k : Nat} (hk : a5L (B2 l d4 a8 d6).2.2.2 f = k) : (B2 l d4 a8 d6).2.2.2.take (k + 1) = N9 s l d4 a8 d6 f ∧ true = a0u s l d4 a8 d6 f := by
 have h1 : a0u s l d4 a8 d6 f = true := by rw [a0u, h, hk]; simp
 rw [N9, if_pos h1, hk, h1]; exact ⟨rfl, rfl⟩
theorem a0P (h : E7 s l d4 a8 = true) (hk : a5L (B2 l d4 a8 d6).2.2.2 f < 0) : [] = N9 s l d4 a8 d6 f ∧ false = a0u s l d4 a8 d6 f := by
 have h1 : a0u s l d4 a8 d6 f = false := by rw [a0u, h, Bool.true_and, decide_eq_false_iff_not]; omega
 rw [N9, h1]; exact ⟨rfl, rfl⟩
theorem a1Q (h : E7 s l d4 a8 = true) (po : ∀ x ∈ (B2 l d4 a8 d6).2.2.2.take g, decide (J2 x.2.2 f = 0) = false) (hg : g < (B2 l d4 a8 d6).2.2.2.length) (e : J2 (B2 l d4 a8 d6).2.2.2[g].2.2 f = 0) :
  (B2 l d4 a8 d6).2.2.2.take (g + 1) = N9 s l d4 a8 d6 f ∧ true = a0u s l d4 a8 d6 f :=
 a1U h (V9 hg po (decide_eq_true e)).symm
theorem a1n (h : E7 s l d4 a8 = true) (po : ∀ x ∈ (B2 l d4 a8 d6).2.2.2.take g, decide (J2 x.2.2 f = 0) = false) (hg : ¬ g < (B2 l d4 a8 d6).2.2.2.length) : [] = N9 s l d4 a8 d6 f ∧ false = a0u s l d4 a8 d6 f :=
 a0P h (by rw [a5L, ← S9 hg po]; decide)
end
end Go.Proofs.YthapcdhdfaibkaaGreatDoor
end
