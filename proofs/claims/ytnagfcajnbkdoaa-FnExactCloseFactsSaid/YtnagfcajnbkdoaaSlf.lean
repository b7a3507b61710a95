/- How data lie in memory: encodings of numbers, structs and slices, read-only and owned; what a slice that is only read gives. -/
import Derived.Test.YtnagfcajnbkdoaaSle
namespace Go.Proofs.Ytnagfcajnbkdoaa
open Go.RowKit
set_option linter.unusedVariables false

/-- an encoding: so many cells; 'rep w cs x L o': in w the cells cs hold x, on the blocks L (o: owned) -/
structure Enc (α : Type) where
  k : Nat
  pos : 0 < k
  rep : World → List Value → α → List Nat → Bool → Prop
  len : ∀ {w cs x L o}, rep w cs x L o → cs.length = k
  one : ∀ {w cs x L o}, rep w cs x L o → ∀ u ∈ cs, u.oneCell' = true
  stable : ∀ {w w' : World} {cs x L o}, rep w cs x L o → (∀ b ∈ L, w'.heap[b]? = w.heap[b]?) → rep w' cs x L o
  inh : ∀ {w cs x L o}, rep w cs x L o → ∀ b ∈ L, b < w.heap.size
  ro : ∀ {w cs x L}, rep w cs x L true → ∃ L', (∀ b ∈ L', b ∈ L) ∧ rep w cs x L' false
def lo64 : Int := -9223372036854775808
def hi64 : Int := 9223372036854775807
def I64 (x : Int) : Prop := -9223372036854775808 ≤ x ∧ x ≤ 9223372036854775807
def Enc.int : Enc Int where
  k := 1
  pos := by decide
  rep _ cs x L _ := cs = [.int .i64 x] ∧ I64 x ∧ L = []
  len h := by rw [h.1]; rfl
  one h := by rw [h.1]; simp [Value.oneCell']
  stable h _ := h
  inh h := by rw [h.2.2]; simp
  ro h := ⟨[], by simp, h.1, h.2.1, rfl⟩
def Enc.bool : Enc Bool where
  k := 1
  pos := by decide
  rep _ cs x L _ := cs = [.bool x] ∧ L = []
  len h := by rw [h.1]; rfl
  one h := by rw [h.1]; simp [Value.oneCell']
  stable h _ := h
  inh h := by rw [h.2]; simp
  ro h := ⟨[], by simp, h.1, rfl⟩
def Enc.pair {α β : Type} (E : Enc α) (F : Enc β) : Enc (α × β) where
  k := E.k + F.k
  pos := by have := E.pos; omega
  rep w cs x L o := ∃ c1 c2 L1 L2, cs = c1 ++ c2 ∧ L = L1 ++ L2 ∧ E.rep w c1 x.1 L1 o ∧ F.rep w c2 x.2 L2 o
  len := by rintro w cs x L o ⟨c1, c2, L1, L2, rfl, rfl, h1, h2⟩; simp [E.len h1, F.len h2]
  one := by
    rintro w cs x L o ⟨c1, c2, L1, L2, rfl, rfl, h1, h2⟩ u hu
    rcases List.mem_append.1 hu with hu | hu
    · exact E.one h1 u hu
    · exact F.one h2 u hu
  stable := by
    rintro w w' cs x L o ⟨c1, c2, L1, L2, rfl, rfl, h1, h2⟩ hb
    exact ⟨c1, c2, L1, L2, rfl, rfl, E.stable h1 fun b hm => hb b (by simp [hm]), F.stable h2 fun b hm => hb b (by simp [hm])⟩
  inh := by
    rintro w cs x L o ⟨c1, c2, L1, L2, rfl, rfl, h1, h2⟩ b hb
    rcases List.mem_append.1 hb with hb | hb
    · exact E.inh h1 b hb
    · exact F.inh h2 b hb
  ro := by
    rintro w cs x L ⟨c1, c2, L1, L2, rfl, rfl, h1, h2⟩
    obtain ⟨M1, m1, m2⟩ := E.ro h1
    obtain ⟨M2, m3, m4⟩ := F.ro h2
    exact ⟨M1 ++ M2, fun b hb => by rcases List.mem_append.1 hb with hb | hb; (simp [m1 b hb]); (simp [m3 b hb]), c1, c2, M1, M2, rfl, rfl, m2, m4⟩
def Elems {α : Type} (E : Enc α) (w : World) : List Value → List α → List Nat → Bool → Prop
  | cs, [], L, _ => cs = [] ∧ L = []
  | cs, x :: xs, L, o => ∃ c1 c2 L1 L2, cs = c1 ++ c2 ∧ L = L1 ++ L2 ∧ E.rep w c1 x L1 o ∧ Elems E w c2 xs L2 o
section
variable {α : Type} {E : Enc α}
theorem Elems.len : ∀ {xs : List α} {w : World} {cs : List Value} {L : List Nat} {o : Bool}, Elems E w cs xs L o → cs.length = xs.length * E.k
  | [], _, _, _, _, h => by rw [h.1]; simp
  | x :: xs, _, _, _, _, ⟨c1, c2, L1, L2, h1, _, h3, h4⟩ => by rw [h1, List.length_append, E.len h3, Elems.len h4, List.length_cons, Nat.succ_mul]; omega
theorem Elems.one : ∀ {xs : List α} {w : World} {cs : List Value} {L : List Nat} {o : Bool}, Elems E w cs xs L o → ∀ u ∈ cs, u.oneCell' = true
  | [], _, _, _, _, h, u, hu => by rw [h.1] at hu; cases hu
  | x :: xs, _, _, _, _, ⟨c1, c2, L1, L2, h1, _, h3, h4⟩, u, hu => by
    rw [h1] at hu
    rcases List.mem_append.1 hu with hu | hu
    · exact E.one h3 u hu
    · exact Elems.one h4 u hu
theorem Elems.stable {w' : World} : ∀ {xs : List α} {w : World} {cs : List Value} {L : List Nat} {o : Bool}, Elems E w cs xs L o → (∀ b ∈ L, w'.heap[b]? = w.heap[b]?) → Elems E w' cs xs L o
  | [], _, _, _, _, h, _ => h
  | x :: xs, _, _, _, _, ⟨c1, c2, L1, L2, h1, h2, h3, h4⟩, hb =>
    ⟨c1, c2, L1, L2, h1, h2, E.stable h3 fun b hm => hb b (by simp [h2, hm]), Elems.stable h4 fun b hm => hb b (by simp [h2, hm])⟩
theorem Elems.inh : ∀ {xs : List α} {w : World} {cs : List Value} {L : List Nat} {o : Bool}, Elems E w cs xs L o → ∀ b ∈ L, b < w.heap.size
  | [], _, _, _, _, h, b, hb => by rw [h.2] at hb; cases hb
  | x :: xs, _, _, _, _, ⟨c1, c2, L1, L2, h1, h2, h3, h4⟩, b, hb => by
    rw [h2] at hb
    rcases List.mem_append.1 hb with hb | hb
    · exact E.inh h3 b hb
    · exact Elems.inh h4 b hb
theorem Elems.ro : ∀ {xs : List α} {w : World} {cs : List Value} {L : List Nat}, Elems E w cs xs L true → ∃ L', (∀ b ∈ L', b ∈ L) ∧ Elems E w cs xs L' false
  | [], _, _, _, h => ⟨[], by simp, h.1, rfl⟩
  | x :: xs, _, _, _, ⟨c1, c2, L1, L2, h1, h2, h3, h4⟩ => by
    obtain ⟨M1, m1, m2⟩ := E.ro h3
    obtain ⟨M2, m3, m4⟩ := Elems.ro h4
    exact ⟨M1 ++ M2, fun b hb => by rcases List.mem_append.1 hb with hb | hb; (simp [h2, m1 b hb]); (simp [h2, m3 b hb]), c1, c2, M1, M2, h1, rfl, m2, m4⟩
theorem Elems.app : ∀ {xs : List α} {ys : List α} {w : World} {cs cs' : List Value} {L L' : List Nat} {o : Bool}, Elems E w cs xs L o → Elems E w cs' ys L' o → Elems E w (cs ++ cs') (xs ++ ys) (L ++ L') o
  | [], _, _, _, _, _, _, _, h, h' => by rw [h.1, h.2]; simpa using h'
  | x :: xs, ys, w, _, _, _, _, o, ⟨c1, c2, L1, L2, h1, h2, h3, h4⟩, h' =>
    ⟨c1, c2 ++ _, L1, L2 ++ _, by simp [h1], by simp [h2], h3, Elems.app h4 h'⟩
theorem Elems.single {w : World} {cs : List Value} {x : α} {L : List Nat} {o : Bool} (h : E.rep w cs x L o) : Elems E w cs [x] L o := ⟨cs, [], L, [], by simp, by simp, h, rfl, rfl⟩
theorem Elems.split : ∀ {xs ys : List α} {w : World} {cs : List Value} {L : List Nat} {o : Bool}, Elems E w cs (xs ++ ys) L o → ∃ c1 c2 L1 L2, cs = c1 ++ c2 ∧ L = L1 ++ L2 ∧ Elems E w c1 xs L1 o ∧ Elems E w c2 ys L2 o
  | [], _, _, cs, L, _, h => ⟨[], cs, [], L, rfl, rfl, ⟨rfl, rfl⟩, h⟩
  | x :: xs, ys, _, _, _, _, ⟨c1, c2, L1, L2, h1, h2, h3, h4⟩ => by
    obtain ⟨d1, d2, M1, M2, e1, e2, e3, e4⟩ := Elems.split h4
    exact ⟨c1 ++ d1, d2, L1 ++ M1, M2, by simp [h1, e1], by simp [h2, e2], ⟨c1, d1, L1, M1, rfl, rfl, h3, e3⟩, e4⟩
theorem Elems.get {xs : List α} {w : World} {cs : List Value} {L : List Nat} {o : Bool} (h : Elems E w cs xs L o) (i : Nat) (hi : i < xs.length) :
    ∃ L', (∀ b ∈ L', b ∈ L) ∧ E.rep w ((cs.drop (i * E.k)).take E.k) xs[i] L' o := by
  have hx : xs = xs.take i ++ (xs[i] :: xs.drop (i + 1)) := by simp
  rw [hx] at h
  obtain ⟨c1, c2, L1, L2, h1, h2, h3, d1, d2, M1, M2, e1, e2, e3, e4⟩ := h.split
  refine ⟨M1, fun b hb => by simp [h2, e2, hb], ?_⟩
  have hl1 : c1.length = i * E.k := by rw [h3.len, List.length_take, Nat.min_eq_left (by omega)]
  have hl2 := E.len e3
  have : (cs.drop (i * E.k)).take E.k = d1 := by
    rw [h1, e1, ← hl1, List.drop_left, ← hl2, List.take_left]
  rw [this]; exact e3
end
/-- the numbers' cells -/
def ints (xs : List Int) : List Value := xs.map (.int .i64)
theorem Elems.ints {xs : List Int} : ∀ {w : World} {cs : List Value} {L : List Nat} {o : Bool}, Elems Enc.int w cs xs L o ↔ cs = ints xs ∧ (∀ x ∈ xs, I64 x) ∧ L = [] := by
  induction xs with
  | nil => intro w cs L o; simp [Elems, Go.Proofs.Ytnagfcajnbkdoaa.ints]
  | cons x xs ih =>
    intro w cs L o
    constructor
    · rintro ⟨c1, c2, L1, L2, rfl, rfl, ⟨rfl, h1, rfl⟩, h2⟩
      obtain ⟨rfl, h3, rfl⟩ := ih.1 h2
      exact ⟨rfl, by simpa using ⟨h1, h3⟩, rfl⟩
    · rintro ⟨rfl, h1, rfl⟩
      exact ⟨[_], _, [], [], rfl, rfl, ⟨rfl, h1 x (by simp), rfl⟩, ih.2 ⟨rfl, fun y hy => h1 y (by simp [hy]), rfl⟩⟩
def roRow (w : World) (a : Option Addr) (m c : Nat) (cs : List Value) (L : List Nat) : Prop := (m ≤ c ∧ c ≤ maxLen) ∧ ((cs = [] ∧ L = []) ∨ ∃ b off, a = some ⟨b, off, none⟩ ∧ CellsAt w b off cs ∧ b < w.heap.size ∧ L = [b])
def Enc.sl {α : Type} (e : TypeId) (E : Enc α) : Enc (List α) where
  k := 1
  pos := by decide
  rep w cs xs L o := ∃ a m c ccs L1 L2, cs = [.slice a m c] ∧ m = xs.length ∧ m ≤ maxLen ∧ L = L1 ++ L2 ∧ Elems E w ccs xs L2 o ∧ (if o then (row e E.k a m c ccs).holds w L1 else roRow w a m c ccs L1)
  len := by rintro w cs xs L o ⟨a, m, c, ccs, L1, L2, rfl, _⟩; rfl
  one := by rintro w cs xs L o ⟨a, m, c, ccs, L1, L2, rfl, _⟩; simp [Value.oneCell']
  stable := by
    rintro w w' cs xs L o ⟨a, m, c, ccs, L1, L2, h1, h2, h3, rfl, h4, h5⟩ hb
    refine ⟨a, m, c, ccs, L1, L2, h1, h2, h3, rfl, h4.stable fun b hm => hb b (by simp [hm]), ?_⟩
    cases o
    · obtain ⟨hc, h5⟩ := h5
      rcases h5 with h5 | ⟨b, off, h6, h7, h8, rfl⟩
      · exact ⟨hc, .inl h5⟩
      · have hs := hb b (by simp)
        exact ⟨hc, .inr ⟨b, off, h6, h7.same hs, (Array.getElem?_eq_some_iff.1 (hs.trans (Array.getElem?_eq_getElem h8))).1, rfl⟩⟩
    · exact (row e E.k a m c ccs).stable h5 fun b hm => hb b (by simp [hm])
  inh := by
    rintro w cs xs L o ⟨a, m, c, ccs, L1, L2, h1, h2, h3, rfl, h4, h5⟩ b hb
    rcases List.mem_append.1 hb with hb | hb
    · cases o
      · rcases h5 with ⟨_, ⟨_, rfl⟩ | ⟨b', off, h6, h7, h8, rfl⟩⟩
        · cases hb
        · simp at hb; subst hb; exact h8
      · exact (row e E.k a m c ccs).inh h5 b hb
    · exact h4.inh b hb
  ro := by
    rintro w cs xs L ⟨a, m, c, ccs, L1, L2, h1, h2, h3, rfl, h4, h5⟩
    obtain ⟨M2, m1, m2⟩ := h4.ro
    rcases h5 with ⟨h6, ⟨rfl, rfl, rfl⟩ | ⟨g, cur, rfl, h7, h8, h9, h10, h11, rfl⟩⟩
    · have : ccs = [] := List.eq_nil_of_length_eq_zero (by simpa using h6)
      subst this
      exact ⟨M2, fun b hb => by simp [m1 b hb], a, 0, 0, [], [], M2, h1, h2, h3, rfl, m2, ⟨Nat.le_refl _, Nat.zero_le _⟩, .inl ⟨rfl, rfl⟩⟩
    · refine ⟨[g] ++ M2, fun b hb => ?_, _, m, c, ccs, [g], M2, h1, h2, h3, rfl, m2, ⟨h8, h9⟩, .inr ⟨g, 0, rfl, fun j v hj => ?_, (Array.getElem?_eq_some_iff.1 h7).1, rfl⟩⟩
      · rcases List.mem_append.1 hb with hb | hb
        · exact List.mem_append.2 (.inl hb)
        · simp [m1 b hb]
      · rw [← h11, List.getElem?_take] at hj
        split at hj
        · simpa [World.cell?, h7] using hj
        · cases hj

/-! ### owned -/
def ow {α : Type} (E : Enc α) (cs : List Value) (x : α) : HP where
  holds w L := E.rep w cs x L true
  stable := E.stable
  inh := E.inh
def els {α : Type} (E : Enc α) (cs : List Value) (xs : List α) : HP where
  holds w L := Elems E w cs xs L true
  stable := Elems.stable
  inh := Elems.inh

/-! ### read-only -/
def Ro {α : Type} (w0 : World) (L0 : List Nat) (E : Enc α) (cs : List Value) (x : α) : Prop := ∃ L, E.rep w0 cs x L false ∧ ∀ b ∈ L, b ∉ L0
section
variable {α β : Type} {E : Enc α} {F : Enc β} {w0 w : World} {L0 Lp : List Nat} {H pre rest : List HP} {cs : List Value} {x : α}
theorem Ro.int {x : Int} (h : Ro w0 L0 Enc.int cs x) : cs = [.int .i64 x] ∧ I64 x := let ⟨_, h1, _⟩ := h; ⟨h1.1, h1.2.1⟩
theorem Ro.mkint {x : Int} (h : I64 x) : Ro w0 L0 Enc.int [.int .i64 x] x := ⟨[], ⟨rfl, h, rfl⟩, by simp⟩
theorem Ro.bool {x : Bool} (h : Ro w0 L0 Enc.bool cs x) : cs = [.bool x] := let ⟨_, h1, _⟩ := h; h1.1
theorem Ro.mkbool {x : Bool} : Ro w0 L0 Enc.bool [.bool x] x := ⟨[], ⟨rfl, rfl⟩, by simp⟩
theorem Ro.pair {x : α × β} (h : Ro w0 L0 (Enc.pair E F) cs x) : ∃ c1 c2, cs = c1 ++ c2 ∧ Ro w0 L0 E c1 x.1 ∧ Ro w0 L0 F c2 x.2 := by
  obtain ⟨L, ⟨c1, c2, L1, L2, rfl, rfl, h1, h2⟩, h3⟩ := h
  exact ⟨c1, c2, rfl, ⟨L1, h1, fun b hb => h3 b (by simp [hb])⟩, ⟨L2, h2, fun b hb => h3 b (by simp [hb])⟩⟩
theorem Ro.mkpair {c1 c2 : List Value} {x : α × β} (h1 : Ro w0 L0 E c1 x.1) (h2 : Ro w0 L0 F c2 x.2) : Ro w0 L0 (Enc.pair E F) (c1 ++ c2) x := by
  obtain ⟨L1, h1, h3⟩ := h1
  obtain ⟨L2, h2, h4⟩ := h2
  exact ⟨L1 ++ L2, ⟨c1, c2, L1, L2, rfl, rfl, h1, h2⟩, fun b hb => by rcases List.mem_append.1 hb with hb | hb; (exact h3 b hb); (exact h4 b hb)⟩
theorem Ro.len (h : Ro w0 L0 E cs x) : cs.length = E.k := let ⟨_, h1, _⟩ := h; E.len h1
theorem Ro.one (h : Ro w0 L0 E cs x) : ∀ u ∈ cs, u.oneCell' = true := let ⟨_, h1, _⟩ := h; E.one h1
theorem Ro.sl {e : TypeId} {xs : List α} (h : Ro w0 L0 (Enc.sl e E) cs xs) : ∃ a c, cs = [.slice a xs.length c] := by
  obtain ⟨L, ⟨a, m, c, ccs, L1, L2, h1, rfl, _⟩, _⟩ := h
  exact ⟨a, c, h1⟩
theorem Ro.slen {e : TypeId} {xs : List α} {a : Option Addr} {m c : Nat} (h : Ro w0 L0 (Enc.sl e E) [.slice a m c] xs) : m = xs.length ∧ m ≤ 9223372036854775807 := by
  obtain ⟨L, ⟨a, m, c, ccs, L1, L2, h1, h2, h3, _⟩, _⟩ := h
  simp only [List.cons.injEq, Value.slice.injEq, and_true] at h1
  obtain ⟨rfl, rfl, rfl⟩ := h1
  exact ⟨h2, h3⟩
/-- what is read-only from the base on reads so later -/
theorem Step.rep {L : List Nat} {L' : List Nat} (hs : Step w0 L0 w L) (h : E.rep w0 cs x L' false) (hd : ∀ b ∈ L', b ∉ L0) : E.rep w cs x L' false ∧ ∀ b ∈ L', b ∉ L :=
  ⟨E.stable h fun b hb => hs.keep b (E.inh h b hb) (hd b hb), fun b hb hb' => by
    rcases hs.sub b hb' with h1 | h1
    · exact hd b hb h1
    · have := E.inh h b hb; omega⟩
theorem At.ro (hA : At w0 L0 pre rest w Lp) (h : Ro w0 L0 E cs x) : Ro w Lp E cs x := by
  obtain ⟨⟨Lr, h1, h2, h3, h4⟩⟩ := hA
  obtain ⟨L', r1, r2⟩ := h
  obtain ⟨r3, r4⟩ := h4.rep r1 r2
  exact ⟨L', r3, fun b hb hp => r4 b hb (by simp [hp])⟩
theorem At.ow (hA : At w0 L0 pre rest w Lp) (hm : ow E cs x ∈ rest) : Ro w Lp E cs x := by
  obtain ⟨⟨Lr, h1, h2, h3, h4⟩⟩ := hA
  obtain ⟨L', r1, r2⟩ := h2.mem hm
  obtain ⟨L'', r3, r4⟩ := E.ro r1
  exact ⟨L'', r4, fun b hb hp => (List.nodup_append.1 h3).2.2 b hp b (r2 b (r3 b hb)) rfl⟩
/-- an owned row of numbers, read -/
theorem At.ri {e : TypeId} {a : Option Addr} {m c : Nat} {xs : List Int} (hA : At w0 L0 pre rest w Lp) (hm : Go.Proofs.Ytnagfcajnbkdoaa.row e 1 a m c (ints xs) ∈ rest) (hx : ∀ x ∈ xs, I64 x) (hl : m ≤ maxLen) : Ro w Lp (Enc.sl e Enc.int) [.slice a m c] xs := by
  obtain ⟨⟨Lr, h1, h2, h3, h4⟩⟩ := hA
  obtain ⟨L', r1, r2⟩ := h2.mem hm
  have hml : m = xs.length := by have := r1.1; simp [ints] at this; omega
  have hown : (Enc.sl e Enc.int).rep w [.slice a m c] xs L' true := ⟨a, m, c, ints xs, L', [], rfl, hml, hl, by simp, Elems.ints.2 ⟨rfl, hx, rfl⟩, r1⟩
  obtain ⟨L'', r3, r4⟩ := (Enc.sl e Enc.int).ro hown
  exact ⟨L'', r4, fun b hb hp => (List.nodup_append.1 h3).2.2 b hp b (r2 b (r3 b hb)) rfl⟩
theorem Hp.has_ro {b off : Nat} {c : List Value} {L' : List Nat} (hb : b ∈ L') (hlt : ∀ b ∈ L', b < w0.heap.size) (hd : ∀ b ∈ L', b ∉ L0) (h : CellsAt w0 b off c) : Has w0 L0 H b off c := fun w hw => by
  obtain ⟨L, hs⟩ := hw.step
  exact h.same (hs.keep b (hlt b hb) (hd b hb))
theorem Ro.cap {e : TypeId} {xs : List α} {a : Option Addr} {m c : Nat} (h : Ro w0 L0 (Enc.sl e E) [.slice a m c] xs) : m ≤ c ∧ c ≤ 9223372036854775807 := by
  obtain ⟨L, ⟨a', m', c', ccs, L1, L2, h1, h2, h3, _, h4, h5⟩, _⟩ := h
  simp only [List.cons.injEq, Value.slice.injEq, and_true] at h1
  obtain ⟨rfl, rfl, rfl⟩ := h1
  exact h5.1
theorem Ro.none_nil {e : TypeId} {xs : List α} {m c : Nat} (h : Ro w0 L0 (Enc.sl e E) [.slice none m c] xs) : xs = [] := by
  obtain ⟨L, ⟨a', m', c', ccs, L1, L2, h1, h2, h3, _, h4, h5⟩, _⟩ := h
  simp only [List.cons.injEq, Value.slice.injEq, and_true] at h1
  obtain ⟨rfl, rfl, rfl⟩ := h1
  rcases h5 with ⟨_, ⟨rfl, rfl⟩ | ⟨b, off, h6, _⟩⟩
  · have h6 := h4.len
    rcases xs with _ | ⟨x, xs⟩
    · rfl
    · have h9 := Nat.mul_le_mul (show 1 ≤ (x :: xs).length by simp) E.pos
      simp only [List.length_nil] at h6
      omega
  · cases h6
/-- the first n of a slice that is only read -/
theorem Ro.upto {e : TypeId} {xs : List α} {a : Option Addr} {m c : Nat} (h : Ro w0 L0 (Enc.sl e E) [.slice a m c] xs) (n : Nat) (hn : n ≤ m) : Ro w0 L0 (Enc.sl e E) [.slice a n c] (xs.take n) := by
  obtain ⟨L, ⟨a', m', c', ccs, L1, L2, h1, h2, h3, rfl, h4, h5⟩, hd⟩ := h
  simp only [List.cons.injEq, Value.slice.injEq, and_true] at h1
  obtain ⟨rfl, rfl, rfl⟩ := h1
  have hcm : m ≤ c ∧ c ≤ maxLen := h5.1
  have hx : xs = xs.take n ++ xs.drop n := (List.take_append_drop n xs).symm
  rw [hx] at h4
  obtain ⟨c1, c2, M1, M2, rfl, rfl, g1, g2⟩ := h4.split
  refine ⟨L1 ++ M1, ⟨a, n, c, c1, L1, M1, rfl, by simp; omega, Nat.le_trans hn h3, rfl, g1, ⟨by omega, h5.1.2⟩, ?_⟩, fun b hb => hd b (by simp at hb ⊢; rcases hb with hb | hb <;> simp [hb])⟩
  rcases h5.2 with ⟨h6, h7⟩ | ⟨b, off, h6, h7, h8, h9⟩
  · exact .inl ⟨(List.append_eq_nil_iff.1 h6).1, h7⟩
  · refine .inr ⟨b, off, h6, fun j v hj => h7 j v ?_, h8, h9⟩
    rw [List.getElem?_append_left (by exact (List.getElem?_eq_some_iff.1 hj).1)]; exact hj
/-- from n on -/
theorem Ro.frm {e : TypeId} {xs : List α} {a : Option Addr} {m c : Nat} (h : Ro w0 L0 (Enc.sl e E) [.slice a m c] xs) (n : Nat) (hn : n ≤ m) : Ro w0 L0 (Enc.sl e E) [.slice (if c = n then a else a.map (·.add (n * E.k))) (m - n) (c - n)] (xs.drop n) := by
  obtain ⟨L, ⟨a', m', c', ccs, L1, L2, h1, h2, h3, rfl, h4, h5⟩, hd⟩ := h
  simp only [List.cons.injEq, Value.slice.injEq, and_true] at h1
  obtain ⟨rfl, rfl, rfl⟩ := h1
  have hcm : m ≤ c ∧ c ≤ maxLen := h5.1
  have hx : xs = xs.take n ++ xs.drop n := (List.take_append_drop n xs).symm
  rw [hx] at h4
  obtain ⟨c1, c2, M1, M2, rfl, rfl, g1, g2⟩ := h4.split
  have hl1 : c1.length = n * E.k := by rw [g1.len, List.length_take, Nat.min_eq_left (by omega)]
  have hl2 : c2.length = (xs.length - n) * E.k := by rw [g2.len, List.length_drop]
  have hbase : (m - n ≤ c - n ∧ c - n ≤ maxLen) := ⟨by omega, by omega⟩
  by_cases hc : c = n
  · have : c2 = [] := List.eq_nil_of_length_eq_zero (by rw [hl2, show xs.length - n = 0 by omega, Nat.zero_mul])
    subst this
    exact ⟨M2, ⟨_, _, _, [], [], M2, rfl, by simp [h2], by omega, rfl, g2, hbase, .inl ⟨rfl, rfl⟩⟩, fun b hb => hd b (by simp [hb])⟩
  · rw [if_neg hc]
    rcases h5.2 with ⟨h6, h7⟩ | ⟨b, off, h6, h7, h8, rfl⟩
    · exact ⟨M2, ⟨_, _, _, c2, [], M2, rfl, by simp [h2], by omega, rfl, g2, hbase, .inl ⟨(List.append_eq_nil_iff.1 h6).2, rfl⟩⟩, fun b hb => hd b (by simp [hb])⟩
    · subst h6
      refine ⟨[b] ++ M2, ⟨_, _, _, c2, [b], M2, rfl, by simp [h2], by omega, rfl, g2, hbase, .inr ⟨b, off + n * E.k, ?_, fun j v hj => ?_, h8, rfl⟩⟩, fun b' hb => hd b' (by simp at hb ⊢; rcases hb with hb | hb <;> simp [hb])⟩
      · show some ((⟨b, off, none⟩ : Addr).add (n * E.k)) = _
        unfold Addr.add
        split
        · rename_i hz; rw [hz]; rfl
        · rfl
      · have := h7 (c1.length + j) v (by rw [List.getElem?_append_right (by omega), Nat.add_sub_cancel_left]; exact hj)
        rw [hl1] at this
        rw [Nat.add_assoc]; exact this
/-- one element of a slice that is only read -/
theorem Ro.elem {e : TypeId} {xs : List α} {a : Option Addr} {m c : Nat} (h : Ro w0 L0 (Enc.sl e E) [.slice a m c] xs) (i : Nat) (hi : i < xs.length) :
    ∃ b off ci, a = some ⟨b, off, none⟩ ∧ Ro w0 L0 E ci xs[i] ∧ ci.length = E.k ∧ ∀ H, Has w0 L0 H b (off + i * E.k) ci := by
  obtain ⟨L, hrep, hd⟩ := h
  have hinh := (Enc.sl e E).inh hrep
  obtain ⟨a', m', c', ccs, L1, L2, h1, h2, h3, rfl, h4, h5⟩ := hrep
  simp only [List.cons.injEq, Value.slice.injEq, and_true] at h1
  obtain ⟨rfl, rfl, rfl⟩ := h1
  obtain ⟨L', g1, g2⟩ := h4.get i hi
  rcases h5 with ⟨_, ⟨rfl, rfl⟩ | ⟨b, off, rfl, h7, h8, rfl⟩⟩
  · have h6 := h4.len
    have h9 := Nat.mul_le_mul (show 1 ≤ xs.length by omega) E.pos
    simp only [List.length_nil] at h6
    omega
  · exact ⟨b, off, _, rfl, ⟨L', g2, fun b hb => hd b (by simp [g1 b hb])⟩, E.len g2, fun H => Hp.has_ro (L' := [b] ++ L2) (by simp) hinh hd (h7.sub _ _)⟩
theorem Ro.elemI {e : TypeId} {xs : List Int} {a : Option Addr} {m c : Nat} (h : Ro w0 L0 (Enc.sl e Enc.int) [.slice a m c] xs) (i : Nat) (hi : i < xs.length) :
    ∃ b off, a = some ⟨b, off, none⟩ ∧ I64 xs[i] ∧ ∀ H, Has w0 L0 H b (off + i * 1) [.int .i64 xs[i]] := by
  obtain ⟨b, off, ci, h1, h2, h3, h4⟩ := h.elem i hi
  obtain ⟨rfl, h5⟩ := h2.int
  exact ⟨b, off, h1, h5, h4⟩
/-- the numbers of a slice that is only read lie in 64 bits -/
theorem Ro.i64 {e : TypeId} {xs : List Int} {a : Option Addr} {m c : Nat} (h : Ro w0 L0 (Enc.sl e Enc.int) [.slice a m c] xs) : ∀ x ∈ xs, I64 x := by
  intro x hx
  obtain ⟨i, hi, rfl⟩ := List.getElem_of_mem hx
  obtain ⟨_, _, _, h1, _⟩ := h.elemI i hi
  exact h1
/-- all its cells: the source of an append -/
theorem Ro.src {e : TypeId} {xs : List α} {a : Option Addr} {m c : Nat} (h : Ro w0 L0 (Enc.sl e E) [.slice a m c] xs) : ∃ ccs, (∃ L, Elems E w0 ccs xs L false) ∧ ccs.length = m * E.k ∧ ∀ H, Src w0 L0 H a m ccs := by
  obtain ⟨L, hrep, hd⟩ := h
  have hinh := (Enc.sl e E).inh hrep
  obtain ⟨a', m', c', ccs, L1, L2, h1, rfl, h3, rfl, h4, h5⟩ := hrep
  simp only [List.cons.injEq, Value.slice.injEq, and_true] at h1
  obtain ⟨rfl, rfl, rfl⟩ := h1
  refine ⟨ccs, ⟨L2, h4⟩, h4.len, fun H => ?_⟩
  rcases h5 with ⟨_, ⟨rfl, rfl⟩ | ⟨b, off, rfl, h7, h8, rfl⟩⟩
  · have h6 := h4.len
    refine .inl ⟨?_, rfl⟩
    rcases Nat.eq_zero_or_pos xs.length with h | h
    · exact h
    · have h9 := Nat.mul_le_mul h E.pos
      simp only [List.length_nil] at h6
      omega
  · exact .inr ⟨b, off, rfl, Hp.has_ro (L' := [b] ++ L2) (by simp) hinh hd h7⟩
theorem Ro.srcI {e : TypeId} {xs : List Int} {a : Option Addr} {m c : Nat} (h : Ro w0 L0 (Enc.sl e Enc.int) [.slice a m c] xs) (H : List HP) : Src w0 L0 H a m (ints xs) := by
  obtain ⟨ccs, ⟨L, h1⟩, _, h2⟩ := h.src
  rw [(Elems.ints.1 h1).1] at h2
  exact h2 H
end
end Go.Proofs.Ytnagfcajnbkdoaa
