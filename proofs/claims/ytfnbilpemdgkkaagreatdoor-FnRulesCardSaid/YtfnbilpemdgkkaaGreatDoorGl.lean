import Derived.Test.YtfnbilpemdgkkaaGreatDoorGj
import Derived.Laws.Strings3
import Derived.Test.YtfnbilpemdgkkaaGreatDoorEm
import Derived.Lib.LaidTab
import Derived.Stop.LaidErr
import Derived.Test.YtfnbilpemdgkkaaGreatDoorT60
import Derived.Test.YtfnbilpemdgkkaaGreatDoorT8
import Derived.Test.YtfnbilpemdgkkaaGreatDoorGm
import Derived.Shelf.Strings.Split
import Derived.Shelf.Strings.Prefix
import Derived.Shelf.Strconv.ErrVarAll
section
namespace Go.Proofs.YtfnbilpemdgkkaaGreatDoor
set_option linter.unusedVariables false
set_option linter.unusedSimpArgs false
section
variable {b : UInt8} {s : Str} {n : Int} {i g : Nat}
theorem a4b {α : Type} {l : List α} {i : Nat} (h : i < l.length) : l.take (i + 1) = l.take i ++ [l[i]] := by
  rw [List.take_add_one, List.getElem?_eq_getElem h]; rfl
def a1f (b : UInt8) (p : List Str × Str) (c : UInt8) : List Str × Str := if c = b then (p.1 ++ [p.2], []) else (p.1, p.2 ++ [c])
def a1k (b : UInt8) (s : Str) (i : Nat) : List Str × Str := (s.take i).foldl (a1f b) ([], [])
theorem a9o : a1k b s 0 = ([], []) := by simp [a1k]
theorem a9A (h : i < s.length) : a1k b s (i + 1) = a1f b (a1k b s i) s[i] := by
  rw [a1k, a4b h, List.foldl_append]; rfl
theorem a6L : ∀ {s : Str} {p : List Str × Str}, (s.foldl (a1f b) p).1 ++ [(s.foldl (a1f b) p).2] = p.1 ++ (p.2 ++ (cut b s).headD []) :: (cut b s).tail
  | [], p => by simp [cut]
  | c :: s, p => by
    show ((s.foldl (a1f b) (a1f b p c)).1 ++ [(s.foldl (a1f b) (a1f b p c)).2]) = _
    rw [a6L, a1f, cut]
    split
    · simp
      cases e : cut b s with
      | nil => exact absurd e a3S
      | cons w r => simp
    · cases e : cut b s with
      | nil => exact absurd e a3S
      | cons w r => simp
theorem b0M (h : ¬ i < s.length) : (a1k b s i).1 ++ [(a1k b s i).2] = cut b s := by
  rw [a1k, List.take_of_length_le (by omega), a6L]
  cases e : cut b s with
  | nil => exact absurd e a3S
  | cons w r => simp
theorem a6u : ∀ {i : Nat}, i ≤ s.length → (a1k b s i).1.length ≤ i ∧ (a1k b s i).2.length ≤ i
  | 0, _ => by simp [a9o]
  | i + 1, h => by
    have ih := a6u (i := i) (by omega)
    rw [a9A (by omega), a1f]
    split <;> simp <;> omega
theorem a7J : (cut b s).length ≤ s.length + 1 := by
  have := (a6u (b := b) (s := s) (i := s.length) (Nat.le_refl _)).1
  rw [← b0M (b := b) (s := s) (i := s.length) (by omega)]; simp; omega
theorem a2Q : ∀ {s : Str}, ∀ x ∈ cut b s, x.length ≤ s.length
  | [], x, h => by simp [cut] at h; simp [h]
  | c :: s, x, h => by
    rw [cut] at h
    split at h
    · rcases List.mem_cons.1 h with e | e
      · simp [e]
      · have := a2Q x e; simp; omega
    · cases e : cut b s with
      | nil => exact absurd e a3S
      | cons w r =>
        rw [e] at h
        have ih := fun y hy => a2Q (s := s) y (by rw [e]; exact hy)
        rcases List.mem_cons.1 h with e1 | e1
        · have := ih w (by simp); rw [e1]; simp; omega
        · have := ih x (by simp [e1]); simp; omega
def pvG (s : Str) (i : Nat) : Int × Nat := (s.take i).foldl pvS (0, 0)
theorem b2l {l : List Str} {o : List Int} (hg : g < l.length) (h : (l.take g).mapM pI = some o) (h1 : pI l[g] = some n) : (l.take (g + 1)).mapM pI = some (o ++ [n]) := by
  rw [a4b hg, List.mapM_append, h]; simp [h1]
theorem b4r {l : List Str} (hg : g < l.length) (h1 : pI l[g] = none) : l.mapM pI = none := by
  have e : l = l.take g ++ (l[g] :: l.drop (g + 1)) := by rw [← List.drop_eq_getElem_cons hg, List.take_append_drop]
  rw [e, List.mapM_append, List.mapM_cons, h1]
  cases (l.take g).mapM pI <;> rfl
end
end Go.Proofs.YtfnbilpemdgkkaaGreatDoor
end
section
namespace Go.Proofs.YtfnbilpemdgkkaaGreatDoor
open Go.RowKit
set_option linter.unusedVariables false
set_option linter.unusedSimpArgs false
def a3v (T : TypeId) : Bool → Nat → Value
  | true, _ => .nilIface
  | false, k => .iface T (.pointer (some ⟨k, 0, none⟩))
section
variable {P : Program} {n : Nat} {fr : Fr}
theorem b3P {x : Operand} {T T' U : TypeId} {b : Bool} {k : Nat} (hT : P.underlying T = some (.interface (P.methodsAt T))) (hx : ev fr x = some (a3v T' b k)) : Yp P n fr (.binOp .neq T x (.const .nilIface) U) (.bool (!b)) := fun ac hF w' d t p af g => by
  have e1 := hF.ev hx
  have e2 : ac.eval (.const .nilIface) = .nilIface := rfl
  cases b
  · have h1 := run_neq_held_nil (P := P) w' T T' (.pointer (some ⟨k, 0, none⟩)) hT
    simp [execOp, e1, e2, a3v, eqGuard, h1]
  · have h1 := run_neq_nil_nil (P := P) w' T hT
    simp [execOp, e1, e2, a3v, eqGuard, h1]
end
section
variable {w0 : World} {L0 : List Nat} {H : List HP} {e : TypeId} {a : Option Addr} {m c b o : Nat} {xs : List (List UInt8)}
theorem a4m {w : World} : ∀ {xs : List (List UInt8)} {cs : List Value} {L : List Nat} {o : Bool}, p9 Enc.str w cs xs L o → cs = xs.map y5
  | [], _, _, _, h => h.1
  | x :: xs, _, _, _, ⟨c1, c2, L1, L2, h1, h2, h3, h4⟩ => by rw [h1, h3.1, a4m h4]; rfl
theorem a3c {w : World} : ∀ {xs : List (List UInt8)} {o : Bool}, p9 Enc.str w (xs.map y5) xs [] o
  | [], _ => ⟨rfl, rfl⟩
  | x :: xs, _ => ⟨[_], _, [], [], rfl, rfl, ⟨rfl, rfl⟩, a3c⟩
theorem a3C (ha : a = some ⟨b, 0, none⟩) (hm : ow (Enc.sl e Enc.str) [.slice a m c] xs ∈ H) {i : Nat} (hi : i < xs.length) : Has w0 L0 H b (0 + i * 1) [y5 xs[i]] := fun w h => by
  obtain ⟨L, hL⟩ := h.mem hm
  obtain ⟨ccs, L1, L2, _, g1, g2, g3, h0, g4⟩ := P3 hL
  have hc := a4m g3
  rcases g4 with ⟨_, h, _⟩ | ⟨g, cur, h2, h3, h4, h5, h6, h7, _⟩
  · omega
  · rw [ha] at h2; cases h2
    intro j v hj
    match j, hj with
    | 0, hj =>
      simp at hj; subst hj
      have : (ccs : List Value)[i]? = some (y5 xs[i]) := by rw [hc]; simp [hi]
      rw [← h7, List.getElem?_take] at this
      split at this
      · simpa [World.cell?, h3] using this
      · cases this
    | j + 1, hj => simp at hj
end
end Go.Proofs.YtfnbilpemdgkkaaGreatDoor
end
section
namespace Go.Proofs.YtfnbilpemdgkkaaGreatDoor
open Go.RowKit Go.Shelf
set_option linter.unusedVariables false
abbrev a1V : List Value := Lib.pow10Tab.map fun z => Value.int .u64 z
abbrev a0C : Nat := 3
theorem a7c : Tryz.prog.globalNamed "internal/strconv.uint64pow10" = some a0C := by kernel_rfl
theorem b4p {w : World} {L : List Nat} (h : RoPt w L a0C a1V) : Lib.TabIs Tryz.prog w "internal/strconv.uint64pow10" .u64 Lib.pow10Tab := by
  obtain ⟨T, fz, g⟩ := h.at'
  unfold Lib.TabIs World.var?
  rw [a7c, Option.bind_some, g]
theorem b4q {w : World} (h : Lib.TabIs Tryz.prog w "internal/strconv.uint64pow10" .u64 Lib.pow10Tab) : RoPt w [] a0C a1V := by
  unfold Lib.TabIs World.var? at h
  rw [a7c, Option.bind_some] at h
  split at h
  · rename_i cs T fz hg
    have := Option.some.inj h
    subst this
    exact ⟨⟨T, fz, hg⟩, by simp⟩
  · cases h
theorem b1q {i : Int} : Tr Tryz.prog 153 [.int .i64 i] (fun w L => I64 i ∧ RoPt w L a0C a1V) [] (κ := Unit) (fun _ => True) (fun _ => y5 (n9 i)) (fun _ => []) := by
  refine a3B ⟨_, b1R.f171, rfl, by decide +kernel⟩ fun w L h => ?_
  refine (Any.strconv_Itoa b1R i h.1.1 h.1.2 w (b4p h.2)).mono ?_
  rintro e w' ⟨rfl, k, os, rfl⟩
  refine ⟨by rw [a8C h.1], rfl, rfl, rfl, by simp [Go.Sort.grow, World.drewN], fun j hj => ?_⟩
  simp only [Go.Sort.grow, World.drewN]
  exact Array.getElem?_append_left hj
end Go.Proofs.YtfnbilpemdgkkaaGreatDoor
end
section
namespace Go.Proofs.YtfnbilpemdgkkaaGreatDoor
open Go.RowKit
set_option linter.all false
set_option maxHeartbeats 2000000
attribute [local irreducible] Nop Yd Yp Ent Has Tr FnP FnP2 Src J1 P8 U7 W9 E0
theorem a2i {n : Int} : Tr Tryz.prog 104 [.int .i64 n] (fun w L => I64 n ∧ RoPt w L a0C a1V) [] (κ := Unit) (fun k => True) (fun k => y5 (n9 n)) (fun k => []) := by
 refine f8 Tryz.func104 rfl (n := 5) rfl (by decide +kernel) bl (fr := [(0, .int .i64 n)]) rfl fun w L hR => ?_
 obtain ⟨i6n, htab⟩ := hR
 refine Ew Z1 (Ei rfl (Ev Z3 (Em rfl (Est rfl (f5 b1q rfl rfl rfl dc (fun w Lp hA => ⟨i6n, hA.rop htab⟩)) (fun _ _ => (Ei rfl ?_))))))
 exact Eu (E.ret (Fg rfl rfl () rfl rfl))
end Go.Proofs.YtfnbilpemdgkkaaGreatDoor
end
section
namespace Go.Proofs.YtfnbilpemdgkkaaGreatDoor
open Go.RowKit Go.Shelf
set_option linter.unusedVariables false
set_option linter.unusedSimpArgs false
abbrev a4S : Nat := 0
abbrev gES : Nat := 1
abbrev gER : Nat := 2
abbrev tNE : TypeId := 201
theorem b1V : Tryz.prog.globalNamed "strconv.ErrSyntax" = some gES := by kernel_rfl
theorem b1Z : Tryz.prog.globalNamed "strconv.ErrRange" = some gER := by kernel_rfl
theorem b4M : Tryz.prog.underlying 144 = some (.interface (Tryz.prog.methodsAt 144)) := by kernel_rfl
section
variable {w : World} {L : List Nat} {b : Nat} {v : Value}
theorem RoPt.cell (h : RoPt w L b [v]) : w.cell? ⟨b, 0, none⟩ = some v := by
  obtain ⟨T, fz, g⟩ := h.at'
  simp [World.cell?, g]
theorem RoPt.var {nm : String} (h : RoPt w L b [v]) (hg : Tryz.prog.globalNamed nm = some b) : w.var? Tryz.prog nm = some #[v] := by
  obtain ⟨T, fz, g⟩ := h.at'
  unfold World.var?
  rw [hg, Option.bind_some, g]
theorem b4x {nm : String} (hg : Tryz.prog.globalNamed nm = some b) (h : w.var? Tryz.prog nm = some #[v]) : RoPt w [] b [v] := by
  unfold World.var? at h
  rw [hg, Option.bind_some] at h
  split at h
  · rename_i cs T fz hq
    have := Option.some.inj h
    subst this
    exact ⟨⟨T, fz, hq⟩, by simp⟩
  · cases h
end
theorem a7M {s p : Str} : Tr Tryz.prog 107 [y5 s, y5 p] (fun w L => True) [] (κ := Unit) (fun _ => True) (fun _ => y5 (Lib.trimPrefix s p)) (fun _ => []) := by
  refine a3B ⟨_, b1W.f101, rfl, by decide +kernel⟩ fun w L h => ?_
  refine (Any.strings_TrimPrefix b1W ⟨s.toArray⟩ ⟨p.toArray⟩ w).mono ?_
  rintro e w' ⟨rfl, rfl⟩
  exact ⟨rfl, Below.refl _ _⟩
theorem a3T {s : Str} {b : UInt8} : (Lib.splitB ⟨#[b]⟩ 0 (Lib.countB ⟨s.toArray⟩ ⟨#[b]⟩) ⟨s.toArray⟩).map Value.string = (cut b s).map y5 := by
  have h1 := Lib.splitB_data ⟨#[b]⟩ 0 (Lib.countB ⟨s.toArray⟩ ⟨#[b]⟩) ⟨s.toArray⟩
  have h2 : Lib.splitK [b] 0 (Lib.count s [b]) s = cut b s := a5u s.length s (Nat.le_refl _)
  have h3 : (Lib.splitB ⟨#[b]⟩ 0 (Lib.countB ⟨s.toArray⟩ ⟨#[b]⟩) ⟨s.toArray⟩).map (·.data.toList) = cut b s := by
    rw [h1]; exact h2
  rw [← h3, List.map_map]
  refine List.map_congr_left fun x _ => ?_
  show Value.string x = Value.string ⟨x.data.toList.toArray⟩
  rw [Array.toArray_toList]
theorem a6X {s : Str} {b : UInt8} {mx : Int} (hs : s.length ≤ 2000000) : Tr Tryz.prog 105 [y5 s, y5 [b]] (fun w L => RoPt w L a4S [.int .i64 mx]) [] (κ := Option Addr × Nat × Nat) (fun k => True) (fun k => .slice k.1 k.2.1 k.2.2) (fun k => [ow eSs [.slice k.1 k.2.1 k.2.2] (cut b s)]) := by
  refine ⟨⟨_, a9t.f146, rfl, by decide +kernel⟩, fun w L h hs' hn => ?_⟩
  rw [Sep] at hs'; subst hs'
  have c := Any.strings_Split a9t (by kernel_rfl) ⟨s.toArray⟩ ⟨#[b]⟩ mx w (by simp [ByteArray.size]; omega) h.cell (Nat.le_refl _)
  rw [a3T] at c
  have hl : Lib.countB ⟨s.toArray⟩ ⟨#[b]⟩ + 1 = (cut b s).length := by
    have h4 := Lib.splitB_all ⟨#[b]⟩ (Nat.le_refl _) 0 _ ⟨s.toArray⟩ rfl
    have h5 := congrArg List.length (a3T (s := s) (b := b))
    rw [List.length_map, List.length_map] at h5
    omega
  rw [hl] at c
  have hcl := a7J (b := b) (s := s)
  have hm : (cut b s).length ≤ maxLen := by unfold maxLen; omega
  refine c.mono ?_
  rintro e w' ⟨rfl, rfl⟩
  have hnew : (w.alloc (.cells ((cut b s).map y5).toArray tS)).heap[w.heap.size]? = some (.cells ((cut b s).map y5).toArray tS (0, 0)) := by
    show (w.heap.push _)[w.heap.size]? = _
    simp
  refine ⟨(some ⟨w.heap.size, 0, none⟩, (cut b s).length, (cut b s).length), trivial, rfl, [w.heap.size], ⟨[w.heap.size], [], rfl, ?_, rfl⟩, by simp, ?_⟩
  · refine ⟨_, _, _, (cut b s).map y5, [w.heap.size], [], rfl, rfl, hm, rfl, a3c, ?_⟩
    show (row _ _ _ _ _ _).holds _ _
    exact ⟨by simp [Enc.str], .inr ⟨w.heap.size, ((cut b s).map y5).toArray, rfl, hnew, Nat.le_refl _, hm, by simp [Enc.str], by simp only [Enc.str, Nat.mul_one]; exact List.take_of_length_le (by simp), rfl⟩⟩
  · exact ⟨rfl, rfl, rfl, by simp, fun k hk _ => Below.heap_alloc w _ k hk, fun k hk => .inr (by simp at hk; omega)⟩
def okA (s : Str) : Bool := match Lib.atoiAll s with | .ok _ => true | _ => false
def atV (s : Str) : Int := match Lib.atoiAll s with | .ok n => n | .range => Lib.atoiSat s | _ => 0
theorem b2p {s : Str} : I64 (atV s) := by
  unfold atV I64
  split
  · rename_i n h; exact Lib.atoiAll_bounds h
  · exact Lib.atoiSat_bounds s
  · omega
theorem a4M {s : Str} (h : okA s = true) : Lib.atoiAll s = .ok (atV s) := by
  unfold okA at h; unfold atV
  split at h
  · rename_i n e; rw [e]
  · cases h
theorem b3m {s : Str} (h : okA s = false) : pI s = none := b3F fun n e => by
  unfold okA at h; rw [e] at h; cases h
theorem b1H {P : Program} {f : FuncId} {args : List Value} {R : World → List Nat → Prop} {v : Nat → Value} (he : X6 P f) (h : ∀ w L, R w L → Calls P f args.toArray w fun e w' => ∃ k, e = .returned (v k) ∧ Below w.heap.size w w') :
    Tr P f args R [] (κ := Nat) (fun _ => True) (fun k => v k) (fun _ => []) := by
  refine ⟨he, fun w L hR hs hn => ?_⟩
  rw [Sep] at hs; subst hs
  refine (h w [] hR).mono ?_
  rintro e w' ⟨k, rfl, hb⟩
  exact ⟨k, trivial, rfl, [], rfl, List.nodup_nil, hb.os, hb.tape, hb.output, hb.size, fun b hb' _ => hb.block b hb', by simp⟩
theorem b2T {s : Str} {ts tr : TypeId} {ps pr : Value} (hs : s.length ≤ 2000000) : Tr Tryz.prog 155 [y5 s] (fun w L => RoPt w L gES [.iface ts ps] ∧ RoPt w L gER [.iface tr pr]) [] (κ := Nat) (fun _ => True) (fun k => .tuple #[.int .i64 (atV s), a3v tNE (okA s) k]) (fun _ => []) := by
  refine b1H ⟨_, a5W.f172, rfl, by decide +kernel⟩ fun w L h => ?_
  have hz : (⟨s.toArray⟩ : ByteArray).size ≤ 2000000 := by simpa [ByteArray.size] using hs
  have hd : (⟨s.toArray⟩ : ByteArray).data.toList = s := by simp
  cases e : Lib.atoiAll s
  · rename_i n
    refine (Any.strconv_Atoi_ok a5W ⟨s.toArray⟩ (by omega) n e w).mono ?_
    rintro e' w' ⟨rfl, h1⟩
    refine ⟨0, by simp [atV, okA, e, a3v], ?_⟩
    rcases h1 with rfl | ⟨t, rfl⟩
    · exact Below.refl _ _
    · exact Lib.bytesWorld_below w _ t
  · refine (Any.strconv_Atoi_syntax_var a5W ⟨s.toArray⟩ (by omega) e ts ps w (h.1.var b1V)).mono ?_
    rintro e' w' ⟨N, rfl, h1, h2, h3⟩
    exact ⟨N, by simp [atV, okA, e, a3v]; rfl, h3⟩
  · refine (Any.strconv_Atoi_range_var a5W ⟨s.toArray⟩ (by omega) e tr pr w (h.2.var b1Z)).mono ?_
    rintro e' w' ⟨N, rfl, h1, h2, h3⟩
    exact ⟨N, by simp [atV, okA, e, a3v]; rfl, h3⟩
end Go.Proofs.YtfnbilpemdgkkaaGreatDoor
end
