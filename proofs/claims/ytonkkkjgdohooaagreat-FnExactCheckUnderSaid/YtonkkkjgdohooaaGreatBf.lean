import Derived.Test.YtonkkkjgdohooaaGreatChecked
import Derived.Shelf.Lays
import Derived.Shelf.Lays2
import Derived.KernelRfl
import Derived.Test.YtonkkkjgdohooaaGreatBd
import Derived.Shelf.Sort.Plain
import Derived.Shelf.Slices.CompactI
import Derived.Shelf.Slices.In.SortNone
namespace Go.Proofs.YtonkkkjgdohooaaGreat
open Go.Shelf
def sortL_ren : Ren := ⟨fun | 189 => 297 | 125 => 339 | 257 => 338 | 128 => 358 | 129 => 359 | 294 => 349 | 295 => 350 | 296 => 351 | 297 => 352 | 298 => 353 | 299 => 354 | 216 => 355 | 300 => 356 | 301 => 357 | 328 => 363 | 329 => 364 | 330 => 365 | 331 => 366 | 332 => 367 | 215 => 333 | 343 => 369 | n => n, fun | 28 => 22 | 3 => 3 | 46 => 305 | 0 => 0 | 51 => 318 | 53 => 320 | 4 => 4 | 183 => 310 | 182 => 309 | 131 => 315 | 5 => 5 | 9 => 9 | 218 => 322 | 222 => 326 | 228 => 329 | 229 => 330 | n => n, fun n => n⟩
theorem sortL : Lays.n189 Tryz.prog sortL_ren := { mixed := by kernel_rfl, f125 := Eq.trans Tryz.func339 (congrArg some (by kernel_rfl)), f128 := Eq.trans Tryz.func358 (congrArg some (by kernel_rfl)), f129 := Eq.trans Tryz.func359 (congrArg some (by kernel_rfl)), f189 := Eq.trans Tryz.func297 (congrArg some (by kernel_rfl)), f215 := Eq.trans Tryz.func333 (congrArg some (by kernel_rfl)), f216 := Eq.trans Tryz.func355 (congrArg some (by kernel_rfl)), f257 := Eq.trans Tryz.func338 (congrArg some (by kernel_rfl)), f294 := Eq.trans Tryz.func349 (congrArg some (by kernel_rfl)), f295 := Eq.trans Tryz.func350 (congrArg some (by kernel_rfl)), f296 := Eq.trans Tryz.func351 (congrArg some (by kernel_rfl)), f297 := Eq.trans Tryz.func352 (congrArg some (by kernel_rfl)), f298 := Eq.trans Tryz.func353 (congrArg some (by kernel_rfl)), f299 := Eq.trans Tryz.func354 (congrArg some (by kernel_rfl)), f300 := Eq.trans Tryz.func356 (congrArg some (by kernel_rfl)), f301 := Eq.trans Tryz.func357 (congrArg some (by kernel_rfl)), f328 := Eq.trans Tryz.func363 (congrArg some (by kernel_rfl)), f329 := Eq.trans Tryz.func364 (congrArg some (by kernel_rfl)), f330 := Eq.trans Tryz.func365 (congrArg some (by kernel_rfl)), f331 := Eq.trans Tryz.func366 (congrArg some (by kernel_rfl)), f332 := Eq.trans Tryz.func367 (congrArg some (by kernel_rfl)), f343 := Eq.trans Tryz.func369 (congrArg some (by kernel_rfl)), t0 := Tryz.underlying0, a0 := Tryz.isAgg0, z0 := Tryz.sizeOf0, v0 := Tryz.zeroValue0, t3 := Tryz.underlying3, a3 := Tryz.isAgg3, z3 := Tryz.sizeOf3, v3 := Tryz.zeroValue3, t4 := Tryz.underlying4, a4 := Tryz.isAgg4, z4 := Tryz.sizeOf4, v4 := Tryz.zeroValue4, t5 := Tryz.underlying5, a5 := Tryz.isAgg5, z5 := Tryz.sizeOf5, v5 := Tryz.zeroValue5, t9 := Tryz.underlying9, a9 := Tryz.isAgg9, z9 := Tryz.sizeOf9, v9 := Tryz.zeroValue9, t28 := Tryz.underlying22, a28 := Tryz.isAgg22, z28 := Tryz.sizeOf22, v28 := Tryz.zeroValue22, t46 := Tryz.underlying305, a46 := Tryz.isAgg305, z46 := Tryz.sizeOf305, v46 := Tryz.zeroValue305, t51 := Tryz.underlying318, a51 := Tryz.isAgg318, z51 := Tryz.sizeOf318, v51 := Tryz.zeroValue318, t53 := Tryz.underlying320, a53 := Tryz.isAgg320, z53 := Tryz.sizeOf320, v53 := Tryz.zeroValue320, t131 := Tryz.underlying315, a131 := Tryz.isAgg315, z131 := Tryz.sizeOf315, v131 := Tryz.zeroValue315, t182 := Tryz.underlying309, a182 := Tryz.isAgg309, z182 := Tryz.sizeOf309, v182 := Tryz.zeroValue309, t183 := Tryz.underlying310, a183 := Tryz.isAgg310, z183 := Tryz.sizeOf310, v183 := Tryz.zeroValue310, t218 := Tryz.underlying322, a218 := Tryz.isAgg322, z218 := Tryz.sizeOf322, v218 := Tryz.zeroValue322, t222 := Tryz.underlying326, a222 := Tryz.isAgg326, z222 := Tryz.sizeOf326, v222 := Tryz.zeroValue326, t228 := Tryz.underlying329, a228 := Tryz.isAgg329, z228 := Tryz.sizeOf329, v228 := Tryz.zeroValue329, t229 := Tryz.underlying330, a229 := Tryz.isAgg330, z229 := Tryz.sizeOf330, v229 := Tryz.zeroValue330 }
def compL_ren : Ren := ⟨fun | 20 => 298 | n => n, fun | 22 => 22 | 3 => 3 | 4 => 4 | 0 => 0 | n => n, fun n => n⟩
theorem compL : Lays2.n20 Tryz.prog compL_ren := { mixed := by kernel_rfl, f20 := Eq.trans Tryz.func298 (congrArg some (by kernel_rfl)), t0 := Tryz.underlying0, a0 := Tryz.isAgg0, z0 := Tryz.sizeOf0, v0 := Tryz.zeroValue0, t3 := Tryz.underlying3, a3 := Tryz.isAgg3, z3 := Tryz.sizeOf3, v3 := Tryz.zeroValue3, t4 := Tryz.underlying4, a4 := Tryz.isAgg4, z4 := Tryz.sizeOf4, v4 := Tryz.zeroValue4, t22 := Tryz.underlying22, a22 := Tryz.isAgg22, z22 := Tryz.sizeOf22, v22 := Tryz.zeroValue22, i3 := by kernel_rfl }
end Go.Proofs.YtonkkkjgdohooaaGreat

namespace Go.Proofs.YtonkkkjgdohooaaGreat
open Go.RowKit Go.Sort Go.Shelf
set_option linter.unusedVariables false
theorem holds_ints {w : World} {g : Nat} {xs : List Int} {cur : Array Value} (h : w.heap[g]? = some (.cells cur tI (0, 0))) (ht : cur.toList.take xs.length = ints xs) : Holds (Value.int .i64) w g 0 xs.toArray := by
  intro j hj
  have hj' : j < xs.length := by simpa using hj
  constructor
  · have : (cur.toList.take xs.length)[j]? = some (.int .i64 xs[j]) := by rw [ht]; simp [ints, hj']
    rw [List.getElem?_take, if_pos hj'] at this
    simp [World.cell?, h, hj']
    simpa using this
  · simp [World.frozen?, h]
theorem put_world {w : World} {g n : Nat} {cur : Array Value} {d : Array Int} {os : Array Obj} (h : w.heap[g]? = some (.cells cur tI (0, 0))) (hd : d.size ≤ cur.size) :
    ∃ cur' : Array Value, (grow (putRow (Value.int .i64) (Sort.ahead w n) g 0 d) os).heap[g]? = some (.cells cur' tI (0, 0)) ∧ cur'.size = cur.size ∧ cur'.toList.take d.size = ints d.toList ∧ ∀ L, Step w (g :: L) (grow (putRow (Value.int .i64) (Sort.ahead w n) g 0 d) os) (g :: L) := by
  have hlt : g < w.heap.size := (Array.getElem?_eq_some_iff.1 h).1
  refine ⟨putCells (Value.int .i64) 0 d cur, ?_, by simp [putCells], ?_, fun L => ⟨rfl, rfl, rfl, ?_, fun b hb hn => ?_, fun b hb => .inl hb⟩⟩
  · simp only [grow, putRow, mapBlock, Sort.ahead]
    rw [Array.getElem?_append_left (by simpa using hlt), Array.getElem?_modify, if_pos rfl, h]
    rfl
  · apply List.ext_getElem?
    intro j
    rw [List.getElem?_take]
    by_cases hj : j < d.size
    · rw [if_pos hj]
      have hj2 : j < cur.size := by omega
      simp [putCells, hj, hj2, ints]
    · rw [if_neg hj]
      simp [ints, hj]
  · simp only [grow, putRow, mapBlock, Array.size_append, Array.size_modify]
    have : (Sort.ahead w n).heap.size = w.heap.size := rfl
    omega
  · have hne : g ≠ b := fun e => hn (by simp [e])
    simp only [grow, putRow, mapBlock, Sort.ahead]
    rw [Array.getElem?_append_left (by simpa using hb), Array.getElem?_modify, if_neg hne]
theorem tr_sort {a_x : Option Addr} {m_x c_x : Nat} {x : List Int} (hz : x.length < 4611686018427387904) : Tr Tryz.prog 297 [.slice a_x m_x c_x] (fun w L => True) [ow eIs [.slice a_x m_x c_x] x] (κ := Unit) (fun k => True) (fun k => .tuple #[]) (fun k => [ow eIs [.slice a_x m_x c_x] (x.mergeSort fun x y => decide (x ≤ y))]) := by
  refine ⟨⟨_, sortL.f189, rfl, by decide +kernel⟩, fun w L _ hs hn => ?_⟩
  obtain ⟨L1, L2, rfl, ho, hL2⟩ := hs
  rw [Sep] at hL2; subst hL2
  obtain ⟨ccs, M1, M2, rfl, g1, g2, g3, g4⟩ := ow_sl ho
  obtain ⟨rfl, hi, rfl⟩ := Elems.ints.1 g3
  subst g1
  obtain ⟨hlen, ⟨rfl, h0, rfl⟩ | ⟨g, cur, rfl, hg, hmc, hcm, hcs, ht, rfl⟩⟩ := id g4
  · have hx : x = [] := List.eq_nil_of_length_eq_zero h0
    subst hx
    refine (Any.slices_Sort_int_none sortL a_x 0 w).mono ?_
    rintro e w' ⟨rfl, rfl⟩
    refine ⟨(), trivial, rfl, [], ⟨[], [], rfl, ⟨a_x, 0, 0, [], [], [], rfl, by simp, Nat.zero_le _, rfl, by simp [Elems], g4⟩, rfl⟩, by simp, Step.refl _ _⟩
  · have hm1 : x.length * Enc.int.k = x.length := Nat.mul_one _
    have hc1 : c_x * Enc.int.k = c_x := Nat.mul_one _
    rw [hm1] at ht
    have hblk := (Array.getElem?_eq_some_iff.1 hg).1
    refine (Any.slices_Sort_int sortL g 0 c_x x w (holds_ints hg ht) hblk hz).mono ?_
    rintro e w' ⟨rfl, n, os, rfl⟩
    have hperm := List.mergeSort_perm x fun x y => decide (x ≤ y)
    have hl : (x.mergeSort fun x y => decide (x ≤ y)).length = x.length := hperm.length_eq
    obtain ⟨cur', k1, k2, k3, k4⟩ := put_world (n := n) (d := (x.mergeSort fun x y => decide (x ≤ y)).toArray) (os := os) hg (by simp [hl]; rw [hc1] at hcs; omega)
    refine ⟨(), trivial, rfl, [g], ⟨[g], [], rfl, ⟨_, x.length, c_x, ints (x.mergeSort fun x y => decide (x ≤ y)), [g], [], rfl, hl.symm, g2, rfl, Elems.ints.2 ⟨rfl, fun y hy => hi y (hperm.mem_iff.1 hy), rfl⟩, ?_⟩, rfl⟩, by simp, k4 []⟩
    refine ⟨by simp [ints, hl]; exact hm1.symm, .inr ⟨g, cur', rfl, k1, hmc, hcm, by rw [k2, hcs], ?_, rfl⟩⟩
    rw [hm1, ← hl]
    simpa using k3
theorem tr_compact {a_s : Option Addr} {m_s c_s : Nat} {s : List Int} : Tr Tryz.prog 298 [.slice a_s m_s c_s] (fun w L => True) [ow eIs [.slice a_s m_s c_s] s] (κ := Option Addr × Nat × Nat) (fun k => True) (fun k => .slice k.1 k.2.1 k.2.2) (fun k => [ow eIs [.slice k.1 k.2.1 k.2.2] (Lib.compact s)]) := by
  refine ⟨⟨_, compL.f20, rfl, by decide +kernel⟩, fun w L _ hs hn => ?_⟩
  obtain ⟨L1, L2, rfl, ho, hL2⟩ := hs
  rw [Sep] at hL2; subst hL2
  obtain ⟨ccs, M1, M2, rfl, g1, g2, g3, g4⟩ := ow_sl ho
  obtain ⟨rfl, hi, rfl⟩ := Elems.ints.1 g3
  subst g1
  obtain ⟨hlen, ⟨rfl, h0, rfl⟩ | ⟨g, cur, rfl, hg, hmc, hcm, hcs, ht, rfl⟩⟩ := id g4
  · have hx : s = [] := List.eq_nil_of_length_eq_zero h0
    subst hx
    refine (Any.slices_Compact_int_empty compL a_s 0 w).mono ?_
    rintro e w' ⟨rfl, rfl⟩
    refine ⟨(a_s, 0, 0), trivial, rfl, [], ⟨[], [], rfl, ⟨a_s, 0, 0, [], [], [], rfl, rfl, Nat.zero_le _, rfl, ⟨rfl, rfl⟩, g4⟩, rfl⟩, by simp, Step.refl _ _⟩
  · have hm1 : s.length * Enc.int.k = s.length := Nat.mul_one _
    have hc1 : c_s * Enc.int.k = c_s := Nat.mul_one _
    rw [hm1] at ht
    have hblk := (Array.getElem?_eq_some_iff.1 hg).1
    have hcl : (Lib.compact s).length ≤ s.length := by
      have := List.length_filter_le (Lib.keeps s.toArray) (List.range s.length)
      simpa [Lib.compact, Lib.compactUpTo] using this
    have hcm' : ∀ y ∈ Lib.compact s, y ∈ s := by
      intro y hy
      simp only [Lib.compact, Lib.compactUpTo, List.mem_map, List.mem_filter, List.mem_range] at hy
      obtain ⟨i, ⟨hi, _⟩, rfl⟩ := hy
      simp [hi]
    refine (Any.slices_Compact_int compL g 0 c_s s w (holds_ints hg ht) g2 hmc).mono ?_
    rintro e w' ⟨rfl, n, rfl⟩
    obtain ⟨cur', k1, k2, k3, k4⟩ := put_world (n := n) (d := (Lib.compact s ++ List.replicate (s.length - (Lib.compact s).length) 0).toArray) (os := #[]) hg (by simp; rw [hc1] at hcs; omega)
    rw [grow_empty] at k1 k4
    refine ⟨(some ⟨g, 0, none⟩, (Lib.compact s).length, c_s), trivial, rfl, [g], ⟨[g], [], rfl, ⟨_, (Lib.compact s).length, c_s, ints (Lib.compact s), [g], [], rfl, rfl, Nat.le_trans hcl g2, rfl, Elems.ints.2 ⟨rfl, fun y hy => hi y (hcm' y hy), rfl⟩, ?_⟩, rfl⟩, by simp, k4 []⟩
    refine ⟨by simp [ints]; exact (Nat.mul_one _).symm, .inr ⟨g, cur', rfl, k1, Nat.le_trans hcl hmc, hcm, by rw [k2, hcs], ?_, rfl⟩⟩
    rw [show (Lib.compact s).length * Enc.int.k = (Lib.compact s).length from Nat.mul_one _]
    have k3' := congrArg (List.take (Lib.compact s).length) k3
    rw [List.take_take, Nat.min_eq_left (by simp)] at k3'
    rw [k3']
    simp [ints]
end Go.Proofs.YtonkkkjgdohooaaGreat
