/- Where the library's functions lie in this translation: sort and compact at lists of numbers. Made by program. -/
import Derived.Test.YtlbfbeldhkcdiaaDoorChecked
import Derived.Shelf.Lays
import Derived.Shelf.Lays2
import Derived.KernelRfl
import Derived.Test.YtlbfbeldhkcdiaaDoorBd
import Derived.Shelf.Sort.Plain
import Derived.Shelf.Slices.CompactI
import Derived.Shelf.Slices.In.SortNone
namespace Go.Proofs.YtlbfbeldhkcdiaaDoor
open Go.Shelf
def sortL_ren : Ren := ⟨fun | 189 => 109 | 125 => 117 | 257 => 116 | 128 => 129 | 129 => 112 | 294 => 120 | 295 => 121 | 296 => 122 | 297 => 123 | 298 => 124 | 299 => 125 | 216 => 126 | 300 => 127 | 301 => 128 | 328 => 130 | 329 => 131 | 330 => 132 | 331 => 133 | 332 => 134 | 215 => 135 | 343 => 136 | n => n, fun | 28 => 22 | 3 => 3 | 46 => 149 | 0 => 0 | 51 => 147 | 53 => 138 | 4 => 4 | 183 => 155 | 182 => 154 | 131 => 160 | 5 => 5 | 9 => 9 | 218 => 164 | 222 => 168 | 228 => 170 | 229 => 171 | n => n, fun n => n⟩
theorem sortL : Lays.n189 Tryd.prog sortL_ren := { mixed := by kernel_rfl, f125 := Eq.trans Tryd.func117 (congrArg some (by kernel_rfl)), f128 := Eq.trans Tryd.func129 (congrArg some (by kernel_rfl)), f129 := Eq.trans Tryd.func112 (congrArg some (by kernel_rfl)), f189 := Eq.trans Tryd.func109 (congrArg some (by kernel_rfl)), f215 := Eq.trans Tryd.func135 (congrArg some (by kernel_rfl)), f216 := Eq.trans Tryd.func126 (congrArg some (by kernel_rfl)), f257 := Eq.trans Tryd.func116 (congrArg some (by kernel_rfl)), f294 := Eq.trans Tryd.func120 (congrArg some (by kernel_rfl)), f295 := Eq.trans Tryd.func121 (congrArg some (by kernel_rfl)), f296 := Eq.trans Tryd.func122 (congrArg some (by kernel_rfl)), f297 := Eq.trans Tryd.func123 (congrArg some (by kernel_rfl)), f298 := Eq.trans Tryd.func124 (congrArg some (by kernel_rfl)), f299 := Eq.trans Tryd.func125 (congrArg some (by kernel_rfl)), f300 := Eq.trans Tryd.func127 (congrArg some (by kernel_rfl)), f301 := Eq.trans Tryd.func128 (congrArg some (by kernel_rfl)), f328 := Eq.trans Tryd.func130 (congrArg some (by kernel_rfl)), f329 := Eq.trans Tryd.func131 (congrArg some (by kernel_rfl)), f330 := Eq.trans Tryd.func132 (congrArg some (by kernel_rfl)), f331 := Eq.trans Tryd.func133 (congrArg some (by kernel_rfl)), f332 := Eq.trans Tryd.func134 (congrArg some (by kernel_rfl)), f343 := Eq.trans Tryd.func136 (congrArg some (by kernel_rfl)), t0 := Tryd.underlying0, a0 := Tryd.isAgg0, z0 := Tryd.sizeOf0, v0 := Tryd.zeroValue0, t3 := Tryd.underlying3, a3 := Tryd.isAgg3, z3 := Tryd.sizeOf3, v3 := Tryd.zeroValue3, t4 := Tryd.underlying4, a4 := Tryd.isAgg4, z4 := Tryd.sizeOf4, v4 := Tryd.zeroValue4, t5 := Tryd.underlying5, a5 := Tryd.isAgg5, z5 := Tryd.sizeOf5, v5 := Tryd.zeroValue5, t9 := Tryd.underlying9, a9 := Tryd.isAgg9, z9 := Tryd.sizeOf9, v9 := Tryd.zeroValue9, t28 := Tryd.underlying22, a28 := Tryd.isAgg22, z28 := Tryd.sizeOf22, v28 := Tryd.zeroValue22, t46 := Tryd.underlying149, a46 := Tryd.isAgg149, z46 := Tryd.sizeOf149, v46 := Tryd.zeroValue149, t51 := Tryd.underlying147, a51 := Tryd.isAgg147, z51 := Tryd.sizeOf147, v51 := Tryd.zeroValue147, t53 := Tryd.underlying138, a53 := Tryd.isAgg138, z53 := Tryd.sizeOf138, v53 := Tryd.zeroValue138, t131 := Tryd.underlying160, a131 := Tryd.isAgg160, z131 := Tryd.sizeOf160, v131 := Tryd.zeroValue160, t182 := Tryd.underlying154, a182 := Tryd.isAgg154, z182 := Tryd.sizeOf154, v182 := Tryd.zeroValue154, t183 := Tryd.underlying155, a183 := Tryd.isAgg155, z183 := Tryd.sizeOf155, v183 := Tryd.zeroValue155, t218 := Tryd.underlying164, a218 := Tryd.isAgg164, z218 := Tryd.sizeOf164, v218 := Tryd.zeroValue164, t222 := Tryd.underlying168, a222 := Tryd.isAgg168, z222 := Tryd.sizeOf168, v222 := Tryd.zeroValue168, t228 := Tryd.underlying170, a228 := Tryd.isAgg170, z228 := Tryd.sizeOf170, v228 := Tryd.zeroValue170, t229 := Tryd.underlying171, a229 := Tryd.isAgg171, z229 := Tryd.sizeOf171, v229 := Tryd.zeroValue171 }
def compL_ren : Ren := ⟨fun | 20 => 110 | n => n, fun | 22 => 22 | 3 => 3 | 4 => 4 | 0 => 0 | n => n, fun n => n⟩
theorem compL : Lays2.n20 Tryd.prog compL_ren := { mixed := by kernel_rfl, f20 := Eq.trans Tryd.func110 (congrArg some (by kernel_rfl)), t0 := Tryd.underlying0, a0 := Tryd.isAgg0, z0 := Tryd.sizeOf0, v0 := Tryd.zeroValue0, t3 := Tryd.underlying3, a3 := Tryd.isAgg3, z3 := Tryd.sizeOf3, v3 := Tryd.zeroValue3, t4 := Tryd.underlying4, a4 := Tryd.isAgg4, z4 := Tryd.sizeOf4, v4 := Tryd.zeroValue4, t22 := Tryd.underlying22, a22 := Tryd.isAgg22, z22 := Tryd.sizeOf22, v22 := Tryd.zeroValue22, i3 := by kernel_rfl }
end Go.Proofs.YtlbfbeldhkcdiaaDoor

namespace Go.Proofs.YtlbfbeldhkcdiaaDoor
open Go.RowKit Go.Sort Go.Shelf
set_option linter.unusedVariables false
theorem holds_ints {w : World} {g : Nat} {xs : List Int} {cur : Array Value} (h : w.heap[g]? = some (.cells cur tI (0, 0))) (ht : cur.toList.take xs.length = ints xs) : Holds (Value.int .i64) w g 0 xs.toArray := by
  intro j hj
  have hj' : j < xs.length := by simpa using hj
  constructor
  · have : (cur.toList.take xs.length)[j]? = some (.int .i64 xs[j]) := by rw [ht]; simp [ints, hj']
    rw [List.getElem?_take, if_pos hj'] at this
    simp [World.cell?, h, hj']
    simpa using this
  · simp [World.frozen?, h]
theorem put_world {w : World} {g n : Nat} {cur : Array Value} {d : Array Int} {os : Array Obj} (h : w.heap[g]? = some (.cells cur tI (0, 0))) (hd : d.size ≤ cur.size) :
    ∃ cur' : Array Value, (grow (putRow (Value.int .i64) (Sort.ahead w n) g 0 d) os).heap[g]? = some (.cells cur' tI (0, 0)) ∧ cur'.size = cur.size ∧ cur'.toList.take d.size = ints d.toList ∧ ∀ L, Step w (g :: L) (grow (putRow (Value.int .i64) (Sort.ahead w n) g 0 d) os) (g :: L) := by
  have hlt : g < w.heap.size := (Array.getElem?_eq_some_iff.1 h).1
  refine ⟨putCells (Value.int .i64) 0 d cur, ?_, by simp [putCells], ?_, fun L => ⟨rfl, rfl, rfl, ?_, fun b hb hn => ?_, fun b hb => .inl hb⟩⟩
  · simp only [grow, putRow, mapBlock, Sort.ahead]
    rw [Array.getElem?_append_left (by simpa using hlt), Array.getElem?_modify, if_pos rfl, h]
    rfl
  · apply List.ext_getElem?
    intro j
    rw [List.getElem?_take]
    by_cases hj : j < d.size
    · rw [if_pos hj]
      have hj2 : j < cur.size := by omega
      simp [putCells, hj, hj2, ints]
    · rw [if_neg hj]
      simp [ints, hj]
  · simp only [grow, putRow, mapBlock, Array.size_append, Array.size_modify]
    have : (Sort.ahead w n).heap.size = w.heap.size := rfl
    omega
  · have hne : g ≠ b := fun e => hn (by simp [e])
    simp only [grow, putRow, mapBlock, Sort.ahead]
    rw [Array.getElem?_append_left (by simpa using hb), Array.getElem?_modify, if_neg hne]
theorem tr_sort {a_x : Option Addr} {m_x c_x : Nat} {x : List Int} (hz : x.length < 4611686018427387904) : Tr Tryd.prog 109 [.slice a_x m_x c_x] (fun w L => True) [ow eIs [.slice a_x m_x c_x] x] (κ := Unit) (fun k => True) (fun k => .tuple #[]) (fun k => [ow eIs [.slice a_x m_x c_x] (x.mergeSort fun x y => decide (x ≤ y))]) := by
  refine ⟨⟨_, sortL.f189, rfl, by decide +kernel⟩, fun w L _ hs hn => ?_⟩
  obtain ⟨L1, L2, rfl, ho, hL2⟩ := hs
  rw [Sep] at hL2; subst hL2
  obtain ⟨ccs, M1, M2, rfl, g1, g2, g3, g4⟩ := ow_sl ho
  obtain ⟨rfl, hi, rfl⟩ := Elems.ints.1 g3
  subst g1
  obtain ⟨hlen, ⟨rfl, h0, rfl⟩ | ⟨g, cur, rfl, hg, hmc, hcm, hcs, ht, rfl⟩⟩ := id g4
  · have hx : x = [] := List.eq_nil_of_length_eq_zero h0
    subst hx
    refine (Any.slices_Sort_int_none sortL a_x 0 w).mono ?_
    rintro e w' ⟨rfl, rfl⟩
    refine ⟨(), trivial, rfl, [], ⟨[], [], rfl, ⟨a_x, 0, 0, [], [], [], rfl, by simp, Nat.zero_le _, rfl, by simp [Elems], g4⟩, rfl⟩, by simp, Step.refl _ _⟩
  · have hm1 : x.length * Enc.int.k = x.length := Nat.mul_one _
    have hc1 : c_x * Enc.int.k = c_x := Nat.mul_one _
    rw [hm1] at ht
    have hblk := (Array.getElem?_eq_some_iff.1 hg).1
    refine (Any.slices_Sort_int sortL g 0 c_x x w (holds_ints hg ht) hblk hz).mono ?_
    rintro e w' ⟨rfl, n, os, rfl⟩
    have hperm := List.mergeSort_perm x fun x y => decide (x ≤ y)
    have hl : (x.mergeSort fun x y => decide (x ≤ y)).length = x.length := hperm.length_eq
    obtain ⟨cur', k1, k2, k3, k4⟩ := put_world (n := n) (d := (x.mergeSort fun x y => decide (x ≤ y)).toArray) (os := os) hg (by simp [hl]; rw [hc1] at hcs; omega)
    refine ⟨(), trivial, rfl, [g], ⟨[g], [], rfl, ⟨_, x.length, c_x, ints (x.mergeSort fun x y => decide (x ≤ y)), [g], [], rfl, hl.symm, g2, rfl, Elems.ints.2 ⟨rfl, fun y hy => hi y (hperm.mem_iff.1 hy), rfl⟩, ?_⟩, rfl⟩, by simp, k4 []⟩
    refine ⟨by simp [ints, hl]; exact hm1.symm, .inr ⟨g, cur', rfl, k1, hmc, hcm, by rw [k2, hcs], ?_, rfl⟩⟩
    rw [hm1, ← hl]
    simpa using k3
theorem tr_compact {a_s : Option Addr} {m_s c_s : Nat} {s : List Int} : Tr Tryd.prog 110 [.slice a_s m_s c_s] (fun w L => True) [ow eIs [.slice a_s m_s c_s] s] (κ := Option Addr × Nat × Nat) (fun k => True) (fun k => .slice k.1 k.2.1 k.2.2) (fun k => [ow eIs [.slice k.1 k.2.1 k.2.2] (Lib.compact s)]) := by
  refine ⟨⟨_, compL.f20, rfl, by decide +kernel⟩, fun w L _ hs hn => ?_⟩
  obtain ⟨L1, L2, rfl, ho, hL2⟩ := hs
  rw [Sep] at hL2; subst hL2
  obtain ⟨ccs, M1, M2, rfl, g1, g2, g3, g4⟩ := ow_sl ho
  obtain ⟨rfl, hi, rfl⟩ := Elems.ints.1 g3
  subst g1
  obtain ⟨hlen, ⟨rfl, h0, rfl⟩ | ⟨g, cur, rfl, hg, hmc, hcm, hcs, ht, rfl⟩⟩ := id g4
  · have hx : s = [] := List.eq_nil_of_length_eq_zero h0
    subst hx
    refine (Any.slices_Compact_int_empty compL a_s 0 w).mono ?_
    rintro e w' ⟨rfl, rfl⟩
    refine ⟨(a_s, 0, 0), trivial, rfl, [], ⟨[], [], rfl, ⟨a_s, 0, 0, [], [], [], rfl, rfl, Nat.zero_le _, rfl, ⟨rfl, rfl⟩, g4⟩, rfl⟩, by simp, Step.refl _ _⟩
  · have hm1 : s.length * Enc.int.k = s.length := Nat.mul_one _
    have hc1 : c_s * Enc.int.k = c_s := Nat.mul_one _
    rw [hm1] at ht
    have hblk := (Array.getElem?_eq_some_iff.1 hg).1
    have hcl : (Lib.compact s).length ≤ s.length := by
      have := List.length_filter_le (Lib.keeps s.toArray) (List.range s.length)
      simpa [Lib.compact, Lib.compactUpTo] using this
    have hcm' : ∀ y ∈ Lib.compact s, y ∈ s := by
      intro y hy
      simp only [Lib.compact, Lib.compactUpTo, List.mem_map, List.mem_filter, List.mem_range] at hy
      obtain ⟨i, ⟨hi, _⟩, rfl⟩ := hy
      simp [hi]
    refine (Any.slices_Compact_int compL g 0 c_s s w (holds_ints hg ht) g2 hmc).mono ?_
    rintro e w' ⟨rfl, n, rfl⟩
    obtain ⟨cur', k1, k2, k3, k4⟩ := put_world (n := n) (d := (Lib.compact s ++ List.replicate (s.length - (Lib.compact s).length) 0).toArray) (os := #[]) hg (by simp; rw [hc1] at hcs; omega)
    rw [grow_empty] at k1 k4
    refine ⟨(some ⟨g, 0, none⟩, (Lib.compact s).length, c_s), trivial, rfl, [g], ⟨[g], [], rfl, ⟨_, (Lib.compact s).length, c_s, ints (Lib.compact s), [g], [], rfl, rfl, Nat.le_trans hcl g2, rfl, Elems.ints.2 ⟨rfl, fun y hy => hi y (hcm' y hy), rfl⟩, ?_⟩, rfl⟩, by simp, k4 []⟩
    refine ⟨by simp [ints]; exact (Nat.mul_one _).symm, .inr ⟨g, cur', rfl, k1, Nat.le_trans hcl hmc, hcm, by rw [k2, hcs], ?_, rfl⟩⟩
    rw [show (Lib.compact s).length * Enc.int.k = (Lib.compact s).length from Nat.mul_one _]
    have k3' := congrArg (List.take (Lib.compact s).length) k3
    rw [List.take_take, Nat.min_eq_left (by simp)] at k3'
    rw [k3']
    simp [ints]
end Go.Proofs.YtlbfbeldhkcdiaaDoor
