/- strings.Split, strings.TrimPrefix and strconv.Atoi, from the shelf. -/
import Derived.Test.YtmogfmnamhhbnaaDoorGm
import Derived.Test.YtmogfmnamhhbnaaDoorGn
import Derived.Test.YtmogfmnamhhbnaaDoorEl
import Derived.Test.YtmogfmnamhhbnaaDoorGk
import Derived.Shelf.Strings.Split
import Derived.Shelf.Strings.Prefix
import Derived.Shelf.Strconv.ErrVarAll
namespace Go.Proofs.YtmogfmnamhhbnaaDoor
open Go.RowKit Go.Shelf
set_option linter.unusedVariables false
set_option linter.unusedSimpArgs false
abbrev gMax : Nat := 0
abbrev gES : Nat := 1
abbrev gER : Nat := 2
abbrev tNE : TypeId := 69
theorem gESIs : Tryd.prog.globalNamed "strconv.ErrSyntax" = some gES := by kernel_rfl
theorem gERIs : Tryd.prog.globalNamed "strconv.ErrRange" = some gER := by kernel_rfl
theorem ne_ty : Tryd.prog.underlying 50 = some (.interface (Tryd.prog.methodsAt 50)) := by kernel_rfl
section
variable {w : World} {L : List Nat} {b : Nat} {v : Value}
theorem RoPt.cell (h : RoPt w L b [v]) : w.cell? ⟨b, 0, none⟩ = some v := by
  obtain ⟨T, fz, g⟩ := h.at'
  simp [World.cell?, g]
theorem RoPt.var {nm : String} (h : RoPt w L b [v]) (hg : Tryd.prog.globalNamed nm = some b) : w.var? Tryd.prog nm = some #[v] := by
  obtain ⟨T, fz, g⟩ := h.at'
  unfold World.var?
  rw [hg, Option.bind_some, g]
theorem roVar {nm : String} (hg : Tryd.prog.globalNamed nm = some b) (h : w.var? Tryd.prog nm = some #[v]) : RoPt w [] b [v] := by
  unfold World.var? at h
  rw [hg, Option.bind_some] at h
  split at h
  · rename_i cs T fz hq
    have := Option.some.inj h
    subst this
    exact ⟨⟨T, fz, hq⟩, by simp⟩
  · cases h
end
theorem tr_trim {s p : Str} : Tr Tryd.prog 19 [strV s, strV p] (fun w L => True) [] (κ := Unit) (fun _ => True) (fun _ => strV (Lib.trimPrefix s p)) (fun _ => []) := by
  refine Tr.ofExt ⟨_, trimL.f101, rfl, by decide +kernel⟩ fun w L h => ?_
  refine (Any.strings_TrimPrefix trimL ⟨s.toArray⟩ ⟨p.toArray⟩ w).mono ?_
  rintro e w' ⟨rfl, rfl⟩
  exact ⟨rfl, Below.refl _ _⟩
theorem split_data {s : Str} {b : UInt8} : (Lib.splitB ⟨#[b]⟩ 0 (Lib.countB ⟨s.toArray⟩ ⟨#[b]⟩) ⟨s.toArray⟩).map Value.string = (cut b s).map strV := by
  have h1 := Lib.splitB_data ⟨#[b]⟩ 0 (Lib.countB ⟨s.toArray⟩ ⟨#[b]⟩) ⟨s.toArray⟩
  have h2 : Lib.splitK [b] 0 (Lib.count s [b]) s = cut b s := split_cut s.length s (Nat.le_refl _)
  have h3 : (Lib.splitB ⟨#[b]⟩ 0 (Lib.countB ⟨s.toArray⟩ ⟨#[b]⟩) ⟨s.toArray⟩).map (·.data.toList) = cut b s := by
    rw [h1]; exact h2
  rw [← h3, List.map_map]
  refine List.map_congr_left fun x _ => ?_
  show Value.string x = Value.string ⟨x.data.toList.toArray⟩
  rw [Array.toArray_toList]
theorem tr_split {s : Str} {b : UInt8} {mx : Int} (hs : s.length ≤ 2000000) : Tr Tryd.prog 17 [strV s, strV [b]] (fun w L => RoPt w L gMax [.int .i64 mx]) [] (κ := Option Addr × Nat × Nat) (fun k => True) (fun k => .slice k.1 k.2.1 k.2.2) (fun k => [ow eSs [.slice k.1 k.2.1 k.2.2] (cut b s)]) := by
  refine ⟨⟨_, splitL.f146, rfl, by decide +kernel⟩, fun w L h hs' hn => ?_⟩
  rw [Sep] at hs'; subst hs'
  have c := Any.strings_Split splitL (by kernel_rfl) ⟨s.toArray⟩ ⟨#[b]⟩ mx w (by simp [ByteArray.size]; omega) h.cell (Nat.le_refl _)
  rw [split_data] at c
  have hl : Lib.countB ⟨s.toArray⟩ ⟨#[b]⟩ + 1 = (cut b s).length := by
    have h4 := Lib.splitB_all ⟨#[b]⟩ (Nat.le_refl _) 0 _ ⟨s.toArray⟩ rfl
    have h5 := congrArg List.length (split_data (s := s) (b := b))
    rw [List.length_map, List.length_map] at h5
    omega
  rw [hl] at c
  have hcl := cut_len (b := b) (s := s)
  have hm : (cut b s).length ≤ maxLen := by unfold maxLen; omega
  refine c.mono ?_
  rintro e w' ⟨rfl, rfl⟩
  have hnew : (w.alloc (.cells ((cut b s).map strV).toArray tS)).heap[w.heap.size]? = some (.cells ((cut b s).map strV).toArray tS (0, 0)) := by
    show (w.heap.push _)[w.heap.size]? = _
    simp
  refine ⟨(some ⟨w.heap.size, 0, none⟩, (cut b s).length, (cut b s).length), trivial, rfl, [w.heap.size], ⟨[w.heap.size], [], rfl, ?_, rfl⟩, by simp, ?_⟩
  · refine ⟨_, _, _, (cut b s).map strV, [w.heap.size], [], rfl, rfl, hm, rfl, Elems.strs', ?_⟩
    show (row _ _ _ _ _ _).holds _ _
    exact ⟨by simp [Enc.str], .inr ⟨w.heap.size, ((cut b s).map strV).toArray, rfl, hnew, Nat.le_refl _, hm, by simp [Enc.str], by simp only [Enc.str, Nat.mul_one]; exact List.take_of_length_le (by simp), rfl⟩⟩
  · exact ⟨rfl, rfl, rfl, by simp, fun k hk _ => Below.heap_alloc w _ k hk, fun k hk => .inr (by simp at hk; omega)⟩
/-! ### strconv.Atoi -/
def okA (s : Str) : Bool := match Lib.atoiAll s with | .ok _ => true | _ => false
def atV (s : Str) : Int := match Lib.atoiAll s with | .ok n => n | .range => Lib.atoiSat s | _ => 0
theorem atV_I64 {s : Str} : I64 (atV s) := by
  unfold atV I64
  split
  · rename_i n h; exact Lib.atoiAll_bounds h
  · exact Lib.atoiSat_bounds s
  · omega
theorem okA_yes {s : Str} (h : okA s = true) : Lib.atoiAll s = .ok (atV s) := by
  unfold okA at h; unfold atV
  split at h
  · rename_i n e; rw [e]
  · cases h
theorem okA_no {s : Str} (h : okA s = false) : pI s = none := pI_not fun n e => by
  unfold okA at h; rw [e] at h; cases h
theorem Tr.ofNew {P : Program} {f : FuncId} {args : List Value} {R : World → List Nat → Prop} {v : Nat → Value} (he : Enterable P f) (h : ∀ w L, R w L → Calls P f args.toArray w fun e w' => ∃ k, e = .returned (v k) ∧ Below w.heap.size w w') :
    Tr P f args R [] (κ := Nat) (fun _ => True) (fun k => v k) (fun _ => []) := by
  refine ⟨he, fun w L hR hs hn => ?_⟩
  rw [Sep] at hs; subst hs
  refine (h w [] hR).mono ?_
  rintro e w' ⟨k, rfl, hb⟩
  exact ⟨k, trivial, rfl, [], rfl, List.nodup_nil, hb.os, hb.tape, hb.output, hb.size, fun b hb' _ => hb.block b hb', by simp⟩
theorem tr_atoi {s : Str} {ts tr : TypeId} {ps pr : Value} (hs : s.length ≤ 2000000) : Tr Tryd.prog 30 [strV s] (fun w L => RoPt w L gES [.iface ts ps] ∧ RoPt w L gER [.iface tr pr]) [] (κ := Nat) (fun _ => True) (fun k => .tuple #[.int .i64 (atV s), errV tNE (okA s) k]) (fun _ => []) := by
  refine Tr.ofNew ⟨_, atoiL.f172, rfl, by decide +kernel⟩ fun w L h => ?_
  have hz : (⟨s.toArray⟩ : ByteArray).size ≤ 2000000 := by simpa [ByteArray.size] using hs
  have hd : (⟨s.toArray⟩ : ByteArray).data.toList = s := by simp
  cases e : Lib.atoiAll s
  · rename_i n
    refine (Any.strconv_Atoi_ok atoiL ⟨s.toArray⟩ (by omega) n e w).mono ?_
    rintro e' w' ⟨rfl, h1⟩
    refine ⟨0, by simp [atV, okA, e, errV], ?_⟩
    rcases h1 with rfl | ⟨t, rfl⟩
    · exact Below.refl _ _
    · exact Lib.bytesWorld_below w _ t
  · refine (Any.strconv_Atoi_syntax_var atoiL ⟨s.toArray⟩ (by omega) e ts ps w (h.1.var gESIs)).mono ?_
    rintro e' w' ⟨N, rfl, h1, h2, h3⟩
    exact ⟨N, by simp [atV, okA, e, errV]; rfl, h3⟩
  · refine (Any.strconv_Atoi_range_var atoiL ⟨s.toArray⟩ (by omega) e tr pr w (h.2.var gERIs)).mono ?_
    rintro e' w' ⟨N, rfl, h1, h2, h3⟩
    exact ⟨N, by simp [atV, okA, e, errV]; rfl, h3⟩
end Go.Proofs.YtmogfmnamhhbnaaDoor
